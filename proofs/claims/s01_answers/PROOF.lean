import PyProof.Rows.All
import Wide.All
import OpenK.AllK
import Wide.FinOn
import PyProof.EqAt
import PyProof.EqKinds
import PyProof.TupleCall
import Open.SpecLaws
import KE.OsGo
import KE.KLam
import KE.SortKeyHeap
import HandS.ForSpec
import HandS.Comp
import HandS.Dict
import HandS.Iter
import HandS.Text
import HandS.More
import HandS.Codes
import HandS.Small
import HandS.TryMany
import HandS.ExcCtx
import HandS.Hot
import HandS.HotCalls
import HandS.RaiseOp
import HandS.SuiteRaise
import HandS.RaiseFrom
import HandS.ExcField
import HandS.ExcSuper
import HandS.IsInst
import HandS.Deep
import HandS.ListEq
import HandS.Zip
import HandS.SortKw
import HandS.Flow
import HandS.Lambda
import HandS.Walk
import KE.Datum
import KE.GoesRaise
import PyProof.WalkInts
import PySem.Challenge.RW_raisedcells_s01_answers
import PySd50
import KE.KIntText
import KE.KxField
import HandS.EndTab
import HandS.Spec
set_option linter.all false
/-! # Plain facts of tables and texts: no program in sight. Part A: places in a text, the longest, writing -/
namespace RC
open Sd50 (Table Rule Sign)

/-- the byte ahead of a place -/
def prevAt (x : List Nat) (i : Nat) : Option Nat := if i = 0 then none else x[i - 1]?
structure GoodRule (r : Rule) : Prop where
  place : r.place < 5
  ne : r.text ≠ []
  len : r.text.length ≤ 16
  cne : r.cells ≠ []
  clen : r.cells.length ≤ 4
structure Good (T : Table) : Prop where
  nr : T.rules.length ≤ 64
  ns : T.signs.length ≤ 4
  rule : ∀ r ∈ T.rules, GoodRule r
  sign : ∀ s ∈ T.signs, s.cells.length ≤ 4
theorem Good.at {T : Table} (G : Good T) {k : Nat} {r : Rule} (h : T.rules[k]? = some r) : GoodRule r := G.rule r (List.mem_of_getElem? h)
theorem Good.lt {T : Table} (G : Good T) {k : Nat} {r : Rule} (h : T.rules[k]? = some r) : k < 64 := by
  have := (List.getElem?_eq_some_iff.mp h).1
  have := G.nr
  omega
theorem GoodRule.pos {r : Rule} (g : GoodRule r) : 0 < r.text.length := List.length_pos_iff.mpr g.ne
theorem GoodRule.cpos {r : Rule} (g : GoodRule r) : 0 < r.cells.length := List.length_pos_iff.mpr g.cne

/-! ### letters -/
def letterAt (T : Table) (x : List Nat) (j : Int) : Bool := decide (0 ≤ j ∧ j < (x.length : Int)) && T.letters.contains (x.getD j.toNat 0)
theorem prevAt_zero (x : List Nat) : prevAt x 0 = none := rfl
theorem prevAt_succ (x : List Nat) (i : Nat) : prevAt x (i + 1) = x[i]? := rfl
theorem letter_before {T : Table} {x : List Nat} {i : Nat} (h : i ≤ x.length) : letterAt T x ((i : Int) - 1) = Sd50.isLetter T (prevAt x i) := by
  unfold letterAt Sd50.isLetter
  cases i with
  | zero =>
    rw [prevAt_zero]
    have : ¬ (0 ≤ ((0 : Nat) : Int) - 1 ∧ ((0 : Nat) : Int) - 1 < (x.length : Int)) := by omega
    rw [decide_eq_false this]
    rfl
  | succ j =>
    rw [prevAt_succ]
    have hj : j < x.length := h
    have e : (((j + 1 : Nat) : Int) - 1).toNat = j := by omega
    have : (0 ≤ ((j + 1 : Nat) : Int) - 1 ∧ ((j + 1 : Nat) : Int) - 1 < (x.length : Int)) := by omega
    rw [decide_eq_true this, e, List.getElem?_eq_getElem hj, List.getD_eq_getElem?_getD, List.getElem?_eq_getElem hj]
    simp
theorem letter_behind {T : Table} {x : List Nat} {i n : Nat} : letterAt T x ((i : Int) + (n : Int)) = Sd50.isLetter T ((x.drop i).drop n).head? := by
  unfold letterAt Sd50.isLetter
  rw [List.drop_drop, List.head?_drop]
  have e : ((i : Int) + (n : Int)).toNat = i + n := by omega
  rw [e]
  by_cases h : i + n < x.length
  · have : (0 ≤ (i : Int) + (n : Int) ∧ (i : Int) + (n : Int) < (x.length : Int)) := by omega
    rw [decide_eq_true this, List.getD_eq_getElem?_getD, List.getElem?_eq_getElem h]
    simp
  · have : ¬ (0 ≤ (i : Int) + (n : Int) ∧ (i : Int) + (n : Int) < (x.length : Int)) := by omega
    rw [decide_eq_false this, List.getElem?_eq_none (by omega)]
    simp

/-! ### a rule at a place -/
abbrev appliesAt (T : Table) (r : Rule) (x : List Nat) (i : Nat) : Bool := Sd50.applies T r (prevAt x i) (x.drop i)
abbrev thoseAt (T : Table) (x : List Nat) (i : Nat) : List Nat := Sd50.those T (prevAt x i) (x.drop i)
theorem applies_at {T : Table} {r : Rule} {x : List Nat} {i : Nat} (g : r.text ≠ []) (h : i ≤ x.length) :
    appliesAt T r x i = (decide ((x.drop i).take r.text.length = r.text) && Sd50.fits r.place (letterAt T x ((i : Int) - 1)) (letterAt T x ((i : Int) + (r.text.length : Int)))) := by
  unfold appliesAt Sd50.applies
  rw [letter_before h, letter_behind]
  have e1 : (!r.text.isEmpty) = true := by
    cases e : r.text with
    | nil => exact absurd e g
    | cons a l => rfl
  rw [e1, Bool.true_and]
  congr 1
  by_cases p : (x.drop i).take r.text.length = r.text
  · rw [decide_eq_true p]
    refine List.isPrefixOf_iff_prefix.mpr ?_
    rw [List.prefix_iff_eq_take]
    exact p.symm
  · rw [decide_eq_false p]
    cases q : r.text.isPrefixOf (x.drop i) with
    | false => rfl
    | true =>
      have := List.isPrefixOf_iff_prefix.mp q
      rw [List.prefix_iff_eq_take] at this
      exact absurd this.symm p
theorem applies_pre {T : Table} {r : Rule} {prev : Option Nat} {rest : List Nat} (h : Sd50.applies T r prev rest = true) : r.text ≠ [] ∧ r.text <+: rest := by
  unfold Sd50.applies at h
  rw [Bool.and_eq_true, Bool.and_eq_true] at h
  obtain ⟨h1, h2, _⟩ := h
  refine ⟨fun e => ?_, List.isPrefixOf_iff_prefix.mp h2⟩
  rw [e] at h1
  cases h1
theorem applies_len {T : Table} {r : Rule} {prev : Option Nat} {rest : List Nat} (h : Sd50.applies T r prev rest = true) : 0 < r.text.length ∧ r.text.length ≤ rest.length :=
  ⟨List.length_pos_iff.mpr (applies_pre h).1, (applies_pre h).2.length_le⟩
theorem getLast?_take_succ {l : List Nat} {n : Nat} (h0 : 0 < n) (h : n ≤ l.length) : (l.take n).getLast? = l[n - 1]? := by
  rw [List.getLast?_take, if_neg (by omega), List.getElem?_eq_getElem (by omega)]
  rfl
/-- behind a rule that applies -/
theorem prev_next {T : Table} {r : Rule} {x : List Nat} {i : Nat} (h : appliesAt T r x i = true) : prevAt x (i + r.text.length) = r.text.getLast? := by
  obtain ⟨h0, h1⟩ := applies_len h
  have p := (applies_pre h).2
  rw [List.prefix_iff_eq_take] at p
  have e : r.text.getLast? = ((x.drop i).take r.text.length).getLast? := congrArg List.getLast? p
  rw [e, getLast?_take_succ h0 h1, List.getElem?_drop]
  unfold prevAt
  rw [if_neg (by omega)]
  congr 1
  omega
theorem drop_next {r : Rule} {x : List Nat} {i : Nat} : (x.drop i).drop r.text.length = x.drop (i + r.text.length) := List.drop_drop
theorem applies_end {T : Table} {r : Rule} {x : List Nat} {i : Nat} (h : appliesAt T r x i = true) : 0 < r.text.length ∧ i + r.text.length ≤ x.length := by
  obtain ⟨h0, h1⟩ := applies_len h
  rw [List.length_drop] at h1
  omega

/-! ### those that apply, the longest -/
theorem mem_those {T : Table} {prev : Option Nat} {rest : List Nat} {k : Nat} : k ∈ Sd50.those T prev rest ↔ ∃ r, T.rules[k]? = some r ∧ Sd50.applies T r prev rest = true := by
  unfold Sd50.those
  rw [List.mem_filter, List.mem_range]
  constructor
  · rintro ⟨h, q⟩
    cases e : T.rules[k]? with
    | none =>
      rw [e] at q
      cases q
    | some r =>
      rw [e] at q
      exact ⟨r, rfl, q⟩
  · rintro ⟨r, e, a⟩
    refine ⟨(List.getElem?_eq_some_iff.mp e).1, ?_⟩
    rw [e]
    exact a
theorem lengthOf_of {T : Table} {k : Nat} {r : Rule} (h : T.rules[k]? = some r) : Sd50.lengthOf T k = r.text.length := by
  unfold Sd50.lengthOf
  rw [h]
  rfl
theorem longest_mem {T : Table} : ∀ {l : List Nat} {k : Nat}, Sd50.longest T l = some k → k ∈ l
  | [], k, h => by cases h
  | a :: l, k, h => by
    unfold Sd50.longest at h
    split at h
    · cases h
      exact List.mem_cons_self
    · rename_i j e
      split at h
      · cases h
        exact List.mem_cons_of_mem _ (longest_mem e)
      · cases h
        exact List.mem_cons_self
theorem longest_none {T : Table} : ∀ {l : List Nat}, Sd50.longest T l = none → l = []
  | [], h => rfl
  | a :: l, h => by
    unfold Sd50.longest at h
    split at h
    · cases h
    · split at h <;> cases h
/-- one more behind: it wins where it's longer -/
theorem longest_snoc {T : Table} (k : Nat) : ∀ (l : List Nat), Sd50.longest T (l ++ [k]) = match Sd50.longest T l with
    | none => some k
    | some j => if Sd50.lengthOf T j < Sd50.lengthOf T k then some k else some j
  | [] => rfl
  | a :: l => by
    have ih := longest_snoc (T := T) k l
    show (match Sd50.longest T (l ++ [k]) with
      | none => some a
      | some j => if Sd50.lengthOf T a < Sd50.lengthOf T j then some j else some a) = _
    rw [ih]
    have e : Sd50.longest T (a :: l) = match Sd50.longest T l with
      | none => some a
      | some j => if Sd50.lengthOf T a < Sd50.lengthOf T j then some j else some a := rfl
    rw [e]
    cases Sd50.longest T l with
    | none => rfl
    | some j =>
      dsimp only
      by_cases h1 : Sd50.lengthOf T a < Sd50.lengthOf T j
      · rw [if_pos h1]
        dsimp only
        by_cases h2 : Sd50.lengthOf T j < Sd50.lengthOf T k
        · rw [if_pos h2]
          dsimp only
          rw [if_pos (by omega)]
        · rw [if_neg h2]
          dsimp only
          rw [if_pos h1]
      · rw [if_neg h1]
        dsimp only
        by_cases h2 : Sd50.lengthOf T j < Sd50.lengthOf T k
        · rw [if_pos h2]
        · rw [if_neg h2]
          dsimp only
          rw [if_neg h1, if_neg (by omega)]
/-- those among the first n rules -/
def thoseN (T : Table) (prev : Option Nat) (rest : List Nat) (n : Nat) : List Nat := (List.range n).filter fun k => (T.rules[k]?).any fun r => Sd50.applies T r prev rest
theorem thoseN_all {T : Table} {prev : Option Nat} {rest : List Nat} : thoseN T prev rest T.rules.length = Sd50.those T prev rest := rfl
theorem thoseN_succ {T : Table} {prev : Option Nat} {rest : List Nat} {n : Nat} {r : Rule} (h : T.rules[n]? = some r) :
    thoseN T prev rest (n + 1) = if Sd50.applies T r prev rest = true then thoseN T prev rest n ++ [n] else thoseN T prev rest n := by
  unfold thoseN
  rw [List.range_succ, List.filter_append]
  by_cases a : Sd50.applies T r prev rest = true
  · rw [if_pos a, List.filter_cons_of_pos (by rw [h]; exact a)]
    rfl
  · rw [if_neg a, List.filter_cons_of_neg (by rw [h]; exact a), List.filter_nil, List.append_nil]
def bestN (T : Table) (x : List Nat) (i n : Nat) : Option Nat := Sd50.longest T (thoseN T (prevAt x i) (x.drop i) n)
theorem bestN_zero {T : Table} {x : List Nat} {i : Nat} : bestN T x i 0 = none := rfl
theorem bestN_all {T : Table} {x : List Nat} {i : Nat} : bestN T x i T.rules.length = Sd50.longest T (thoseAt T x i) := rfl
/-- whether the rule n is looked at behind the first n -/
def better (T : Table) (b : Option Nat) (n : Nat) : Bool := match b with
  | none => true
  | some j => decide (Sd50.lengthOf T j < Sd50.lengthOf T n)
theorem bestN_succ {T : Table} {x : List Nat} {i n : Nat} {r : Rule} (h : T.rules[n]? = some r) :
    bestN T x i (n + 1) = if better T (bestN T x i n) n = true ∧ appliesAt T r x i = true then some n else bestN T x i n := by
  have hd : bestN T x i (n + 1) = Sd50.longest T (thoseN T (prevAt x i) (x.drop i) (n + 1)) := rfl
  rw [hd, thoseN_succ h]
  have hb : bestN T x i n = Sd50.longest T (thoseN T (prevAt x i) (x.drop i) n) := rfl
  by_cases a : Sd50.applies T r (prevAt x i) (x.drop i) = true
  · rw [if_pos a, longest_snoc, ← hb]
    cases bestN T x i n with
    | none => rw [if_pos ⟨rfl, a⟩]
    | some j =>
      dsimp only
      by_cases c : Sd50.lengthOf T j < Sd50.lengthOf T n
      · rw [if_pos c, if_pos ⟨decide_eq_true c, a⟩]
      · rw [if_neg c, if_neg fun z => c (of_decide_eq_true z.1)]
  · rw [if_neg a, ← hb, if_neg fun z => a z.2]
theorem bestN_lt {T : Table} {x : List Nat} {i n j : Nat} (h : bestN T x i n = some j) : j < n := by
  have := longest_mem h
  unfold thoseN at this
  exact List.mem_range.mp (List.mem_filter.mp this).1
theorem best_rule {T : Table} {x : List Nat} {i k : Nat} (h : Sd50.longest T (thoseAt T x i) = some k) : ∃ r, T.rules[k]? = some r ∧ appliesAt T r x i = true := mem_those.mp (longest_mem h)

/-! ### rules taken -/
/-- taken, the fuel as much as is wanted -/
def tk (T : Table) (prev : Option Nat) (rest : List Nat) : Except Nat (List Nat) := Sd50.taken T rest.length prev rest
theorem drop_lt {T : Table} {prev : Option Nat} {rest : List Nat} {k : Nat} (h : Sd50.longest T (Sd50.those T prev rest) = some k) : (rest.drop (Sd50.lengthOf T k)).length < rest.length := by
  obtain ⟨r, e, a⟩ := mem_those.mp (longest_mem h)
  obtain ⟨h0, h1⟩ := applies_len a
  rw [lengthOf_of e, List.length_drop]
  omega
theorem taken_fuel {T : Table} : ∀ (n f : Nat) (prev : Option Nat) (rest : List Nat), rest.length ≤ n → rest.length ≤ f → Sd50.taken T n prev rest = Sd50.taken T f prev rest
  | 0, f, prev, rest, h, h2 => by
    have e : rest = [] := List.length_eq_zero_iff.mp (Nat.le_zero.mp h)
    subst e
    unfold Sd50.taken
    rfl
  | n + 1, 0, prev, rest, h, h2 => by
    have e : rest = [] := List.length_eq_zero_iff.mp (Nat.le_zero.mp h2)
    subst e
    unfold Sd50.taken
    rfl
  | n + 1, f + 1, prev, [], h, h2 => by
    unfold Sd50.taken
    rfl
  | n + 1, f + 1, prev, c :: r, h, h2 => by
    unfold Sd50.taken
    cases e : Sd50.longest T (Sd50.those T prev (c :: r)) with
    | none => rfl
    | some k =>
      have lt := drop_lt e
      rw [List.length_cons] at h h2 lt
      dsimp only
      rw [taken_fuel n f _ _ (by omega) (by omega)]
theorem tk_nil {T : Table} {prev : Option Nat} : tk T prev [] = .ok [] := by
  unfold tk Sd50.taken
  rfl
theorem tk_none {T : Table} {prev : Option Nat} {rest : List Nat} (hr : rest ≠ []) (h : Sd50.longest T (Sd50.those T prev rest) = none) : tk T prev rest = .error rest.length := by
  cases rest with
  | nil => exact absurd rfl hr
  | cons c r =>
    show Sd50.taken T (r.length + 1) prev (c :: r) = _
    unfold Sd50.taken
    rw [h]
theorem tk_some {T : Table} {prev : Option Nat} {rest : List Nat} {k : Nat} {r : Rule} (h : Sd50.longest T (Sd50.those T prev rest) = some k) (e : T.rules[k]? = some r) :
    tk T prev rest = (tk T r.text.getLast? (rest.drop r.text.length)).map fun l => k :: l := by
  have lt := drop_lt h
  cases rest with
  | nil => simp at lt
  | cons c q =>
    show Sd50.taken T (q.length + 1) prev (c :: q) = _
    have e0 : Sd50.taken T (q.length + 1) prev (c :: q) = match Sd50.longest T (Sd50.those T prev (c :: q)) with
      | none => .error (c :: q).length
      | some k => (Sd50.taken T q.length (((T.rules[k]?).bind fun r => r.text.getLast?)) ((c :: q).drop (Sd50.lengthOf T k))).map fun l => k :: l := rfl
    rw [e0, h]
    dsimp only
    rw [lengthOf_of e, e]
    rw [lengthOf_of e] at lt
    show Except.map _ (Sd50.taken T q.length r.text.getLast? _) = _
    unfold tk
    rw [taken_fuel q.length (List.drop r.text.length (c :: q)).length _ _ (by rw [List.length_cons] at lt; omega) (Nat.le_refl _)]
/-- the rules from a place on -/
def rulesAt (T : Table) (x : List Nat) (i : Nat) : Except Nat (List Nat) := tk T (prevAt x i) (x.drop i)
theorem rulesAt_zero {T : Table} {x : List Nat} : rulesAt T x 0 = Sd50.rulesOf T x := rfl
theorem rulesAt_end {T : Table} {x : List Nat} : rulesAt T x x.length = .ok [] := by
  unfold rulesAt
  rw [List.drop_length, tk_nil]
theorem rulesAt_none {T : Table} {x : List Nat} {i : Nat} (hi : i < x.length) (h : Sd50.longest T (thoseAt T x i) = none) : rulesAt T x i = .error (x.length - i) := by
  unfold rulesAt
  rw [tk_none _ h, List.length_drop]
  intro e
  have := congrArg List.length e
  rw [List.length_drop] at this
  simp at this
  omega
theorem rulesAt_some {T : Table} {x : List Nat} {i k : Nat} {r : Rule} (h : Sd50.longest T (thoseAt T x i) = some k) (e : T.rules[k]? = some r) :
    rulesAt T x i = (rulesAt T x (i + r.text.length)).map fun l => k :: l := by
  unfold rulesAt
  rw [tk_some h e]
  obtain ⟨r', e', a⟩ := best_rule h
  rw [e] at e'
  cases e'
  rw [prev_next a, drop_next]

/-! ### writing -/
abbrev writesAt (T : Table) (x : List Nat) (i : Nat) (l : List Nat) : Bool := Sd50.writes T (prevAt x i) (x.drop i) l
abbrev cellsAt (T : Table) (x : List Nat) (i : Nat) (l : List Nat) : List Nat := Sd50.cellsOf T (prevAt x i) (x.drop i) l
abbrev signsOn (T : Table) (x : List Nat) (i : Nat) : List Nat := Sd50.signsAt T (prevAt x i) (x.drop i)
theorem writesAt_cons {T : Table} {x : List Nat} {i k : Nat} {l : List Nat} : writesAt T x i (k :: l) = true ↔ ∃ r, T.rules[k]? = some r ∧ appliesAt T r x i = true ∧ writesAt T x (i + r.text.length) l = true := by
  constructor
  · intro h
    unfold writesAt Sd50.writes at h
    split at h
    · cases h
    · rename_i r e
      rw [Bool.and_eq_true] at h
      obtain ⟨h1, h2⟩ := h
      refine ⟨r, e, h1, ?_⟩
      unfold writesAt
      rw [prev_next h1, ← drop_next]
      exact h2
  · rintro ⟨r, e, h1, h2⟩
    unfold writesAt Sd50.writes
    rw [e]
    dsimp only
    have h1' : Sd50.applies T r (prevAt x i) (x.drop i) = true := h1
    rw [h1', Bool.true_and]
    unfold writesAt at h2
    rw [prev_next h1, ← drop_next] at h2
    exact h2
theorem writesAt_nil {T : Table} {x : List Nat} {i : Nat} : writesAt T x i [] = true ↔ x.length ≤ i := by
  unfold writesAt Sd50.writes
  rw [List.isEmpty_iff, List.drop_eq_nil_iff]
theorem cellsAt_cons {T : Table} {x : List Nat} {i k : Nat} {l : List Nat} {r : Rule} (e : T.rules[k]? = some r) (a : appliesAt T r x i = true) :
    cellsAt T x i (k :: l) = signsOn T x i ++ r.cells ++ cellsAt T x (i + r.text.length) l := by
  have e0 : Sd50.cellsOf T (prevAt x i) (x.drop i) (k :: l) = match T.rules[k]? with
    | none => []
    | some r => Sd50.signsAt T (prevAt x i) (x.drop i) ++ (r.cells ++ Sd50.cellsOf T r.text.getLast? ((x.drop i).drop r.text.length) l) := rfl
  show Sd50.cellsOf T _ _ (k :: l) = _
  rw [e0, e]
  dsimp only
  show _ = signsOn T x i ++ r.cells ++ Sd50.cellsOf T (prevAt x (i + r.text.length)) (x.drop (i + r.text.length)) l
  rw [prev_next a, ← drop_next, List.append_assoc]
theorem writesAt_len {T : Table} {x : List Nat} : ∀ {l : List Nat} {i : Nat}, writesAt T x i l = true → l.length + i ≤ max x.length i
  | [], i, h => by simp; omega
  | k :: l, i, h => by
    obtain ⟨r, e, a, w⟩ := writesAt_cons.mp h
    have ih := writesAt_len w
    obtain ⟨h0, h1⟩ := applies_end a
    rw [List.length_cons]
    omega
theorem rulesAt_writes {T : Table} {x : List Nat} : ∀ (n i : Nat) (l : List Nat), x.length - i ≤ n → i ≤ x.length → rulesAt T x i = .ok l → writesAt T x i l = true
  | n, i, l, hn, hi, h => by
    by_cases hl : i = x.length
    · subst hl
      rw [rulesAt_end] at h
      cases h
      exact writesAt_nil.mpr (Nat.le_refl _)
    · have hi' : i < x.length := by omega
      cases e : Sd50.longest T (thoseAt T x i) with
      | none =>
        rw [rulesAt_none hi' e] at h
        cases h
      | some k =>
        obtain ⟨r, er, a⟩ := best_rule e
        obtain ⟨h0, h1⟩ := applies_end a
        rw [rulesAt_some e er] at h
        cases hr : rulesAt T x (i + r.text.length) with
        | error m =>
          rw [hr] at h
          cases h
        | ok l' =>
          rw [hr] at h
          cases h
          cases n with
          | zero => omega
          | succ n => exact writesAt_cons.mpr ⟨r, er, a, rulesAt_writes n _ _ (by omega) h1 hr⟩
theorem rulesOf_writes {T : Table} {x l : List Nat} (h : Sd50.rulesOf T x = .ok l) : writesAt T x 0 l = true := rulesAt_writes x.length 0 l (by omega) (Nat.zero_le _) h
theorem rulesAt_error {T : Table} {x : List Nat} : ∀ (n i m : Nat), x.length - i ≤ n → i ≤ x.length → rulesAt T x i = .error m → 0 < m ∧ m ≤ x.length - i
  | n, i, m, hn, hi, h => by
    by_cases hl : i = x.length
    · subst hl
      rw [rulesAt_end] at h
      cases h
    · have hi' : i < x.length := by omega
      cases e : Sd50.longest T (thoseAt T x i) with
      | none =>
        rw [rulesAt_none hi' e] at h
        cases h
        omega
      | some k =>
        obtain ⟨r, er, a⟩ := best_rule e
        obtain ⟨h0, h1⟩ := applies_end a
        rw [rulesAt_some e er] at h
        cases hr : rulesAt T x (i + r.text.length) with
        | ok l' =>
          rw [hr] at h
          cases h
        | error m' =>
          rw [hr] at h
          cases h
          cases n with
          | zero => omega
          | succ n =>
            have := rulesAt_error n _ _ (by omega) h1 hr
            omega
theorem signs_len {T : Table} (G : Good T) (prev : Option Nat) (rest : List Nat) : (Sd50.signsAt T prev rest).length ≤ 16 := by
  have key : ∀ (l : List Sign) (p : Sign → Bool), (∀ s ∈ l, s.cells.length ≤ 4) → ((l.filter p).flatMap fun s => s.cells).length ≤ 4 * l.length := by
    intro l p
    induction l with
    | nil => intro _; simp
    | cons s l ih =>
      intro h
      have h1 := ih fun s hs => h s (List.mem_cons_of_mem _ hs)
      have h2 := h s List.mem_cons_self
      rw [List.length_cons]
      by_cases hp : p s = true
      · rw [List.filter_cons_of_pos hp, List.flatMap_cons, List.length_append]
        omega
      · rw [List.filter_cons_of_neg hp]
        omega
  cases rest with
  | nil => simp [Sd50.signsAt]
  | cons c r =>
    have := key T.signs (fun s => s.bytes.contains c && !(prev.any fun p => s.bytes.contains p)) fun s hs => G.sign s hs
    have := G.ns
    show ((T.signs.filter _).flatMap _).length ≤ 16
    omega
theorem cells_len {T : Table} (G : Good T) {x : List Nat} : ∀ {l : List Nat} {i : Nat}, writesAt T x i l = true → (cellsAt T x i l).length ≤ 20 * l.length
  | [], i, h => by simp [Sd50.cellsOf]
  | k :: l, i, h => by
    obtain ⟨r, e, a, w⟩ := writesAt_cons.mp h
    have ih := cells_len G w
    rw [cellsAt_cons e a, List.length_append, List.length_append, List.length_cons]
    have := signs_len G (prevAt x i) (x.drop i)
    have := (G.at e).clen
    show (signsOn T x i).length + _ + _ ≤ _
    unfold signsOn
    omega
end RC
set_option linter.all false
/-! # Part B: the fewest cells -/
namespace RC
open Sd50 (Table Rule Sign)

/-- the best row from a place on -/
def bestRow (T : Table) (x : List Nat) (i : Nat) : Option Sd50.Row := (Sd50.bests T (prevAt x i) (x.drop i)).headD none
theorem drop_cons {x : List Nat} {i : Nat} (h : i < x.length) : x.drop i = x[i] :: x.drop (i + 1) := List.drop_eq_getElem_cons h
theorem bests_cons {T : Table} {x : List Nat} {i : Nat} (h : i < x.length) : Sd50.bests T (prevAt x i) (x.drop i) =
    ((Sd50.those T (prevAt x i) (x.drop i)).foldl (fun b k => Sd50.better b (((Sd50.bests T (prevAt x (i + 1)) (x.drop (i + 1))).getD (Sd50.lengthOf T k - 1) none).map fun y => (Sd50.costAt T (prevAt x i) (x.drop i) k + y.1, k :: y.2))) none)
      :: Sd50.bests T (prevAt x (i + 1)) (x.drop (i + 1)) := by
  rw [prevAt_succ, List.getElem?_eq_getElem h, drop_cons h]
  rfl
theorem bests_get {T : Table} {x : List Nat} : ∀ (m i : Nat), i + m ≤ x.length → (Sd50.bests T (prevAt x i) (x.drop i)).getD m none = bestRow T x (i + m)
  | 0, i, h => by
    show _ = (Sd50.bests T (prevAt x i) (x.drop i)).headD none
    cases Sd50.bests T (prevAt x i) (x.drop i) with
    | nil => rfl
    | cons a l => rfl
  | m + 1, i, h => by
    rw [bests_cons (show i < x.length by omega)]
    show (Sd50.bests T (prevAt x (i + 1)) (x.drop (i + 1))).getD m none = _
    rw [bests_get m (i + 1) (by omega)]
    congr 1
    omega
theorem bestRow_end {T : Table} {x : List Nat} : bestRow T x x.length = some (0, []) := by
  unfold bestRow
  rw [List.drop_length]
  unfold Sd50.bests
  rfl
/-- what the rule k would give at a place -/
def cand (T : Table) (x : List Nat) (i k : Nat) : Option Sd50.Row := match T.rules[k]? with
  | none => none
  | some r => if appliesAt T r x i = true then (bestRow T x (i + r.text.length)).map fun y => ((signsOn T x i).length + r.cells.length + y.1, k :: y.2) else none
def cands (T : Table) (x : List Nat) (i : Nat) : List (Option Sd50.Row) := (List.range T.rules.length).map (cand T x i)
theorem better_none (b : Option Sd50.Row) : Sd50.better b none = b := by cases b <;> rfl
theorem foldl_cands {p : Nat → Bool} {g : Nat → Option Sd50.Row} : ∀ (l : List Nat) (b : Option Sd50.Row),
    (l.filter p).foldl (fun b k => Sd50.better b (g k)) b = (l.map fun k => if p k = true then g k else none).foldl Sd50.better b
  | [], b => rfl
  | k :: l, b => by
    by_cases h : p k = true
    · rw [List.filter_cons_of_pos h, List.foldl_cons, List.map_cons, List.foldl_cons, if_pos h]
      exact foldl_cands l _
    · rw [List.filter_cons_of_neg h, List.map_cons, List.foldl_cons, if_neg h, better_none]
      exact foldl_cands l _
theorem bestRow_lt {T : Table} {x : List Nat} {i : Nat} (h : i < x.length) : bestRow T x i = (cands T x i).foldl Sd50.better none := by
  have e0 : bestRow T x i = (Sd50.bests T (prevAt x i) (x.drop i)).headD none := rfl
  rw [e0, bests_cons h]
  show List.foldl _ none (Sd50.those T (prevAt x i) (x.drop i)) = _
  unfold Sd50.those
  rw [foldl_cands]
  unfold cands
  congr 1
  refine List.map_congr_left fun k hk => ?_
  unfold cand
  cases e : T.rules[k]? with
  | none => rw [Option.any_none, if_neg Bool.false_ne_true]
  | some r =>
    dsimp only
    rw [Option.any_some]
    by_cases a : Sd50.applies T r (prevAt x i) (x.drop i) = true
    · obtain ⟨h0, h1⟩ := applies_end (show appliesAt T r x i = true from a)
      rw [if_pos a, if_pos (show appliesAt T r x i = true from a), lengthOf_of e, bests_get _ _ (by omega), show i + 1 + (r.text.length - 1) = i + r.text.length by omega]
      unfold Sd50.costAt
      rw [e]
      rfl
    · rw [if_neg a, if_neg (show ¬ appliesAt T r x i = true from a)]
theorem pick : ∀ (cs : List (Option Sd50.Row)) (b : Option Sd50.Row),
    (cs.foldl Sd50.better b = none → b = none ∧ ∀ c ∈ cs, c = none) ∧
    ∀ y, cs.foldl Sd50.better b = some y → (∀ z : Sd50.Row, some z ∈ cs → y.1 ≤ z.1) ∧ (∀ w : Sd50.Row, b = some w → y.1 ≤ w.1) ∧
      (b = some y ∨ ∃ j : Nat, cs[j]? = some (some y) ∧ (∀ (m : Nat), m < j → ∀ (z : Sd50.Row), cs[m]? = some (some z) → y.1 < z.1) ∧ ∀ w : Sd50.Row, b = some w → y.1 < w.1)
  | [], b => ⟨fun h => ⟨h, fun c hc => nomatch hc⟩, fun y h => by
      have h : b = some y := h
      refine ⟨fun z hz => (nomatch hz), fun w hw => ?_, .inl h⟩
      rw [h] at hw
      cases hw
      exact Nat.le_refl _⟩
  | c :: cs, b => by
    obtain ⟨ih1, ih2⟩ := pick cs (Sd50.better b c)
    constructor
    · intro h
      obtain ⟨h1, h2⟩ := ih1 h
      have : b = none ∧ c = none := by
        cases b with
        | none =>
          cases c with
          | none => exact ⟨rfl, rfl⟩
          | some v => cases h1
        | some w =>
          cases c with
          | none => cases h1
          | some v =>
            have h1 : (if v.1 < w.1 then some v else some w) = none := h1
            split at h1 <;> cases h1
      exact ⟨this.1, fun d hd => (List.mem_cons.mp hd).elim (fun e => e.trans this.2) (h2 d)⟩
    · intro y h
      obtain ⟨q1, q2, q3⟩ := ih2 y h
      -- the better one is at most each
      have le1 : ∀ w, b = some w → y.1 ≤ w.1 := by
        intro w hw
        subst hw
        cases c with
        | none => exact q2 w rfl
        | some v =>
          by_cases lt : v.1 < w.1
          · have := q2 v (if_pos lt)
            omega
          · exact q2 w (if_neg lt)
      have le2 : ∀ v, c = some v → y.1 ≤ v.1 := by
        intro v hv
        subst hv
        cases b with
        | none => exact q2 v rfl
        | some w =>
          by_cases lt : v.1 < w.1
          · exact q2 v (if_pos lt)
          · have := q2 w (if_neg lt)
            omega
      refine ⟨fun z hz => (List.mem_cons.mp hz).elim (fun e => le2 z e.symm) (q1 z), le1, ?_⟩
      rcases q3 with q3 | ⟨j, e, k1, k2⟩
      · cases b with
        | none => exact .inr ⟨0, by rw [List.getElem?_cons_zero]; exact congrArg some q3, fun m hm => by omega, fun w hw => nomatch hw⟩
        | some w =>
          cases c with
          | none => exact .inl q3
          | some v =>
            by_cases lt : v.1 < w.1
            · have e : some v = some y := (if_pos lt).symm.trans q3
              cases e
              exact .inr ⟨0, rfl, fun m hm => by omega, fun w' hw => by cases hw; exact lt⟩
            · exact .inl ((if_neg lt).symm.trans q3)
      · refine .inr ⟨j + 1, e, fun m hm z hz => ?_, fun w hw => ?_⟩
        · cases m with
          | succ m => exact k1 m (by omega) z hz
          | zero =>
            have hz : c = some z := Option.some.inj hz
            subst hz
            cases b with
            | none => exact k2 z rfl
            | some w =>
              by_cases lt : z.1 < w.1
              · exact k2 z (if_pos lt)
              · have := k2 w (if_neg lt)
                omega
        · subst hw
          cases c with
          | none => exact k2 w rfl
          | some v =>
            by_cases lt : v.1 < w.1
            · have := k2 v (if_pos lt)
              omega
            · exact k2 w (if_neg lt)
/-- how few cells from a place on -/
def fewAt (T : Table) (x : List Nat) (i : Nat) : Option Nat := (bestRow T x i).map fun y => y.1
/-- how few if the rule k stands there -/
def countAt (T : Table) (x : List Nat) (i k : Nat) : Option Nat := (cand T x i k).map fun y => y.1
theorem countAt_of {T : Table} {x : List Nat} {i k : Nat} {r : Rule} (e : T.rules[k]? = some r) :
    countAt T x i k = if appliesAt T r x i = true then (fewAt T x (i + r.text.length)).map fun c => (signsOn T x i).length + r.cells.length + c else none := by
  unfold countAt cand fewAt
  rw [e]
  dsimp only
  by_cases a : appliesAt T r x i = true
  · rw [if_pos a, if_pos a]
    cases bestRow T x (i + r.text.length) <;> rfl
  · rw [if_neg a, if_neg a]
    rfl
theorem cands_get {T : Table} {x : List Nat} {i k : Nat} (h : k < T.rules.length) : (cands T x i)[k]? = some (cand T x i k) := by
  unfold cands
  rw [List.getElem?_map, List.getElem?_range h]
  rfl
theorem cands_len {T : Table} {x : List Nat} {i : Nat} : (cands T x i).length = T.rules.length := by
  unfold cands
  rw [List.length_map, List.length_range]
def counts (T : Table) (x : List Nat) (i : Nat) : List (Option Nat) := (List.range T.rules.length).map (countAt T x i)
theorem fewAt_end {T : Table} {x : List Nat} : fewAt T x x.length = some 0 := by
  unfold fewAt
  rw [bestRow_end]
  rfl
theorem fewAt_none {T : Table} {x : List Nat} {i : Nat} (h : i < x.length) : fewAt T x i = none → ∀ c ∈ counts T x i, c = none := by
  intro e c hc
  unfold fewAt at e
  rw [Option.map_eq_none_iff] at e
  rw [bestRow_lt h] at e
  obtain ⟨k, hk, rfl⟩ := List.mem_map.mp hc
  have := ((pick _ _).1 e).2 (cand T x i k) (List.mem_map.mpr ⟨k, hk, rfl⟩)
  unfold countAt
  rw [this]
  rfl
theorem fewAt_some {T : Table} {x : List Nat} {i c : Nat} (h : i < x.length) (e : fewAt T x i = some c) : some c ∈ counts T x i ∧ ∀ d, some d ∈ counts T x i → c ≤ d := by
  unfold fewAt at e
  cases e' : bestRow T x i with
  | none => rw [e'] at e; cases e
  | some y =>
    rw [e'] at e
    cases e
    rw [bestRow_lt h] at e'
    obtain ⟨q1, _, q3⟩ := (pick _ _).2 y e'
    rcases q3 with q3 | ⟨j, hj, _, _⟩
    · cases q3
    · have hl := (List.getElem?_eq_some_iff.mp hj).1
      rw [cands_len] at hl
      rw [cands_get hl] at hj
      have hj := Option.some.inj hj
      refine ⟨List.mem_map.mpr ⟨j, List.mem_range.mpr hl, ?_⟩, fun d hd => ?_⟩
      · unfold countAt
        rw [hj]
        rfl
      · obtain ⟨k, hk, ek⟩ := List.mem_map.mp hd
        unfold countAt at ek
        cases ec : cand T x i k with
        | none => rw [ec] at ek; cases ek
        | some z =>
          rw [ec] at ek
          cases ek
          exact q1 z (by rw [← ec]; exact List.mem_map.mpr ⟨k, hk, rfl⟩)
/-- the rule that stands first in the best row -/
theorem bestRow_pick {T : Table} {x : List Nat} {i : Nat} {y : Sd50.Row} (h : i < x.length) (e : bestRow T x i = some y) : ∃ (k : Nat) (r : Rule) (z : Sd50.Row), T.rules[k]? = some r ∧ appliesAt T r x i = true ∧ bestRow T x (i + r.text.length) = some z ∧
    y = ((signsOn T x i).length + r.cells.length + z.1, k :: z.2) ∧ (counts T x i)[k]? = some (some y.1) ∧ ∀ m, m < k → (counts T x i)[m]? ≠ some (some y.1) := by
  rw [bestRow_lt h] at e
  obtain ⟨_, _, q3⟩ := (pick _ _).2 y e
  rcases q3 with q3 | ⟨k, hk, k1, _⟩
  · cases q3
  · have hl := (List.getElem?_eq_some_iff.mp hk).1
    rw [cands_len] at hl
    have cg : ∀ {m}, m < T.rules.length → (counts T x i)[m]? = some (countAt T x i m) := fun {m} hm => by
      unfold counts
      rw [List.getElem?_map, List.getElem?_range hm]
      rfl
    rw [cands_get hl] at hk
    have hk := Option.some.inj hk
    have hc : (counts T x i)[k]? = some (some y.1) := by
      rw [cg hl]
      unfold countAt
      rw [hk]
      rfl
    have hm : ∀ m, m < k → (counts T x i)[m]? ≠ some (some y.1) := fun m hm q => by
      have hml : m < T.rules.length := by omega
      rw [cg hml] at q
      have q := Option.some.inj q
      unfold countAt at q
      cases ec : cand T x i m with
      | none => rw [ec] at q; cases q
      | some z =>
        rw [ec] at q
        have q : z.1 = y.1 := Option.some.inj q
        have := k1 m hm z (by rw [cands_get hml, ec])
        omega
    unfold cand at hk
    rw [List.getElem?_eq_getElem hl] at hk
    dsimp only at hk
    split at hk
    · rename_i a
      cases ez : bestRow T x (i + T.rules[k].text.length) with
      | none => rw [ez] at hk; cases hk
      | some z =>
        rw [ez] at hk
        exact ⟨k, T.rules[k], z, List.getElem?_eq_getElem hl, a, ez, (Option.some.inj hk).symm, hc, hm⟩
    · cases hk
theorem bestRow_writes {T : Table} {x : List Nat} : ∀ (n i : Nat) (y : Sd50.Row), x.length - i ≤ n → i ≤ x.length → bestRow T x i = some y → writesAt T x i y.2 = true
  | n, i, y, hn, hi, e => by
    by_cases hl : i = x.length
    · subst hl
      rw [bestRow_end] at e
      cases e
      exact writesAt_nil.mpr (Nat.le_refl _)
    · obtain ⟨k, r, z, er, a, ez, ey, _, _⟩ := bestRow_pick (show i < x.length by omega) e
      obtain ⟨h0, h1⟩ := applies_end a
      cases n with
      | zero => omega
      | succ n =>
        rw [ey]
        exact writesAt_cons.mpr ⟨r, er, a, bestRow_writes n _ z (by omega) h1 ez⟩
theorem least_eq {T : Table} {x : List Nat} : Sd50.least T x = (bestRow T x 0).map fun y => y.2 := rfl
theorem least_writes {T : Table} {x l : List Nat} (h : Sd50.least T x = some l) : writesAt T x 0 l = true := by
  rw [least_eq] at h
  cases e : bestRow T x 0 with
  | none => rw [e] at h; cases h
  | some y =>
    rw [e] at h
    cases h
    exact bestRow_writes x.length 0 y (by omega) (Nat.zero_le _) e
end RC
set_option linter.all false
/-! # Part C: reading: rows of rules begun, level by level -/
namespace RC
open Sd50 (Table Rule Sign)
open List (Sublist)
open scoped List

structure PRow where
  nums : List Nat
  text : List Nat
  count : Nat
  deriving DecidableEq
def row0 : PRow := ⟨[], [], 0⟩
/-- the cells that a rule adds behind a text -/
def addedBy (T : Table) (text : List Nat) (r : Rule) : List Nat := Sd50.signsAt T text.getLast? r.text ++ r.cells
/-- a row with the rule k more, where its cells are the given ones and the text isn't too long -/
def ext (T : Table) (cells : List Nat) (p : PRow) (k : Nat) : Option PRow := match T.rules[k]? with
  | none => none
  | some r => if (cells.drop p.count).take (addedBy T p.text r).length = addedBy T p.text r ∧ (p.text ++ r.text).length ≤ 256 then some ⟨p.nums ++ [k], p.text ++ r.text, p.count + (addedBy T p.text r).length⟩ else none
def longerN (T : Table) (cells : List Nat) (p : PRow) (n : Nat) : List PRow := (List.range n).filterMap (ext T cells p)
def longer (T : Table) (cells : List Nat) (p : PRow) : List PRow := longerN T cells p T.rules.length
theorem longerN_zero {T : Table} {cells : List Nat} {p : PRow} : longerN T cells p 0 = [] := rfl
theorem longerN_succ {T : Table} {cells : List Nat} {p : PRow} {n : Nat} : longerN T cells p (n + 1) = longerN T cells p n ++ (ext T cells p n).toList := by
  unfold longerN
  rw [List.range_succ, List.filterMap_append]
  cases e : ext T cells p n with
  | none => rw [List.filterMap_cons_none e]; rfl
  | some q => rw [List.filterMap_cons_some e]; rfl
/-- a row is done where it has all cells -/
def done (cells : List Nat) (p : PRow) : Bool := decide (p.count = cells.length)
def found (T : Table) (p : PRow) : Bool := match Sd50.rulesOf T p.text with
  | .ok l => decide (l = p.nums)
  | .error _ => false
def level (T : Table) (cells : List Nat) : Nat → List PRow
  | 0 => [row0]
  | d + 1 => ((level T cells d).filter fun p => !done cells p).flatMap (longer T cells)
/-- the texts that a list of rows tells -/
def told (T : Table) (cells : List Nat) (l : List PRow) : List (List Nat) := (l.filter fun p => done cells p && found T p).map fun p => p.text
def textsUpTo (T : Table) (cells : List Nat) : Nat → List (List Nat)
  | 0 => []
  | d + 1 => textsUpTo T cells d ++ told T cells (level T cells d)
/-- rows by their numbers -/
def run (T : Table) (cells : List Nat) : PRow → List Nat → Option PRow
  | p, [] => some p
  | p, k :: l => if done cells p = true then none else (ext T cells p k).bind fun q => run T cells q l
theorem ext_of {T : Table} {cells : List Nat} {p q : PRow} {k : Nat} (h : ext T cells p k = some q) : ∃ r, T.rules[k]? = some r ∧ (cells.drop p.count).take (addedBy T p.text r).length = addedBy T p.text r ∧ (p.text ++ r.text).length ≤ 256 ∧
    q = ⟨p.nums ++ [k], p.text ++ r.text, p.count + (addedBy T p.text r).length⟩ := by
  unfold ext at h
  split at h
  · cases h
  · rename_i r e
    split at h
    · rename_i c
      exact ⟨r, e, c.1, c.2, (Option.some.inj h).symm⟩
    · cases h
theorem added_pos {T : Table} (G : Good T) {text : List Nat} {k : Nat} {r : Rule} (e : T.rules[k]? = some r) : 0 < (addedBy T text r).length := by
  unfold addedBy
  rw [List.length_append]
  have := (G.at e).cpos
  omega
theorem ext_count {T : Table} {cells : List Nat} {p q : PRow} {k : Nat} (G : Good T) (hp : p.count ≤ cells.length) (h : ext T cells p k = some q) : p.count < q.count ∧ q.count ≤ cells.length := by
  obtain ⟨r, e, c, _, rfl⟩ := ext_of h
  have h0 := added_pos (text := p.text) G e
  have := congrArg List.length c
  rw [List.length_take, List.length_drop] at this
  dsimp only
  omega
theorem level_ok {T : Table} {cells : List Nat} (G : Good T) : ∀ (d : Nat) (p : PRow), p ∈ level T cells d → p.count ≤ cells.length ∧ d ≤ p.count ∧ p.nums.length = d ∧ p.text.length ≤ 256
  | 0, p, h => by
    have : p = row0 := List.mem_singleton.mp h
    subst this
    exact ⟨Nat.zero_le _, Nat.le_refl _, rfl, Nat.zero_le _⟩
  | d + 1, p, h => by
    obtain ⟨q, hq, hp⟩ := List.mem_flatMap.mp h
    obtain ⟨hq, _⟩ := List.mem_filter.mp hq
    obtain ⟨i1, i2, i3, i4⟩ := level_ok G d q hq
    obtain ⟨k, _, e⟩ := List.mem_filterMap.mp hp
    obtain ⟨c1, c2⟩ := ext_count G i1 e
    obtain ⟨r, er, _, c, rfl⟩ := ext_of e
    refine ⟨c2, by omega, ?_, c⟩
    show (q.nums ++ [k]).length = d + 1
    rw [List.length_append, i3]
    rfl
theorem level_end {T : Table} {cells : List Nat} (G : Good T) : level T cells (cells.length + 1) = [] := by
  cases e : level T cells (cells.length + 1) with
  | nil => rfl
  | cons p l =>
    have := level_ok G (cells.length + 1) p (by rw [e]; exact List.mem_cons_self)
    omega
theorem level_nil {T : Table} {cells : List Nat} {d : Nat} (h : level T cells d = []) : ∀ n, level T cells (d + n) = [] ∧ textsUpTo T cells (d + n) = textsUpTo T cells d
  | 0 => ⟨h, rfl⟩
  | n + 1 => by
    obtain ⟨h1, h2⟩ := level_nil h n
    constructor
    · show ((level T cells (d + n)).filter _).flatMap _ = []
      rw [h1]
      rfl
    · show textsUpTo T cells (d + n) ++ told T cells (level T cells (d + n)) = _
      rw [h1, h2]
      exact List.append_nil _
/-- all texts, unsorted -/
def allTexts (T : Table) (cells : List Nat) : List (List Nat) := textsUpTo T cells (cells.length + 1)
theorem texts_done {T : Table} {cells : List Nat} {d : Nat} (h : level T cells d = []) (hd : d ≤ cells.length + 1) : textsUpTo T cells d = allTexts T cells := by
  have := (level_nil h (cells.length + 1 - d)).2
  rw [show d + (cells.length + 1 - d) = cells.length + 1 by omega] at this
  exact this.symm
theorem mem_level {T : Table} {cells : List Nat} : ∀ (d : Nat) (p q : PRow) (l : List Nat), p ∈ level T cells d → run T cells p l = some q → q ∈ level T cells (d + l.length)
  | d, p, q, [], hp, h => by
    cases h
    exact hp
  | d, p, q, k :: l, hp, h => by
    unfold run at h
    split at h
    · cases h
    · rename_i nd
      cases e : ext T cells p k with
      | none => rw [e] at h; cases h
      | some p' =>
        rw [e] at h
        have hp' : p' ∈ level T cells (d + 1) := by
          refine List.mem_flatMap.mpr ⟨p, List.mem_filter.mpr ⟨hp, by simpa using nd⟩, ?_⟩
          refine List.mem_filterMap.mpr ⟨k, ?_, e⟩
          obtain ⟨r, er, _⟩ := ext_of e
          exact List.mem_range.mpr (List.getElem?_eq_some_iff.mp er).1
        have := mem_level (d + 1) p' q l hp' h
        rw [List.length_cons, show d + (l.length + 1) = d + 1 + l.length by omega]
        exact this
theorem run_snoc {T : Table} {cells : List Nat} : ∀ (l : List Nat) (p q q' : PRow) (k : Nat), run T cells p l = some q → done cells q = false → ext T cells q k = some q' → run T cells p (l ++ [k]) = some q'
  | [], p, q, q', k, h, hd, e => by
    cases h
    show (if done cells p = true then none else (ext T cells p k).bind fun q => run T cells q []) = _
    rw [hd, if_neg Bool.false_ne_true, e]
    rfl
  | j :: l, p, q, q', k, h, hd, e => by
    unfold run at h
    split at h
    · cases h
    · rename_i nd
      cases e1 : ext T cells p j with
      | none => rw [e1] at h; cases h
      | some p' =>
        rw [e1] at h
        show (if done cells p = true then none else (ext T cells p j).bind fun q => run T cells q (l ++ [k])) = _
        rw [if_neg nd, e1]
        exact run_snoc l p' q q' k h hd e
theorem of_level {T : Table} {cells : List Nat} : ∀ (d : Nat) (q : PRow), q ∈ level T cells d → run T cells row0 q.nums = some q
  | 0, q, h => by
    have : q = row0 := List.mem_singleton.mp h
    subst this
    rfl
  | d + 1, q, h => by
    obtain ⟨p, hp, hq⟩ := List.mem_flatMap.mp h
    obtain ⟨hp, hd⟩ := List.mem_filter.mp hp
    obtain ⟨k, _, e⟩ := List.mem_filterMap.mp hq
    have ih := of_level d p hp
    obtain ⟨r, er, _, _, eq⟩ := ext_of e
    have en : q.nums = p.nums ++ [k] := by rw [eq]
    rw [en]
    exact run_snoc p.nums row0 p q k ih (by simpa using hd) e
/-! ### written by the longest: the row is met -/
theorem signs_head {T : Table} {prev : Option Nat} {a : List Nat} {rest : List Nat} (h0 : a ≠ []) (h : a <+: rest) : Sd50.signsAt T prev rest = Sd50.signsAt T prev a := by
  obtain ⟨t, rfl⟩ := h
  cases a with
  | nil => exact absurd rfl h0
  | cons c l => rfl
theorem prev_take {x : List Nat} {i : Nat} (h : i ≤ x.length) : (x.take i).getLast? = prevAt x i := by
  cases i with
  | zero => rfl
  | succ j =>
    rw [prevAt_succ, List.getLast?_take, if_neg (by omega)]
    rw [show j + 1 - 1 = j by omega, List.getElem?_eq_getElem (by omega)]
    rfl
theorem take_next {T : Table} {r : Rule} {x : List Nat} {i : Nat} (a : appliesAt T r x i = true) : x.take i ++ r.text = x.take (i + r.text.length) := by
  have p := (applies_pre a).2
  rw [List.prefix_iff_eq_take] at p
  rw [List.take_add, ← p]
theorem added_at {T : Table} {r : Rule} {x : List Nat} {i : Nat} (hi : i ≤ x.length) (a : appliesAt T r x i = true) : addedBy T (x.take i) r = signsOn T x i ++ r.cells := by
  unfold addedBy signsOn
  rw [prev_take hi, signs_head (applies_pre a).1 (applies_pre a).2]
theorem run_writes {T : Table} (G : Good T) {cells x : List Nat} (hx : x.length ≤ 256) : ∀ (l : List Nat) (i : Nat) (p : PRow), writesAt T x i l = true → i ≤ x.length → p.text = x.take i → p.count ≤ cells.length → cells.drop p.count = cellsAt T x i l →
    run T cells p l = some ⟨p.nums ++ l, x, cells.length⟩
  | [], i, p, hw, hi, ht, hc, e => by
    have hxi := writesAt_nil.mp hw
    have e : cells.drop p.count = [] := e
    have : p.count = cells.length := by
      have := congrArg List.length e
      rw [List.length_drop] at this
      simp at this
      omega
    show some p = _
    rw [List.append_nil, ← this]
    have h2 : p.text = x := by rw [ht, List.take_of_length_le hxi]
    rw [← h2]
  | k :: l, i, p, hw, hi, ht, hc, e => by
    obtain ⟨r, er, a, w⟩ := writesAt_cons.mp hw
    obtain ⟨h0, h1⟩ := applies_end a
    rw [cellsAt_cons er a] at e
    have ea : addedBy T p.text r = signsOn T x i ++ r.cells := by rw [ht, added_at hi a]
    have hp := added_pos (text := p.text) G er
    have nd : ¬ done cells p = true := by
      intro z
      have z := of_decide_eq_true z
      have := congrArg List.length e
      rw [List.length_drop, List.length_append, ← ea] at this
      omega
    have c1 : (cells.drop p.count).take (addedBy T p.text r).length = addedBy T p.text r := by
      rw [e, ← ea, List.take_left]
    have c2 : p.text ++ r.text = x.take (i + r.text.length) := by rw [ht, take_next a]
    have c3 : (p.text ++ r.text).length ≤ 256 := by
      rw [c2, List.length_take]
      omega
    have ee : ext T cells p k = some ⟨p.nums ++ [k], p.text ++ r.text, p.count + (addedBy T p.text r).length⟩ := by
      unfold ext
      rw [er]
      exact if_pos ⟨c1, c3⟩
    have cnt := ext_count G hc ee
    unfold run
    rw [if_neg nd, ee]
    show run T cells _ l = _
    rw [run_writes G hx l (i + r.text.length) _ w h1 c2 cnt.2 ?_]
    · show some (PRow.mk (p.nums ++ [k] ++ l) x cells.length) = _
      rw [List.append_assoc]
      rfl
    · show cells.drop (p.count + (addedBy T p.text r).length) = _
      rw [← List.drop_drop, e, ← ea, List.drop_left]
/-- the cells of a row that has all cells -/
theorem run_cells {T : Table} (G : Good T) {cells x : List Nat} : ∀ (l : List Nat) (i : Nat) (p q : PRow), writesAt T x i l = true → i ≤ x.length → p.text = x.take i → p.count ≤ cells.length → run T cells p l = some q → q.count = cells.length →
    cells.drop p.count = cellsAt T x i l
  | [], i, p, q, hw, hi, ht, hc, h, hq => by
    cases h
    rw [hq, List.drop_length]
    rfl
  | k :: l, i, p, q, hw, hi, ht, hc, h, hq => by
    obtain ⟨r, er, a, w⟩ := writesAt_cons.mp hw
    obtain ⟨h0, h1⟩ := applies_end a
    unfold run at h
    split at h
    · cases h
    · cases e1 : ext T cells p k with
      | none => rw [e1] at h; cases h
      | some p' =>
        rw [e1] at h
        have cnt := ext_count G hc e1
        obtain ⟨r', er', c1, c2, ep⟩ := ext_of e1
        rw [er] at er'
        cases er'
        have ea : addedBy T p.text r = signsOn T x i ++ r.cells := by rw [ht, added_at hi a]
        have ht' : p'.text = x.take (i + r.text.length) := by
          rw [ep]
          show p.text ++ r.text = _
          rw [ht, take_next a]
        have ih := run_cells G l (i + r.text.length) p' q w h1 ht' cnt.2 h hq
        rw [cellsAt_cons er a, ← ih, ← ea, ep]
        show _ = addedBy T p.text r ++ cells.drop (p.count + (addedBy T p.text r).length)
        rw [← List.drop_drop]
        have t := List.take_append_drop (addedBy T p.text r).length (cells.drop p.count)
        rw [c1] at t
        exact t.symm
/-! ### the specification's list has it -/
theorem run_ended {T : Table} (G : Good T) {cells : List Nat} : ∀ (l : List Nat) (p q : PRow) (f : Nat) (L : List Sd50.Begun), p.count ≤ cells.length → run T cells p l = some q → q.count = cells.length → l.length ≤ f → (p.text, cells.drop p.count) ∈ L → q.text ∈ Sd50.ended T f L
  | [], p, q, f, L, hc, h, hq, hf, hm => by
    cases h
    have e : cells.drop p.count = [] := by rw [hq, List.drop_length]
    rw [e] at hm
    have key : p.text ∈ (L.filter fun x => x.2.isEmpty).map fun x => x.1 := List.mem_map.mpr ⟨_, List.mem_filter.mpr ⟨hm, rfl⟩, rfl⟩
    cases f with
    | zero => exact key
    | succ f => exact List.mem_append_left _ key
  | k :: l, p, q, f, L, hc, h, hq, hf, hm => by
    unfold run at h
    split at h
    · cases h
    · rename_i nd
      cases e1 : ext T cells p k with
      | none => rw [e1] at h; cases h
      | some p' =>
        rw [e1] at h
        have cnt := ext_count G hc e1
        obtain ⟨r, er, c1, c2, ep⟩ := ext_of e1
        cases f with
        | zero => simp at hf
        | succ f =>
          refine List.mem_append_right _ ?_
          refine run_ended G l p' q f _ cnt.2 h hq (by rw [List.length_cons] at hf; omega) ?_
          refine List.mem_flatMap.mpr ⟨(p.text, cells.drop p.count), List.mem_filter.mpr ⟨hm, ?_⟩, ?_⟩
          · have nd' : ¬ p.count = cells.length := fun z => nd (decide_eq_true z)
            cases ed : cells.drop p.count with
            | nil =>
              have := congrArg List.length ed
              rw [List.length_drop] at this
              simp at this
              omega
            | cons a b => rfl
          · refine List.mem_filterMap.mpr ⟨r, List.mem_of_getElem? er, ?_⟩
            have pre : (addedBy T p.text r).isPrefixOf (cells.drop p.count) = true := by
              refine List.isPrefixOf_iff_prefix.mpr ?_
              rw [List.prefix_iff_eq_take]
              exact c1.symm
            show (if (addedBy T p.text r).isPrefixOf (cells.drop p.count) = true then some (p.text ++ r.text, (cells.drop p.count).drop (addedBy T p.text r).length) else none) = _
            rw [if_pos pre, ep, List.drop_drop]
theorem run_nums {T : Table} {cells : List Nat} : ∀ (l : List Nat) (p q : PRow), run T cells p l = some q → q.nums = p.nums ++ l
  | [], p, q, h => by cases h; rw [List.append_nil]
  | k :: l, p, q, h => by
    unfold run at h
    split at h
    · cases h
    · cases e1 : ext T cells p k with
      | none => rw [e1] at h; cases h
      | some p' =>
        rw [e1] at h
        obtain ⟨r, er, _, _, ep⟩ := ext_of e1
        rw [run_nums l p' q h, ep, List.append_assoc]
        rfl
theorem mem_upTo {T : Table} {cells t : List Nat} : ∀ (n : Nat), t ∈ textsUpTo T cells n ↔ ∃ d, d < n ∧ ∃ p ∈ level T cells d, done cells p = true ∧ found T p = true ∧ p.text = t
  | 0 => by
    constructor
    · intro h; cases h
    · rintro ⟨d, h, _⟩; omega
  | n + 1 => by
    show t ∈ textsUpTo T cells n ++ told T cells (level T cells n) ↔ _
    rw [List.mem_append, mem_upTo n]
    constructor
    · rintro (⟨d, hd, h⟩ | h)
      · exact ⟨d, by omega, h⟩
      · obtain ⟨p, hp, e⟩ := List.mem_map.mp h
        obtain ⟨hp, c⟩ := List.mem_filter.mp hp
        rw [Bool.and_eq_true] at c
        exact ⟨n, by omega, p, hp, c.1, c.2, e⟩
    · rintro ⟨d, hd, p, hp, c1, c2, e⟩
      by_cases h : d = n
      · subst h
        exact .inr (List.mem_map.mpr ⟨p, List.mem_filter.mpr ⟨hp, by rw [c1, c2]; rfl⟩, e⟩)
      · exact .inl ⟨d, by omega, p, hp, c1, c2, e⟩
theorem found_iff {T : Table} {p : PRow} : found T p = true ↔ Sd50.rulesOf T p.text = .ok p.nums := by
  unfold found
  cases e : Sd50.rulesOf T p.text with
  | error n => exact ⟨fun h => (nomatch h), fun h => (nomatch h)⟩
  | ok l => exact ⟨fun h => by rw [of_decide_eq_true h], fun h => by cases h; exact decide_eq_true rfl⟩
theorem mem_all {T : Table} (G : Good T) {cells t : List Nat} : t ∈ allTexts T cells ↔ t.length ≤ 256 ∧ Sd50.written T t = .ok cells := by
  unfold allTexts
  rw [mem_upTo]
  constructor
  · rintro ⟨d, hd, p, hp, c1, c2, rfl⟩
    have ok := level_ok G d p hp
    have hr := found_iff.mp c2
    refine ⟨ok.2.2.2, ?_⟩
    have hq := of_level d p hp
    have w := rulesOf_writes hr
    have := run_cells G (cells := cells) p.nums 0 row0 p w (Nat.zero_le _) rfl (Nat.zero_le _) hq (of_decide_eq_true c1)
    unfold Sd50.written
    rw [hr]
    show Except.ok (Sd50.cellsOf T none p.text p.nums) = _
    exact congrArg Except.ok this.symm
  · rintro ⟨hl, hw⟩
    unfold Sd50.written at hw
    cases hr : Sd50.rulesOf T t with
    | error n => rw [hr] at hw; cases hw
    | ok l =>
      rw [hr] at hw
      have hw : Sd50.cellsOf T none t l = cells := Except.ok.inj hw
      have w := rulesOf_writes hr
      have h := run_writes G (cells := cells) hl l 0 row0 w (Nat.zero_le _) rfl (Nat.zero_le _) hw.symm
      have hm := mem_level 0 row0 _ l (List.mem_singleton.mpr rfl) h
      have ok := level_ok G _ _ hm
      exact ⟨0 + l.length, by omega, _, hm, decide_eq_true rfl, found_iff.mpr hr, rfl⟩
/-! ### each once -/
theorem level_nodup {T : Table} {cells : List Nat} : ∀ d : Nat, (level T cells d).Pairwise fun p q => p.nums ≠ q.nums
  | 0 => List.pairwise_singleton _ _
  | d + 1 => by
    show (((level T cells d).filter _).flatMap (longer T cells)).Pairwise _
    rw [List.pairwise_flatMap]
    constructor
    · intro p _
      unfold longer longerN
      rw [List.pairwise_filterMap]
      refine List.Pairwise.imp (R := fun a b => a < b) ?_ List.pairwise_lt_range
      intro a b hab q hq q' hq' e
      obtain ⟨_, _, _, _, rfl⟩ := ext_of hq
      obtain ⟨_, _, _, _, rfl⟩ := ext_of hq'
      have e : p.nums ++ [a] = p.nums ++ [b] := e
      have := List.append_cancel_left e
      injection this with h1
      omega
    · refine (level_nodup d).filter _ |>.imp ?_
      intro p p' hne q hq q' hq' e
      obtain ⟨k, _, hk⟩ := List.mem_filterMap.mp hq
      obtain ⟨k', _, hk'⟩ := List.mem_filterMap.mp hq'
      obtain ⟨_, _, _, _, rfl⟩ := ext_of hk
      obtain ⟨_, _, _, _, rfl⟩ := ext_of hk'
      have e : p.nums ++ [k] = p'.nums ++ [k'] := e
      exact hne (List.append_inj_left' e rfl)
theorem texts_nodup {T : Table} (G : Good T) {cells : List Nat} : ∀ n : Nat, (textsUpTo T cells n).Nodup
  | 0 => List.Pairwise.nil
  | n + 1 => by
    show (textsUpTo T cells n ++ told T cells (level T cells n)).Nodup
    refine List.pairwise_append.mpr ⟨texts_nodup G n, ?_, ?_⟩
    · unfold told
      rw [List.pairwise_map]
      have h := (level_nodup (T := T) (cells := cells) n).filter (fun p => done cells p && found T p)
      refine List.Pairwise.imp_of_mem ?_ h
      intro p q hp hq hne e
      have c1 := (List.mem_filter.mp hp).2
      have c2 := (List.mem_filter.mp hq).2
      rw [Bool.and_eq_true] at c1 c2
      have f1 := found_iff.mp c1.2
      have f2 := found_iff.mp c2.2
      rw [e, f2] at f1
      exact hne (Except.ok.inj f1).symm
    · intro a ha b hb e
      subst e
      obtain ⟨d, hd, p, hp, _, c2, e⟩ := (mem_upTo n).mp ha
      obtain ⟨q, hq, e'⟩ := List.mem_map.mp hb
      obtain ⟨hq, c⟩ := List.mem_filter.mp hq
      rw [Bool.and_eq_true] at c
      have f1 := found_iff.mp c2
      have f2 := found_iff.mp c.2
      rw [e] at f1
      rw [e', f1] at f2
      have h1 := (level_ok G d p hp).2.2.1
      have h2 := (level_ok G n q hq).2.2.1
      rw [Except.ok.inj f2] at h1
      omega
theorem eraseDups_nodup : ∀ (n : Nat) (l : List (List Nat)), l.length ≤ n → l.eraseDups.Nodup
  | n, [], _ => by rw [List.eraseDups_nil]; exact List.Pairwise.nil
  | 0, a :: l, h => by simp at h
  | n + 1, a :: l, h => by
    rw [List.eraseDups_cons]
    refine List.pairwise_cons.mpr ⟨fun b hb e => ?_, eraseDups_nodup n _ ?_⟩
    · subst e
      have := List.mem_eraseDups.mp hb
      have := (List.mem_filter.mp this).2
      simp at this
    · have := List.length_filter_le (fun b => !b == a) l
      rw [List.length_cons] at h
      omega
/-! ### the order -/
theorem lesser_refl : ∀ x : List Nat, Sd50.lesser x x = true
  | [] => rfl
  | a :: x => by
    show (decide (a < a) || (a == a && Sd50.lesser x x)) = true
    rw [lesser_refl x]
    simp
theorem lesser_trans : ∀ x y z : List Nat, x.length = y.length → y.length = z.length → Sd50.lesser x y = true → Sd50.lesser y z = true → Sd50.lesser x z = true
  | [], _, _, _, _, _, _ => rfl
  | a :: x, [], _, h, _, _, _ => by simp at h
  | a :: x, b :: y, [], _, h, _, _ => by simp at h
  | a :: x, b :: y, c :: z, h1, h2, p, q => by
    replace p : (decide (a < b) || (a == b && Sd50.lesser x y)) = true := p
    replace q : (decide (b < c) || (b == c && Sd50.lesser y z)) = true := q
    show (decide (a < c) || (a == c && Sd50.lesser x z)) = true
    simp only [Bool.or_eq_true, Bool.and_eq_true, decide_eq_true_eq, beq_iff_eq] at p q ⊢
    rcases p with p | ⟨rfl, p⟩
    · rcases q with q | ⟨rfl, q⟩
      · exact .inl (by omega)
      · exact .inl p
    · rcases q with q | ⟨rfl, q⟩
      · exact .inl q
      · exact .inr ⟨rfl, lesser_trans x y z (by simpa using h1) (by simpa using h2) p q⟩
theorem lesser_total : ∀ x y : List Nat, x.length = y.length → Sd50.lesser x y = true ∨ Sd50.lesser y x = true
  | [], _, _ => .inl rfl
  | a :: x, [], h => by simp at h
  | a :: x, b :: y, h => by
    show (decide (a < b) || (a == b && Sd50.lesser x y)) = true ∨ (decide (b < a) || (b == a && Sd50.lesser y x)) = true
    simp only [Bool.or_eq_true, Bool.and_eq_true, decide_eq_true_eq, beq_iff_eq]
    have ih := lesser_total x y (by simpa using h)
    rcases Nat.lt_trichotomy a b with c | rfl | c
    · exact .inl (.inl c)
    · rcases ih with ih | ih
      · exact .inl (.inr ⟨rfl, ih⟩)
      · exact .inr (.inr ⟨rfl, ih⟩)
    · exact .inr (.inl c)
theorem lesser_antisymm : ∀ x y : List Nat, x.length = y.length → Sd50.lesser x y = true → Sd50.lesser y x = true → x = y
  | [], y, h, _, _ => by
    cases y with
    | nil => rfl
    | cons b y => simp at h
  | a :: x, [], h, _, _ => by simp at h
  | a :: x, b :: y, h, p, q => by
    replace p : (decide (a < b) || (a == b && Sd50.lesser x y)) = true := p
    replace q : (decide (b < a) || (b == a && Sd50.lesser y x)) = true := q
    simp only [Bool.or_eq_true, Bool.and_eq_true, decide_eq_true_eq, beq_iff_eq] at p q
    rcases p with p | ⟨rfl, p⟩
    · rcases q with q | ⟨rfl, q⟩ <;> omega
    · rcases q with q | ⟨_, q⟩
      · omega
      · rw [lesser_antisymm x y (by simpa using h) p q]
theorem sooner_iff {x y : List Nat} : Sd50.sooner x y = true ↔ x.length < y.length ∨ (x.length = y.length ∧ Sd50.lesser x y = true) := by
  unfold Sd50.sooner
  simp only [Bool.or_eq_true, Bool.and_eq_true, decide_eq_true_eq, beq_iff_eq]
theorem sooner_trans (x y z : List Nat) (p : Sd50.sooner x y = true) (q : Sd50.sooner y z = true) : Sd50.sooner x z = true := by
  rw [sooner_iff] at p q ⊢
  rcases p with p | ⟨e1, p⟩
  · rcases q with q | ⟨e2, q⟩ <;> exact .inl (by omega)
  · rcases q with q | ⟨e2, q⟩
    · exact .inl (by omega)
    · exact .inr ⟨e1.trans e2, lesser_trans x y z e1 e2 p q⟩
theorem sooner_total (x y : List Nat) : (Sd50.sooner x y || Sd50.sooner y x) = true := by
  rw [Bool.or_eq_true, sooner_iff, sooner_iff]
  rcases Nat.lt_trichotomy x.length y.length with c | c | c
  · exact .inl (.inl c)
  · rcases lesser_total x y c with h | h
    · exact .inl (.inr ⟨c, h⟩)
    · exact .inr (.inr ⟨c.symm, h⟩)
  · exact .inr (.inl c)
theorem sooner_antisymm (x y : List Nat) (p : Sd50.sooner x y = true) (q : Sd50.sooner y x = true) : x = y := by
  rw [sooner_iff] at p q
  rcases p with p | ⟨e1, p⟩
  · rcases q with q | ⟨e2, q⟩ <;> omega
  · rcases q with q | ⟨e2, q⟩
    · omega
    · exact lesser_antisymm x y e1 p q
/-- whatever holds just these texts in this order is the specification's list -/
theorem sources_eq {T : Table} (G : Good T) {cells : List Nat} {R : List (List Nat)} (hp : R.Perm (allTexts T cells)) (hs : R.Pairwise fun x y => Sd50.sooner x y = true) : R = Sd50.sources T cells := by
  unfold Sd50.sources
  refine List.Perm.eq_of_pairwise (le := fun x y => Sd50.sooner x y = true) (fun a b _ _ => sooner_antisymm a b) hs (List.pairwise_mergeSort sooner_trans sooner_total _) ?_
  refine hp.trans (List.Perm.trans ?_ (List.mergeSort_perm _ _).symm)
  refine (List.perm_ext_iff_of_nodup (texts_nodup G _) ((eraseDups_nodup _ _ (Nat.le_refl _)).filter _)).mpr fun t => ?_
  rw [List.mem_filter, List.mem_eraseDups]
  show t ∈ allTexts T cells ↔ _
  rw [mem_all G]
  constructor
  · rintro ⟨h1, h2⟩
    have hm := (mem_all G).mpr ⟨h1, h2⟩
    obtain ⟨d, hd, p, hp, c1, c2, rfl⟩ := (mem_upTo _).mp hm
    have ok := level_ok G d p hp
    have hq := of_level d p hp
    refine ⟨run_ended G p.nums row0 p cells.length _ (Nat.zero_le _) hq (of_decide_eq_true c1) (by omega) (List.mem_singleton.mpr rfl), ?_⟩
    rw [h2]
    show (decide (p.text.length ≤ 256) && (cells == cells)) = true
    rw [decide_eq_true h1]
    simp
  · rintro ⟨_, h⟩
    cases e : Sd50.written T t with
    | error n =>
      rw [e] at h
      simp at h
    | ok l =>
      rw [e] at h
      have h : (decide (t.length ≤ 256) && (l == cells)) = true := h
      rw [Bool.and_eq_true] at h
      exact ⟨of_decide_eq_true h.1, congrArg _ (eq_of_beq h.2)⟩
/-! ### how many -/
def beg (cells : List Nat) (p : PRow) : Sd50.Begun := (p.text, cells.drop p.count)
def specLevel (T : Table) (cells : List Nat) : Nat → List Sd50.Begun
  | 0 => [([], cells)]
  | d + 1 => Sd50.onward T ((specLevel T cells d).filter fun x => !x.2.isEmpty)
theorem flatMap_sub {α β : Type} {f g : α → List β} : ∀ {l l' : List α}, l <+ l' → (∀ a ∈ l, f a <+ g a) → l.flatMap f <+ l'.flatMap g
  | _, _, .slnil, _ => List.Sublist.refl _
  | _, _, .cons a h, k => by
    rw [List.flatMap_cons]
    exact (flatMap_sub h k).trans (List.sublist_append_right _ _)
  | _, _, .cons_cons a h, k => by
    rw [List.flatMap_cons, List.flatMap_cons]
    exact (k a List.mem_cons_self).append (flatMap_sub h fun b hb => k b (List.mem_cons_of_mem _ hb))
theorem longer_sub {T : Table} {cells : List Nat} {p : PRow} : ∀ n, n ≤ T.rules.length → (longerN T cells p n).map (beg cells) <+ (T.rules.take n).filterMap fun r =>
    let c := Sd50.signsAt T (beg cells p).1.getLast? r.text ++ r.cells
    if c.isPrefixOf (beg cells p).2 = true then some ((beg cells p).1 ++ r.text, (beg cells p).2.drop c.length) else none
  | 0, _ => List.nil_sublist _
  | n + 1, h => by
    have hn : n < T.rules.length := h
    have er : T.rules[n]? = some T.rules[n] := List.getElem?_eq_getElem hn
    rw [longerN_succ, List.map_append, List.take_add_one, er, List.filterMap_append]
    refine (longer_sub n (by omega)).append ?_
    cases e : ext T cells p n with
    | none => exact List.nil_sublist _
    | some q =>
      obtain ⟨r, er', c1, c2, ep⟩ := ext_of e
      rw [er] at er'
      cases er'
      have pre : (addedBy T p.text T.rules[n]).isPrefixOf (cells.drop p.count) = true := by
        refine List.isPrefixOf_iff_prefix.mpr ?_
        rw [List.prefix_iff_eq_take]
        exact c1.symm
      show [beg cells q] <+ _
      rw [Option.toList_some, List.filterMap_cons_some (b := beg cells q)]
      · exact List.Sublist.cons_cons _ (List.nil_sublist _)
      · show (if (addedBy T p.text T.rules[n]).isPrefixOf (cells.drop p.count) = true then some (p.text ++ T.rules[n].text, (cells.drop p.count).drop (addedBy T p.text T.rules[n]).length) else none) = _
        rw [if_pos pre, ep, List.drop_drop]
        rfl
theorem level_sub {T : Table} (G : Good T) {cells : List Nat} : ∀ d, (level T cells d).map (beg cells) <+ specLevel T cells d
  | 0 => List.Sublist.refl _
  | d + 1 => by
    have ih := level_sub G (cells := cells) d
    show (((level T cells d).filter fun p => !done cells p).flatMap (longer T cells)).map (beg cells) <+ _
    rw [List.map_flatMap]
    have hf : ((level T cells d).filter fun p => !done cells p).map (beg cells) <+ (specLevel T cells d).filter fun x => !x.2.isEmpty := by
      have h2 := ih.filter fun x => !x.2.isEmpty
      rw [List.filter_map] at h2
      have e : (level T cells d).filter ((fun x : Sd50.Begun => !x.2.isEmpty) ∘ beg cells) = (level T cells d).filter fun p => !done cells p := by
        refine List.filter_congr fun p hp => ?_
        have := (level_ok G d p hp).1
        show (!(cells.drop p.count).isEmpty) = !done cells p
        congr 1
        unfold done
        by_cases c : p.count = cells.length
        · rw [decide_eq_true c, c, List.drop_length]
          rfl
        · rw [decide_eq_false c]
          cases ed : cells.drop p.count with
          | cons a b => rfl
          | nil =>
            have := congrArg List.length ed
            rw [List.length_drop] at this
            simp at this
            omega
      rw [e] at h2
      exact h2
    show _ <+ ((specLevel T cells d).filter _).flatMap _
    have h3 := flatMap_sub (g := fun x : Sd50.Begun => T.rules.filterMap fun r =>
      let c := Sd50.signsAt T x.1.getLast? r.text ++ r.cells
      if c.isPrefixOf x.2 = true then some (x.1 ++ r.text, x.2.drop c.length) else none) hf (fun a _ => List.Sublist.refl _)
    refine List.Sublist.trans ?_ h3
    rw [List.flatMap_map]
    refine flatMap_sub (List.Sublist.refl _) fun p _ => ?_
    have := longer_sub (T := T) (cells := cells) (p := p) T.rules.length (Nat.le_refl _)
    rw [List.take_length] at this
    exact this
theorem few_level {T : Table} : ∀ (f : Nat) (L : List Sd50.Begun), Sd50Neutral.fewRows T f L = true → L.length ≤ 2000
  | 0, L, h => of_decide_eq_true h
  | f + 1, L, h => of_decide_eq_true (Bool.and_eq_true_iff.mp h).1
def specFrom (T : Table) (L : List Sd50.Begun) : Nat → List Sd50.Begun
  | 0 => L
  | d + 1 => Sd50.onward T ((specFrom T L d).filter fun x => !x.2.isEmpty)
theorem specFrom_next {T : Table} (L : List Sd50.Begun) : ∀ d, specFrom T L (d + 1) = specFrom T (Sd50.onward T (L.filter fun x => !x.2.isEmpty)) d
  | 0 => rfl
  | d + 1 => by
    show Sd50.onward T ((specFrom T L (d + 1)).filter _) = _
    rw [specFrom_next L d]
    rfl
theorem specFrom_nil {T : Table} : ∀ d, specFrom T [] d = []
  | 0 => rfl
  | d + 1 => by
    show Sd50.onward T ((specFrom T [] d).filter _) = []
    rw [specFrom_nil d]
    rfl
theorem few_from {T : Table} : ∀ (f : Nat) (L : List Sd50.Begun), Sd50Neutral.fewRows T f L = true → ∀ d, d ≤ f → (specFrom T L d).length ≤ 2000
  | f, L, h, 0, _ => few_level f L h
  | 0, L, h, d + 1, hd => by omega
  | f + 1, L, h, d + 1, hd => by
    obtain ⟨_, h2⟩ := Bool.and_eq_true_iff.mp h
    rw [specFrom_next]
    rcases Bool.or_eq_true_iff.mp h2 with h2 | h2
    · have : L = [] := List.isEmpty_iff.mp h2
      subst this
      show (specFrom T [] d).length ≤ 2000
      rw [specFrom_nil]
      exact Nat.zero_le _
    · exact few_from f _ h2 d (by omega)
theorem specLevel_from {T : Table} {cells : List Nat} : ∀ d, specLevel T cells d = specFrom T [([], cells)] d
  | 0 => rfl
  | d + 1 => by
    show Sd50.onward T ((specLevel T cells d).filter _) = _
    rw [specLevel_from d]
    rfl
theorem level_few {T : Table} (G : Good T) {cells : List Nat} (h : Sd50Neutral.fewRows T cells.length [([], cells)] = true) (d : Nat) : (level T cells d).length ≤ 2000 := by
  by_cases hd : d ≤ cells.length
  · have h1 := (level_sub G (cells := cells) d).length_le
    rw [List.length_map, specLevel_from] at h1
    have h2 := few_from _ _ h d hd
    omega
  · have := (level_nil (level_end G (T := T) (cells := cells)) (d - (cells.length + 1))).1
    rw [show cells.length + 1 + (d - (cells.length + 1)) = d by omega] at this
    rw [this]
    exact Nat.zero_le _
theorem texts_few {T : Table} (G : Good T) {cells : List Nat} (h : Sd50Neutral.fewRows T cells.length [([], cells)] = true) : ∀ n, (textsUpTo T cells n).length ≤ 2000 * n
  | 0 => Nat.zero_le _
  | n + 1 => by
    have ih := texts_few G h n
    show (textsUpTo T cells n ++ told T cells (level T cells n)).length ≤ _
    rw [List.length_append]
    have h1 : (told T cells (level T cells n)).length ≤ (level T cells n).length := by
      unfold told
      rw [List.length_map]
      exact List.length_filter_le _ _
    have := level_few G h n
    omega
end RC
set_option linter.all false
/-! # Part D: tables read -/
namespace RC
open Sd50 (Table Rule Sign)

/-! ### pieces -/
theorem pieces_ne (c : Nat) : ∀ l, Sd50.pieces c l ≠ []
  | [] => fun h => nomatch h
  | x :: r => by
    intro h
    unfold Sd50.pieces at h
    split at h
    · split at h <;> cases h
    · cases h
theorem pieces_cons {c x : Nat} {r : List Nat} {p : List Nat} {ps : List (List Nat)} (h : Sd50.pieces c r = p :: ps) : Sd50.pieces c (x :: r) = if x = c then [] :: p :: ps else (x :: p) :: ps := by
  show (match Sd50.pieces c r with
    | p :: ps => if x = c then [] :: p :: ps else (x :: p) :: ps
    | [] => [[x]]) = _
  rw [h]
/-- a byte behind: the separator begins a new piece, another goes to the last -/
theorem pieces_snoc (c x : Nat) : ∀ l, ∃ (as : List (List Nat)) (a : List Nat), Sd50.pieces c l = as ++ [a] ∧ Sd50.pieces c (l ++ [x]) = if x = c then as ++ [a] ++ [[]] else as ++ [a ++ [x]]
  | [] => ⟨[], [], rfl, by
      show Sd50.pieces c [x] = _
      rw [pieces_cons (p := []) (ps := []) rfl]
      by_cases h : x = c
      · rw [if_pos h, if_pos h]; rfl
      · rw [if_neg h, if_neg h]; rfl⟩
  | y :: l => by
    obtain ⟨as, a, e1, e2⟩ := pieces_snoc c x l
    cases as with
    | nil =>
      have e1 : Sd50.pieces c l = a :: [] := e1
      have k1 := pieces_cons (x := y) e1
      by_cases hy : y = c
      · rw [if_pos hy] at k1
        refine ⟨[[]], a, k1, ?_⟩
        by_cases hx : x = c
        · rw [if_pos hx] at e2 ⊢
          have e2 : Sd50.pieces c (l ++ [x]) = a :: [[]] := e2
          show Sd50.pieces c (y :: (l ++ [x])) = _
          rw [pieces_cons e2, if_pos hy]
          rfl
        · rw [if_neg hx] at e2 ⊢
          have e2 : Sd50.pieces c (l ++ [x]) = (a ++ [x]) :: [] := e2
          show Sd50.pieces c (y :: (l ++ [x])) = _
          rw [pieces_cons e2, if_pos hy]
          rfl
      · rw [if_neg hy] at k1
        refine ⟨[], y :: a, k1, ?_⟩
        by_cases hx : x = c
        · rw [if_pos hx] at e2 ⊢
          have e2 : Sd50.pieces c (l ++ [x]) = a :: [[]] := e2
          show Sd50.pieces c (y :: (l ++ [x])) = _
          rw [pieces_cons e2, if_neg hy]
          rfl
        · rw [if_neg hx] at e2 ⊢
          have e2 : Sd50.pieces c (l ++ [x]) = (a ++ [x]) :: [] := e2
          show Sd50.pieces c (y :: (l ++ [x])) = _
          rw [pieces_cons e2, if_neg hy]
          rfl
    | cons b bs =>
      have e1 : Sd50.pieces c l = b :: (bs ++ [a]) := e1
      have k1 := pieces_cons (x := y) e1
      by_cases hy : y = c
      · rw [if_pos hy] at k1
        refine ⟨[] :: b :: bs, a, k1, ?_⟩
        by_cases hx : x = c
        · rw [if_pos hx] at e2 ⊢
          have e2 : Sd50.pieces c (l ++ [x]) = b :: (bs ++ [a] ++ [[]]) := e2
          show Sd50.pieces c (y :: (l ++ [x])) = _
          rw [pieces_cons e2, if_pos hy]
          rfl
        · rw [if_neg hx] at e2 ⊢
          have e2 : Sd50.pieces c (l ++ [x]) = b :: (bs ++ [a ++ [x]]) := e2
          show Sd50.pieces c (y :: (l ++ [x])) = _
          rw [pieces_cons e2, if_pos hy]
          rfl
      · rw [if_neg hy] at k1
        refine ⟨(y :: b) :: bs, a, k1, ?_⟩
        by_cases hx : x = c
        · rw [if_pos hx] at e2 ⊢
          have e2 : Sd50.pieces c (l ++ [x]) = b :: (bs ++ [a] ++ [[]]) := e2
          show Sd50.pieces c (y :: (l ++ [x])) = _
          rw [pieces_cons e2, if_neg hy]
          rfl
        · rw [if_neg hx] at e2 ⊢
          have e2 : Sd50.pieces c (l ++ [x]) = b :: (bs ++ [a ++ [x]]) := e2
          show Sd50.pieces c (y :: (l ++ [x])) = _
          rw [pieces_cons e2, if_neg hy]
          rfl
theorem pieces_len (c : Nat) : ∀ l, (Sd50.pieces c l).length ≤ l.length + 1
  | [] => Nat.le_refl _
  | x :: r => by
    have ih := pieces_len c r
    cases e : Sd50.pieces c r with
    | nil => exact absurd e (pieces_ne c r)
    | cons p ps =>
      rw [pieces_cons e]
      rw [e] at ih
      split
      · simp only [List.length_cons] at ih ⊢; omega
      · simp only [List.length_cons] at ih ⊢; omega
theorem pieces_each (c : Nat) : ∀ l p, p ∈ Sd50.pieces c l → p.length ≤ l.length ∧ ∀ x ∈ p, x ∈ l
  | [], p, h => by
    have : p = [] := List.mem_singleton.mp h
    subst this
    exact ⟨Nat.le_refl _, fun x hx => hx⟩
  | x :: r, p, h => by
    have ih := pieces_each c r
    cases e : Sd50.pieces c r with
    | nil => exact absurd e (pieces_ne c r)
    | cons q qs =>
      rw [pieces_cons e] at h
      rw [e] at ih
      split at h
      · rcases List.mem_cons.mp h with rfl | h
        · exact ⟨Nat.zero_le _, fun y hy => nomatch hy⟩
        · have := ih p h
          exact ⟨Nat.le_succ_of_le this.1, fun y hy => List.mem_cons_of_mem _ (this.2 y hy)⟩
      · rcases List.mem_cons.mp h with rfl | h
        · have := ih q List.mem_cons_self
          exact ⟨Nat.succ_le_succ this.1, fun y hy => (List.mem_cons.mp hy).elim (fun z => by rw [z]; exact List.mem_cons_self) fun z => List.mem_cons_of_mem _ (this.2 y z)⟩
        · have := ih p (List.mem_cons_of_mem _ h)
          exact ⟨Nat.le_succ_of_le this.1, fun y hy => List.mem_cons_of_mem _ (this.2 y hy)⟩

/-! ### words -/
theorem blanks_len (b : List Nat) : (Sd50.blanks b).length = b.length := List.length_map _
theorem unlike_iff : ∀ b : List Nat, Sd50.unlike b = true ↔ b.Nodup
  | [] => ⟨fun _ => List.Pairwise.nil, fun _ => rfl⟩
  | c :: l => by
    show (!l.contains c && Sd50.unlike l) = true ↔ _
    rw [Bool.and_eq_true, unlike_iff l, List.nodup_cons]
    simp
theorem blanks_inj {a b : Nat} (ha : Sd50.isByte a = true) (hb : Sd50.isByte b = true) (h : (if a = 95 then 32 else a) = if b = 95 then 32 else b) : a = b := by
  unfold Sd50.isByte at ha hb
  simp only [Bool.and_eq_true, decide_eq_true_eq] at ha hb
  split at h <;> split at h <;> omega
theorem blanks_nodup {b : List Nat} (h : b.all Sd50.isByte = true) : (Sd50.blanks b).Nodup ↔ b.Nodup := by
  have h := List.all_eq_true.mp h
  unfold Sd50.blanks
  constructor
  · intro n
    have n := List.pairwise_map.mp n
    exact n.imp fun {x y} q e => q (by rw [e])
  · intro n
    refine List.pairwise_map.mpr (List.Pairwise.imp_of_mem ?_ n)
    intro x y hx hy q e
    exact q (blanks_inj (h x hx) (h y hy) e)
theorem letters_read (b : List Nat) : Sd50.lettersRead b = if b.all Sd50.isByte = true then (if (Sd50.blanks b).Nodup then some (Sd50.blanks b) else none) else none := by
  unfold Sd50.lettersRead
  by_cases h : b.all Sd50.isByte = true
  · rw [if_pos h]
    by_cases n : (Sd50.blanks b).Nodup
    · rw [if_pos n, if_pos ⟨h, (unlike_iff b).mpr ((blanks_nodup h).mp n)⟩]
    · rw [if_neg n, if_neg fun z => n ((blanks_nodup h).mpr ((unlike_iff b).mp z.2))]
  · rw [if_neg h, if_neg fun z => h z.1]

/-! ### a cell -/
def readCell (p : List Nat) : Option Nat := (Sd50.number p).bind fun n => if n ≤ 63 then some n else none
theorem digit_iff {c : Nat} : Sd50.isDigit c = true ↔ 48 ≤ c ∧ c ≤ 57 := by
  unfold Sd50.isDigit
  simp only [Bool.and_eq_true, decide_eq_true_eq]
theorem natOf_snoc (l : List Nat) (x : Nat) : Sd50.natOf (l ++ [x]) = 10 * Sd50.natOf l + (x - 48) := by
  unfold Sd50.natOf
  rw [List.foldl_append]
  rfl
theorem foldl_ge : ∀ (l : List Nat) (v : Nat), v ≤ l.foldl (fun v c => 10 * v + (c - 48)) v
  | [], v => Nat.le_refl _
  | x :: l, v => by
    have := foldl_ge l (10 * v + (x - 48))
    rw [List.foldl_cons]
    omega
theorem natOf_big {p : List Nat} (h : 2 < p.length) (hd : p.all Sd50.isDigit = true) (h0 : p.head? ≠ some 48) : 63 < Sd50.natOf p := by
  match p, h, hd, h0 with
  | a :: b :: c :: l, _, hd, h0 =>
    have hd := List.all_eq_true.mp hd
    have ha := digit_iff.mp (hd a (by simp))
    have h0 : a ≠ 48 := fun e => h0 (by rw [e]; rfl)
    have e : Sd50.natOf (a :: b :: c :: l) = l.foldl (fun v c => 10 * v + (c - 48)) (10 * (10 * (10 * 0 + (a - 48)) + (b - 48)) + (c - 48)) := rfl
    rw [e]
    have := foldl_ge l (10 * (10 * (10 * 0 + (a - 48)) + (b - 48)) + (c - 48))
    omega
theorem readCell_eq (p : List Nat) : readCell p = if (p ≠ [] ∧ p.all Sd50.isDigit = true) ∧ (p.length = 1 ∨ p.head? ≠ some 48) ∧ Sd50.natOf p ≤ 63 then some (Sd50.natOf p) else none := by
  unfold readCell Sd50.number
  by_cases c : (p ≠ [] ∧ p.all Sd50.isDigit = true) ∧ (p.length = 1 ∨ p.head? ≠ some 48) ∧ Sd50.natOf p ≤ 63
  · obtain ⟨⟨h1, h2⟩, h3, h4⟩ := c
    rw [if_pos (show (p ≠ [] ∧ p.all Sd50.isDigit = true) ∧ (p.length = 1 ∨ p.head? ≠ some 48) ∧ Sd50.natOf p ≤ 63 from ⟨⟨h1, h2⟩, h3, h4⟩)]
    have d : ¬ (p = [] ∨ 2 < p.length ∨ p.all Sd50.isDigit = false ∨ 1 < p.length ∧ p.head? = some 48) := ?_
    · rw [if_neg d]
      show (if Sd50.natOf p ≤ 63 then some (Sd50.natOf p) else none) = _
      rw [if_pos h4]
    · rintro (q | q | q | ⟨q1, q2⟩)
      · exact h1 q
      · have h0 : p.head? ≠ some 48 := by
          rcases h3 with h3 | h3
          · omega
          · exact h3
        have := natOf_big q h2 h0
        omega
      · rw [h2] at q
        cases q
      · rcases h3 with h3 | h3
        · omega
        · exact h3 q2
  · rw [if_neg c]
    by_cases d : p = [] ∨ 2 < p.length ∨ p.all Sd50.isDigit = false ∨ 1 < p.length ∧ p.head? = some 48
    · rw [if_pos d]
      rfl
    · rw [if_neg d]
      show (if Sd50.natOf p ≤ 63 then some (Sd50.natOf p) else none) = _
      rw [if_neg]
      intro h4
      refine c ⟨⟨fun e => d (.inl e), ?_⟩, ?_, h4⟩
      · cases e : p.all Sd50.isDigit with
        | true => rfl
        | false => exact absurd (.inr (.inr (.inl e))) d
      · by_cases l1 : p.length = 1
        · exact .inl l1
        · refine .inr fun e => d (.inr (.inr (.inr ⟨?_, e⟩)))
          have : p.length ≠ 0 := fun z => d (.inl (List.length_eq_zero_iff.mp z))
          omega
theorem cells_read (b : List Nat) : Sd50.cellsRead b = if 4 < (Sd50.pieces 44 b).length then none else (Sd50.pieces 44 b).mapM readCell := rfl
theorem mapM_snoc {f : List Nat → Option Nat} {l : List (List Nat)} {x : List Nat} {vs : List Nat} (h : l.mapM f = some vs) : (l ++ [x]).mapM f = (f x).map fun v => vs ++ [v] := by
  rw [List.mapM_append, h]
  cases e : f x with
  | none => simp [e]
  | some v => simp [e]
theorem mapM_none {f : List Nat → Option Nat} {l l' : List (List Nat)} (h : l.mapM f = none) : (l ++ l').mapM f = none := by
  rw [List.mapM_append, h]
  rfl
theorem mapM_len {f : List Nat → Option Nat} : ∀ {l : List (List Nat)} {vs : List Nat}, l.mapM f = some vs → vs.length = l.length
  | [], vs, h => by
    have : vs = [] := by simpa using h.symm
    subst this
    rfl
  | x :: l, vs, h => by
    rw [List.mapM_cons] at h
    cases e : f x with
    | none => rw [e] at h; cases h
    | some v =>
      rw [e] at h
      cases e2 : l.mapM f with
      | none => rw [e2] at h; cases h
      | some ws =>
        rw [e2] at h
        cases h
        rw [List.length_cons, List.length_cons, mapM_len e2]
theorem cellsRead_ok {b : List Nat} {cs : List Nat} (h : Sd50.cellsRead b = some cs) : cs ≠ [] ∧ cs.length ≤ 4 := by
  rw [cells_read] at h
  split at h
  · cases h
  · rename_i c
    have := mapM_len h
    constructor
    · intro e
      subst e
      exact pieces_ne 44 b (List.length_eq_zero_iff.mp this.symm)
    · omega

/-! ### places -/
def placeSigns : List Nat := [97, 119, 98, 101, 105]
theorem placeOf_lt {c p : Nat} (h : Sd50.placeOf c = some p) : p < 5 := by
  unfold Sd50.placeOf at h
  have := (List.findIdx?_eq_some_iff_findIdx_eq.mp h).1
  simpa using this

/-! ### a line -/
theorem lineRead_good {T U : Table} {b : List Nat} (G : Good T) (h : Sd50.lineRead T b = some U) : Good U := by
  unfold Sd50.lineRead at h
  split at h
  · rename_i k w c hp
    split at h
    · cases e1 : Sd50.lettersRead w with
      | none => rw [e1] at h; cases h
      | some w' =>
        rw [e1] at h
        cases e2 : Sd50.cellsRead c with
        | none => rw [e2] at h; cases h
        | some cs =>
          rw [e2] at h
          have h : (if w' ≠ [] ∧ T.signs.length < Sd50.SIGNS then some { T with signs := T.signs ++ [⟨w', cs⟩] } else none) = some U := h
          split at h
          · rename_i q
            cases h
            have q2 : T.signs.length < 4 := q.2
            refine ⟨G.nr, ?_, G.rule, fun s hs => ?_⟩
            · show (T.signs ++ [_]).length ≤ 4
              rw [List.length_append]
              show T.signs.length + 1 ≤ 4
              omega
            · rcases List.mem_append.mp hs with hs | hs
              · exact G.sign s hs
              · rw [List.mem_singleton.mp hs]
                exact (cellsRead_ok e2).2
          · cases h
    · split at h
      · rename_i x _
        cases e0 : Sd50.placeOf x with
        | none => rw [e0] at h; cases h
        | some p =>
          rw [e0] at h
          cases e1 : Sd50.wordRead w with
          | none => rw [e1] at h; cases h
          | some w' =>
            rw [e1] at h
            cases e2 : Sd50.cellsRead c with
            | none => rw [e2] at h; cases h
            | some cs =>
              rw [e2] at h
              have h : (if T.rules.length < Sd50.RULES ∧ T.rules.any (fun r => r.place == p && r.text == w') = false then some { T with rules := T.rules ++ [⟨p, w', cs⟩] } else none) = some U := h
              split at h
              · rename_i q
                cases h
                have q2 : T.rules.length < 64 := q.1
                refine ⟨?_, G.ns, fun r hr => ?_, G.sign⟩
                · show (T.rules ++ [_]).length ≤ 64
                  rw [List.length_append]
                  show T.rules.length + 1 ≤ 64
                  omega
                · rcases List.mem_append.mp hr with hr | hr
                  · exact G.rule r hr
                  · rw [List.mem_singleton.mp hr]
                    unfold Sd50.wordRead at e1
                    split at e1
                    · rename_i q3
                      cases e1
                      have c3 := cellsRead_ok e2
                      refine ⟨placeOf_lt e0, fun z => q3.1 ?_, ?_, c3.1, c3.2⟩
                      · have z : Sd50.blanks w = [] := z
                        exact List.map_eq_nil_iff.mp z
                      · show (Sd50.blanks w).length ≤ 16
                        rw [blanks_len]
                        exact q3.2.1
                    · cases e1
              · cases h
      · cases h
  · cases h
theorem good_empty (l : List Nat) : Good ⟨l, [], []⟩ := ⟨Nat.zero_le _, Nat.zero_le _, fun r hr => (nomatch hr), fun s hs => (nomatch hs)⟩

/-! ### all lines -/
theorem linesOf_nil : Sd50.linesOf [] = [] := rfl
theorem linesOf_ne {b : List Nat} (h : b ≠ []) : Sd50.linesOf b ≠ [] := by
  unfold Sd50.linesOf
  dsimp only
  obtain ⟨l, x, rfl⟩ : ∃ l x, b = l ++ [x] := ⟨b.dropLast, b.getLast h, (List.dropLast_concat_getLast h).symm⟩
  obtain ⟨as, a, e1, e2⟩ := pieces_snoc 10 x l
  rw [e2]
  by_cases hx : x = 10
  · rw [if_pos hx, if_pos (by simp)]
    simp
  · rw [if_neg hx, if_neg (by simp)]
    simp
theorem read_nil : Sd50.read [] = .error 1 := rfl
/-- what is read from the line i on -/
def readFrom (i : Nat) (T : Table) (rest : List (List Nat)) : Except Nat Table := match i with
  | 0 => (match rest with
    | [] => .error 1
    | h :: r => match Sd50.lettersRead h with
      | none => .error 1
      | some l => Sd50.linesRead 2 ⟨l, T.signs, T.rules⟩ r)
  | i + 1 => Sd50.linesRead (i + 2) T rest
theorem read_from (b : List Nat) : Sd50.read b = readFrom 0 ⟨[], [], []⟩ (Sd50.linesOf b) := by
  unfold Sd50.read readFrom
  rfl
theorem readFrom_nil {i : Nat} {T : Table} (h : 0 < i) : readFrom i T [] = .ok T := by
  cases i with
  | zero => omega
  | succ i => rfl
/-- the line i taken into the table -/
def takeLine (i : Nat) (T : Table) (b : List Nat) : Option Table := match i with
  | 0 => (Sd50.lettersRead b).map fun l => ⟨l, T.signs, T.rules⟩
  | _ + 1 => Sd50.lineRead T b
theorem readFrom_cons {i : Nat} {T : Table} {b : List Nat} {r : List (List Nat)} : readFrom i T (b :: r) = match takeLine i T b with
    | none => .error (i + 1)
    | some U => readFrom (i + 1) U r := by
  cases i with
  | zero =>
    unfold takeLine
    show (match Sd50.lettersRead b with
      | none => Except.error 1
      | some l => Sd50.linesRead 2 ⟨l, T.signs, T.rules⟩ r) = _
    cases Sd50.lettersRead b with
    | none => rfl
    | some l => rfl
  | succ i => rfl
theorem takeLine_good {i : Nat} {T U : Table} {b : List Nat} (G : Good T) (h : takeLine i T b = some U) : Good U := by
  cases i with
  | zero =>
    have h : (Sd50.lettersRead b).map (fun l => (⟨l, T.signs, T.rules⟩ : Table)) = some U := h
    cases e : Sd50.lettersRead b with
    | none => rw [e] at h; cases h
    | some l =>
      rw [e] at h
      cases h
      exact ⟨G.nr, G.ns, G.rule, G.sign⟩
  | succ i => exact lineRead_good G h
theorem read_good {b : List Nat} {T : Table} (h : Sd50.read b = .ok T) : Good T := by
  rw [read_from] at h
  have key : ∀ (l : List (List Nat)) (i : Nat) (U : Table), Good U → readFrom i U l = .ok T → Good T := by
    intro l
    induction l with
    | nil =>
      intro i U G h
      cases i with
      | zero => cases h
      | succ i => cases h; exact G
    | cons b r ih =>
      intro i U G h
      rw [readFrom_cons] at h
      cases e : takeLine i U b with
      | none => rw [e] at h; cases h
      | some U' =>
        rw [e] at h
        exact ih (i + 1) U' (takeLine_good G e) h
  exact key _ 0 _ (good_empty []) h
end RC
set_option linter.all false
/-! # Part E: the list of calls -/
namespace RC
open Sd50 (Table Rule Sign)

def intsOf (l : List Nat) : List Int := l.map fun (x : Nat) => (x : Int)
/-- a call that is no begin: its number, its whole numbers, its list -/
structure Req where
  num : Nat
  k : Int
  most : Int
  told : List Nat
def Req.flat (q : Req) : List Int := if q.num = 5 then 5 :: q.k :: q.most :: (q.told.length : Int) :: intsOf q.told else (q.num : Int) :: q.most :: (q.told.length : Int) :: intsOf q.told
def Req.call (q : Req) : Sd50.Call :=
  if q.num = 1 then .write q.told q.told.length q.most
  else if q.num = 2 then .rules q.told q.told.length q.most
  else if q.num = 3 then .least q.told q.told.length q.most
  else if q.num = 4 then .count q.told q.told.length q.most
  else .read q.told q.told.length q.k q.most
def ansOf (T : Table) (q : Req) : List Int := let x := (Sd50.does (some T) q.call).2
  x.ret :: intsOf x.out
structure ReqOk (T : Table) (q : Req) : Prop where
  lo : 1 ≤ q.num
  hi : q.num ≤ 5
  k0 : q.num ≠ 5 → q.k = 0
  byte : ∀ c ∈ q.told, c ≤ 255
  len : q.told.length ≤ 256
  few : 4 ≤ q.num → q.told.length ≤ 64 ∧ ((∃ c ∈ q.told, 63 < c) ∨ Sd50Neutral.fewRows T q.told.length [([], q.told)] = true)
theorem ints_nats {l : List Int} (h : ∀ x ∈ l, 0 ≤ x) : intsOf (Sd50Neutral.nats l) = l := by
  unfold intsOf Sd50Neutral.nats
  rw [List.map_map]
  refine (List.map_congr_left fun x hx => ?_).trans (List.map_id l)
  show ((x.toNat : Nat) : Int) = x
  have := h x hx
  omega
theorem ints_len (l : List Nat) : (intsOf l).length = l.length := List.length_map _
def flatC (c : List (List Int)) : List Int := match c with
  | [xs, row] => xs ++ ((row.length : Int) :: row)
  | _ => []
theorem len_two {l : List Int} (h : l.length = 2) : ∃ x y, l = [x, y] := by
  match l, h with
  | [x, y], _ => exact ⟨x, y, rfl⟩
theorem rows_one {l t : List Int} {xs : List (List Int)} (h : PyFlat.rows 1 l = some (xs, t)) : ∃ row : List Int, xs = [row] ∧ l = (row.length : Int) :: (row ++ t) := by
  have h : (match PyFlat.row l with
    | none => none
    | some (x, s) => match PyFlat.rows 0 s with
      | none => none
      | some (xs, t) => some (x :: xs, t)) = some (xs, t) := h
  cases e : PyFlat.row l with
  | none => rw [e] at h; cases h
  | some p =>
    obtain ⟨x, s⟩ := p
    rw [e] at h
    have h : some (x :: [], s) = some (xs, t) := h
    cases h
    cases l with
    | nil => cases e
    | cons n r =>
      have e : (if 0 ≤ n ∧ n.toNat ≤ r.length then some (r.take n.toNat, r.drop n.toNat) else none) = some (x, t) := e
      split at e
      · rename_i c
        cases e
        refine ⟨_, rfl, ?_⟩
        rw [List.take_append_drop, List.length_take, Nat.min_eq_left c.2]
        congr 1
        omega
      · cases e
theorem call_one {l t : List Int} {c : List (List Int)} (h : PyFlat.call PySd50.shape l = some (c, t)) : ∃ (p : Int) (xs row : List Int), c = [p :: xs, row] ∧ l = flatC c ++ t ∧ PySd50.shape p = some (xs.length, 1) := by
  cases l with
  | nil => cases h
  | cons p r =>
    have h : (match PySd50.shape p with
      | none => none
      | some (n, k) => if r.length < n then none else match PyFlat.rows k (r.drop n) with
        | none => none
        | some (xs, t) => some ((p :: r.take n) :: xs, t)) = some (c, t) := h
    cases e : PySd50.shape p with
    | none => rw [e] at h; cases h
    | some q =>
      obtain ⟨n, k⟩ := q
      rw [e] at h
      have hk : k = 1 := by
        unfold PySd50.shape at e
        repeat (split at e; · cases e; rfl)
        cases e
      subst hk
      dsimp only at h
      split at h
      · cases h
      · rename_i hn
        cases e2 : PyFlat.rows 1 (r.drop n) with
        | none => rw [e2] at h; cases h
        | some q =>
          obtain ⟨xs, t'⟩ := q
          rw [e2] at h
          cases h
          obtain ⟨row, rfl, e3⟩ := rows_one e2
          refine ⟨p, r.take n, row, rfl, ?_, ?_⟩
          · show p :: r = p :: r.take n ++ ((row.length : Int) :: row) ++ t
            have h5 := List.take_append_drop n r
            rw [e3] at h5
            have h6 : p :: r = p :: (r.take n ++ ((row.length : Int) :: (row ++ t))) := by rw [h5]
            rw [h6]
            simp only [List.cons_append, List.append_assoc]
          · rw [e, List.length_take]
            congr 2
            omega
theorem calls_flat : ∀ (f : Nat) (l : List Int) (cs : List (List (List Int))), PyFlat.calls PySd50.shape f l = some cs → l = cs.flatMap flatC ∧ ∀ c ∈ cs, ∃ (p : Int) (xs row : List Int), c = [p :: xs, row] ∧ PySd50.shape p = some (xs.length, 1)
  | f, [], cs, h => by
    have : cs = [] := by
      cases f <;> · cases h; rfl
    subst this
    exact ⟨rfl, fun c hc => (nomatch hc)⟩
  | 0, p :: r, cs, h => by cases h
  | f + 1, p :: r, cs, h => by
    have h : (match PyFlat.call PySd50.shape (p :: r) with
      | none => none
      | some (c, t) => match PyFlat.calls PySd50.shape f t with
        | none => none
        | some cs => some (c :: cs)) = some cs := h
    cases e : PyFlat.call PySd50.shape (p :: r) with
    | none => rw [e] at h; cases h
    | some q =>
      obtain ⟨c, t⟩ := q
      rw [e] at h
      dsimp only at h
      cases e2 : PyFlat.calls PySd50.shape f t with
      | none => rw [e2] at h; cases h
      | some cs' =>
        rw [e2] at h
        cases h
        obtain ⟨p', xs, row, hc, hl, hs⟩ := call_one e
        obtain ⟨i1, i2⟩ := calls_flat f t cs' e2
        refine ⟨?_, fun d hd => ?_⟩
        · rw [List.flatMap_cons, ← i1, hl]
        · rcases List.mem_cons.mp hd with rfl | hd
          · exact ⟨p', xs, row, hc, hs⟩
          · exact i2 d hd
theorem shape_cases {p : Int} {n : Nat} (h : PySd50.shape p = some (n, 1)) : (p = 0 ∧ n = 0) ∨ (p = 1 ∧ n = 1) ∨ (p = 2 ∧ n = 1) ∨ (p = 3 ∧ n = 1) ∨ (p = 4 ∧ n = 1) ∨ (p = 5 ∧ n = 2) := by
  unfold PySd50.shape at h
  split at h
  · cases h; exact .inl ⟨by assumption, rfl⟩
  split at h
  · cases h; exact .inr (.inl ⟨by assumption, rfl⟩)
  split at h
  · cases h; exact .inr (.inr (.inl ⟨by assumption, rfl⟩))
  split at h
  · cases h; exact .inr (.inr (.inr (.inl ⟨by assumption, rfl⟩)))
  split at h
  · cases h; exact .inr (.inr (.inr (.inr (.inl ⟨by assumption, rfl⟩))))
  split at h
  · cases h; exact .inr (.inr (.inr (.inr (.inr ⟨by assumption, rfl⟩))))
  · cases h
theorem within_iff {lo hi z : Int} : PyInside.within lo hi z = true ↔ lo ≤ z ∧ z ≤ hi := by
  unfold PyInside.within
  simp only [Bool.and_eq_true, decide_eq_true_eq]
/-- the call's list lies in its bounds -/
theorem bound_list {p : Int} {xs row : List Int} {lo hi : Int} {a b : Nat} {nb : List (Int × Int)} (hb : PySd50.bound p = (nb, [(lo, hi, a, b)])) (h : PyInside.call PySd50.bound [p :: xs, row] = true) : row.length ≤ b ∧ ∀ x ∈ row, lo ≤ x ∧ x ≤ hi := by
  have h : (PyInside.each (PySd50.bound p).1 xs && PyInside.lists (PySd50.bound p).2 [row]) = true := h
  rw [hb] at h
  have h2 := (Bool.and_eq_true_iff.mp h).2
  have h2 : (decide (a ≤ row.length) && decide (row.length ≤ b) && row.all (PyInside.within lo hi) && PyInside.lists [] []) = true := h2
  simp only [Bool.and_eq_true, decide_eq_true_eq, List.all_eq_true] at h2
  exact ⟨h2.1.1.2, fun x hx => within_iff.mp (h2.1.2 x hx)⟩
theorem nats_len (l : List Int) : (Sd50Neutral.nats l).length = l.length := List.length_map _
theorem nats_le {l : List Int} {b : Nat} (h : ∀ x ∈ l, 0 ≤ x ∧ x ≤ (b : Int)) : ∀ c ∈ Sd50Neutral.nats l, c ≤ b := by
  intro c hc
  obtain ⟨x, hx, rfl⟩ := List.mem_map.mp hc
  have := h x hx
  omega
theorem ints_same (l : List Nat) : Sd50Neutral.ints l = intsOf l := rfl
/-- what a call that is no begin is -/
theorem req_of {T : Table} {c : List (List Int)} {p : Int} {xs row : List Int} (hc : c = [p :: xs, row]) (hs : PySd50.shape p = some (xs.length, 1)) (h0 : p ≠ 0) (hb : PyInside.call PySd50.bound c = true)
    (hsm : Sd50Neutral.small (some T) (PySd50.whole c) = true) : ∃ q : Req, flatC c = q.flat ∧ ReqOk T q ∧ Sd50Neutral.step (some T) (PySd50.whole c) = (some T, ansOf T q) := by
  subst hc
  rcases shape_cases hs with ⟨rfl, hn⟩ | ⟨rfl, hn⟩ | ⟨rfl, hn⟩ | ⟨rfl, hn⟩ | ⟨rfl, hn⟩ | ⟨rfl, hn⟩
  · exact absurd rfl h0
  · obtain ⟨x, rfl⟩ : ∃ x, xs = [x] := List.length_eq_one_iff.mp hn
    obtain ⟨hl, hr⟩ := bound_list (p := 1) rfl hb
    have e := ints_nats fun x hx => (hr x hx).1
    refine ⟨⟨1, 0, x, Sd50Neutral.nats row⟩, ?_, ⟨(by decide : 1 ≤ 1), (by decide : 1 ≤ 5), fun _ => rfl, nats_le hr, by show (Sd50Neutral.nats row).length ≤ _; rw [nats_len]; exact hl, fun z => absurd z (by decide : ¬ 4 ≤ 1)⟩, ?_⟩
    · show [1, x] ++ ((row.length : Int) :: row) = 1 :: x :: ((Sd50Neutral.nats row).length : Int) :: intsOf (Sd50Neutral.nats row)
      rw [e, nats_len]
      rfl
    · show (_, _) = (some T, ansOf T ⟨1, 0, x, Sd50Neutral.nats row⟩)
      unfold ansOf Req.call
      dsimp only
      rw [nats_len]
      rfl
  · obtain ⟨x, rfl⟩ : ∃ x, xs = [x] := List.length_eq_one_iff.mp hn
    obtain ⟨hl, hr⟩ := bound_list (p := 2) rfl hb
    have e := ints_nats fun x hx => (hr x hx).1
    refine ⟨⟨2, 0, x, Sd50Neutral.nats row⟩, ?_, ⟨(by decide : 1 ≤ 2), (by decide : 2 ≤ 5), fun _ => rfl, nats_le hr, by show (Sd50Neutral.nats row).length ≤ _; rw [nats_len]; exact hl, fun z => absurd z (by decide : ¬ 4 ≤ 2)⟩, ?_⟩
    · show [2, x] ++ ((row.length : Int) :: row) = 2 :: x :: ((Sd50Neutral.nats row).length : Int) :: intsOf (Sd50Neutral.nats row)
      rw [e, nats_len]
      rfl
    · show (_, _) = (some T, ansOf T ⟨2, 0, x, Sd50Neutral.nats row⟩)
      unfold ansOf Req.call
      dsimp only
      rw [nats_len]
      rfl
  · obtain ⟨x, rfl⟩ : ∃ x, xs = [x] := List.length_eq_one_iff.mp hn
    obtain ⟨hl, hr⟩ := bound_list (p := 3) rfl hb
    have e := ints_nats fun x hx => (hr x hx).1
    refine ⟨⟨3, 0, x, Sd50Neutral.nats row⟩, ?_, ⟨(by decide : 1 ≤ 3), (by decide : 3 ≤ 5), fun _ => rfl, nats_le hr, by show (Sd50Neutral.nats row).length ≤ _; rw [nats_len]; exact hl, fun z => absurd z (by decide : ¬ 4 ≤ 3)⟩, ?_⟩
    · show [3, x] ++ ((row.length : Int) :: row) = 3 :: x :: ((Sd50Neutral.nats row).length : Int) :: intsOf (Sd50Neutral.nats row)
      rw [e, nats_len]
      rfl
    · show (_, _) = (some T, ansOf T ⟨3, 0, x, Sd50Neutral.nats row⟩)
      unfold ansOf Req.call
      dsimp only
      rw [nats_len]
      rfl
  · obtain ⟨x, rfl⟩ : ∃ x, xs = [x] := List.length_eq_one_iff.mp hn
    obtain ⟨hl, hr⟩ := bound_list (p := 4) rfl hb
    have e := ints_nats fun x hx => (hr x hx).1
    refine ⟨⟨4, 0, x, Sd50Neutral.nats row⟩, ?_, ⟨(by decide : 1 ≤ 4), (by decide : 4 ≤ 5), fun _ => rfl, nats_le hr, by show (Sd50Neutral.nats row).length ≤ _; rw [nats_len]; omega, fun _ => ⟨by show (Sd50Neutral.nats row).length ≤ _; rw [nats_len]; exact hl, ?_⟩⟩, ?_⟩
    · show [4, x] ++ ((row.length : Int) :: row) = 4 :: x :: ((Sd50Neutral.nats row).length : Int) :: intsOf (Sd50Neutral.nats row)
      rw [e, nats_len]
      rfl
    · have hsm : (!Sd50.within 64 (row.length : Int) || ((Sd50Neutral.nats row).any (fun x => decide (63 < x)) || Sd50Neutral.fewRows T (Sd50Neutral.nats row).length [([], Sd50Neutral.nats row)])) = true := hsm
      have hw : Sd50.within 64 (row.length : Int) = true := by
        unfold Sd50.within
        simp only [Bool.and_eq_true, decide_eq_true_eq]
        omega
      rw [hw, Bool.not_true, Bool.false_or, Bool.or_eq_true] at hsm
      rcases hsm with h | h
      · obtain ⟨c, h1, h2⟩ := List.any_eq_true.mp h
        exact .inl ⟨c, h1, of_decide_eq_true h2⟩
      · exact .inr h
    · show (_, _) = (some T, ansOf T ⟨4, 0, x, Sd50Neutral.nats row⟩)
      unfold ansOf Req.call
      dsimp only
      rw [nats_len]
      rfl
  · obtain ⟨x, y, rfl⟩ : ∃ x y, xs = [x, y] := len_two hn
    obtain ⟨hl, hr⟩ := bound_list (p := 5) rfl hb
    have e := ints_nats fun x hx => (hr x hx).1
    refine ⟨⟨5, x, y, Sd50Neutral.nats row⟩, ?_, ⟨(by decide : 1 ≤ 5), (by decide : 5 ≤ 5), fun z => absurd rfl z, nats_le hr, by show (Sd50Neutral.nats row).length ≤ _; rw [nats_len]; omega, fun _ => ⟨by show (Sd50Neutral.nats row).length ≤ _; rw [nats_len]; exact hl, ?_⟩⟩, ?_⟩
    · show [5, x, y] ++ ((row.length : Int) :: row) = 5 :: x :: y :: ((Sd50Neutral.nats row).length : Int) :: intsOf (Sd50Neutral.nats row)
      rw [e, nats_len]
      rfl
    · have hsm : (!Sd50.within 64 (row.length : Int) || ((Sd50Neutral.nats row).any (fun x => decide (63 < x)) || Sd50Neutral.fewRows T (Sd50Neutral.nats row).length [([], Sd50Neutral.nats row)])) = true := hsm
      have hw : Sd50.within 64 (row.length : Int) = true := by
        unfold Sd50.within
        simp only [Bool.and_eq_true, decide_eq_true_eq]
        omega
      rw [hw, Bool.not_true, Bool.false_or, Bool.or_eq_true] at hsm
      rcases hsm with h | h
      · obtain ⟨c, h1, h2⟩ := List.any_eq_true.mp h
        exact .inl ⟨c, h1, of_decide_eq_true h2⟩
      · exact .inr h
    · show (_, _) = (some T, ansOf T ⟨5, x, y, Sd50Neutral.nats row⟩)
      unfold ansOf Req.call
      dsimp only
      rw [nats_len]
      rfl
def answered (a : List Int) : List Int := (a.length : Int) :: a
/-- the calls behind begin -/
theorem reqs_of {T : Table} : ∀ (cs : List (List (List Int))), (∀ c ∈ cs, ∃ (p : Int) (xs row : List Int), c = [p :: xs, row] ∧ PySd50.shape p = some (xs.length, 1) ∧ p ≠ 0) → (∀ c ∈ cs, PyInside.call PySd50.bound c = true) →
    Sd50Neutral.smallAll (some T) (cs.map PySd50.whole) = true → ∃ reqs : List Req, reqs.length = cs.length ∧ cs.flatMap flatC = reqs.flatMap Req.flat ∧ (∀ q ∈ reqs, ReqOk T q) ∧
      PyFlat.told (PyFlat.played Sd50Neutral.step (some T) (cs.map PySd50.whole)) = reqs.flatMap fun q => answered (ansOf T q)
  | [], _, _, _ => ⟨[], rfl, rfl, fun q hq => (nomatch hq), rfl⟩
  | c :: cs, h1, h2, h3 => by
    obtain ⟨p, xs, row, hc, hs, h0⟩ := h1 c List.mem_cons_self
    have h3 : (Sd50Neutral.small (some T) (PySd50.whole c) && Sd50Neutral.smallAll (Sd50Neutral.step (some T) (PySd50.whole c)).1 (cs.map PySd50.whole)) = true := h3
    obtain ⟨h3a, h3b⟩ := Bool.and_eq_true_iff.mp h3
    obtain ⟨q, e1, ok, e2⟩ := req_of hc hs h0 (h2 c List.mem_cons_self) h3a
    rw [e2] at h3b
    obtain ⟨reqs, i1, i2, i3, i4⟩ := reqs_of cs (fun d hd => h1 d (List.mem_cons_of_mem _ hd)) (fun d hd => h2 d (List.mem_cons_of_mem _ hd)) h3b
    refine ⟨q :: reqs, by rw [List.length_cons, List.length_cons, i1], by rw [List.flatMap_cons, List.flatMap_cons, e1, i2], fun d hd => (List.mem_cons.mp hd).elim (fun z => by rw [z]; exact ok) (i3 d), ?_⟩
    rw [List.flatMap_cons, ← i4]
    show PyFlat.told ((Sd50Neutral.step (some T) (PySd50.whole c)).2 :: PyFlat.played Sd50Neutral.step (Sd50Neutral.step (some T) (PySd50.whole c)).1 (cs.map PySd50.whole)) = _
    rw [e2]
    rfl
/-- what is asked, and what is due, as a table's bytes and a list of requests -/
theorem asked_is {ns : List Int} (h : PySd50.answers_asked ns = true) : ∃ (tb : List Nat) (reqs : List Req), ns = 0 :: (tb.length : Int) :: (intsOf tb ++ reqs.flatMap Req.flat) ∧ (∀ c ∈ tb, c ≤ 255) ∧ tb.length ≤ 4096 ∧ reqs.length ≤ 300 ∧
    match Sd50.read tb with
    | .error k => reqs = [] ∧ PySd50.answers ns = [1, -100 - (k : Int)]
    | .ok T => (∀ q ∈ reqs, ReqOk T q) ∧ PySd50.answers ns = 1 :: 0 :: reqs.flatMap fun q => answered (ansOf T q) := by
  have ha : PySd50.answers ns = match PySd50.calls ns with
    | none => []
    | some cs => PyFlat.told (PyFlat.played Sd50Neutral.step Sd50Neutral.start cs) := rfl
  unfold PySd50.calls at ha
  unfold PySd50.answers_asked at h
  cases e : PyFlat.calls PySd50.shape ns.length ns with
  | none => rw [e] at h; cases h
  | some raw =>
    rw [e] at h ha
    dsimp only at h ha
    obtain ⟨hns, hcs⟩ := calls_flat _ _ _ e
    simp only [Bool.and_eq_true] at h
    obtain ⟨⟨⟨⟨h1, h2⟩, h3⟩, h4⟩, _⟩ := h
    have h2 : raw.length ≤ 300 := of_decide_eq_true h2
    have h3 : ∀ c ∈ raw, PyInside.call PySd50.bound c = true := List.all_eq_true.mp h3
    cases raw with
    | nil => cases h1
    | cons c cs =>
      obtain ⟨p, xs, row, hc, hs⟩ := hcs c List.mem_cons_self
      unfold Sd50Neutral.asked at h4
      simp only [Bool.and_eq_true, List.map_cons] at h4
      obtain ⟨_, hsm, _, hno, hfirst⟩ := h4
      -- the first is begin
      have hp : p = 0 ∧ xs = [] := by
        subst hc
        rcases shape_cases hs with ⟨rfl, hn⟩ | ⟨rfl, hn⟩ | ⟨rfl, hn⟩ | ⟨rfl, hn⟩ | ⟨rfl, hn⟩ | ⟨rfl, hn⟩
        · exact ⟨rfl, List.length_eq_zero_iff.mp hn⟩
        · obtain ⟨x, rfl⟩ : ∃ x, xs = [x] := List.length_eq_one_iff.mp hn
          cases hfirst
        · obtain ⟨x, rfl⟩ : ∃ x, xs = [x] := List.length_eq_one_iff.mp hn
          cases hfirst
        · obtain ⟨x, rfl⟩ : ∃ x, xs = [x] := List.length_eq_one_iff.mp hn
          cases hfirst
        · obtain ⟨x, rfl⟩ : ∃ x, xs = [x] := List.length_eq_one_iff.mp hn
          cases hfirst
        · obtain ⟨x, y, rfl⟩ : ∃ x y, xs = [x, y] := len_two hn
          cases hfirst
      obtain ⟨rfl, rfl⟩ := hp
      subst hc
      obtain ⟨hl, hr⟩ := bound_list (p := 0) rfl (h3 _ List.mem_cons_self)
      have er := ints_nats fun x hx => (hr x hx).1
      have hw : Sd50.within Sd50.TEXT (row.length : Int) = true := by
        unfold Sd50.within Sd50.TEXT
        simp only [Bool.and_eq_true, decide_eq_true_eq]
        omega
      have hstep : Sd50Neutral.step Sd50Neutral.start (PySd50.whole [[0], row]) = match Sd50.read (Sd50Neutral.nats row) with
          | .error k => (none, [-100 - (k : Int)])
          | .ok T => (some T, [0]) := by
        show (let x := Sd50.does none (.begin_ (Sd50Neutral.nats row) (row.length : Int)); (x.1, x.2.ret :: Sd50Neutral.ints x.2.out)) = _
        unfold Sd50.does
        dsimp only
        rw [if_neg (by rw [hw]; exact fun z => nomatch z)]
        cases Sd50.read (Sd50Neutral.nats row) with
        | error k => rfl
        | ok T => rfl
      have hfirst : ((cs.map PySd50.whole).isEmpty || ((Sd50Neutral.step Sd50Neutral.start (PySd50.whole [[0], row])).2 == [0])) = true := hfirst
      have hsm : (Sd50Neutral.small Sd50Neutral.start (PySd50.whole [[0], row]) && Sd50Neutral.smallAll (Sd50Neutral.step Sd50Neutral.start (PySd50.whole [[0], row])).1 (cs.map PySd50.whole)) = true := hsm
      have hsm := (Bool.and_eq_true_iff.mp hsm).2
      have ha : PySd50.answers ns = PyFlat.told ((Sd50Neutral.step Sd50Neutral.start (PySd50.whole [[0], row])).2 :: PyFlat.played Sd50Neutral.step (Sd50Neutral.step Sd50Neutral.start (PySd50.whole [[0], row])).1 (cs.map PySd50.whole)) := ha
      have hflat : ns = 0 :: ((Sd50Neutral.nats row).length : Int) :: (intsOf (Sd50Neutral.nats row) ++ cs.flatMap flatC) := by
        rw [er, nats_len, hns]
        rfl
      rw [hstep] at hfirst hsm ha
      have hlen : (Sd50Neutral.nats row).length ≤ 4096 := by rw [nats_len]; exact hl
      cases er2 : Sd50.read (Sd50Neutral.nats row) with
      | error k =>
        rw [er2] at hfirst hsm ha
        dsimp only at hfirst hsm ha
        have hcs0 : cs = [] := by
          rcases Bool.or_eq_true_iff.mp hfirst with z | z
          · exact List.map_eq_nil_iff.mp (List.isEmpty_iff.mp z)
          · have z := eq_of_beq z
            have : -100 - (k : Int) = 0 := List.head_eq_of_cons_eq z
            omega
        subst hcs0
        refine ⟨Sd50Neutral.nats row, [], hflat, nats_le hr, hlen, Nat.zero_le _, ?_⟩
        rw [er2]
        exact ⟨rfl, ha⟩
      | ok T =>
        rw [er2] at hfirst hsm ha
        dsimp only at hfirst hsm ha
        have hno := List.all_eq_true.mp hno
        obtain ⟨reqs, i1, i2, i3, i4⟩ := reqs_of (T := T) cs (fun d hd => by
          obtain ⟨p, xs, row', hc, hs⟩ := hcs d (List.mem_cons_of_mem _ hd)
          refine ⟨p, xs, row', hc, hs, fun z => ?_⟩
          subst z
          subst hc
          have hn : xs.length = 0 := by
            rcases shape_cases hs with ⟨_, hn⟩ | ⟨z, _⟩ | ⟨z, _⟩ | ⟨z, _⟩ | ⟨z, _⟩ | ⟨z, _⟩
            · exact hn
            all_goals exact absurd z (by decide)
          have : xs = [] := List.length_eq_zero_iff.mp hn
          subst this
          have := hno _ (List.mem_map.mpr ⟨_, hd, rfl⟩)
          cases this) (fun d hd => h3 d (List.mem_cons_of_mem _ hd)) hsm
        refine ⟨Sd50Neutral.nats row, reqs, by rw [← i2]; exact hflat, nats_le hr, hlen, ?_, ?_⟩
        · rw [i1]
          rw [List.length_cons] at h2
          omega
        · rw [er2]
          refine ⟨i3, ?_⟩
          rw [ha, ← i4]
          rfl
end RC
set_option Elab.async false
set_option linter.all false
set_option maxRecDepth 100000
set_option maxHeartbeats 2000000
/-! # The error classes PlaceError and LineError: made, raised, read -/

namespace PySem
namespace PlErr
open PySem.W PySem.Calls PyProof.Rows PySem.HandSPX
/-! ### PlaceError: its __init__ keeps one field -/
def iA (p1 p2 : Pos) : Arguments := { posonlyargs := [], args := [{ arg := "self", annotation := none, pos := p1 }, { arg := "place", annotation := none, pos := p2 }], vararg := none, kwonlyargs := [], kw_defaults := [], kwarg := none, defaults := [] }
def iB (q1 q2 q3 q4 : Pos) : List Stmt := [.Assign [.Attribute (.Name "self" q1) "place" q2] (.Name "place" q3) q4]
def iS : Scope := { kind := .function, names := [(PySem.Str.ofString "self", .local), (PySem.Str.ofString "place", .local)], isGenerator := false, isCoroutine := false, more := [] }
/-- what the written part says of the class at C and of its __init__ at fI -/
structure Txt (K : Frag) (mg : Str → Option Value) (C fI : Addr) : Prop where
  gC : mg "PlaceError" = some (.ref C)
  cls : ∃ nm q N bs sn sub ab col dd k0 k1 k2 k3 k5, K.lookup C = some (excClassObj nm q C N bs ESX.exTail true sn sub ab col dd k0 k1 k2 k3 k5 "Exception.__new__")
  sa : findIn K (.ref C) "__setattr__" = some (some (.builtin "object.__setattr__"))
  ga : findIn K (.ref C) "__getattribute__" = some (some (.builtin "BaseException.__getattribute__"))
  gg : findIn K (.ref C) "__getattr__" = some none
  noN : findIn K (.ref C) "place" = some none
  iC : findIn K (.ref C) "__init__" = some (some (.ref fI))
  tC : typeIn K (.ref fI) = some (.type "function")
  kC : keepIn K (.ref C) = true
  exC : subIn K (.ref C) (.type "BaseException") = some true
  tyC : typeIn K (.ref C) = some (.type "type")
  hdC : hasDictIn K C = true
  te : exmOne K (.ref C) (.ref C) = some true
  fn : ∃ (oc : Value) (od : Option Addr) (doc pm : Value) (an : Option Addr) (cdv ct : Value) (osl : Array (Option Value)) (p1 p2 q1 q2 q3 q4 : Pos),
    K.lookup fI = some ⟨oc, od, .func (fnOf "__init__" "PlaceError.__init__" (iA p1 p2) (iB q1 q2 q3 q4) iS .none .none doc pm an cdv ct), osl⟩ ∧ codeIn K cdv "PlaceError.__init__" = true
/-- behind __init__ of a fresh error at x -/
structure InitEnd (h h' : Heap) (x C dx t1 : Addr) (v : Value) : Prop where
  keep : ∀ b o, b ≠ x → h.get? b = some o → h'.get? b = some o
  obj : h'.get? x = some { cls := .ref C, dict := some dx, data := .fields #[.ref t1, .none, .none, .none, .bool false, .none] }
  dbig : h.objs.size ≤ dx
  dne : dx ≠ x
  ns : h'.Ns1 dx (fun y => if y = "place" then some v else none)
/-- such an error, made -/
structure OwnMade (h h' : Heap) (e C d : Addr) (v : Value) : Prop where
  keep : ∀ b o, h.get? b = some o → h'.get? b = some o
  new : h.objs.size ≤ e
  obj : ∃ t1 : Addr, h'.get? e = some ({ cls := .ref C, dict := some d, data := .fields #[.ref t1, .none, .none, .none, .bool false, .none] } : Obj)
  dbig : h.objs.size ≤ d
  dne : d ≠ e
  ns : h'.Ns1 d (fun y => if y = "place" then some v else none)
section
variable {prog : Program} {w : World} {A : Around} {R : Result → Shared → Prop} {s : Shared} {K : Frag} {mg : Str → Option Value} {C fI : Addr}
theorem ldC {M : Model} {E : Value → Shared → Prop} {s : Shared} {name : Str} {scope : Scope} {L a : Addr} {cd : Value} {m : Str → Option Value} {x : Str} {pos : Pos} {v : Value} {Q : Value → Shared → Prop} (hn : s.heap.Ns L m) (hv : m x = some v) (h : Q v s)
    (hk : scope.kind = .function := by rfl) (hl : (envOfC name scope L a cd).kindOf x = some .local := by rfl) (hd : (x == ("__debug__" : Str)) = false := by decide) : wpAny M A (eval (.Name x pos) (envOfC name scope L a cd)) Q E s :=
  wpAny_Name (wpAny_loadName_local hk hl hn hv h) hd
theorem init_ok (T : Txt K mg C fI) {x t0 : Addr} {v : Value} (X : K.In s.heap) (hlim : s.heap.NoLimit) (hx : s.heap.get? x = some (excO C t0)) (hroom : A.depth < recursionLimit)
    (hq : ∀ h' tk dx, InitEnd s.heap h' x C dx t0 v → R (.ok (.ret .none)) { s with heap := h', toks := tk }) :
    codeAny (model prog w) A (.call (.ref fI) ⟨[.ref x, v], []⟩) R s := by
  obtain ⟨oc, od, doc, pm, an, cdv, ct, osl, p1, p2, q1, q2, q3, q4, ho, hcd⟩ := T.fn
  obtain ⟨nm, q, N, bs, sn, sub, ab, col, dd, k0, k1, k2, k3, k5, hC⟩ := T.cls
  have hcl : clsIn K C = some { name := nm, bases := bs, mro := .ref C :: ESX.exTail, ns := N, qualname := q, hasDict := true, slotNames := sn, subclasses := sub, abstract := ab, collection := col, hasDel := false } := by
    unfold clsIn
    rw [hC] <;> rfl
  refine Att.call_fn (binds := [("self", .ref x), ("place", v)]) X hlim ho hcd hroom (BindsTo.of_eq (by first | rfl | with_unfolding_all rfl)) (by first | rfl | decide | with_unfolding_all rfl) (fun s₁ IC => ?_) rfl rfl rfl
  obtain ⟨h₁, tk₁, rfl⟩ := IC.toInCall.same
  have kp : ∀ b o, s.heap.get? b = some o → h₁.get? b = some o := IC.toInCall.keep
  have nsL := IC.toInCall.ns
  have X₁ : K.In h₁ := X.keeps kp
  have hx₁ := kp _ _ hx
  show wpAny _ _ (execs _ _) _ _ _
  refine wpAny_execs_cons (plainObj_wpAny_Assign_Attribute ?_)
  refine ldC (v := v) nsL (by first | rfl | with_unfolding_all rfl | kernel_rfl) (ldC (v := .ref x) nsL (by first | rfl | with_unfolding_all rfl | kernel_rfl) ?_)
  refine set_plain X₁ (ox := excO C t0) (od := none) ⟨hx₁, rfl, rfl, trivial⟩ T.sa ?_
  refine ESX.osa_new X₁ hx₁ hcl rfl rfl T.noN (fun h₃ tk₃ dx k₃ dn dne hx₃ hn₃ => ?_)
  show wpAny _ _ (execs _ _) _ _ _
  have z : s.heap.objs.size < h₁.objs.size := nsL.lt
  exact wpAny_execs_nil (hq h₃ tk₃ dx ⟨fun b o hb e => k₃ b o hb (kp b o e), hx₃, Nat.le_of_lt (Nat.lt_of_lt_of_le z dn), dne, hn₃⟩)
theorem made (T : Txt K mg C fI) {v : Value} (X : K.In s.heap) (hlim : s.heap.NoLimit) (hroom : A.depth + 1 < recursionLimit)
    (hq : ∀ h' tk e d, OwnMade s.heap h' e C d v → R (.ok (.ret (.ref e))) { s with heap := h', toks := tk }) :
    codeAny (model prog w) A (.call (.ref C) ⟨[v], []⟩) R s := by
  obtain ⟨nm, q, N, bs, sn, sub, ab, col, dd, k0, k1, k2, k3, k5, hC⟩ := T.cls
  obtain ⟨hp, g, dr, tk, os⟩ := s
  have kp : ∀ b o, hp.get? b = some o → ((hp.push (kdv_tup [v])).push (excO C hp.objs.size)).get? b = some o := fun b o e => Heap.get?_push_of_some _ (Heap.get?_push_of_some _ e)
  have hget : ((hp.push (kdv_tup [v])).push (excO C hp.objs.size)).get? (hp.objs.size + 1) = some (excO C hp.objs.size) := by heap_get
  have one : [v].length ≤ sizeLine := by
    rw [sizeLine_eq]
    exact (by decide : 1 ≤ 16777216)
  refine call_own F.excBase_Exception (fun _ => rfl) (X _ _ hC) (looks_findIn X T.iC) (fun self => bind_fn X self T.tC) one ?_
  refine init_ok (s := ⟨(hp.push (kdv_tup [v])).push (excO C hp.objs.size), g, dr, tk, os⟩) T (X.keeps kp) (hlim.keeps kp) hget ?_ fun h' tk' dx I => ?_
  · show A.depth + 1 < recursionLimit
    exact hroom
  · have old : ∀ b o, hp.get? b = some o → h'.get? b = some o := fun b o e => I.keep b o (Nat.ne_of_lt (Nat.lt_succ_of_lt (Heap.lt_size e))) (kp b o e)
    have z : hp.objs.size + 1 + 1 ≤ dx := by
      have dn := I.dbig
      first
        | (simpa only [Heap.size_push] using dn)
        | exact dn
        | (rw [Heap.size_push, Heap.size_push] at dn; exact dn)
    exact ⟨rfl, hq h' tk' (hp.objs.size + 1) dx ⟨old, Nat.le_succ _, ⟨_, I.obj⟩, Nat.le_trans (Nat.le_trans (Nat.le_succ _) (Nat.le_succ _)) z, I.dne, I.ns⟩⟩
end
end PlErr
end PySem
namespace PlErr
open PySem PySem.Spec PyProof.Rows L2
theorem relO_one {v : V} {v' : Value} (r : RelV v v') (f : Str) : RelO (List.lookup f [(("place" : Str), v)]) (if f = "place" then some v' else none) := by
  by_cases hw : f = "place"
  · subst hw
    rw [if_pos rfl, show List.lookup ("place" : Str) [(("place" : Str), v)] = some v by simp [List.lookup]]
    exact r
  · rw [if_neg hw, show List.lookup f [(("place" : Str), v)] = none by simp [List.lookup, show (f == ("place" : Str)) = false by simpa using hw]]
    trivial
section
variable {X : Cx} {C fI : Addr}
/-- PlaceError(e): an error with its own new dict -/
def tMk (C : Addr) (ta : TA) : L2.St → Hp → XK → Prop := fun σ H Q => ta σ H fun vs H1 => ∃ v, vs = [v] ∧ ∀ d, H1 d = none → Q (.ref C) (some d) (upd H1 d (.xd [(("place" : Str), v)]))
theorem pmk5 {a : Expr} {ta : TA} {p pos : Pos} (T : PySem.PlErr.Txt X.K X.mg C fI) (hr : X.A.depth + 1 < recursionLimit) (ha : PA X [a] ta) (hg : Gl X "PlaceError" := by rfl)
    (he : starEach (a :: []) X.env = (false, eval a X.env) :: starEach [] X.env := by rfl) (hpl : (backTo pos (starEach [] X.env)).any (·.1) = false := by rfl) :
    L2H.PMk5 X (.Call (.Name "PlaceError" p) [a] [] pos) (tMk C ta) := by
  intro pins s σ H Q I h
  refine wpAny_Call_Name_kw (ld_glob I hg T.gC ?_)
  refine PySem.W.callWith_K (h₀ := X.base) I.ok.mod.kin T.kC (thn (ha.run pos pins s σ H _ I h) fun us s1 hh => ?_) he hpl
  obtain ⟨vs, H1, I1, r1, v, ev, q1⟩ := hh
  subst ev
  refine ⟨I1.kIn, ?_⟩
  cases r1 with
  | @cons _ v' _ us' rv rn =>
    cases rn
    show wpAny _ _ (call (.ref C) [v']) _ _ _
    have hlim := I1.nolimit
    obtain ⟨hp, g, dr, tk, os⟩ := s1
    refine wpAny_call (PySem.PlErr.made T I1.kIn hlim hr fun h' tk' e d M => ?_)
    show L2N.MkP X pins σ Q (.ref e) ⟨h', g, dr, tk', os⟩ ∧ L2H.Six (.ref e) ⟨h', g, dr, tk', os⟩
    obtain ⟨t1, hoe⟩ := M.obj
    have hns := M.ns
    obtain ⟨G', g1, g2⟩ := restrict h' fun b => decide (b ≠ e)
    have gk : ∀ b, b ≠ e → G'.get? b = h'.get? b := fun b hb => g1 b (decide_eq_true hb)
    have ge : G'.get? e = none := g2 e (by simp)
    have old : ∀ b o, hp.get? b = some o → G'.get? b = some o := fun b o q => (gk b (Nat.ne_of_lt (Nat.lt_of_lt_of_le (Heap.lt_size q) M.new))).trans (M.keep b o q)
    have ob : ObjOk X.prog X.w (upd H1 d (.xd [(("place" : Str), v)])) G' d (.xd [(("place" : Str), v)]) :=
      ⟨_, hns.at (fun o q => (gk d M.dne).trans q), fun f => relO_one rv f⟩
    have J : Inv X pins σ (upd H1 d (.xd [(("place" : Str), v)])) ⟨G', g, dr, tk', os⟩ := I1.laid (t' := tk') old M.dbig ob
    refine ⟨⟨e, _, _, ⟨G', g, dr, tk', os⟩, _, .ref C, some d, rfl, J, fun b o q => ?_, ge, hoe, ⟨rfl, rfl, fun vs hv => ?_⟩, rfl, rfl, ?_, rfl, I1.bare, raises_own T.exC T.tyC, q1 d (I1.hok.fresh M.dbig)⟩, fun a oe vs ea hg2 hd2 => ?_⟩
    · by_cases hb : b = e
      · have q' : G'.get? b = some o := q
        rw [hb, ge] at q'
        cases q'
      · exact (gk b hb).symm.trans q
    · cases hv
      rfl
    · rw [upd_ne (Ne.symm M.dne)]
      exact I1.hok.fresh M.new
    · cases ea
      have hg3 : h'.get? e = some oe := hg2
      rw [hoe] at hg3
      cases hg3
      cases hd2
      show (4 : Nat) < 6
      decide
theorem pmk {a : Expr} {ta : TA} {p pos : Pos} {k : Nat} (T : PySem.PlErr.Txt X.K X.mg C fI) (hr : Room k X.A) (ha : PA X [a] ta) (hg : Gl X "PlaceError" := by rfl)
    (he : starEach (a :: []) X.env = (false, eval a X.env) :: starEach [] X.env := by rfl) (hpl : (backTo pos (starEach [] X.env)).any (·.1) = false := by rfl) :
    L2.PMk X (.Call (.Name "PlaceError" p) [a] [] pos) (tMk C ta) := fun pins s σ H Q I h =>
  thn (pmk5 T (by have := hr.dp; omega) ha hg he hpl pins s σ H Q I h) fun u s' x => by
    obtain ⟨⟨b, oe, vs, sI, H', cls, d, e1, e2, e3, e4, e5, e6, r⟩, _⟩ := x
    exact ⟨b, oe, vs, sI, H', cls, d, e1, e2, e3, e4, e5, e6.zc, r⟩
/-- raise PlaceError(e) -/
def tRaise (C : Addr) (W : WX) (ta : TA) : TS := fun _ σ H => tMk C ta σ H fun cls d H' => W cls d σ H'
theorem ps_raise {a : Expr} {ta : TA} {W : WX} {p pos pos2 : Pos} {k : Nat} (hc : X.calm = true) (T : PySem.PlErr.Txt X.K X.mg C fI) (hr : Room k X.A) (tk : L2.Takes X W) (ha : PA X [a] ta) (hg : Gl X "PlaceError" := by rfl)
    (he : starEach (a :: []) X.env = (false, eval a X.env) :: starEach [] X.env := by rfl) (hpl : (backTo pos (starEach [] X.env)).any (·.1) = false := by rfl) :
    PS X (.Raise (some (.Call (.Name "PlaceError" p) [a] [] pos)) none pos2) (tRaise C W ta) := L2.ps_raise hc tk (pmk T hr ha hg he hpl)
/-- raise PlaceError(e) from None, in an except suite -/
theorem ps_raiseH {a : Expr} {ta : TA} {W : WX} {p pos pos2 cpos : Pos} {j : Nat} (hc : L2H.HotC X) (T : PySem.PlErr.Txt X.K X.mg C fI) (hr : X.A.depth + 1 < recursionLimit) (tk : L2.Takes X W) (ha : PA X [a] ta) (hg : Gl X "PlaceError" := by rfl)
    (he : starEach (a :: []) X.env = (false, eval a X.env) :: starEach [] X.env := by rfl) (hpl : (backTo pos (starEach [] X.env)).any (·.1) = false := by rfl) :
    PS X (.Raise (some (.Call (.Name "PlaceError" p) [a] [] pos)) (some (.Constant .none j cpos)) pos2) (tRaise C W ta) := L2H.ps_raiseHN hc tk (pmk5 T hr ha hg he hpl)
/-- error.place in an except suite -/
theorem xf (T : PySem.PlErr.Txt X.K X.mg C fI) : XfC X.K C := ⟨T.ga, T.gg, T.exC, T.hdC⟩
end
end PlErr


namespace PySem
namespace LnErr
open PySem.W PySem.Calls PyProof.Rows PySem.HandSPX
/-! ### LineError: its __init__ keeps one field -/
def iA (p1 p2 : Pos) : Arguments := { posonlyargs := [], args := [{ arg := "self", annotation := none, pos := p1 }, { arg := "line", annotation := none, pos := p2 }], vararg := none, kwonlyargs := [], kw_defaults := [], kwarg := none, defaults := [] }
def iB (q1 q2 q3 q4 : Pos) : List Stmt := [.Assign [.Attribute (.Name "self" q1) "line" q2] (.Name "line" q3) q4]
def iS : Scope := { kind := .function, names := [(PySem.Str.ofString "self", .local), (PySem.Str.ofString "line", .local)], isGenerator := false, isCoroutine := false, more := [] }
/-- what the written part says of the class at C and of its __init__ at fI -/
structure Txt (K : Frag) (mg : Str → Option Value) (C fI : Addr) : Prop where
  gC : mg "LineError" = some (.ref C)
  cls : ∃ nm q N bs sn sub ab col dd k0 k1 k2 k3 k5, K.lookup C = some (excClassObj nm q C N bs ESX.exTail true sn sub ab col dd k0 k1 k2 k3 k5 "Exception.__new__")
  sa : findIn K (.ref C) "__setattr__" = some (some (.builtin "object.__setattr__"))
  ga : findIn K (.ref C) "__getattribute__" = some (some (.builtin "BaseException.__getattribute__"))
  gg : findIn K (.ref C) "__getattr__" = some none
  noN : findIn K (.ref C) "line" = some none
  iC : findIn K (.ref C) "__init__" = some (some (.ref fI))
  tC : typeIn K (.ref fI) = some (.type "function")
  kC : keepIn K (.ref C) = true
  exC : subIn K (.ref C) (.type "BaseException") = some true
  tyC : typeIn K (.ref C) = some (.type "type")
  hdC : hasDictIn K C = true
  te : exmOne K (.ref C) (.ref C) = some true
  fn : ∃ (oc : Value) (od : Option Addr) (doc pm : Value) (an : Option Addr) (cdv ct : Value) (osl : Array (Option Value)) (p1 p2 q1 q2 q3 q4 : Pos),
    K.lookup fI = some ⟨oc, od, .func (fnOf "__init__" "LineError.__init__" (iA p1 p2) (iB q1 q2 q3 q4) iS .none .none doc pm an cdv ct), osl⟩ ∧ codeIn K cdv "LineError.__init__" = true
/-- behind __init__ of a fresh error at x -/
structure InitEnd (h h' : Heap) (x C dx t1 : Addr) (v : Value) : Prop where
  keep : ∀ b o, b ≠ x → h.get? b = some o → h'.get? b = some o
  obj : h'.get? x = some { cls := .ref C, dict := some dx, data := .fields #[.ref t1, .none, .none, .none, .bool false, .none] }
  dbig : h.objs.size ≤ dx
  dne : dx ≠ x
  ns : h'.Ns1 dx (fun y => if y = "line" then some v else none)
/-- such an error, made -/
structure OwnMade (h h' : Heap) (e C d : Addr) (v : Value) : Prop where
  keep : ∀ b o, h.get? b = some o → h'.get? b = some o
  new : h.objs.size ≤ e
  obj : ∃ t1 : Addr, h'.get? e = some ({ cls := .ref C, dict := some d, data := .fields #[.ref t1, .none, .none, .none, .bool false, .none] } : Obj)
  dbig : h.objs.size ≤ d
  dne : d ≠ e
  ns : h'.Ns1 d (fun y => if y = "line" then some v else none)
section
variable {prog : Program} {w : World} {A : Around} {R : Result → Shared → Prop} {s : Shared} {K : Frag} {mg : Str → Option Value} {C fI : Addr}
theorem ldC {M : Model} {E : Value → Shared → Prop} {s : Shared} {name : Str} {scope : Scope} {L a : Addr} {cd : Value} {m : Str → Option Value} {x : Str} {pos : Pos} {v : Value} {Q : Value → Shared → Prop} (hn : s.heap.Ns L m) (hv : m x = some v) (h : Q v s)
    (hk : scope.kind = .function := by rfl) (hl : (envOfC name scope L a cd).kindOf x = some .local := by rfl) (hd : (x == ("__debug__" : Str)) = false := by decide) : wpAny M A (eval (.Name x pos) (envOfC name scope L a cd)) Q E s :=
  wpAny_Name (wpAny_loadName_local hk hl hn hv h) hd
theorem init_ok (T : Txt K mg C fI) {x t0 : Addr} {v : Value} (X : K.In s.heap) (hlim : s.heap.NoLimit) (hx : s.heap.get? x = some (excO C t0)) (hroom : A.depth < recursionLimit)
    (hq : ∀ h' tk dx, InitEnd s.heap h' x C dx t0 v → R (.ok (.ret .none)) { s with heap := h', toks := tk }) :
    codeAny (model prog w) A (.call (.ref fI) ⟨[.ref x, v], []⟩) R s := by
  obtain ⟨oc, od, doc, pm, an, cdv, ct, osl, p1, p2, q1, q2, q3, q4, ho, hcd⟩ := T.fn
  obtain ⟨nm, q, N, bs, sn, sub, ab, col, dd, k0, k1, k2, k3, k5, hC⟩ := T.cls
  have hcl : clsIn K C = some { name := nm, bases := bs, mro := .ref C :: ESX.exTail, ns := N, qualname := q, hasDict := true, slotNames := sn, subclasses := sub, abstract := ab, collection := col, hasDel := false } := by
    unfold clsIn
    rw [hC] <;> rfl
  refine Att.call_fn (binds := [("self", .ref x), ("line", v)]) X hlim ho hcd hroom (BindsTo.of_eq (by first | rfl | with_unfolding_all rfl)) (by first | rfl | decide | with_unfolding_all rfl) (fun s₁ IC => ?_) rfl rfl rfl
  obtain ⟨h₁, tk₁, rfl⟩ := IC.toInCall.same
  have kp : ∀ b o, s.heap.get? b = some o → h₁.get? b = some o := IC.toInCall.keep
  have nsL := IC.toInCall.ns
  have X₁ : K.In h₁ := X.keeps kp
  have hx₁ := kp _ _ hx
  show wpAny _ _ (execs _ _) _ _ _
  refine wpAny_execs_cons (plainObj_wpAny_Assign_Attribute ?_)
  refine ldC (v := v) nsL (by first | rfl | with_unfolding_all rfl | kernel_rfl) (ldC (v := .ref x) nsL (by first | rfl | with_unfolding_all rfl | kernel_rfl) ?_)
  refine set_plain X₁ (ox := excO C t0) (od := none) ⟨hx₁, rfl, rfl, trivial⟩ T.sa ?_
  refine ESX.osa_new X₁ hx₁ hcl rfl rfl T.noN (fun h₃ tk₃ dx k₃ dn dne hx₃ hn₃ => ?_)
  show wpAny _ _ (execs _ _) _ _ _
  have z : s.heap.objs.size < h₁.objs.size := nsL.lt
  exact wpAny_execs_nil (hq h₃ tk₃ dx ⟨fun b o hb e => k₃ b o hb (kp b o e), hx₃, Nat.le_of_lt (Nat.lt_of_lt_of_le z dn), dne, hn₃⟩)
theorem made (T : Txt K mg C fI) {v : Value} (X : K.In s.heap) (hlim : s.heap.NoLimit) (hroom : A.depth + 1 < recursionLimit)
    (hq : ∀ h' tk e d, OwnMade s.heap h' e C d v → R (.ok (.ret (.ref e))) { s with heap := h', toks := tk }) :
    codeAny (model prog w) A (.call (.ref C) ⟨[v], []⟩) R s := by
  obtain ⟨nm, q, N, bs, sn, sub, ab, col, dd, k0, k1, k2, k3, k5, hC⟩ := T.cls
  obtain ⟨hp, g, dr, tk, os⟩ := s
  have kp : ∀ b o, hp.get? b = some o → ((hp.push (kdv_tup [v])).push (excO C hp.objs.size)).get? b = some o := fun b o e => Heap.get?_push_of_some _ (Heap.get?_push_of_some _ e)
  have hget : ((hp.push (kdv_tup [v])).push (excO C hp.objs.size)).get? (hp.objs.size + 1) = some (excO C hp.objs.size) := by heap_get
  have one : [v].length ≤ sizeLine := by
    rw [sizeLine_eq]
    exact (by decide : 1 ≤ 16777216)
  refine call_own F.excBase_Exception (fun _ => rfl) (X _ _ hC) (looks_findIn X T.iC) (fun self => bind_fn X self T.tC) one ?_
  refine init_ok (s := ⟨(hp.push (kdv_tup [v])).push (excO C hp.objs.size), g, dr, tk, os⟩) T (X.keeps kp) (hlim.keeps kp) hget ?_ fun h' tk' dx I => ?_
  · show A.depth + 1 < recursionLimit
    exact hroom
  · have old : ∀ b o, hp.get? b = some o → h'.get? b = some o := fun b o e => I.keep b o (Nat.ne_of_lt (Nat.lt_succ_of_lt (Heap.lt_size e))) (kp b o e)
    have z : hp.objs.size + 1 + 1 ≤ dx := by
      have dn := I.dbig
      first
        | (simpa only [Heap.size_push] using dn)
        | exact dn
        | (rw [Heap.size_push, Heap.size_push] at dn; exact dn)
    exact ⟨rfl, hq h' tk' (hp.objs.size + 1) dx ⟨old, Nat.le_succ _, ⟨_, I.obj⟩, Nat.le_trans (Nat.le_trans (Nat.le_succ _) (Nat.le_succ _)) z, I.dne, I.ns⟩⟩
end
end LnErr
end PySem
namespace LnErr
open PySem PySem.Spec PyProof.Rows L2
theorem relO_one {v : V} {v' : Value} (r : RelV v v') (f : Str) : RelO (List.lookup f [(("line" : Str), v)]) (if f = "line" then some v' else none) := by
  by_cases hw : f = "line"
  · subst hw
    rw [if_pos rfl, show List.lookup ("line" : Str) [(("line" : Str), v)] = some v by simp [List.lookup]]
    exact r
  · rw [if_neg hw, show List.lookup f [(("line" : Str), v)] = none by simp [List.lookup, show (f == ("line" : Str)) = false by simpa using hw]]
    trivial
section
variable {X : Cx} {C fI : Addr}
/-- LineError(e): an error with its own new dict -/
def tMk (C : Addr) (ta : TA) : L2.St → Hp → XK → Prop := fun σ H Q => ta σ H fun vs H1 => ∃ v, vs = [v] ∧ ∀ d, H1 d = none → Q (.ref C) (some d) (upd H1 d (.xd [(("line" : Str), v)]))
theorem pmk5 {a : Expr} {ta : TA} {p pos : Pos} (T : PySem.LnErr.Txt X.K X.mg C fI) (hr : X.A.depth + 1 < recursionLimit) (ha : PA X [a] ta) (hg : Gl X "LineError" := by rfl)
    (he : starEach (a :: []) X.env = (false, eval a X.env) :: starEach [] X.env := by rfl) (hpl : (backTo pos (starEach [] X.env)).any (·.1) = false := by rfl) :
    L2H.PMk5 X (.Call (.Name "LineError" p) [a] [] pos) (tMk C ta) := by
  intro pins s σ H Q I h
  refine wpAny_Call_Name_kw (ld_glob I hg T.gC ?_)
  refine PySem.W.callWith_K (h₀ := X.base) I.ok.mod.kin T.kC (thn (ha.run pos pins s σ H _ I h) fun us s1 hh => ?_) he hpl
  obtain ⟨vs, H1, I1, r1, v, ev, q1⟩ := hh
  subst ev
  refine ⟨I1.kIn, ?_⟩
  cases r1 with
  | @cons _ v' _ us' rv rn =>
    cases rn
    show wpAny _ _ (call (.ref C) [v']) _ _ _
    have hlim := I1.nolimit
    obtain ⟨hp, g, dr, tk, os⟩ := s1
    refine wpAny_call (PySem.LnErr.made T I1.kIn hlim hr fun h' tk' e d M => ?_)
    show L2N.MkP X pins σ Q (.ref e) ⟨h', g, dr, tk', os⟩ ∧ L2H.Six (.ref e) ⟨h', g, dr, tk', os⟩
    obtain ⟨t1, hoe⟩ := M.obj
    have hns := M.ns
    obtain ⟨G', g1, g2⟩ := restrict h' fun b => decide (b ≠ e)
    have gk : ∀ b, b ≠ e → G'.get? b = h'.get? b := fun b hb => g1 b (decide_eq_true hb)
    have ge : G'.get? e = none := g2 e (by simp)
    have old : ∀ b o, hp.get? b = some o → G'.get? b = some o := fun b o q => (gk b (Nat.ne_of_lt (Nat.lt_of_lt_of_le (Heap.lt_size q) M.new))).trans (M.keep b o q)
    have ob : ObjOk X.prog X.w (upd H1 d (.xd [(("line" : Str), v)])) G' d (.xd [(("line" : Str), v)]) :=
      ⟨_, hns.at (fun o q => (gk d M.dne).trans q), fun f => relO_one rv f⟩
    have J : Inv X pins σ (upd H1 d (.xd [(("line" : Str), v)])) ⟨G', g, dr, tk', os⟩ := I1.laid (t' := tk') old M.dbig ob
    refine ⟨⟨e, _, _, ⟨G', g, dr, tk', os⟩, _, .ref C, some d, rfl, J, fun b o q => ?_, ge, hoe, ⟨rfl, rfl, fun vs hv => ?_⟩, rfl, rfl, ?_, rfl, I1.bare, raises_own T.exC T.tyC, q1 d (I1.hok.fresh M.dbig)⟩, fun a oe vs ea hg2 hd2 => ?_⟩
    · by_cases hb : b = e
      · have q' : G'.get? b = some o := q
        rw [hb, ge] at q'
        cases q'
      · exact (gk b hb).symm.trans q
    · cases hv
      rfl
    · rw [upd_ne (Ne.symm M.dne)]
      exact I1.hok.fresh M.new
    · cases ea
      have hg3 : h'.get? e = some oe := hg2
      rw [hoe] at hg3
      cases hg3
      cases hd2
      show (4 : Nat) < 6
      decide
theorem pmk {a : Expr} {ta : TA} {p pos : Pos} {k : Nat} (T : PySem.LnErr.Txt X.K X.mg C fI) (hr : Room k X.A) (ha : PA X [a] ta) (hg : Gl X "LineError" := by rfl)
    (he : starEach (a :: []) X.env = (false, eval a X.env) :: starEach [] X.env := by rfl) (hpl : (backTo pos (starEach [] X.env)).any (·.1) = false := by rfl) :
    L2.PMk X (.Call (.Name "LineError" p) [a] [] pos) (tMk C ta) := fun pins s σ H Q I h =>
  thn (pmk5 T (by have := hr.dp; omega) ha hg he hpl pins s σ H Q I h) fun u s' x => by
    obtain ⟨⟨b, oe, vs, sI, H', cls, d, e1, e2, e3, e4, e5, e6, r⟩, _⟩ := x
    exact ⟨b, oe, vs, sI, H', cls, d, e1, e2, e3, e4, e5, e6.zc, r⟩
/-- raise LineError(e) -/
def tRaise (C : Addr) (W : WX) (ta : TA) : TS := fun _ σ H => tMk C ta σ H fun cls d H' => W cls d σ H'
theorem ps_raise {a : Expr} {ta : TA} {W : WX} {p pos pos2 : Pos} {k : Nat} (hc : X.calm = true) (T : PySem.LnErr.Txt X.K X.mg C fI) (hr : Room k X.A) (tk : L2.Takes X W) (ha : PA X [a] ta) (hg : Gl X "LineError" := by rfl)
    (he : starEach (a :: []) X.env = (false, eval a X.env) :: starEach [] X.env := by rfl) (hpl : (backTo pos (starEach [] X.env)).any (·.1) = false := by rfl) :
    PS X (.Raise (some (.Call (.Name "LineError" p) [a] [] pos)) none pos2) (tRaise C W ta) := L2.ps_raise hc tk (pmk T hr ha hg he hpl)
/-- raise LineError(e) from None, in an except suite -/
theorem ps_raiseH {a : Expr} {ta : TA} {W : WX} {p pos pos2 cpos : Pos} {j : Nat} (hc : L2H.HotC X) (T : PySem.LnErr.Txt X.K X.mg C fI) (hr : X.A.depth + 1 < recursionLimit) (tk : L2.Takes X W) (ha : PA X [a] ta) (hg : Gl X "LineError" := by rfl)
    (he : starEach (a :: []) X.env = (false, eval a X.env) :: starEach [] X.env := by rfl) (hpl : (backTo pos (starEach [] X.env)).any (·.1) = false := by rfl) :
    PS X (.Raise (some (.Call (.Name "LineError" p) [a] [] pos)) (some (.Constant .none j cpos)) pos2) (tRaise C W ta) := L2H.ps_raiseHN hc tk (pmk5 T hr ha hg he hpl)
/-- error.line in an except suite -/
theorem xf (T : PySem.LnErr.Txt X.K X.mg C fI) : XfC X.K C := ⟨T.ga, T.gg, T.exC, T.hdC⟩
end
end LnErr

set_option Elab.async false
set_option linter.all false
set_option maxRecDepth 100000
set_option maxHeartbeats 2000000
/-! # A list comprehension whose element calls a def that may raise -/
namespace LcX
open PySem PySem.Spec PyProof.Rows L2
/-- the block's context where what is raised is wished for -/
abbrev blkX (X : Cx) (s : Shared) (H : Hp) (scope : Scope) (cenv : Env) (fp : List Addr) (xe : Value → Shared → Prop) : Cx := { X.blk s H scope cenv fp with xe := xe }
theorem toX {X : Cx} {s0 : Shared} {H0 : Hp} {scope : Scope} {cenv : Env} {fp : List Addr} {xe : Value → Shared → Prop} {pins : List (Addr × Obj)} {σ : L2.St} {H : Hp} {s : Shared} (I : Inv (X.blk s0 H0 scope cenv fp) pins σ H s) : Inv (blkX X s0 H0 scope cenv fp xe) pins σ H s :=
  ⟨⟨I.ok.mod, I.ok.kind, I.ok.glob, I.ok.blt, I.ok.above, I.ok.inj, I.ok.has, I.ok.cab, I.ok.hd, I.ok.frames, I.ok.stk, I.ok.exf, I.ok.bs, I.ok.bsz, I.ok.noex, I.ok.exfs, I.ok.funs, I.ok.frf⟩, I.os, I.bare, I.base, I.loc, I.cell, I.free, I.freeC, I.pin, I.hok, I.len⟩
theorem ofX {X : Cx} {s0 : Shared} {H0 : Hp} {scope : Scope} {cenv : Env} {fp : List Addr} {xe : Value → Shared → Prop} {pins : List (Addr × Obj)} {σ : L2.St} {H : Hp} {s : Shared} (I : Inv (blkX X s0 H0 scope cenv fp xe) pins σ H s) : Inv (X.blk s0 H0 scope cenv fp) pins σ H s :=
  ⟨⟨I.ok.mod, I.ok.kind, I.ok.glob, I.ok.blt, I.ok.above, I.ok.inj, I.ok.has, I.ok.cab, I.ok.hd, I.ok.frames, I.ok.stk, I.ok.exf, I.ok.bs, I.ok.bsz, I.ok.noex, I.ok.exfs, I.ok.funs, I.ok.frf⟩, I.os, I.bare, I.base, I.loc, I.cell, I.free, I.freeC, I.pin, I.hok, I.len⟩
theorem traced_less {h base base' : Heap} {e : Addr} {Z : Obj → Prop} {fl : Value} (x : HandSPX.TracedZ h base e Z fl) (n : ∀ b, base.get? b = none → base'.get? b = none) : HandSPX.TracedZ h base' e Z fl := by
  obtain ⟨oe, vs, T, oT, ts, he, hz, hd, h1, hnT, r⟩ := x
  exact ⟨oe, vs, T, oT, ts, he, hz, hd, h1, n _ hnT, r⟩
theorem funs_less {h base base' : Heap} (n : ∀ b, base.get? b = none → base'.get? b = none) : ∀ {l : List Env}, h.FunFrames base l → h.FunFrames base' l
  | [], _ => trivial
  | _ :: _, ⟨hk, ⟨L, o, hf, hb, ho, hd⟩, hr⟩ => ⟨hk, ⟨L, o, hf, n _ hb, ho, hd⟩, funs_less n hr⟩
/-- a dict's object is let go: a trace stands -/
theorem traced_but {h h' base : Heap} {e C : Addr} {Z : Obj → Prop} {fl : Value} {m : Str → Option Value} (x : HandSPX.TracedZ h base e Z fl) (hn : h.Ns C m) (hs : Heap.SameBut C h h') : HandSPX.TracedZ h' base e Z fl := by
  obtain ⟨oe, vs, T, oT, ts, he, hz, hd, h1, hnT, hTe, hT, hdT, h3⟩ := x
  obtain ⟨oC, es, ep, hoC, hdC, _⟩ := hn
  have nf : ∀ {b : Addr} {o : Obj} {us : Array Value}, h.get? b = some o → o.data = .fields us → b ≠ C := fun {b o us} e1 e2 q => by
    rw [q, hoC] at e1
    cases e1
    rw [hdC] at e2
    cases e2
  exact ⟨oe, vs, T, oT, ts, (hs.2 e (nf he hd)).trans he, hz, hd, h1, hnT, hTe, (hs.2 T (nf hT hdT)).trans hT, hdT, h3⟩
section
variable {X : Cx} {pins : List (Addr × Obj)} {σ : L2.St} {H3 : Hp} {s3 : Shared}
/-- what a call in the block lets out goes on out of the comprehension -/
theorem out_of_block {E : XK} {scope : Scope} {ce : Env} {fp : List Addr} (hs : X.stack = X.env :: X.outer) (hf : X.env.frame = some X.env.locals) (hcf : ce.frame = X.env.frame)
    (tk : L2N.Takes X (fun cls d _ H => E cls d H)) (I3 : Inv X pins σ H3 s3) (f3 : ∀ b ∈ fp, FpOk X pins H3 b) (cL : ce.locals = s3.heap.objs.size) :
    ∀ σb, PassesAt (L2N.CX X.prog X.w) (blkX X s3 H3 scope ce fp (notedBy (model X.prog X.w) X.A ce (CompFails (model X.prog X.w) X.A X.xe ce))) σb E := by
  intro σb pinsb Hb s e s' Ib c
  obtain ⟨a, B, H', cls, d, rfl, fl, hok, ub, na, os, ag, hE⟩ := c
  have fl : HandSPX.FlyingZ B X.stack a (L2N.Zn cls d) s'.heap := fl
  have hok : HOk X.prog X.w H' B := hok
  have ub : UB (frs X.stack) Hb H' s.heap B s'.heap := ub
  have Ib' : Inv (X.blk s3 H3 scope ce fp) pinsb σb Hb s := ofX Ib
  have nC : Hb ce.locals = none := Ib'.free
  have nCs : ce.locals ∉ frs X.stack := fun hm => by
    obtain ⟨_, o, ho, _⟩ := I3.stack.mem hm
    have := Heap.lt_size ho
    rw [cL] at this
    exact Nat.lt_irrefl _ this
  obtain ⟨m, hn, _⟩ := Ib'.loc
  have hn : s.heap.Ns ce.locals m := hn
  obtain ⟨oC, es, ep, hoC, hdC, hrC⟩ := id hn
  have hBC : B.get? ce.locals = some oC := ub.keep _ _ hoC nC nCs
  have nC' : H' ce.locals = none := ub.free _ _ hoC nC
  have hn' : s'.heap.Ns ce.locals m := ⟨oC, es, ep, fl.1 _ _ hBC, hdC, hrC⟩
  -- the ground without the block's names
  obtain ⟨B', b1, b2⟩ := restrict B fun b => decide (b ≠ ce.locals)
  have bk : ∀ b, b ≠ ce.locals → B'.get? b = B.get? b := fun b hb => b1 b (decide_eq_true hb)
  have bC : B'.get? ce.locals = none := b2 _ (by simp)
  have bs : ∀ b o, B'.get? b = some o → B.get? b = some o := fun b o q => by
    by_cases hb : b = ce.locals
    · rw [hb, bC] at q
      cases q
    · rw [← bk b hb]
      exact q
  have bn : ∀ b, B.get? b = none → B'.get? b = none := fun b q => by
    by_cases hb : b = ce.locals
    · rw [hb, bC]
    · rw [bk b hb, q]
  have fl' : HandSPX.FlyingZ B' X.stack a (L2N.Zn cls d) s'.heap := ⟨fun b o q => fl.1 b o (bs b o q), bn _ fl.2.1, funs_less bn fl.2.2.1, traced_less fl.2.2.2 bn⟩
  -- the def's state without the error
  obtain ⟨G, g1, g2⟩ := restrict s'.heap fun b => (B'.get? b).isSome || decide (b ∈ frs X.stack)
  have gB : ∀ b o, B'.get? b = some o → G.get? b = some o := fun b o q => by
    rw [g1 b (by simp [q])]
    exact fl'.1 b o q
  have gF : ∀ b, b ∈ frs X.stack → G.get? b = s'.heap.get? b := fun b hb => g1 b (by simp [hb])
  have og : ∀ b o, G.get? b = some o → s'.heap.get? b = some o ∧ ((B'.get? b).isSome = true ∨ b ∈ frs X.stack) := fun b o q => by
    cases z : ((B'.get? b).isSome || decide (b ∈ frs X.stack)) with
    | false => rw [g2 b z] at q; cases q
    | true =>
      rw [g1 b z] at q
      exact ⟨q, by simpa [Bool.or_eq_true] using z⟩
  have fC : FpOk X pins H3 ce.locals := by
    rw [cL]
    refine I3.fpOk (Nat.le_refl _) (I3.hok.fresh (Nat.le_refl _))
  have J0 : Inv X pins σ Hb s := I3.call' (ch := fp) Ib'.os Ib'.base Ib'.hok Ib'.bare fun b hb => ⟨(f3 b hb).2.2.2.1, (f3 b hb).2.1, (f3 b hb).2.2.2.2.1, (f3 b hb).2.2.2.2.2⟩
  have hokG : HOk X.prog X.w H' G := fun b u q => (hok b u q).stay (fun c o hc z => by
      have hne : c ≠ ce.locals := fun y => by
        rcases hc with hc | hc
        · rw [← hc, y, nC'] at q
          cases q
        · rw [y, nC'] at hc
          cases hc
      exact gB c o (by rw [bk c hne]; exact z)) (fun _ z => z) fun _ _ z => z
  have J : Inv X pins σ H' { s with heap := G, gens := s'.gens, drawn := s'.drawn, toks := s'.toks } := by
    refine J0.call (ch := [ce.locals]) ⟨fun b o q n hb hx => gB b o ?_, fun b o q n hb _ => ?_, fun b o q n _ => ub.free b o q n, fun b o q hx => ?_, ub.tups, ub.frzs, ub.tbls⟩ hokG ag (fun b hb => ?_)
    · rw [bk b (fun y => hx (by simp [y]))]
      exact ub.keep b o q n hb
    · obtain ⟨sl, z⟩ := ub.slot b o q hb
      exact ⟨sl, by rw [gF b hb]; exact z⟩
    · by_cases hb : b ∈ frs X.stack
      · obtain ⟨sl, z⟩ := ub.slot b o q hb
        exact ⟨_, by rw [gF b hb]; exact z⟩
      · obtain ⟨o', z⟩ := ub.there b o q hb
        exact ⟨o', gB b o' (by rw [bk b (fun y => hx (by simp [y]))]; exact z)⟩
    · have e : b = ce.locals := by simpa using hb
      subst e
      exact ⟨fC.2.2.2.1, fC.2.1, fC.2.2.2.2.1, fC.2.2.2.2.2⟩
  have nb : ∀ b o, G.get? b = some o → b ∉ frs X.stack → B'.get? b = some o := fun b o q hb => by
    obtain ⟨e', z⟩ := og b o q
    rcases z with z | z
    · obtain ⟨o', y⟩ := Option.isSome_iff_exists.mp z
      have w := fl'.1 b o' y
      rw [e'] at w
      cases w
      exact y
    · exact absurd z hb
  have up0 : G.UpToSlots s'.heap := Heap.UpToSlots.of_keeps fun b o q => (og b o q).1
  -- the frame notes it, the block's names are let go, it is passed on
  show wpAny _ X.A (noteFrame (.ref a) ce) _ _ s'
  rw [noteFrame_env _ hcf]
  have hfr : X.A.frames = some (X.env :: X.outer) := by rw [I3.ok.frames, hs]
  rw [hs] at fl'
  refine PXN.looks_onZ L2N.Zn.steady hfr hf fl' fun h1 hh up1 => ?_
  refine ⟨m, up1.ns hn', fun h2 m2 hn2 hs2 => ?_⟩
  obtain ⟨k1, k2, k3, k4⟩ := hh
  have j1 : B'.StaysIn h2 := fun b o q => (hs2.2 b fun y => by rw [y, bC] at q; cases q).trans (k1 b o q)
  have j3 : h2.FunFrames B' (X.env :: X.outer) := Heap.FunFrames.sameBut hs2 hn2 k3
  have j4 := traced_but k4 (up1.ns hn') hs2
  obtain ⟨oe, vs, T, oT, ts, he, hz, hd, hv1, r⟩ := id j4
  unfold PySem.passOn
  refine wpAny_bind (wpAny_field he hd hv1 ?_)
  rw [if_neg (show ¬ ((Value.ref T == Value.none) = true) from by simp), hcf, hf]
  have up2 : G.UpToSlots h2 := fun b o q nf => by
    have hb : b ≠ ce.locals := fun y => by
      obtain ⟨_, z⟩ := og b o q
      rcases z with z | z
      · rw [y, bC] at z
        cases z
      · rw [y] at z
        exact nCs z
    obtain ⟨sl, z⟩ := (up0.trans up1) b o q nf
    exact ⟨sl, (hs2.2 b hb).trans z⟩
  have fin : wpAny (model X.prog X.w) X.A (setFlight (.ref a) (some X.env.locals)) (fun _ s4 => wpAny (model X.prog X.w) X.A (throw (.ref a) : Sem Value) (fun _ _ => False) X.xe s4) X.xe { s' with heap := h2 } := by
    refine HandSPX.setFlight_anyZ (fr := some X.env.locals) j1 j3 j4 fun h3 i1 i2 i3 up3 => wpAny_throw (tk _ _ ?_)
    exact ⟨a, B', _, pins, σ, H', cls, d, rfl, J, nb, up2.trans up3, .inr (.inr (by rw [hs]; exact ⟨i1, k2, i2, i3⟩)), na, os, ag, hE⟩
  first
    | exact wpAny_bind (wpAny_pure (wpAny_bind fin))
    | exact wpAny_bind fin

/-- [elt for target in iter if ..], elt may let out what E tells -/
theorem lc_coreX {E : XK} {elt tg iter : Expr} {ifs : List Expr} {scope : Scope} {own : List (Str × Nat)} {pos pos' : Pos} {wi : TI} {g : TG} {tt : TT} {te : TE} {use : Option (Value → Sem Unit)} {Qf : Value → Shared → Prop} {pins : List (Addr × Obj)} {s : Shared} {σ : L2.St} {H : Hp} {Q : VK}
    (hs : X.stack = X.env :: X.outer) (hf : X.env.frame = some X.env.locals) (tk : L2N.Takes X (fun cls d _ H => E cls d H)) (I : Inv X pins σ H s)
    (hc : X.calm = true) (hN : X.N.Nodup) (hi : PI X tg iter wi) (ok : BlkOk X.N X.env.scope scope own)
    (hg : ∀ (s : Shared) (H : Hp) (C : Addr) (cl : List (Str × Addr)) (fp : List Addr), PG (X.blk s H scope (compEnvC scope cl C X.env) fp) tg g) (ht : ∀ (s : Shared) (H : Hp) (C : Addr) (cl : List (Str × Addr)) (fp : List Addr), PTs (X.blk s H scope (compEnvC scope cl C X.env) fp) ifs tt)
    (he : ∀ (s : Shared) (H : Hp) (C : Addr) (cl : List (Str × Addr)) (fp : List Addr) (xe : Value → Shared → Prop), (∀ σb, PassesAt (L2N.CX X.prog X.w) (blkX X s H scope (compEnvC scope cl C X.env) fp xe) σb E) → PE (blkX X s H scope (compEnvC scope cl C X.env) fp xe) elt te)
    (hfold : ∀ x, foldedSetIterable iter X.env x = pure x)
    (h : tLc wi g tt te (own.map (·.2)) σ H Q)
    (hRR : ∀ D ce s' m H', Inv X pins σ H' s' → Q (.ref D) H' → s'.heap.Ns ce.locals m → FpOk X pins H' ce.locals → compEnds (model X.prog X.w) X.A X.xe use Qf (.ref D) ce (.ok .next) s') :
    wpAny (model X.prog X.w) X.A (comprehension (.ListComp elt [⟨tg, iter, ifs, 0⟩] scope pos) scope X.env pos' (newList []) false (eval iter X.env) use) Qf X.xe s := by
  have hfree : ∀ y ∈ scope.names, y.2 = .free → ∃ c, X.env.cells.lookup y.1 = some c := fun y hy e => by
    rcases ok.free y hy e with k | k
    · exact I.ok.has _ (.inl k)
    · exact I.ok.has _ (.inr k)
  refine comprehension_at (use := use) rfl hfold (closure_ok hfree) ok.kind (fun y hy e => by rw [ok.uniq y hy, e])
    (thn (hi.run pins s σ H _ I h) fun xv s1 hx => thn hx fun itv s2 h2 => ?_)
  obtain ⟨it, fp, tn, J, H2, e, I2, T, st2, f2, q⟩ := h2
  subst e
  refine wpAny_newObj_type (newEnv_comp ?_) (by show 0 ≤ sizeLine; decide)
  generalize hD : s2.heap.objs.size = D
  have hDn : H2 D = none := I2.hok.fresh (Nat.le_of_eq hD)
  obtain ⟨Wt, ⟨m0, w0⟩, turn⟩ := q D hDn
  generalize hs3 : ({ s2 with heap := s2.heap.push { cls := .type "list", data := .seq ([] : List Value).toArray } } : Shared) = s3
  have I3 : Inv X pins σ (upd H2 D (.lst [])) s3 := by
    rw [← hs3]
    refine I2.laid (t' := s2.toks) (fun b o e => Heap.get?_push_of_some _ e) (Nat.le_of_eq hD) ⟨Nat.zero_le _, [], 0, .nil, ?_⟩
    rw [← hD]
    exact Heap.get?_push_size _ rfl
  have h3 : s3.heap = s2.heap.push { cls := .type "list", data := .seq ([] : List Value).toArray } := by rw [← hs3]
  have old : ∀ b ∈ fp, b < s2.heap.objs.size := fun b hb => by
    obtain ⟨o, e, _⟩ := T.obj _ _ st2 b hb
    exact Heap.lt_size e
  have f3 : ∀ b ∈ fp, FpOk X pins (upd H2 D (.lst [])) b ∧ b < s3.heap.objs.size := fun b hb => by
    have hlt := old b hb
    refine ⟨⟨?_, (f2 b hb).2⟩, by rw [h3, Heap.size_push]; exact Nat.lt_succ_of_lt hlt⟩
    rw [upd_ne (by rw [← hD]; exact Nat.ne_of_lt hlt)]
    exact (f2 b hb).1
  have st3 : tn 0 s3.heap := T.keep _ _ _ st2 fun b _ o e => by rw [h3]; exact Heap.get?_push_of_some _ e
  have I4 := block_start I3 ok hN f3
  have pg := hg s3 (upd H2 D (.lst [])) s3.heap.objs.size (cellsFrom (s3.heap.objs.size + 1) scope.names (cloFrom X.env.cells scope.names [])) fp
  have pt := ht s3 (upd H2 D (.lst [])) s3.heap.objs.size (cellsFrom (s3.heap.objs.size + 1) scope.names (cloFrom X.env.cells scope.names [])) fp
  have pe := fun xe => he s3 (upd H2 D (.lst [])) s3.heap.objs.size (cellsFrom (s3.heap.objs.size + 1) scope.names (cloFrom X.env.cells scope.names [])) fp xe
  show codeAny _ _ (.compStart (.ListComp elt [⟨tg, iter, ifs, 0⟩] scope pos) 0 (.ref it) (.ref D) (compEnvC scope (cellsFrom (s3.heap.objs.size + 1) scope.names (cloFrom X.env.cells scope.names [])) s3.heap.objs.size X.env))
    (compEnds (model X.prog X.w) X.A X.xe use Qf (.ref D) (compEnvC scope (cellsFrom (s3.heap.objs.size + 1) scope.names (cloFrom X.env.cells scope.names [])) s3.heap.objs.size X.env)) { s3 with heap := pushCells (s3.heap.push { cls := .type "dict", data := .dict #[] }) scope.names }
  have nfp : ∀ b ∈ fp, (upd H2 D (.lst [])) b = none := fun b hb => (f3 b hb).1.1
  generalize hce : compEnvC scope (cellsFrom (s3.heap.objs.size + 1) scope.names (cloFrom X.env.cells scope.names [])) s3.heap.objs.size X.env = ce at I4 pg pt pe ⊢
  have cL : ce.locals = s3.heap.objs.size := by subst hce; rfl
  have cF : ce.frame = X.env.frame := by subst hce; rfl
  generalize hH3 : upd H2 D (.lst []) = H3 at I3 I4 pg pt pe w0 nfp f3
  have pass := out_of_block (E := E) (scope := scope) (ce := ce) (fp := fp) hs hf cF tk I3 (fun b hb => (f3 b hb).1) cL
  have pel := pe _ pass
  generalize hs4 : ({ s3 with heap := pushCells (s3.heap.push { cls := .type "dict", data := .dict #[] }) scope.names } : Shared) = s4 at I4 ⊢
  have st4 : tn 0 s4.heap := T.keep _ _ _ st3 fun b _ o e => by rw [← hs4]; exact pushCells_keeps _ _ _ _ (Heap.get?_push_of_some _ e)
  have stat : ∀ {σ' : L2.St} {H' : Hp} {s' : Shared}, Inv (X.blk s3 H3 scope ce fp) [] σ' H' s' → (∀ b ∈ fp, H' b = none) → ∀ b ∈ fp, FpOk (X.blk s3 H3 scope ce fp) [] H' b := fun {σ' H' s'} I' hn b hb =>
    ⟨hn b hb, (I'.ok.exf b hb).1, I'.ok.exfs b hb, .inl hb, fun x c e => (I'.ok.exf b hb).2 x c e, fun p hp => absurd (show p ∈ ([] : List (Addr × Obj)) ++ [] from hp) (by simp)⟩
  have loop : codeAny (model X.prog X.w) X.A (.compLoop (.ListComp elt [⟨tg, iter, ifs, 0⟩] scope pos) 0 (.ref it) (.ref D) ce) (compEnds (model X.prog X.w) X.A X.xe use Qf (.ref D) ce) s4 := by
    refine compLoop_any (fun n s' => ∃ i H', Inv (X.blk s3 H3 scope ce fp) [] (wipe σ (own.map (·.2))) H' s' ∧ tn i s'.heap ∧ (∀ b ∈ fp, H' b = none) ∧ Wt i n H') ?_ m0 ⟨0, H3, I4, st4, nfp, w0⟩
    rintro n s5 ⟨i, H5, I5, st5, n5, w5⟩
    rcases turn i n H5 w5 with ⟨stop, qq⟩ | ⟨go, Nx, hNx, step⟩
    · have td := T.done (X.blk s3 H3 scope ce fp) rfl rfl rfl hc i [] s5 _ H5 (fun _ _ => False) I5 (stat I5 n5) st5 stop
      refine thnF td fun r s6 ⟨hr, I6⟩ => ?_
      subst hr
      have I7 : Inv X pins σ H5 s6 := I3.call' (ch := fp) I6.os I6.base I6.hok I6.bare fun b hb => ⟨(f3 b hb).1.2.2.2.1, (f3 b hb).1.2.1, (f3 b hb).1.2.2.2.2.1, (f3 b hb).1.2.2.2.2.2⟩
      have nC : H5 ce.locals = none := I6.free
      obtain ⟨m, hn, _⟩ := I6.loc
      have hn : s6.heap.Ns ce.locals m := hn
      have f : FpOk X pins H5 ce.locals := by
        rw [cL] at nC ⊢
        exact I3.fpOk (Nat.le_refl _) nC
      exact hRR D ce s6 m H5 I7 qq hn f
    · have ti := T.item (X.blk s3 H3 scope ce fp) rfl rfl rfl hc i [] s5 _ H5 (fun _ _ => False) I5 (stat I5 n5) st5 go
      refine thnF ti fun r s6 ⟨u, hr, h6⟩ => ?_
      subst hr
      refine thnF h6 fun _ s7 ⟨x, H7, I7, r7, y7, st7, n7⟩ => ?_
      have I7' := I7.pinned (stat I7 n7) (T.obj _ _ st7)
      refine thnF (pg.run _ s7 _ H7 x u _ I7' r7 (step x H7 y7)) fun _ s8 ⟨σ8, H8, I8, hw8, q8⟩ => ?_
      refine thnF (pt.run _ s8 σ8 H8 _ I8 q8) fun b s9 ⟨H9, I9, q9⟩ => ?_
      have fin : ∀ {s' : Shared} {H' : Hp}, Inv (X.blk s3 H3 scope ce fp) ([] ++ pinsAt fp s7.heap) σ8 H' s' → Nx H' → ∃ m, m < n ∧ ∃ i H', Inv (X.blk s3 H3 scope ce fp) [] (wipe σ (own.map (·.2))) H' s' ∧ tn i s'.heap ∧ (∀ b ∈ fp, H' b = none) ∧ Wt i m H' := fun {s' H'} I' nx => by
        obtain ⟨m', hm, w'⟩ := hNx H' nx
        have pin' : ∀ b ∈ fp, ∀ o, s7.heap.get? b = some o → s'.heap.get? b = some o ∧ H' b = none := fun b hb o e =>
          let z := I'.pin (b, o) (List.mem_append_right _ (List.mem_append_right _ (mem_pinsAt hb e)))
          ⟨z.1, z.2.1⟩
        have hl : (wipe σ (own.map (·.2))).length = σ8.length := by rw [← hw8, wipe_length]
        refine ⟨m', hm, i + 1, H', (I'.unpinned (pins := [])).weak hl (fun j v e => ?_), T.keep _ _ _ st7 fun b hb o e => (pin' b hb o e).1, fun b hb => ?_, w'⟩
        · rw [← hw8] at e
          exact (wipe_some e).1
        · obtain ⟨o, e, _⟩ := T.obj _ _ st7 b hb
          exact (pin' b hb o e).2
      cases b with
      | false =>
        simp only [Bool.false_eq_true, if_false] at q9 ⊢
        exact fin I9 q9
      | true =>
        simp only [if_true] at q9 ⊢
        refine wpAny_mono (pel.run _ s9 σ8 H9 _ (toX I9) q9) (fun z s10 hz => ?_) fun _ _ w => w
        obtain ⟨yv, H10, I10, r10, acc, hD10, hz10, nx⟩ := hz
        exact app_ok (X := X.blk s3 H3 scope ce fp) (ofX I10) hD10 hz10 r10 fun s11 I11 => fin I11 nx
  exact codeAny_compStart_list loop (T.self X.A 0 _ _ _ st4 loop)
/-- as a value -/
theorem pe_lcX {E : XK} {elt tg iter : Expr} {ifs : List Expr} {scope : Scope} {own : List (Str × Nat)} {pos : Pos} {wi : TI} {g : TG} {tt : TT} {te : TE} (hs : X.stack = X.env :: X.outer) (hf : X.env.frame = some X.env.locals) (tk : L2N.Takes X (fun cls d _ H => E cls d H))
    (hc : X.calm = true) (hN : X.N.Nodup) (hi : PI X tg iter wi) (ok : BlkOk X.N X.env.scope scope own)
    (hg : ∀ (s : Shared) (H : Hp) (C : Addr) (cl : List (Str × Addr)) (fp : List Addr), PG (X.blk s H scope (compEnvC scope cl C X.env) fp) tg g) (ht : ∀ (s : Shared) (H : Hp) (C : Addr) (cl : List (Str × Addr)) (fp : List Addr), PTs (X.blk s H scope (compEnvC scope cl C X.env) fp) ifs tt)
    (he : ∀ (s : Shared) (H : Hp) (C : Addr) (cl : List (Str × Addr)) (fp : List Addr) (xe : Value → Shared → Prop), (∀ σb, PassesAt (L2N.CX X.prog X.w) (blkX X s H scope (compEnvC scope cl C X.env) fp xe) σb E) → PE (blkX X s H scope (compEnvC scope cl C X.env) fp xe) elt te)
    (hfold : ∀ x, foldedSetIterable iter X.env x = pure x := by intro _; rfl) :
    PE X (.ListComp elt [⟨tg, iter, ifs, 0⟩] scope pos) (tLc wi g tt te (own.map (·.2))) := by
  refine ⟨fun pins s σ H Q I h => ?_⟩
  rw [eval_ListComp]
  refine lc_coreX (Q := Q) hs hf tk I hc hN hi ok hg ht he hfold h fun D ce s' m H' I' q hn f => ⟨m, hn, fun h'' sb => ?_⟩
  obtain ⟨f0, f1, f2, f3, f4, f5⟩ := f
  exact ⟨.ref D, H', I'.turned (t' := s'.toks) (fun b o hb e => (sb.2 b hb).trans e) f0 f1 f3 f4 f5, rfl, q⟩
/-- name = [..] on one line, the name a local -/
theorem ps_setLcX {E : XK} {i : Nat} {y : Str} {py : Pos} {elt tg iter : Expr} {ifs : List Expr} {scope : Scope} {own : List (Str × Nat)} {pos spos : Pos} {wi : TI} {g : TG} {tt : TT} {te : TE} (hs : X.stack = X.env :: X.outer) (hf : X.env.frame = some X.env.locals) (tk : L2N.Takes X (fun cls d _ H => E cls d H))
    (hc : X.calm = true) (hN : X.N.Nodup) (hy : X.N[i]? = some y) (hyl : X.env.scope.names.lookup y = some .local)
    (hsw : swapsWith (.ListComp elt [⟨tg, iter, ifs, 0⟩] scope pos) (some (.Name y py)) spos.line X.env = pure true) (hi : PI X tg iter wi) (ok : BlkOk X.N X.env.scope scope own)
    (hg : ∀ (s : Shared) (H : Hp) (C : Addr) (cl : List (Str × Addr)) (fp : List Addr), PG (X.blk s H scope (compEnvC scope cl C X.env) fp) tg g) (ht : ∀ (s : Shared) (H : Hp) (C : Addr) (cl : List (Str × Addr)) (fp : List Addr), PTs (X.blk s H scope (compEnvC scope cl C X.env) fp) ifs tt)
    (he : ∀ (s : Shared) (H : Hp) (C : Addr) (cl : List (Str × Addr)) (fp : List Addr) (xe : Value → Shared → Prop), (∀ σb, PassesAt (L2N.CX X.prog X.w) (blkX X s H scope (compEnvC scope cl C X.env) fp xe) σb E) → PE (blkX X s H scope (compEnvC scope cl C X.env) fp xe) elt te)
    (hfold : ∀ x, foldedSetIterable iter X.env x = pure x := by intro _; rfl) :
    PS X (.Assign [.Name y py] (.ListComp elt [⟨tg, iter, ifs, 0⟩] scope pos) spos) (tAsg (tLc wi g tt te (own.map (·.2))) (gName i)) := by
  refine ⟨fun pins s σ H D I h => ?_⟩
  rw [exec_Assign_Name_used _ _ _ _ hsw]
  refine wpAny_bind (wpAny_standAt (wpAny_bind ?_))
  show wpAny _ X.A (do let _ ← comprehension (.ListComp elt [⟨tg, iter, ifs, 0⟩] scope pos) scope X.env (firstIterPos [⟨tg, iter, ifs, 0⟩] pos) (newList []) false (eval iter X.env) (some (assign (.Name y py) X.env))) _ _ s
  have h : tLc wi g tt te (own.map (·.2)) σ H (fun x H1 => gName i x σ H1 D.nx) := h
  refine wpAny_bind (thn (lc_coreX (Q := fun x H1 => gName i x σ H1 D.nx) (Qf := fun _ s' => SP X pins D .next s') hs hf tk I hc hN hi ok hg ht he hfold h fun L ce s' m H' I' q hn f => ?_) fun _ s' hq => wpAny_pure (wpAny_pure hq))
  show wpAny _ _ (assign (.Name y py) X.env (.ref L)) _ _ _
  refine wpAny_assign_Name (store_ok2 (v := V.ref L) I' hN hy (.inl hyl) rfl (fun s2 I2 ⟨a, sb, ha⟩ => ?_) (.inr hyl))
  obtain ⟨f0, f1, f2, f3, f4, f5⟩ := f
  have haC : ce.locals ≠ a := by
    rcases ha with z | z
    · rw [z]; exact f1
    · exact fun e => f4 y a z e.symm
  refine ⟨m, hn.sameBut sb haC, fun h3 sb3 => ?_⟩
  exact ⟨_, H', I2.turned (t' := s2.toks) (fun b o hb e => (sb3.2 b hb).trans e) f0 f1 f3 f4 f5, q⟩
end
end LcX
set_option Elab.async false
set_option linter.all false
set_option maxRecDepth 100000
set_option maxHeartbeats 2000000
/-! # min(a list of whole numbers, default=None) -/
namespace MinD
open PySem PyProof.Rows
/-- what the loop holds behind j items -/
def Held (ns : List Int) (j : Nat) (st : Array Value) : Prop := (j = 0 ∧ st = #[]) ∨ ∃ (m : Int) (t : Tok), st = #[.int m t, .int m t] ∧ m ∈ ns.take j ∧ ∀ a ∈ ns.take j, m ≤ a
def MinIs (ns : List Int) (v : Value) : Prop := (ns = [] ∧ v = .none) ∨ ∃ (m : Int) (t : Tok), v = .int m t ∧ m ∈ ns ∧ ∀ a ∈ ns, m ≤ a
theorem take_one {ns : List Int} {j : Nat} (h : j < ns.length) : ns.take (j + 1) = ns.take j ++ [ns.getD j 0] := by
  rw [List.take_add_one, List.getElem?_eq_getElem h, List.getD_eq_getElem?_getD, List.getElem?_eq_getElem h]
  rfl
section
variable {prog : Program} {w : World} {A : Around} {E : Value → Shared → Prop} {R : Result → Shared → Prop}
theorem loop (hh : A.handled = none) {l I S : Addr} (hlI : l ≠ I) (hSI : S ≠ I) (hSl : S ≠ l) {its : List Value} {ns : List Int} (hi : IntsAre its ns) :
    ∀ (k j : Nat) (s : Shared) (st : Array Value) (c : Nat), its.length - j = k → j ≤ its.length → s.heap.IsListIter I l j → s.heap.IsList l its.toArray →
      s.heap.get? S = some { cls := .type "list", dict := none, data := .seq st c, slots := #[] } → Held ns j st →
      (∀ v h' tk, MinIs ns v → (∀ b o, b ≠ I → b ≠ S → s.heap.get? b = some o → h'.get? b = some o) → R (.ok (.ret v)) { s with heap := h', toks := tk }) →
      codeAny (model prog w) A (.builtin "min.loop" ⟨[.ref I, .none, .ref S], [(("default" : Str), .none)]⟩) R s := by
  have hname : (toString "min" ++ toString ".loop" : String) = "min.loop" := by decide
  have W := Walks.list (prog := prog) (w := w) (A := A.in1) hh I l hlI its.toArray
  have hsz : its.toArray.size = its.length := List.size_toArray ..
  have hlen := hi.length
  intro k
  induction k with
  | zero =>
    intro j s st c hk hj hit hls hS hold hR
    have hjn : j = its.toArray.size := by omega
    refine codeAny_builtin PySem.F.entry_min_loop ?_
    rw [Around.under_plainId PySem.F.plain_min_loop _]
    show wpAny _ A.in1 (seqItems? (.ref S) >>= _) _ _ s
    refine wpAny_bind (wpAny_seqItems hS rfl ?_)
    show wpAny _ A.in1 (tryCatch (pyNext (.ref I)) _ >>= _) _ _ s
    refine wpAny_bind (wpAny_tryCatch (W.done s _ _ (by rw [← hjn]; exact ⟨hit, hls⟩) fun h' tk hk' => ?_))
    have keep : ∀ b o, b ≠ I → s.heap.get? b = some o → h'.get? b = some o := fun b o hb e => hk' b o (by simpa using hb) e
    rcases hold with ⟨j0, rfl⟩ | ⟨m, t, rfl, hm, hle⟩
    · have hns : ns = [] := List.length_eq_zero_iff.mp (by omega)
      show wpAny _ A.in1 (rule _ >>= _) _ _ _
      refine wpAny_bind (wpAny_rule (wpAny_pure ?_))
      exact hR .none h' tk (.inl ⟨hns, rfl⟩) fun b o hb _ e => keep b o hb e
    · have hS' := keep S _ hSI hS
      have htk : ns.take j = ns := List.take_of_length_le (by omega)
      rw [htk] at hm hle
      show wpAny _ A.in1 (updateSeq S (fun _ => #[]) >>= _) _ _ _
      refine wpAny_bind ?_
      refine wpAny_updateSeq hS' rfl (wpAny_bind (wpAny_letGo (wpAny_pure ?_)))
      exact hR _ _ tk (.inr ⟨m, t, rfl, hm, hle⟩) fun b o hb hbS e => (Heap.get?_update_other _ _ (Ne.symm hbS)).trans (keep b o hb e)
  | succ k ih =>
    intro j s st c hk hj hit hls hS hold hR
    have hlt : j < its.length := by omega
    refine codeAny_builtin PySem.F.entry_min_loop ?_
    rw [Around.under_plainId PySem.F.plain_min_loop _]
    show wpAny _ A.in1 (seqItems? (.ref S) >>= _) _ _ s
    refine wpAny_bind (wpAny_seqItems hS rfl ?_)
    show wpAny _ A.in1 (tryCatch (pyNext (.ref I)) _ >>= _) _ _ s
    refine wpAny_bind (wpAny_tryCatch (W.item j s _ _ (by rw [hsz]; exact hlt) ⟨hit, hls⟩ fun v h' tk hP hst' hk' => ?_))
    have keep : ∀ b o, b ≠ I → s.heap.get? b = some o → h'.get? b = some o := fun b o hb e => hk' b o (by simpa using hb) e
    have hv : its[j]? = some v := by simpa using hP
    obtain ⟨t0, rfl⟩ := IntsAre.int_at hi j v hv
    have hS' := keep S _ hSI hS
    have ht1 := take_one (ns := ns) (j := j) (by omega)
    -- what follows where the pair is replaced
    have put : ∀ E : Value → Shared → Prop, wpAny (model prog w) A.in1 (updateSeq S (fun _ => #[Value.int (ns.getD j 0) t0, Value.int (ns.getD j 0) t0]) : Sem Unit) (fun _ s2 => ∃ c2, s2 = { s with heap := h'.update S (Obj.mapSeq fun _ => #[Value.int (ns.getD j 0) t0, Value.int (ns.getD j 0) t0]), toks := tk } ∧
        s2.heap.get? S = some { cls := .type "list", dict := none, data := .seq #[Value.int (ns.getD j 0) t0, Value.int (ns.getD j 0) t0] c2, slots := #[] }) E { s with heap := h', toks := tk } := by
      intro E
      refine wpAny_updateSeq hS' rfl ?_ (by rcases hold with ⟨_, rfl⟩ | ⟨_, _, rfl, _⟩ <;> (rw [sizeLine_eq]; simp))
      exact ⟨_, rfl, Heap.get?_update_self _ hS' rfl⟩
    have again : ∀ (c2 : Nat) (t2 : Nat), (h'.update S (Obj.mapSeq fun _ => #[Value.int (ns.getD j 0) t0, Value.int (ns.getD j 0) t0])).get? S = some { cls := .type "list", dict := none, data := .seq #[Value.int (ns.getD j 0) t0, Value.int (ns.getD j 0) t0] c2, slots := #[] } →
        (∀ a ∈ ns.take j, ns.getD j 0 ≤ a) →
        codeAny (model prog w) A (.builtin "min.loop" ⟨[.ref I, .none, .ref S], [(("default" : Str), .none)]⟩) R { s with heap := h'.update S (Obj.mapSeq fun _ => #[Value.int (ns.getD j 0) t0, Value.int (ns.getD j 0) t0]), toks := t2 } := by
      intro c2 t2 hS2 hle
      have oth : ∀ b, b ≠ S → (h'.update S (Obj.mapSeq fun _ => #[Value.int (ns.getD j 0) t0, Value.int (ns.getD j 0) t0])).get? b = h'.get? b := fun b hb => Heap.get?_update_other _ _ (Ne.symm hb)
      obtain ⟨⟨oI, e1, e2⟩, ⟨oL, e3, e4⟩⟩ := hst'
      refine ih (j + 1) _ _ c2 (by omega) hlt ⟨oI, (oth I (Ne.symm hSI)).trans e1, e2⟩ ⟨oL, (oth l (Ne.symm hSl)).trans e3, e4⟩ hS2 (.inr ⟨_, t0, rfl, ?_, fun a ha => ?_⟩) fun v' h'' tk'' hv' hk'' => ?_
      · rw [ht1]
        exact List.mem_append_right _ List.mem_cons_self
      · rw [ht1] at ha
        rcases List.mem_append.mp ha with ha | ha
        · exact hle a ha
        · rw [List.mem_singleton.mp ha]
          exact Int.le_refl _
      · exact hR v' h'' tk'' hv' fun b o hb hbS e => hk'' b o hb hbS ((oth b hbS).trans (keep b o hb e))
    rcases hold with ⟨j0, rfl⟩ | ⟨m, t, rfl, hm, hle⟩
    · show wpAny _ A.in1 (updateSeq S (fun _ => #[Value.int (ns.getD j 0) t0, Value.int (ns.getD j 0) t0]) >>= _) _ _ _
      refine wpAny_bind (wpAny_mono (put _) (fun _ s2 hs2 => ?_) fun _ _ z => z)
      obtain ⟨c2, rfl, hS2⟩ := hs2
      rw [hname]
      refine wpAny_pure ⟨plainId_quiet PySem.F.plain_min_loop _, again c2 tk hS2 fun a ha => ?_⟩
      rw [j0] at ha
      cases ha
    · show wpAny _ A.in1 (tryCatch (holding [Value.int (ns.getD j 0) t0, Value.int (ns.getD j 0) t0] (richCompare .Lt (Value.int (ns.getD j 0) t0) (Value.int m t) >>= _)) _ >>= _) _ _ _
      refine wpAny_bind (wpAny_tryCatch (wpAny_holding (wpAny_bind (CmpOf.ints_lt (prog := prog) (w := w) (A := A.in1) (P := fun (i : Nat) v => ∃ t, v = .int (if i = 0 then ns.getD j 0 else m) t) (fun i => if i = 0 then ns.getD j 0 else m) (fun _ _ h => h) 0 1 _ _ _ _ _ ⟨t0, rfl⟩ ⟨t, rfl⟩ ?_))))
      refine wpAny_bind (wpAny_holding (wpAny_truthy_bool ?_))
      refine wpAny_bind (wpAny_letGo (wpAny_pure ?_))
      show wpAny _ _ (if decide (ns.getD j 0 < m) = true then _ else _) _ _ _
      by_cases hb : ns.getD j 0 < m
      · rw [decide_eq_true hb]
        simp only [if_true]
        refine wpAny_bind (wpAny_mono (put _) (fun _ s2 hs2 => ?_) fun _ _ z => z)
        obtain ⟨c2, rfl, hS2⟩ := hs2
        refine wpAny_bind (wpAny_letGo ?_)
        rw [hname]
        refine wpAny_pure ⟨plainId_quiet PySem.F.plain_min_loop _, again c2 tk hS2 fun a ha => ?_⟩
        have := hle a ha
        omega
      · rw [decide_eq_false hb]
        simp only [Bool.false_eq_true, if_false]
        refine wpAny_bind (wpAny_letGo ?_)
        rw [hname]
        refine wpAny_pure ⟨plainId_quiet PySem.F.plain_min_loop _, ih (j + 1) _ _ c (by omega) hlt hst'.1 hst'.2 hS' (.inr ⟨m, t, rfl, ?_, fun a ha => ?_⟩) fun v' h'' tk'' hv' hk'' => ?_⟩
        · rw [ht1]
          exact List.mem_append_left _ hm
        · rw [ht1] at ha
          rcases List.mem_append.mp ha with ha | ha
          · exact hle a ha
          · rw [List.mem_singleton.mp ha]
            omega
        · exact hR v' h'' tk'' hv' fun b o hb' hbS e => hk'' b o hb' hbS (keep b o hb' e)
theorem args_min_default (a v : Value) : argsOk "min" ⟨[a], [(Str.ofString "default", v)]⟩ := by unfold argsOk; kernel_rfl
theorem call_min {s : Shared} {l : Addr} {its : List Value} {ns : List Int} {Q : Value → Shared → Prop} (hh : A.handled = none) (hl : s.heap.IsList l its.toArray) (hi : IntsAre its ns)
    (h : ∀ v h' tk, MinIs ns v → (∀ b o, s.heap.get? b = some o → h'.get? b = some o) → Q v { s with heap := h', toks := tk }) :
    wpAny (model prog w) A (call (.builtin "min") [.ref l] [(Str.ofString "default", .none)]) Q E s := by
  have hname : (toString "min" ++ toString ".loop" : String) = "min.loop" := by decide
  obtain ⟨ol, hol, _⟩ := id hl
  have hll : l < s.heap.objs.size := Heap.lt_size hol
  refine kmk_tree PySem.F.kind_min PySem.F.plain_min PySem.F.entry_min (args_min_default _ _) ?_
  show wpAny _ A.in1 (Builtin.Builtins.bindParams "min" ["key", "default"] 0 ⟨[], [(Str.ofString "default", .none)]⟩ >>= _) _ _ s
  refine wpAny_bind (wpAny_of_eq (show Builtin.Builtins.bindParams "min" ["key", "default"] 0 ⟨[], [(Str.ofString "default", .none)]⟩ = pure [none, some .none] from rfl) ?_)
  refine wpAny_bind (wpAny_pure ?_)
  refine wpAny_bind (wpAny_pyIter_list hl ?_)
  refine wpAny_bind (wpAny_newList ?_ (Nat.zero_le _))
  rw [hname]
  have hsz : (s.heap.push { cls := .type "list_iterator", data := .fields #[.ref l, .int 0 0] }).objs.size = s.heap.objs.size + 1 := size_push' ..
  refine wpAny_pure ⟨plainId_quiet PySem.F.plain_min_loop _, ?_⟩
  refine loop hh (I := s.heap.objs.size) (l := l) (S := (s.heap.push { cls := .type "list_iterator", data := .fields #[.ref l, .int 0 0] }).objs.size) (Nat.ne_of_lt hll) (by rw [hsz]; exact Nat.ne_of_gt (Nat.lt_succ_self _))
    (by rw [hsz]; exact Nat.ne_of_gt (Nat.lt_succ_of_lt hll)) hi its.length 0 _ #[] 0 (by omega) (Nat.zero_le _) ⟨_, Heap.get?_push_of_some _ (Heap.get?_push_size _ rfl), rfl, rfl⟩ ((hl.push _).push _) (Heap.get?_push_size _ rfl) (.inl ⟨rfl, rfl⟩) fun v h' tk hv hk => ?_
  exact h v h' tk hv fun b o e => hk b o (Nat.ne_of_lt (Heap.lt_size e)) (by rw [hsz]; exact Nat.ne_of_lt (Nat.lt_succ_of_lt (Heap.lt_size e))) (Heap.get?_push_of_some _ (Heap.get?_push_of_some _ e))
end
end MinD
namespace L2
open PySem PySem.Spec PyProof.Rows
/-- min(xs, default=None): the least, or None -/
def rMinD (K : PySem.W.Frag) : List V → List V → Hp → VK → Prop := fun vs zs H Q => ∃ (a : Addr) (ns : List Int), vs = [V.ref a] ∧ zs = [V.non] ∧ SqL K H a (ns.map V.int) ∧ (ns = [] → Q .non H) ∧ ∀ m : Int, m ∈ ns → (∀ j ∈ ns, m ≤ j) → Q (.int m) H
theorem cr_minD {X : Cx} (hc : X.calm = true) : CallRK X (.builtin "min") [("default" : Str)] (rMinD X.K) := by
  intro pins s σ H xs zs us ws Q I r rz h
  obtain ⟨a, ns, rfl, rfl, hs, q0, q1⟩ := h
  obtain ⟨its, rv, hl, _⟩ := I.list hs
  rw [Vals.ref1 r]
  cases rz with
  | cons rz1 rz2 =>
    cases rz2
    cases rz1
    refine MinD.call_min (I.ok.hd hc) hl.isList rv.ints fun v h' tk hv hk => ?_
    rcases hv with ⟨e, rfl⟩ | ⟨m, t, rfl, h1, h2⟩
    · exact ⟨.non, H, I.kept hk, rfl, q0 e⟩
    · exact ⟨.int m, H, I.kept hk, ⟨_, rfl⟩, q1 m h1 h2⟩
end L2
set_option Elab.async false
set_option linter.all false
set_option maxRecDepth 100000
set_option maxHeartbeats 4000000
/-! # len(set(a list of whole numbers)): the list may be long, its different numbers are few -/
namespace SetF
open PySem PyProof.Rows
theorem met_mono (val : Nat → Int) (i : Nat) : (firstMet val i).length ≤ (firstMet val (i + 1)).length := by
  rw [firstMet_succ, step_length]
  split <;> omega
theorem met_le (val : Nat → Int) {n : Nat} : ∀ k i, n - i = k → i ≤ n → (firstMet val i).length ≤ (firstMet val n).length
  | 0, i, h, hi => by
    have : i = n := by omega
    rw [this]
    exact Nat.le_refl _
  | k + 1, i, h, hi => Nat.le_trans (met_mono val i) (met_le val k (i + 1) (by omega) (by omega))
section
variable {prog : Program} {w : World} {A : Around} {R : Result → Shared → Prop} {E : Value → Shared → Prop}
theorem adds (hh : A.handled = none) {l I S : Addr} (hlI : l ≠ I) (hSI : S ≠ I) (hSl : S ≠ l) {items : Array Value} {val : Nat → Int} (hval : ∀ (i : Nat) (v : Value), items[i]? = some v → ∃ t, v = .int (val i) t)
    (few : (firstMet val items.size).length + 1 < scanBound) :
    ∀ (k i : Nat) (s : Shared), items.size - i = k → i ≤ items.size → s.heap.IsListIter I l i → s.heap.IsList l items →
      s.heap.SetOf (intKind prog w) S (fun k' => (firstMet val i).any (· == k')) (firstMet val i).length →
      (∀ h' tk, (∀ b o, b ≠ I → b ≠ S → s.heap.get? b = some o → h'.get? b = some o) → h'.SetOf (intKind prog w) S (fun k' => (firstMet val items.size).any (· == k')) (firstMet val items.size).length → R (.ok (.ret .none)) { s with heap := h', toks := tk }) →
      codeAny (model prog w) A (.builtin "set.update.loop" ⟨[.ref S, .ref I], []⟩) R s := by
  have W := Walks.list (prog := prog) (w := w) (A := A.in1) hh I l hlI items
  intro k
  induction k with
  | zero =>
    intro i s hk hi hit hls hS hR
    have hin : i = items.size := by omega
    refine codeAny_builtin PyProof.Rows.F.entry_set_update_loop ?_
    rw [Around.under_plainId PyProof.Rows.F.plain_set_update_loop _]
    show wpAny _ A.in1 (pyNext (.ref I) >>= _) _ _ s
    refine wpAny_bind (W.done s _ _ (by rw [← hin]; exact ⟨hit, hls⟩) fun h' tk hk' => ?_)
    have keep : ∀ b o, b ≠ I → s.heap.get? b = some o → h'.get? b = some o := fun b o hb e => hk' b o (by simpa using hb) e
    show wpAny _ A.in1 (ret Value.none) _ _ _
    obtain ⟨o, es, ep, t, ho, rest⟩ := hS
    exact wpAny_pure (hR h' tk (fun b o hb _ e => keep b o hb e) (by rw [← hin]; exact ⟨o, es, ep, t, keep S o hSI ho, rest⟩))
  | succ k ih =>
    intro i s hk hi hit hls hS hR
    have hlt : i < items.size := by omega
    refine codeAny_builtin PyProof.Rows.F.entry_set_update_loop ?_
    rw [Around.under_plainId PyProof.Rows.F.plain_set_update_loop _]
    show wpAny _ A.in1 (pyNext (.ref I) >>= _) _ _ s
    refine wpAny_bind (W.item i s _ _ hlt ⟨hit, hls⟩ fun v h' tk hP hst' hk' => ?_)
    have keep : ∀ b o, b ≠ I → s.heap.get? b = some o → h'.get? b = some o := fun b o hb e => hk' b o (by simpa using hb) e
    obtain ⟨t, rfl⟩ := hval i v hP
    have hS' : h'.SetOf (intKind prog w) S (fun k' => (firstMet val i).any (· == k')) (firstMet val i).length := by
      obtain ⟨o, es, ep, tb, ho, rest⟩ := hS
      exact ⟨o, es, ep, tb, keep S o hSI ho, rest⟩
    show wpAny _ A.in1 (holding [Value.int (val i) t] (setAdd S (.int (val i) t)) >>= _) _ _ _
    refine wpAny_bind (wpAny_holding ?_)
    unfold setAdd
    refine wpAny_holding ?_
    refine wpAny_bind ((intKind prog w).pyHash (k := val i) (intKind_is _ _ _ _) ?_)
    have room : (firstMet val i).length + 1 < scanBound := by
      have := met_le val (items.size - i) i rfl hi
      omega
    refine wpAny_setAddHashed_of (knd := intKind prog w) (s := { s with heap := h', toks := tk + 1 }) (intKind_is _ _ _ _) rfl hS' room fun h2 hsb hS2 => ?_
    have hSi : h2.SetOf (intKind prog w) S (fun k' => (firstMet val (i + 1)).any (· == k')) (firstMet val (i + 1)).length :=
      SetOf_congr hS2 (fun k' => by rw [firstMet_succ, step_any]) (by rw [firstMet_succ, step_length])
    obtain ⟨⟨oI, e1, e2⟩, ⟨oL, e3, e4⟩⟩ := hst'
    refine wpAny_pure ⟨plainId_quiet PyProof.Rows.F.plain_set_update_loop _, ih (i + 1) _ (by omega) hlt ⟨oI, (hsb.2 I (Ne.symm hSI)).trans e1, e2⟩ ⟨oL, (hsb.2 l (Ne.symm hSl)).trans e3, e4⟩ hSi fun h3 tk3 k3 hS3 => ?_⟩
    exact hR h3 tk3 (fun b o hb hbS e => k3 b o hb hbS ((hsb.2 b hbS).trans (keep b o hb e))) hS3
theorem call_set {s : Shared} {l : Addr} {items : Array Value} {ns : List Int} {Q : Value → Shared → Prop} (hh : A.handled = none) (hl : s.heap.IsList l items) (hi : IntsAre items.toList ns) (few : (firstMet (fun i => ns.getD i 0) items.size).length + 1 < scanBound)
    (h : ∀ (h' : Heap) (tk : Nat), h'.SetOf (intKind prog w) s.heap.objs.size (fun k' => (firstMet (fun i => ns.getD i 0) items.size).any (· == k')) (firstMet (fun i => ns.getD i 0) items.size).length →
      (∀ b o, s.heap.get? b = some o → h'.get? b = some o) → Q (.ref s.heap.objs.size) { s with heap := h', toks := tk }) :
    wpAny (model prog w) A (call (.type "set") [.ref l]) Q E s := by
  obtain ⟨c, tl, hmro⟩ := F.called_set.mro
  have made := F.called_set.made
  have subs := F.called_set.sub
  refine wpAny_call (codeAny_of_tree ?_)
  show wpAny _ _ (callAny (.type "set") _) _ _ _
  refine wpAny_pure ⟨Code.quiet_builtin _ (by decide +kernel), codeAny_builtin F.entry_type_call ?_⟩
  rw [Around.under_plain (weight_type_call_type "set" [.ref l] []) rfl]
  have t1 := F.called_set.notType
  have t2 := F.called_set.canCreate
  have t3 := F.typeCall_set_1 (.ref l)
  repeat (any_goals (first | assumption | wp_step))
  refine codeAny_mono (code_set_new_1 (.ref l) (E := E) (Q₁ := fun obj s₁ => ∃ led : Bool, obj = .ref s.heap.objs.size ∧ s₁ = { s with heap := s.heap.push { cls := .type "set", dict := none, data := .set #[] 0 (.fresh 0 0 led) } }) fun led => ⟨led, rfl, rfl⟩) fun r s₁ hr => ?_
  cases r with
  | error e => exact hr
  | ok fl =>
    cases fl with
    | next => exact hr.elim
    | brk => exact hr.elim
    | cont => exact hr.elim
    | ret obj =>
      obtain ⟨led, rfl, rfl⟩ := hr
      have hS : (s.heap.push { cls := .type "set", dict := none, data := .set #[] 0 (.fresh 0 0 led) }).get? s.heap.objs.size = some { cls := .type "set", dict := none, data := .set #[] 0 (.fresh 0 0 led) } := Heap.get?_push_size _ rfl
      have hT : Shared.TypeIs { s with heap := s.heap.push { cls := .type "set", dict := none, data := .set #[] 0 (.fresh 0 0 led) } } (.ref s.heap.objs.size) "set" := ⟨_, hS, rfl⟩
      have l1 := F.called_set.init.lookup
      have l2 := F.called_set.init.bind (.ref s.heap.objs.size)
      repeat (any_goals (first | assumption | wp_step))
      refine codeAny_mono (codeAny_call_builtin (R := wants (fun r s₂ => r = .none ∧ ∃ h' tk, s₂ = { s with heap := h', toks := tk } ∧
          h'.SetOf (intKind prog w) s.heap.objs.size (fun k' => (firstMet (fun i => ns.getD i 0) items.size).any (· == k')) (firstMet (fun i => ns.getD i 0) items.size).length ∧
          (∀ b o, s.heap.get? b = some o → h'.get? b = some o)) E) F.called_set.init.plain F.entry_set_init (check_set_init_1 hT ?_)) fun r₂ s₂ hr₂ => ?_
      · obtain ⟨ol, hol, hcl, nl, hdl⟩ := hl
        obtain ⟨ocls, odict, odata, oslots⟩ := ol
        simp only at hcl hdl
        subst hcl hdl
        have hol' : (s.heap.push { cls := .type "set", dict := none, data := .set #[] 0 (.fresh 0 0 led) }).get? l = some { cls := .type "list", dict := odict, data := .seq items nl, slots := oslots } := Heap.get?_push_of_some _ hol
        have u1 := F.sub_list_set
        have u2 := F.sub_list_frozenset
        have u3 : (Value.type "list" == Value.type "dict") = false := by decide
        have hl1 : (s.heap.push { cls := .type "set", dict := none, data := .set #[] 0 (.fresh 0 0 led) }).IsList l items := ⟨_, hol', rfl, nl, rfl⟩
        unfold Builtin.«set.__init__» noKeywords Builtin.Frozenset.updateFrom
        generalize hPI : pyIter = PI
        wp_walk
        subst hPI
        refine wpAny_pyIter_list hl1 ?_
        refine wpAny_bind (wpAny_runValue ?_)
        have hlS : l < s.heap.objs.size := Heap.lt_size hol
        have hsz : (s.heap.push { cls := .type "set", dict := none, data := .set #[] 0 (.fresh 0 0 led) }).objs.size = s.heap.objs.size + 1 := Heap.size_push ..
        have hval : ∀ (i : Nat) (v : Value), items[i]? = some v → ∃ t, v = .int ((fun i => ns.getD i 0) i) t := fun i v hv =>
          IntsAre.int_at hi i v (by rw [Array.getElem?_toList]; exact hv)
        refine adds (A := A.in1.in1) (by simp [hh]) (l := l) (I := (s.heap.push { cls := .type "set", dict := none, data := .set #[] 0 (.fresh 0 0 led) }).objs.size) (S := s.heap.objs.size) (by rw [hsz]; exact Nat.ne_of_lt (Nat.lt_succ_of_lt hlS))
          (by rw [hsz]; exact Nat.ne_of_lt (Nat.lt_succ_self _)) (Nat.ne_of_gt hlS) hval few (items.size - 0) 0 _ (by omega) (Nat.zero_le _) ⟨_, Heap.get?_push_size _ rfl, rfl, rfl⟩ (hl1.push _) ?hS0 ?hR
        case hS0 =>
          have hget : ((s.heap.push { cls := .type "set", dict := none, data := .set #[] 0 (.fresh 0 0 led) }).push { cls := .type "list_iterator", data := .fields #[.ref l, .int 0 0] }).get? s.heap.objs.size
              = some { cls := .type "set", dict := none, data := .set #[] 0 (.fresh 0 0 led) } := Heap.get?_push_of_some _ hS
          exact SetOf_congr ((setObjOf_fresh (knd := intKind prog w) led).setOf hget (by unfold scanBound; omega)) (fun _ => rfl) rfl
        case hR =>
          intro h' tk' k' hS'
          show wpAny _ _ _ _ _ _
          refine wpAny_pure ?_
          show wpAny _ _ (ret Value.none) _ _ _
          refine wpAny_pure ⟨rfl, h', tk', rfl, hS', fun b o e => ?_⟩
          have hb := Heap.lt_size e
          exact k' b o (by rw [hsz]; exact Nat.ne_of_lt (Nat.lt_succ_of_lt hb)) (Nat.ne_of_lt hb) (Heap.get?_push_of_some _ (Heap.get?_push_of_some _ e))
      · cases r₂ with
        | error e => exact hr₂
        | ok fl₂ =>
          cases fl₂ with
          | next => exact hr₂.elim
          | brk => exact hr₂.elim
          | cont => exact hr₂.elim
          | ret r =>
            obtain ⟨rfl, h', tk, rfl, hS', hk'⟩ := hr₂
            repeat (any_goals (first | assumption | wp_step))
            exact h _ _ hS' hk'
end
/-! ### how many different ones -/
theorem met_dedup (ns : List Int) : ∀ i, i ≤ ns.length → (firstMet (fun i => ns.getD i 0) i).Nodup ∧ (∀ x, x ∈ firstMet (fun i => ns.getD i 0) i ↔ x ∈ ns.take i) ∧ ((firstMet (fun i => ns.getD i 0) i).length = i ↔ (ns.take i).Nodup)
  | 0, _ => ⟨List.Pairwise.nil, fun x => Iff.rfl, ⟨fun _ => List.Pairwise.nil, fun _ => rfl⟩⟩
  | i + 1, hi => by
    obtain ⟨h1, h2, h3⟩ := met_dedup ns i (by omega)
    have hlt : i < ns.length := hi
    have ed : ns.getD i 0 = ns[i] := by
      rw [List.getD_eq_getElem?_getD, List.getElem?_eq_getElem hlt]
      rfl
    have et : ns.take (i + 1) = ns.take i ++ [ns[i]] := by
      rw [List.take_add_one, List.getElem?_eq_getElem hlt]
      rfl
    have hle := firstMet_length_le (fun i => ns.getD i 0) i
    rw [firstMet_succ, et]
    unfold step_dedup
    show _ ∧ _ ∧ _
    rw [ed]
    by_cases c : (firstMet (fun i => ns.getD i 0) i).any (· == ns[i]) = true
    · rw [if_pos c]
      obtain ⟨y, hy, ey⟩ := List.any_eq_true.mp c
      have ey : y = ns[i] := eq_of_beq ey
      rw [ey] at hy
      have hm := (h2 _).mp hy
      refine ⟨h1, fun x => ?_, ?_⟩
      · rw [List.mem_append, h2 x]
        constructor
        · exact .inl
        · rintro (q | q)
          · exact q
          · rw [List.mem_singleton.mp q]
            exact hm
      · constructor
        · intro q
          omega
        · intro q
          obtain ⟨_, _, q3⟩ := List.pairwise_append.mp q
          exact absurd rfl (q3 _ hm _ List.mem_cons_self)
    · rw [if_neg c]
      have hn : ns[i] ∉ firstMet (fun i => ns.getD i 0) i := fun z => c (List.any_eq_true.mpr ⟨_, z, beq_self_eq_true _⟩)
      refine ⟨List.pairwise_append.mpr ⟨h1, List.pairwise_singleton _ _, fun a ha b hb e => ?_⟩, fun x => ?_, ?_⟩
      · rw [List.mem_singleton.mp hb] at e
        rw [e] at ha
        exact hn ha
      · rw [List.mem_append, List.mem_append, h2 x]
      · rw [List.length_append, List.length_singleton]
        constructor
        · intro q
          have q3 := h3.mp (by omega)
          refine List.pairwise_append.mpr ⟨q3, List.pairwise_singleton _ _, fun a ha b hb e => ?_⟩
          rw [List.mem_singleton.mp hb] at e
          rw [e] at ha
          exact hn ((h2 _).mpr ha)
        · intro q
          have := h3.mpr (List.pairwise_append.mp q).1
          omega
theorem nodup_small : ∀ (n : Nat) (l : List Int), l.Nodup → (∀ x ∈ l, 0 ≤ x ∧ x < (n : Int)) → l.length ≤ n
  | 0, l, _, h => by
    cases l with
    | nil => exact Nat.le_refl _
    | cons a l =>
      have := h a List.mem_cons_self
      omega
  | n + 1, l, hn, h => by
    have ih := nodup_small n (l.filter fun x => x != (n : Int)) (hn.filter _) fun x hx => by
      obtain ⟨q1, q2⟩ := List.mem_filter.mp hx
      have := h x q1
      have q2 : x ≠ (n : Int) := by simpa using q2
      omega
    have key : ∀ (l : List Int), l.Nodup → l.length ≤ (l.filter fun x => x != (n : Int)).length + 1 := by
      intro l
      induction l with
      | nil => intro _; simp
      | cons a l ihl =>
        intro hn
        obtain ⟨h1, h2⟩ := List.nodup_cons.mp hn
        by_cases c : (a != (n : Int)) = true
        · rw [List.filter_cons_of_pos (p := fun x => x != (n : Int)) c, List.length_cons, List.length_cons]
          have := ihl h2
          omega
        · rw [List.filter_cons_of_neg (p := fun x => x != (n : Int)) c, List.length_cons]
          have ea : a = (n : Int) := by simpa using c
          have : l.filter (fun x => x != (n : Int)) = l := List.filter_eq_self.mpr fun x hx => by
            have : x ≠ (n : Int) := fun z => h1 (by rw [ea, ← z]; exact hx)
            simpa using this
          rw [this]
          omega
    have := key l hn
    omega
end SetF
namespace L2
open PySem PySem.Spec PyProof.Rows
/-- len(set(xs)), xs of whole numbers from 0 to 255: as many as xs has where they are all different, else another number -/
def tLenSetF (K : PySem.W.Frag) (ta : TE) : TE := fun σ H Q => ta σ H fun x H1 => ∃ (l : Addr) (ns : List Int), x = .ref l ∧ SqL K H1 l (ns.map V.int) ∧ (∀ x ∈ ns, 0 ≤ x ∧ x < 256) ∧ ∀ n : Nat, (n = ns.length ↔ ns.Nodup) → Q (.int (n : Nat)) H1
theorem pe_lenSetF {X : Cx} {a : Expr} {ta : TE} {p p2 q pos : Pos} (hg : Gl X "len") (hm : X.mg "len" = none) (hg2 : Gl X "set") (hm2 : X.mg "set" = none) (ha : PE X a ta) (hc : X.calm = true := by rfl)
    (na : starEach [a] X.env = (false, eval a X.env) :: starEach [] X.env := by rfl) : PE X (.Call (.Name "len" p) [.Call (.Name "set" p2) [a] [] q] [] pos) (tLenSetF X.K ta) := by
  refine ⟨fun pins s σ H Q I h => ?_⟩
  refine Call_ (ld_blt I hg hm boot_len ?_)
  refine PyProof.Rows.callWith_builtin1 (PyProof.Rows.args_cons ?_ rfl) rfl rfl
  refine Call_ (ld_blt I hg2 hm2 boot_set ?_)
  refine PyProof.Rows.callWith_type1 (PyProof.Rows.args_cons (thn (ha.run pins s σ H _ I h) fun v s1 ⟨x, H1, I1, r1, q1⟩ => PyProof.Rows.args_nil ?_) na) na rfl
  obtain ⟨l, ns, rfl, hq, hsm, q1⟩ := q1
  cases r1
  obtain ⟨its, r, pl, hz⟩ := I1.list hq
  have hlen : its.toArray.size = ns.length := by rw [List.size_toArray, ← r.length, List.length_map]
  obtain ⟨d1, d2, d3⟩ := SetF.met_dedup ns ns.length (Nat.le_refl _)
  have hfew : (firstMet (fun i => ns.getD i 0) ns.length).length ≤ 256 := SetF.nodup_small 256 _ d1 fun x hx => hsm x (List.mem_of_mem_take ((d2 x).mp hx))
  refine SetF.call_set (I1.ok.hd hc) pl.isList (ns := ns) (by simpa using r.ints) (by rw [hlen]; unfold scanBound; omega) fun h' tk hS hk => ?_
  refine PyProof.Rows.args_nil ?_
  rw [hlen] at hS
  obtain ⟨o, es, ep, t, ho, hex, hd, _, _, _, hf, hn⟩ := hS
  have I2 : Inv X pins σ H1 { s1 with heap := h', toks := tk } := I1.kept hk
  rw [List.take_length] at d3
  exact call_len_set ho hex hd hf (by rw [hn]; omega) ⟨.int ((firstMet (fun i => ns.getD i 0) ns.length).length : Nat), H1, I2.tok _, ⟨_, by rw [hn]⟩, q1 _ d3⟩
end L2
set_option Elab.async false
set_option linter.all false
set_option maxRecDepth 100000
set_option maxHeartbeats 2000000
/-! # The heap of tables and texts; the text by places -/
namespace RW
open PySem PySem.Spec PyProof.Rows L2
open RC
open Sd50 (Table Rule Sign)

/-! ### lists of numbers -/
def nV (l : List Nat) : List V := l.map fun (n : Nat) => V.int n
theorem nV_len (l : List Nat) : (nV l).length = l.length := List.length_map _
theorem nV_get {l : List Nat} {i n : Nat} (h : l[i]? = some n) : (nV l)[i]? = some (.int n) := by
  unfold nV
  rw [List.getElem?_map, h]
  rfl
theorem nV_of_get {l : List Nat} {i : Nat} {v : V} (h : (nV l)[i]? = some v) : ∃ n, l[i]? = some n ∧ v = .int (n : Nat) := by
  unfold nV at h
  rw [List.getElem?_map] at h
  cases e : l[i]? with
  | none =>
    rw [e] at h
    cases h
  | some n =>
    rw [e] at h
    exact ⟨n, rfl, (Option.some.inj h).symm⟩
theorem nV_app (a b : List Nat) : nV a ++ nV b = nV (a ++ b) := (List.map_append ..).symm
theorem nV_snoc (a : List Nat) (b : Nat) : nV a ++ [V.int (b : Nat)] = nV (a ++ [b]) := nV_app a [b]
theorem nV_flat (l : List Nat) : (nV l).all flatV = true := by
  rw [List.all_eq_true]
  intro v hv
  obtain ⟨n, _, rfl⟩ := List.mem_map.mp hv
  rfl
theorem nV_in (l : List Nat) (n : Nat) : inV (.int n) (nV l) = l.contains n := by
  unfold inV nV
  rw [List.any_map, List.contains_eq_any_beq]
  congr 1
  funext m
  show ((m : Int) == (n : Int)) = (n == m)
  rw [Bool.eq_iff_iff]
  simp only [beq_iff_eq]
  omega
theorem nV_inj {a b : List Nat} (h : nV a = nV b) : a = b := by
  refine List.map_inj_right ?_ |>.mp h
  intro x y e
  have e := V.int.inj e
  omega
theorem nV_ints (l : List Nat) : (intsOf l).map V.int = nV l := by
  unfold intsOf nV
  rw [List.map_map]
  rfl
/-- a slice with both ends within -/
theorem cut_nV (l : List Nat) (i n : Nat) : cutV (nV l) (some (i : Int)) (some ((i + n : Nat) : Int)) = nV ((l.drop i).take n) := by
  unfold cutV
  rw [HT.sIx_nat, HT.sIx_nat, nV_len]
  show _ = ((l.drop i).take n).map _
  unfold nV
  rw [← List.map_drop, ← List.map_take]
  congr 1
  by_cases h : i ≤ l.length
  · rw [Nat.min_eq_left h]
    by_cases h2 : i + n ≤ l.length
    · rw [Nat.min_eq_left h2, Nat.add_sub_cancel_left]
    · rw [Nat.min_eq_right (by omega), List.take_of_length_le (by rw [List.length_drop]; omega), List.take_of_length_le (by rw [List.length_drop]; omega)]
  · rw [List.drop_eq_nil_of_le (by omega : l.length ≤ min i l.length), List.drop_eq_nil_of_le (by omega : l.length ≤ i)]
    simp
def nD (l : List Nat) : PyData := .list ((intsOf l).map PySem.W.Datum.toD)
theorem dpAll_nV {K : PySem.W.Frag} {H : Hp} : ∀ l : List Nat, DpAll K H (nV l) ((intsOf l).map PySem.W.Datum.toD)
  | [] => .nil
  | n :: r => .cons (.int (n : Int)) (dpAll_nV r)
theorem dp_nV {K : PySem.W.Frag} {H : Hp} {a : Addr} {l : List Nat} (h : SqL K H a (nV l)) : Dp K H (.ref a) (nD l) := .lst h (dpAll_nV l)
theorem ints_inj {a b : List Nat} (h : intsOf a = intsOf b) : a = b := by
  refine List.map_inj_right ?_ |>.mp h
  intro x y e
  omega
theorem nD_eqv (a b : List Nat) : PyData.eqv (nD a) (nD b) = decide (a = b) := by
  have e : PyData.eqv (nD a) (nD b) = PyData.eqvAll ((intsOf a).map PySem.W.Datum.toD) ((intsOf b).map PySem.W.Datum.toD) := by
    unfold nD
    simp only [PyData.eqv]
  rw [e, PySem.W.eqvAll_map]
  rw [Bool.eq_iff_iff, decide_eq_true_iff, decide_eq_true_iff]
  exact ⟨ints_inj, fun h => by rw [h]⟩
theorem nD_lay : ∀ a : List Nat, PyData.canLayAll0 ((intsOf a).map PySem.W.Datum.toD) = true
  | [] => rfl
  | n :: r => by
    show PyData.canLayAll0 (PyData.int n :: (intsOf r).map PySem.W.Datum.toD) = true
    simp only [PyData.canLayAll0, PyData.canLay0]
    rw [nD_lay r]
    rfl
theorem nD_shaped (a : List Nat) : SeqAt.shaped (nD a) = true := by
  have e1 : (nD a).canLay0 = true := by
    unfold nD
    simp only [PyData.canLay0]
    exact nD_lay a
  have e2 : (nD a).depth ≤ 1 := PySem.W.Datum.depth_le (intsOf a)
  unfold SeqAt.shaped
  rw [e1, decide_eq_true (Nat.le_trans e2 (by decide : 1 ≤ 64))]
  rfl

/-! ### an if whose answer is known -/
theorem if_true_of {c : Bool} {A B : Prop} (hc : c = true) (h : A) : if c = true then A else B := by
  rw [if_pos hc]
  exact h
theorem if_false_of {c : Bool} {A B : Prop} (hc : c = false) (h : B) : if c = true then A else B := by
  rw [hc, if_neg Bool.false_ne_true]
  exact h
/-! ### the text by places -/
def top (i : Nat) : Stmt := PySem.Challenge.pw_raisedcells_s01_answers.main.body.getD i (.Pass ⟨0, 0, 0, 0⟩)
/-- a module's constant -/
def Kn (mg : Str → Option Value) (x : Str) (v : V) : Prop := ∃ u, mg x = some u ∧ RelV v u
theorem pe_kn {X : Cx} {x : Str} {v : V} {pos : Pos} (h : Kn X.mg x v) (hg : Gl X x := by rfl) (hd : (x == ("__debug__" : Str)) = false := by decide) : PE X (.Name x pos) (tC v) := by
  obtain ⟨u, e, r⟩ := h
  exact pe_glob hg e r hd
def sgn (c : Nat) : Str := ⟨#[c]⟩
/-- the text of a rule's place -/
def plS (p : Nat) : Str := sgn (placeSigns.getD p 0)
/-- what the top has written -/
structure TX (K : PySem.W.Frag) (mg : Str → Option Value) (CR CS CT CO CD CF : Addr) : Prop where
  clR : Cls K CR
  clS : Cls K CS
  clT : Cls K CT
  clO : Cls K CO
  clD : Cls K CD
  gR : mg "Rule" = some (.ref CR)
  gS : mg "Sign" = some (.ref CS)
  gT : mg "Table" = some (.ref CT)
  gO : mg "Row" = some (.ref CO)
  gD : mg "CallReader" = some (.ref CD)
  nRp : NoAttr K CR "place"
  nRt : NoAttr K CR "text"
  nRc : NoAttr K CR "cells"
  nSo : NoAttr K CS "octets"
  nSc : NoAttr K CS "cells"
  nTl : NoAttr K CT "letters"
  nTr : NoAttr K CT "rules"
  nTs : NoAttr K CT "signs"
  nOn : NoAttr K CO "numbers"
  nOt : NoAttr K CO "text"
  nOc : NoAttr K CO "cell_count"
  nDn : NoAttr K CD "numbers"
  nDp : NoAttr K CD "position"
  cAny : Kn mg "ANYWHERE" (.str "a")
  cWord : Kn mg "WORD" (.str "w")
  cBeg : Kn mg "BEGINNING" (.str "b")
  cEnd : Kn mg "END" (.str "e")
  cPlaces : Kn mg "PLACES" (.str "awbei")
  cSign : Kn mg "SIGN" (.str "s")
  cNL : Kn mg "NEWLINE" (.int 10)
  cBlank : Kn mg "BLANK" (.int 32)
  cLR : Kn mg "LONGEST_RULE" (.int 16)
  cMC : Kn mg "MOST_CELLS" (.int 4)
  cLC : Kn mg "LARGEST_CELL" (.int 63)
  cMR : Kn mg "MOST_RULES_reading" (.int 64)
  cMS : Kn mg "MOST_SIGNS" (.int 4)
  cLT : Kn mg "LONGEST_TEXT" (.int 256)
  cTM : Kn mg "TOO_MANY" (.int (-1))
  cNA : Kn mg "NOT_ALLOWED" (.int (-2))
  cNone : Kn mg "NONE" (.int (-3))
  cH : Kn mg "HUNDRED" (.int 100)
  cMost : Kn mg "MOST" (.int 4096)
  cMRd : Kn mg "MOST_RULES_desk" (.int 256)
  bLen : mg "len" = none
  bAll : mg "all" = none
  bAny : mg "any" = none
  bOrd : mg "ord" = none
  bSet : mg "set" = none
  bEnum : mg "enumerate" = none
  bMin : mg "min" = none
  bSorted : mg "sorted" = none
  bStr : mg "str" = none
  bIsi : mg "isinstance" = none
  bInt : mg "int" = none
  gF : mg "WordError" = some (.ref CF)
  xF : PySem.W.excIn K CF [.type "Exception", .type "BaseException", .type "object"] "Exception.__new__" = true
  kF : PySem.W.keepIn K (.ref CF) = true
  bF : PySem.W.subIn K (.ref CF) (.type "BaseException") = some true
  tF : PySem.W.typeIn K (.ref CF) = some (.type "type")
  eF : PySem.W.exmOne K (.ref CF) (.ref CF) = some true

/-! ### a def that may be called: by its name, as a class, as a method -/
section
variable (P : Program) (w : World) (K : PySem.W.Frag) (mg : Str → Option Value) (base : Heap) (CX : CXT) (k : Nat)
def HasFn (x : Str) (ps : List Str) (sp : Sp) : Prop := ∃ (f : Addr) (fd : FuncData), FnOk P w K mg base CX k f fd ps sp ∧ Binds K fd ps [] ∧ mg x = some (.ref f) ∧ PySem.W.keepIn K (.ref f) = true
def HasMeth (C : Addr) (m : Str) (ps : List Str) (sp : Sp) : Prop := ∃ (f : Addr) (fd : FuncData), FnOk P w K mg base CX k f fd ps sp ∧ Binds K fd ps [] ∧ Meth K C m f
def HasInit (C : Addr) (ps : List Str) (sp : Sp) : Prop := ∃ (f : Addr) (fd : FuncData), FnOk P w K mg base CX k f fd ps sp ∧ Binds K fd ps [] ∧ Mk K C f
end
/-- how a def of the text stands behind the top -/
def RawFn (K : PySem.W.Frag) (mg : Str → Option Value) (x : Str) (ps : List Str) (st : Stmt) : Prop := ∃ (f : Addr) (fd : FuncData), Fun K x x st f fd ∧ Binds K fd ps [] ∧ mg x = some (.ref f)
def RawMeth (K : PySem.W.Frag) (C : Addr) (m qual : Str) (ps : List Str) (st : Stmt) : Prop := ∃ (f : Addr) (fd : FuncData), Fun K m qual st f fd ∧ Binds K fd ps [] ∧ Meth K C m f
def RawInit (K : PySem.W.Frag) (C : Addr) (qual : Str) (ps : List Str) (st : Stmt) : Prop := ∃ (f : Addr) (fd : FuncData), Fun K "__init__" qual st f fd ∧ Binds K fd ps [] ∧ Mk K C f

/-! ### the objects -/
def rF (p : Nat) (t c : Addr) : List (Str × V) := [("place", .str (plS p)), ("text", .ref t), ("cells", .ref c)]
def sF (o c : Addr) : List (Str × V) := [("octets", .ref o), ("cells", .ref c)]
def tF (l r s : Addr) : List (Str × V) := [("letters", .ref l), ("rules", .ref r), ("signs", .ref s)]
def oF (n t : Addr) (c : Nat) : List (Str × V) := [("numbers", .ref n), ("text", .ref t), ("cell_count", .int c)]
def dF (n : Addr) (p : Nat) : List (Str × V) := [("numbers", .ref n), ("position", .int p)]
theorem lk_here {k : Str} {v : V} {r : List (Str × V)} : List.lookup k ((k, v) :: r) = some v := by
  have e : (k == k) = true := beq_self_eq_true k
  simp only [List.lookup, e]
theorem lk_past {k g : Str} {v : V} {r : List (Str × V)} (h : (k == g) = false) : List.lookup k ((g, v) :: r) = List.lookup k r := by
  simp only [List.lookup, h]
theorem put_here {f : Str} {v x : V} {r : List (Str × V)} : putF f v ((f, x) :: r) = (f, v) :: r := if_pos rfl
theorem put_past {f g : Str} {v x : V} {r : List (Str × V)} (h : ¬ g = f) : putF f v ((g, x) :: r) = (g, x) :: putF f v r := if_neg h
section
variable {p : Nat} {l r s t c o n : Addr}
theorem rF_p : (rF p t c).lookup ("place" : Str) = some (.str (plS p)) := lk_here
theorem rF_t : (rF p t c).lookup ("text" : Str) = some (.ref t) := (lk_past (by decide +kernel)).trans lk_here
theorem rF_c : (rF p t c).lookup ("cells" : Str) = some (.ref c) := (lk_past (by decide +kernel)).trans ((lk_past (by decide +kernel)).trans lk_here)
theorem sF_o : (sF o c).lookup ("octets" : Str) = some (.ref o) := lk_here
theorem sF_c : (sF o c).lookup ("cells" : Str) = some (.ref c) := (lk_past (by decide +kernel)).trans lk_here
theorem tF_l : (tF l r s).lookup ("letters" : Str) = some (.ref l) := lk_here
theorem tF_r : (tF l r s).lookup ("rules" : Str) = some (.ref r) := (lk_past (by decide +kernel)).trans lk_here
theorem tF_s : (tF l r s).lookup ("signs" : Str) = some (.ref s) := (lk_past (by decide +kernel)).trans ((lk_past (by decide +kernel)).trans lk_here)
theorem tF_no {m : Str} (h1 : (m == ("letters" : Str)) = false) (h2 : (m == ("rules" : Str)) = false) (h3 : (m == ("signs" : Str)) = false) : (tF l r s).lookup m = none := (lk_past h1).trans ((lk_past h2).trans ((lk_past h3).trans rfl))
theorem oF_n : (oF n t p).lookup ("numbers" : Str) = some (.ref n) := lk_here
theorem oF_t : (oF n t p).lookup ("text" : Str) = some (.ref t) := (lk_past (by decide +kernel)).trans lk_here
theorem oF_c : (oF n t p).lookup ("cell_count" : Str) = some (.int p) := (lk_past (by decide +kernel)).trans ((lk_past (by decide +kernel)).trans lk_here)
theorem dF_n : (dF n p).lookup ("numbers" : Str) = some (.ref n) := lk_here
theorem dF_p : (dF n p).lookup ("position" : Str) = some (.int p) := (lk_past (by decide +kernel)).trans lk_here
theorem dF_no {m : Str} (h1 : (m == ("numbers" : Str)) = false) (h2 : (m == ("position" : Str)) = false) : (dF n p).lookup m = none := (lk_past h1).trans ((lk_past h2).trans rfl)
end
/-- a rule's object; its lists are none of those two -/
structure RuleX (CR : Addr) (H : Hp) (a : Addr) (r : Rule) (n1 n2 t c : Addr) : Prop where
  ob : ∃ dx, H a = some (.ins CR dx (rF r.place t c))
  tx : H t = some (.lst (nV r.text))
  ce : H c = some (.lst (nV r.cells))
  t1 : t ≠ n1
  t2 : t ≠ n2
  c1 : c ≠ n1
  c2 : c ≠ n2
structure SignX (CS : Addr) (H : Hp) (a : Addr) (s : Sign) (n1 n2 o c : Addr) : Prop where
  ob : ∃ dx, H a = some (.ins CS dx (sF o c))
  oc : H o = some (.lst (nV s.bytes))
  ce : H c = some (.lst (nV s.cells))
  o1 : o ≠ n1
  o2 : o ≠ n2
  c1 : c ≠ n1
  c2 : c ≠ n2
/-- the table at a: letters' list at l, rules' at ru, signs' at sg -/
structure TabX (CR CS CT : Addr) (H : Hp) (a : Addr) (T : Table) (l ru sg : Addr) (as bs : List Addr) : Prop where
  ob : ∃ dx, H a = some (.ins CT dx (tF l ru sg))
  le : H l = some (.lst (nV T.letters))
  rl : H ru = some (.lst (as.map V.ref))
  sl : H sg = some (.lst (bs.map V.ref))
  l1 : l ≠ ru
  l2 : l ≠ sg
  rs : ru ≠ sg
  ra : as.length = T.rules.length
  sa : bs.length = T.signs.length
  rule : ∀ (k : Nat) (r : Rule), T.rules[k]? = some r → ∃ a t c, as[k]? = some a ∧ RuleX CR H a r ru sg t c
  sign : ∀ (k : Nat) (s : Sign), T.signs[k]? = some s → ∃ a o c, bs[k]? = some a ∧ SignX CS H a s ru sg o c
def TabAt (CR CS CT : Addr) (H : Hp) (a : Addr) (T : Table) : Prop := ∃ l ru sg as bs, TabX CR CS CT H a T l ru sg as bs
theorem RuleX.same {CR : Addr} {H H' : Hp} {a : Addr} {r : Rule} {n1 n2 t c : Addr} (x : RuleX CR H a r n1 n2 t c) (s : Same H H') : RuleX CR H' a r n1 n2 t c := by
  obtain ⟨dx, h⟩ := x.ob
  exact ⟨⟨dx, s _ _ h⟩, s _ _ x.tx, s _ _ x.ce, x.t1, x.t2, x.c1, x.c2⟩
theorem SignX.same {CS : Addr} {H H' : Hp} {a : Addr} {r : Sign} {n1 n2 t c : Addr} (x : SignX CS H a r n1 n2 t c) (s : Same H H') : SignX CS H' a r n1 n2 t c := by
  obtain ⟨dx, h⟩ := x.ob
  exact ⟨⟨dx, s _ _ h⟩, s _ _ x.oc, s _ _ x.ce, x.o1, x.o2, x.c1, x.c2⟩
theorem TabX.same {CR CS CT : Addr} {H H' : Hp} {a : Addr} {T : Table} {l ru sg : Addr} {as bs : List Addr} (x : TabX CR CS CT H a T l ru sg as bs) (s : Same H H') : TabX CR CS CT H' a T l ru sg as bs := by
  obtain ⟨dx, h⟩ := x.ob
  refine ⟨⟨dx, s _ _ h⟩, s _ _ x.le, s _ _ x.rl, s _ _ x.sl, x.l1, x.l2, x.rs, x.ra, x.sa, fun k r e => ?_, fun k r e => ?_⟩
  · obtain ⟨a, t, c, h1, h2⟩ := x.rule k r e
    exact ⟨a, t, c, h1, h2.same s⟩
  · obtain ⟨a, t, c, h1, h2⟩ := x.sign k r e
    exact ⟨a, t, c, h1, h2.same s⟩
theorem TabAt.same {CR CS CT : Addr} {H H' : Hp} {a : Addr} {T : Table} (x : TabAt CR CS CT H a T) (s : Same H H') : TabAt CR CS CT H' a T := by
  obtain ⟨l, ru, sg, as, bs, h⟩ := x
  exact ⟨l, ru, sg, as, bs, h.same s⟩
/-- a text, a list of numbers -/
abbrev NL (H : Hp) (a : Addr) (l : List Nat) : Prop := H a = some (.lst (nV l))
theorem Same.new {H : Hp} {p : Addr} {o : HO} (h : H p = none) : Same H (upd H p o) := fun b u e => by
  rw [upd_ne (ne_of_none e h)]
  exact e
/-- a rule as it is read -/
def RuleAt (CR : Addr) (H : Hp) (a : Addr) (r : Rule) : Prop := ∃ dx t c, H a = some (.ins CR dx (rF r.place t c)) ∧ NL H t r.text ∧ NL H c r.cells
theorem RuleX.at {CR : Addr} {H : Hp} {a : Addr} {r : Rule} {n1 n2 t c : Addr} (x : RuleX CR H a r n1 n2 t c) : RuleAt CR H a r := by
  obtain ⟨dx, h⟩ := x.ob
  exact ⟨dx, t, c, h, x.tx, x.ce⟩
theorem RuleAt.same {CR : Addr} {H H' : Hp} {a : Addr} {r : Rule} (x : RuleAt CR H a r) (s : Same H H') : RuleAt CR H' a r := by
  obtain ⟨dx, t, c, h1, h2, h3⟩ := x
  exact ⟨dx, t, c, s _ _ h1, s _ _ h2, s _ _ h3⟩
end RW
set_option Elab.async false
set_option linter.all false
set_option maxRecDepth 100000
set_option maxHeartbeats 2000000
/-! # Rule, Sign, Table -/
namespace RW
open PySem PySem.Spec PyProof.Rows L2
open RC
open Sd50 (Table Rule Sign)
section
variable {P : Program} {w : World} {K : PySem.W.Frag} {mg : Str → Option Value} {base : Heap} {CR CS CT CO CD CF : Addr}

def spMk3 (C : Addr) (f1 f2 f3 : Str) : Sp := fun vs H Q _ => ∃ (p dx : Addr) (x y z : V), vs = [.ref p, x, y, z] ∧ H p = some (.ins C dx []) ∧ Q .non (upd H p (.ins C dx [(f1, x), (f2, y), (f3, z)]))
def spMk2 (C : Addr) (f1 f2 : Str) : Sp := fun vs H Q _ => ∃ (p dx : Addr) (x y : V), vs = [.ref p, x, y] ∧ H p = some (.ins C dx []) ∧ Q .non (upd H p (.ins C dx [(f1, x), (f2, y)]))
theorem sc5 : FnScope ["self", "place", "text", "cells"] ["self", "place", "text", "cells"] (defScope (inClass (top 5) 0)) := ⟨rfl, rfl, rfl, by decide +kernel, rfl, by decide +kernel, by decide +kernel⟩
theorem ok_rule (F : RawInit K CR "Rule.__init__" ["self", "place", "text", "cells"] (inClass (top 5) 0)) (T : TX K mg CR CS CT CO CD CF) : HasInit P w K mg base CX0 1 CR ["self", "place", "text", "cells"] (spMk3 CR "place" "text" "cells") := by
  obtain ⟨f, fd, F, b, M⟩ := F
  refine ⟨f, fd, F.ok sc5 (fun vs H Q E h => ?_) (fun cdv A outer s H vs Q E hr h => ⟨_, pss_cons (ps_fld (pv 0) (pv 1) rfl) (pss_cons (ps_fld (pv 0) (pv 2) rfl) (pss_one (ps_fld (pv 0) (pv 3) rfl))), ?_⟩), b, M⟩
  · obtain ⟨p, dx, x, y, z, rfl, _⟩ := h
    rfl
  · obtain ⟨p, dx, x, y, z, rfl, hp, k⟩ := h
    refine ⟨_, rfl, _, rfl, p, CR, dx, [], rfl, hp, T.clR, T.nRp, (by decide), ?_⟩
    refine ⟨_, rfl, _, rfl, p, CR, dx, _, rfl, upd_same, T.clR, T.nRt, (by show 1 < 1000; decide), ?_⟩
    refine ⟨_, rfl, _, rfl, p, CR, dx, _, rfl, upd_same, T.clR, T.nRc, (by show 2 < 1000; decide), ?_⟩
    show Q .non (upd (upd (upd H p _) p _) p _)
    rw [upd_upd, upd_upd]
    exact k
theorem sc6 : FnScope ["self", "octets", "cells"] ["self", "octets", "cells"] (defScope (inClass (top 6) 0)) := ⟨rfl, rfl, rfl, by decide +kernel, rfl, by decide +kernel, by decide +kernel⟩
theorem ok_sign (F : RawInit K CS "Sign.__init__" ["self", "octets", "cells"] (inClass (top 6) 0)) (T : TX K mg CR CS CT CO CD CF) : HasInit P w K mg base CX0 1 CS ["self", "octets", "cells"] (spMk2 CS "octets" "cells") := by
  obtain ⟨f, fd, F, b, M⟩ := F
  refine ⟨f, fd, F.ok sc6 (fun vs H Q E h => ?_) (fun cdv A outer s H vs Q E hr h => ⟨_, pss_cons (ps_fld (pv 0) (pv 1) rfl) (pss_one (ps_fld (pv 0) (pv 2) rfl)), ?_⟩), b, M⟩
  · obtain ⟨p, dx, x, y, rfl, _⟩ := h
    rfl
  · obtain ⟨p, dx, x, y, rfl, hp, k⟩ := h
    refine ⟨_, rfl, _, rfl, p, CS, dx, [], rfl, hp, T.clS, T.nSo, (by decide), ?_⟩
    refine ⟨_, rfl, _, rfl, p, CS, dx, _, rfl, upd_same, T.clS, T.nSc, (by show 1 < 1000; decide), ?_⟩
    show Q .non (upd (upd H p _) p _)
    rw [upd_upd]
    exact k
/-- Table(letters): two new lists -/
def spTable (C : Addr) : Sp := fun vs H Q _ => ∃ (p dx l : Addr) , vs = [.ref p, .ref l] ∧ H p = some (.ins C dx []) ∧
  ∀ (H' : Hp) (r s : Addr), H r = none → H s = none → r ≠ s → H' p = some (.ins C dx (tF l r s)) → H' r = some (.lst []) → H' s = some (.lst []) → (∀ b o, H b = some o → b ≠ p → H' b = some o) → Q .non H'
theorem sc70 : FnScope ["self", "letters"] ["self", "letters"] (defScope (inClass (top 7) 0)) := ⟨rfl, rfl, rfl, by decide +kernel, rfl, by decide +kernel, by decide +kernel⟩
theorem ok_table (F : RawInit K CT "Table.__init__" ["self", "letters"] (inClass (top 7) 0)) (T : TX K mg CR CS CT CO CD CF) : HasInit P w K mg base CX0 1 CT ["self", "letters"] (spTable CT) := by
  obtain ⟨f, fd, F, b, M⟩ := F
  refine ⟨f, fd, F.ok sc70 (fun vs H Q E h => ?_) (fun cdv A outer s H vs Q E hr h => ⟨_, pss_cons (ps_fld (pv 0) (pv 1) rfl) (pss_cons (ps_fld (pv 0) (pe_lst pa_nil) rfl) (pss_one (ps_fld (pv 0) (pe_lst pa_nil) rfl))), ?_⟩), b, M⟩
  · obtain ⟨p, dx, l, rfl, _⟩ := h
    rfl
  · obtain ⟨p, dx, l, rfl, hp, k⟩ := h
    refine ⟨_, rfl, _, rfl, p, CT, dx, [], rfl, hp, T.clT, T.nTl, (by decide), ?_⟩
    refine ⟨Nat.zero_le _, fun r nr => ?_⟩
    have rp : r ≠ p := fun e => by
      rw [e, upd_same] at nr
      cases nr
    rw [upd_ne rp] at nr
    refine ⟨_, rfl, p, CT, dx, _, rfl, ((upd_ne (Ne.symm rp)).trans upd_same), T.clT, T.nTr, (by show 1 < 1000; decide), ?_⟩
    refine ⟨Nat.zero_le _, fun s ns => ?_⟩
    have sp : s ≠ p := fun e => by
      rw [e, upd_same] at ns
      cases ns
    rw [upd_ne sp] at ns
    have rs : r ≠ s := fun e => by
      rw [← e, upd_same] at ns
      cases ns
    rw [upd_ne (Ne.symm rs), upd_ne sp] at ns
    refine ⟨_, rfl, p, CT, dx, _, rfl, ((upd_ne (Ne.symm sp)).trans upd_same), T.clT, T.nTs, (by show 2 < 1000; decide), ?_⟩
    refine k _ r s nr ns rs upd_same ?_ ?_ ?_
    · rw [upd_ne rp, upd_ne rs, upd_ne rp]
      exact upd_same
    · rw [upd_ne sp]
      exact upd_same
    · intro b o e hb
      rw [upd_ne hb, upd_ne (ne_of_none e ns), upd_ne hb, upd_ne (ne_of_none e nr), upd_ne hb]
      exact e
end
end RW
set_option Elab.async false
set_option linter.all false
set_option maxRecDepth 100000
set_option maxHeartbeats 2000000
/-! # Table: letters, places, signs -/
namespace RW
open PySem PySem.Spec PyProof.Rows L2
open RC
open Sd50 (Table Rule Sign)
section
variable {P : Program} {w : World} {K : PySem.W.Frag} {mg : Str → Option Value} {base : Heap} {CR CS CT CO CD CF : Addr}
theorem TabX.is_tab {H : Hp} {a : Addr} {T : Table} {l ru sg : Addr} {as bs : List Addr} (x : TabX CR CS CT H a T l ru sg as bs) : TabAt CR CS CT H a T := ⟨l, ru, sg, as, bs, x⟩
/-- text[j] -/
theorem nV_at {l : List Nat} {i n : Nat} (h : l[i]? = some n) {z : Int} (e : z = (i : Int)) : atI (nV l) z = some (.int n) := at_of e (nV_get h)

def spLetter (CR CS CT : Addr) : Sp := fun vs H Q _ => ∃ (a t : Addr) (T : Table) (x : List Nat) (j : Int), vs = [.ref a, .ref t, .int j] ∧ TabAt CR CS CT H a T ∧ NL H t x ∧ Q (.bl (letterAt T x j)) H
theorem sc71 : FnScope ["self", "text", "place"] ["self", "text", "place"] (defScope (inClass (top 7) 1)) := ⟨rfl, rfl, rfl, by decide +kernel, rfl, by decide +kernel, by decide +kernel⟩
theorem ok_letter (F : RawMeth K CT "is_letter_at" "Table.is_letter_at" ["self", "text", "place"] (inClass (top 7) 1)) (T : TX K mg CR CS CT CO CD CF) : HasMeth P w K mg base CX0 1 CT "is_letter_at" ["self", "text", "place"] (spLetter CR CS CT) := by
  obtain ⟨f, fd, F, b, M⟩ := F
  refine ⟨f, fd, F.ok sc71 (fun vs H Q E h => ?_) (fun cdv A outer s H vs Q E hr h => ⟨_, pss_one (ps_ret (pe_and (pe_chain op_le op_lt pe_int (pv 2) (pe_callB call_len_seq (by rfl) T.bLen PySem.boot_len (pa_cons (pv 1) pa_nil)))
    (pe_one (pe_cmpR op_in_seq (pe_ix ix_list (pv 1) (pv 2) (fun _ _ => rfl)) (pe_fld (pv 0) rfl) (by rfl))))), ?_⟩), b, M⟩
  · obtain ⟨a, t, T, x, j, rfl, _⟩ := h
    rfl
  · obtain ⟨a, t, Tb, x, j, rfl, ⟨l, ru, sg, as, bs, X⟩, ht, k⟩ := h
    obtain ⟨dx, hob⟩ := X.ob
    refine ⟨_, rfl, 0, j, rfl, rfl, _, rfl, ?_⟩
    by_cases c1 : 0 ≤ j
    · refine if_true_of (decide_eq_true c1) ?_
      refine ⟨_, rfl, t, _, rfl, .inl (SqL.of ht), j, _, rfl, rfl, _, rfl, ?_⟩
      by_cases c2 : j < ((nV x).length : Int)
      · refine if_true_of (decide_eq_true c2) ?_
        obtain ⟨i, rfl⟩ := Int.eq_ofNat_of_zero_le c1
        have hi : i < x.length := by
          rw [nV_len] at c2
          omega
        refine ⟨_, rfl, _, rfl, t, _, _, _, rfl, rfl, SqL.of ht, nV_at (List.getElem?_eq_getElem hi) rfl, ?_⟩
        refine ⟨_, rfl, a, CT, dx, _, _, rfl, hob, T.clT, T.nTl, tF_l, l, _, rfl, .inl (SqL.of X.le), rfl, nV_flat _, ?_⟩
        have e : letterAt Tb x (i : Int) = inV (.int (x[i] : Nat)) (nV Tb.letters) := by
          unfold letterAt
          rw [nV_in, decide_eq_true (by omega), Int.toNat_natCast, List.getD_eq_getElem?_getD, List.getElem?_eq_getElem hi]
          rfl
        rw [← e]
        exact k
      · refine if_false_of (decide_eq_false c2) ?_
        have e : letterAt Tb x j = false := by
          unfold letterAt
          rw [nV_len] at c2
          rw [decide_eq_false (by omega)]
          rfl
        rw [e] at k
        exact k
    · refine if_false_of (decide_eq_false c1) ?_
      have e : letterAt Tb x j = false := by
        unfold letterAt
        rw [decide_eq_false (by omega)]
        rfl
      rw [e] at k
      exact ⟨_, rfl, iteF k⟩

/-- a method called by its promise, nothing raised -/
theorem meth_to {σ : L2.St} {H : Hp} {Q : VK} {C : Addr} {m : Str} {sp : Sp} {ta : TE} {t : TA} {a dx : Addr} {fs : List (Str × V)} {vs : List V}
    (h1 : ∀ R : VK, R (.ref a) H → ta σ H R) (h2 : H a = some (.ins C dx fs)) (h3 : fs.lookup m = none) (h4 : ∀ R : List V → Hp → Prop, R vs H → t σ H R) (h5 : sp (.ref a :: vs) H Q E0) : tMeth C m sp [] E0 ta t σ H Q := by
  refine h1 _ ⟨a, dx, fs, rfl, h2, h3, h4 _ ?_⟩
  show sp (.ref a :: (vs ++ [])) H Q E0
  rw [List.append_nil]
  exact h5
def spStand (CR CS CT : Addr) : Sp := fun vs H Q _ => ∃ (a r t : Addr) (T : Table) (R : Rule) (x : List Nat) (i : Nat), vs = [.ref a, .ref r, .ref t, .int i] ∧ TabAt CR CS CT H a T ∧ RuleAt CR H r R ∧ NL H t x ∧ R.place < 5 ∧ i ≤ x.length ∧
  Q (.bl (Sd50.fits R.place (Sd50.isLetter T (prevAt x i)) (Sd50.isLetter T ((x.drop i).drop R.text.length).head?))) H
theorem plS_eq {p : Nat} (h : p < 5) (z : Str) : (decide (V.str (plS p) = V.str z)) = decide (plS p = z) := by
  rw [Bool.eq_iff_iff]
  simp
theorem sc72 : FnScope ["self", "rule", "text", "place", "before", "behind"] ["self", "rule", "text", "place"] (defScope (inClass (top 7) 2)) := ⟨rfl, rfl, rfl, by decide +kernel, rfl, by decide +kernel, by decide +kernel⟩
theorem ok_stand (F : RawMeth K CT "may_stand" "Table.may_stand" ["self", "rule", "text", "place"] (inClass (top 7) 2)) (T : TX K mg CR CS CT CO CD CF)
    (G : HasMeth P w K mg base CX0 1 CT "is_letter_at" ["self", "text", "place"] (spLetter CR CS CT)) : HasMeth P w K mg base CX0 2 CT "may_stand" ["self", "rule", "text", "place"] (spStand CR CS CT) := by
  obtain ⟨f, fd, F, b, M⟩ := F
  obtain ⟨g, gd, G, gb, GM⟩ := G
  refine ⟨f, fd, F.ok sc72 (fun vs H Q E h => ?_) (fun cdv A outer s H vs Q E hr h => ⟨_, pss_cons (ps_if (pt_cmpR op_eq (pe_fld (pv 1) rfl) (pe_kn T.cAny) (nomark _)) (pss_one (ps_ret pe_bl)) pss_nil)
    (pss_cons (ps_set (i := 4) sc72.nd rfl (.inl rfl) (pe_meth (pv 0) T.clT GM G hr gb .nil pass0 (pa_cons (pv 2) (pa_cons (pe_op op_sub (pv 3) pe_int) pa_nil))))
    (pss_cons (ps_set (i := 5) sc72.nd rfl (.inl rfl) (pe_meth (pv 0) T.clT GM G hr gb .nil pass0 (pa_cons (pv 2) (pa_cons (pe_op op_add (pv 3) (pe_callB call_len_seq (by rfl) T.bLen PySem.boot_len (pa_cons (pe_fld (pv 1) rfl) pa_nil))) pa_nil))))
    (pss_cons (ps_if (pt_cmpR op_eq (pe_fld (pv 1) rfl) (pe_kn T.cWord) (nomark _)) (pss_one (ps_ret (pe_and (pe_not (pv 4)) (pe_one (pe_not (pv 5)))))) pss_nil)
    (pss_cons (ps_if (pt_cmpR op_eq (pe_fld (pv 1) rfl) (pe_kn T.cBeg) (nomark _)) (pss_one (ps_ret (pe_and (pe_not (pv 4)) (pe_one (pv 5))))) pss_nil)
    (pss_cons (ps_if (pt_cmpR op_eq (pe_fld (pv 1) rfl) (pe_kn T.cEnd) (nomark _)) (pss_one (ps_ret (pe_and (pv 4) (pe_one (pe_not (pv 5)))))) pss_nil)
    (pss_one (ps_ret (pe_and (pv 4) (pe_one (pv 5)))))))))), ?_⟩), b, M⟩
  · obtain ⟨a, r, t, T, R, x, i, rfl, _⟩ := h
    rfl
  · obtain ⟨a, r, t, Tb, R, x, i, rfl, TA, RA, ht, hp, hi, k⟩ := h
    obtain ⟨l, ru, sg, as, bs, X⟩ := id TA
    obtain ⟨dx, hob⟩ := X.ob
    obtain ⟨rx, rt, rc, hr1, hr2, hr3⟩ := RA
    refine ⟨_, rfl, r, CR, rx, _, _, rfl, hr1, T.clR, T.nRp, rF_p, rfl, _, rfl, ?_⟩
    rw [plS_eq hp]
    by_cases c0 : R.place = 0
    · refine if_true_of (by rw [c0]; decide +kernel) ?_
      have e : Sd50.fits R.place (Sd50.isLetter Tb (prevAt x i)) (Sd50.isLetter Tb ((x.drop i).drop R.text.length).head?) = true := by
        unfold Sd50.fits
        rw [if_pos c0]
      rw [e] at k
      exact k
    refine if_false_of ?_ ?_
    · generalize R.place = q at hp c0
      match q, hp, c0 with
      | 1, _, _ => decide +kernel
      | 2, _, _ => decide +kernel
      | 3, _, _ => decide +kernel
      | 4, _, _ => decide +kernel
    refine ⟨_, rfl, a, dx, _, rfl, hob, tF_no (by decide +kernel) (by decide +kernel) (by decide +kernel), _, rfl, _, rfl, _, _, rfl, rfl, ?_⟩
    refine ⟨a, t, Tb, x, (i : Int) - 1, rfl, TA, ht, ?_⟩
    rw [letter_before hi]
    refine ⟨_, rfl, a, dx, _, rfl, hob, tF_no (by decide +kernel) (by decide +kernel) (by decide +kernel), _, rfl, _, rfl, _, rfl, r, CR, rx, _, _, rfl, hr1, T.clR, T.nRt, rF_t, rt, _, rfl, .inl (SqL.of hr2), _, _, rfl, rfl, ?_⟩
    refine ⟨a, t, Tb, x, (i : Int) + (R.text.length : Int), by rw [nV_len]; rfl, TA, ht, ?_⟩
    rw [letter_behind]
    generalize Sd50.isLetter Tb (prevAt x i) = u at k ⊢
    generalize Sd50.isLetter Tb ((x.drop i).drop R.text.length).head? = v at k ⊢
    refine ⟨_, rfl, r, CR, rx, _, _, rfl, hr1, T.clR, T.nRp, rF_p, rfl, _, rfl, ?_⟩
    rw [plS_eq hp]
    generalize hq : R.place = q at hp c0 k ⊢
    match q, hp, c0 with
    | 1, _, _ =>
      refine if_true_of (by decide +kernel) ?_
      cases u <;> cases v <;> first | exact ⟨_, rfl, _, rfl, _, rfl, iteT ⟨_, rfl, _, rfl, k⟩⟩ | exact ⟨_, rfl, _, rfl, _, rfl, iteF k⟩
    | 2, _, _ =>
      refine if_false_of (by decide +kernel) ?_
      refine ⟨_, rfl, r, CR, rx, _, _, rfl, hr1, T.clR, T.nRp, (by rw [hq]; exact rF_p), rfl, _, rfl, ?_⟩
      rw [plS_eq (by decide)]
      refine if_true_of (by decide +kernel) ?_
      cases u <;> cases v <;> first | exact ⟨_, rfl, _, rfl, _, rfl, iteT ⟨_, rfl, k⟩⟩ | exact ⟨_, rfl, _, rfl, _, rfl, iteF k⟩
    | 3, _, _ =>
      refine if_false_of (by decide +kernel) ?_
      refine ⟨_, rfl, r, CR, rx, _, _, rfl, hr1, T.clR, T.nRp, (by rw [hq]; exact rF_p), rfl, _, rfl, ?_⟩
      rw [plS_eq (by decide)]
      refine if_false_of (by decide +kernel) ?_
      refine ⟨_, rfl, r, CR, rx, _, _, rfl, hr1, T.clR, T.nRp, (by rw [hq]; exact rF_p), rfl, _, rfl, ?_⟩
      rw [plS_eq (by decide)]
      refine if_true_of (by decide +kernel) ?_
      cases u <;> cases v <;> first | exact ⟨_, rfl, _, rfl, iteT ⟨_, rfl, _, rfl, k⟩⟩ | exact ⟨_, rfl, _, rfl, iteF k⟩
    | 4, _, _ =>
      refine if_false_of (by decide +kernel) ?_
      refine ⟨_, rfl, r, CR, rx, _, _, rfl, hr1, T.clR, T.nRp, (by rw [hq]; exact rF_p), rfl, _, rfl, ?_⟩
      rw [plS_eq (by decide)]
      refine if_false_of (by decide +kernel) ?_
      refine ⟨_, rfl, r, CR, rx, _, _, rfl, hr1, T.clR, T.nRp, (by rw [hq]; exact rF_p), rfl, _, rfl, ?_⟩
      rw [plS_eq (by decide)]
      refine if_false_of (by decide +kernel) ?_
      cases u <;> cases v <;> first | exact ⟨_, rfl, _, rfl, iteT ⟨_, rfl, k⟩⟩ | exact ⟨_, rfl, _, rfl, iteF k⟩
end
end RW
set_option Elab.async false
set_option linter.all false
set_option maxRecDepth 100000
set_option maxHeartbeats 2000000
/-! # Table: does a rule apply; the signs at a place -/
namespace RW
open PySem PySem.Spec PyProof.Rows L2
open RC
open Sd50 (Table Rule Sign)
section
variable {P : Program} {w : World} {K : PySem.W.Frag} {mg : Str → Option Value} {base : Heap} {CR CS CT CO CD CF : Addr}
def spApplies (CR CS CT : Addr) : Sp := fun vs H Q _ => ∃ (a r t : Addr) (T : Table) (R : Rule) (x : List Nat) (i : Nat), vs = [.ref a, .ref r, .ref t, .int i] ∧ TabAt CR CS CT H a T ∧ RuleAt CR H r R ∧ NL H t x ∧ GoodRule R ∧ i ≤ x.length ∧
  ∀ H', Same H H' → Q (.bl (appliesAt T R x i)) H'
theorem sc73 : FnScope ["self", "rule", "text", "place"] ["self", "rule", "text", "place"] (defScope (inClass (top 7) 3)) := ⟨rfl, rfl, rfl, by decide +kernel, rfl, by decide +kernel, by decide +kernel⟩
theorem ok_applies (F : RawMeth K CT "applies" "Table.applies" ["self", "rule", "text", "place"] (inClass (top 7) 3)) (T : TX K mg CR CS CT CO CD CF)
    (G : HasMeth P w K mg base CX0 2 CT "may_stand" ["self", "rule", "text", "place"] (spStand CR CS CT)) : HasMeth P w K mg base CX0 3 CT "applies" ["self", "rule", "text", "place"] (spApplies CR CS CT) := by
  obtain ⟨f, fd, F, b, M⟩ := F
  obtain ⟨g, gd, G, gb, GM⟩ := G
  refine ⟨f, fd, F.ok sc73 (fun vs H Q E h => ?_) (fun cdv A outer s H vs Q E hr h => ⟨_, pss_one (ps_ret (pe_and (pe_cmpR (op_eqD hr.units) (pe_slice sl_list (pv 2) (po_some (pv 3)) (po_some (pe_op op_add (pv 3) (pe_callB call_len_seq (by rfl) T.bLen PySem.boot_len (pa_cons (pe_fld (pv 1) rfl) pa_nil))))) (pe_fld (pv 1) rfl) (nomark _))
    (pe_one (pe_meth (pv 0) T.clT GM G hr gb .nil pass0 (pa_cons (pv 1) (pa_cons (pv 2) (pa_cons (pv 3) pa_nil))))))), ?_⟩), b, M⟩
  · obtain ⟨a, r, t, T, R, x, i, rfl, _⟩ := h
    rfl
  · obtain ⟨a, r, t, Tb, R, x, i, rfl, TA, RA, ht, gR, hi, k⟩ := h
    obtain ⟨l, ru, sg, as, bs, X⟩ := id TA
    obtain ⟨dx, hob⟩ := X.ob
    obtain ⟨rx, rt, rc, hr1, hr2, hr3⟩ := id RA
    refine ⟨_, rfl, _, rfl, _, rfl, _, rfl, _, rfl, r, CR, rx, _, _, rfl, hr1, T.clR, T.nRt, rF_t, rt, _, rfl, .inl (SqL.of hr2), _, _, rfl, rfl, _, rfl, ?_⟩
    refine ⟨t, _, rfl, SqL.of ht, fun p np => ?_⟩
    have s1 : Same H (upd H p (.lst (cutV (nV x) (some (i : Int)) (some ((i : Int) + ((nV R.text).length : Int)))))) := Same.new np
    have e1 : cutV (nV x) (some (i : Int)) (some ((i : Int) + ((nV R.text).length : Int))) = nV ((x.drop i).take R.text.length) := by
      rw [nV_len]
      exact cut_nV x i R.text.length
    rw [e1] at s1 ⊢
    refine ⟨_, rfl, r, CR, rx, _, _, rfl, s1 _ _ hr1, T.clR, T.nRt, rF_t, ?_⟩
    refine ⟨nD ((x.drop i).take R.text.length), nD R.text, dp_nV (SqL.of upd_same), dp_nV (SqL.of (s1 _ _ hr2)), nD_shaped _, nD_shaped _, ?_⟩
    rw [nD_eqv]
    have e2 := applies_at (T := Tb) gR.ne hi
    rw [letter_before hi, letter_behind] at e2
    by_cases c : (x.drop i).take R.text.length = R.text
    · rw [decide_eq_true c] at e2 ⊢
      refine ⟨_, rfl, iteT ?_⟩
      refine ⟨_, rfl, a, dx, _, rfl, s1 _ _ hob, tF_no (by decide +kernel) (by decide +kernel) (by decide +kernel), _, rfl, _, rfl, _, rfl, ?_⟩
      refine ⟨a, r, t, Tb, R, x, i, rfl, TA.same s1, RA.same s1, s1 _ _ ht, gR.place, hi, ?_⟩
      rw [Bool.true_and] at e2
      rw [← e2]
      exact k _ s1
    · rw [decide_eq_false c] at e2 ⊢
      refine ⟨_, rfl, iteF ?_⟩
      rw [Bool.false_and] at e2
      rw [← e2]
      exact k _ s1

/-! ### the signs -/
def signsTo (T : Table) (x : List Nat) (i k : Nat) : List Nat := signsOn ⟨T.letters, T.signs.take k, T.rules⟩ x i
theorem signsTo_zero {T : Table} {x : List Nat} {i : Nat} : signsTo T x i 0 = [] := by
  unfold signsTo signsOn Sd50.signsAt
  cases x.drop i <;> rfl
theorem signsTo_all {T : Table} {x : List Nat} {i : Nat} : signsTo T x i T.signs.length = signsOn T x i := by
  unfold signsTo
  rw [List.take_length]
theorem signsTo_succ {T : Table} {x : List Nat} {i k c : Nat} {s : Sign} (h : T.signs[k]? = some s) (hc : x[i]? = some c) :
    signsTo T x i (k + 1) = signsTo T x i k ++ if (s.bytes.contains c && !((prevAt x i).any fun p => s.bytes.contains p)) = true then s.cells else [] := by
  obtain ⟨hi, e⟩ := List.getElem?_eq_some_iff.mp hc
  unfold signsTo signsOn Sd50.signsAt
  rw [List.drop_eq_getElem_cons hi, e]
  show ((T.signs.take (k + 1)).filter _).flatMap _ = ((T.signs.take k).filter _).flatMap _ ++ _
  rw [List.take_add_one, h]
  show ((T.signs.take k ++ [s]).filter _).flatMap _ = _
  rw [List.filter_append, List.flatMap_append]
  congr 1
  rw [List.filter_cons]
  split <;> simp
theorem signsTo_len {T : Table} (G : Good T) (x : List Nat) (i k : Nat) : (signsTo T x i k).length ≤ 16 := by
  refine signs_len (T := ⟨T.letters, T.signs.take k, T.rules⟩) ⟨G.nr, ?_, G.rule, fun s hs => G.sign s (List.mem_of_mem_take hs)⟩ _ _
  have := G.ns
  show (T.signs.take k).length ≤ 4
  rw [List.length_take]
  omega
theorem small16 {a b : Nat} (h : a ≤ 16) (h2 : b ≤ 4) : a + b ≤ sizeLine := Nat.le_trans (Nat.add_le_add h h2) (by decide)
def spSigns (CR CS CT : Addr) : Sp := fun vs H Q _ => ∃ (a t : Addr) (T : Table) (x : List Nat) (i : Nat), vs = [.ref a, .ref t, .int i] ∧ TabAt CR CS CT H a T ∧ Good T ∧ NL H t x ∧ i < x.length ∧
  ∀ H' p, Same H H' → H p = none → NL H' p (signsOn T x i) → Q (.ref p) H'
theorem sc74 : FnScope ["self", "text", "place", "cells", "sign", "had_before"] ["self", "text", "place"] (defScope (inClass (top 7) 4)) := ⟨rfl, rfl, rfl, by decide +kernel, rfl, by decide +kernel, by decide +kernel⟩
theorem ok_signs (F : RawMeth K CT "sign_cells" "Table.sign_cells" ["self", "text", "place"] (inClass (top 7) 4)) (T : TX K mg CR CS CT CO CD CF) : HasMeth P w K mg base CX0 1 CT "sign_cells" ["self", "text", "place"] (spSigns CR CS CT) := by
  obtain ⟨f, fd, F, b, M⟩ := F
  refine ⟨f, fd, F.ok sc74 (fun vs H Q E h => ?_) (fun cdv A outer s H vs Q E hr h => ⟨_, pss_cons (ps_set (i := 3) sc74.nd rfl (.inl rfl) (pe_lst pa_nil))
    (pss_cons (ps_for PassesOwn.never rfl (pi_list (pe_fld (pv 0) rfl)) (pg_name (i := 4) sc74.nd rfl (.inl rfl))
      (pss_cons (ps_set (i := 5) sc74.nd rfl (.inl rfl) (pe_and (pe_cmpR op_gt (pv 2) pe_int (nomark _)) (pe_one (pe_cmpR op_in_seq (pe_ix ix_list (pv 1) (pe_op op_sub (pv 2) pe_int) (fun _ _ => rfl)) (pe_fld (pv 4) rfl) (by rfl)))))
      (pss_one (ps_if (PW.pt (pw_and (pt_cmpR op_in_seq (pe_ix ix_list (pv 1) (pv 2) (fun _ _ => rfl)) (pe_fld (pv 4) rfl) (by rfl)) (pw_and1 (pt_not (pt_val (pv 5))))))
        (pss_one (ps_expr (pe_bm PySem.F.plainAttrs_list PySem.F.slot_list_extend PySem.F.type_list_extend mt_extend (pv 3) (pa_cons (pe_fld (pv 4) rfl) pa_nil)))) pss_nil))))
    (pss_one (ps_ret (pv 3)))), ?_⟩), b, M⟩
  · obtain ⟨a, t, T, x, i, rfl, _⟩ := h
    rfl
  · obtain ⟨a, t, Tb, x, i, rfl, TA, G, ht, hi, k⟩ := h
    obtain ⟨l, ru, sg, as, bs, X⟩ := id TA
    obtain ⟨dx, hob⟩ := X.ob
    refine ⟨Nat.zero_le _, fun p np => ?_⟩
    have s1 : Same H (upd H p (.lst [])) := Same.new np
    refine ⟨_, rfl, a, CT, dx, _, _, rfl, s1 _ _ hob, T.clT, T.nTs, tF_s, sg, rfl, ⟨_, SqL.of (s1 _ _ X.sl)⟩, ?_⟩
    refine for_list (K := K) (a := sg) (xs := bs.map V.ref) (fun j σ H' => ∃ u v, σ = [some (.ref a), some (.ref t), some (.int i), some (.ref p), u, v] ∧ Same H H' ∧ NL H' p (signsTo Tb x i j)) ?_ ?_ ?_ ?_
    · refine ⟨none, none, rfl, s1, ?_⟩
      rw [signsTo_zero]
      exact upd_same
    · rintro j σ H' _ ⟨_, _, _, s2, _⟩
      exact SqL.of (s2 _ _ X.sl)
    · rintro j y σ H' hy ⟨u, v, rfl, s2, hp⟩
      have hj : j < Tb.signs.length := by
        rw [List.getElem?_map] at hy
        cases e : bs[j]? with
        | none =>
          rw [e] at hy
          cases hy
        | some z =>
          have := (List.getElem?_eq_some_iff.mp e).1
          rw [← X.sa]
          exact this
      obtain ⟨sa, so, sc, hsa, SX⟩ := X.sign j _ (List.getElem?_eq_getElem hj)
      rw [List.getElem?_map, hsa] at hy
      cases hy
      generalize hS : Tb.signs[j] = S at SX
      have hSj : Tb.signs[j]? = some S := by rw [List.getElem?_eq_getElem hj, hS]
      obtain ⟨sx, hsx⟩ := SX.ob
      have step := signsTo_succ hSj (List.getElem?_eq_getElem hi)
      have hcl : S.cells.length ≤ 4 := G.sign S (List.mem_of_getElem? hSj)
      -- had_before
      have had : ∀ (R : V → Hp → Prop), R (.bl ((prevAt x i).any fun p => S.bytes.contains p)) H' → tAndV (tOp (rI0 fun i j => .bl (decide (j < i))) (tVar 2) (tC (.int 0))) (tOp (rIn K false) (tOp (rIxL K) (tVar 1) (tOp (rI0 fun i j => .int (i - j)) (tVar 2) (tC (.int 1)))) (tFld K (tVar 4) "octets")) [some (.ref a), some (.ref t), some (.int i), some (.ref p), some (.ref sa), v] H' R := fun R hR => by
        refine ⟨_, rfl, _, _, rfl, rfl, _, rfl, ?_⟩
        by_cases c : 0 < (i : Int)
        · refine if_true_of (decide_eq_true c) ?_
          obtain ⟨m, rfl⟩ : ∃ m, i = m + 1 := ⟨i - 1, by omega⟩
          have hm : m < x.length := by omega
          refine ⟨_, rfl, _, rfl, _, _, rfl, rfl, t, _, _, _, rfl, rfl, SqL.of (s2 _ _ ht), nV_at (List.getElem?_eq_getElem hm) (by omega), ?_⟩
          refine ⟨_, rfl, sa, CS, sx, _, _, rfl, s2 _ _ hsx, T.clS, T.nSo, sF_o, so, _, rfl, .inl (SqL.of (s2 _ _ SX.oc)), rfl, nV_flat _, ?_⟩
          rw [prevAt_succ, List.getElem?_eq_getElem hm] at hR
          rw [nV_in]
          exact hR
        · refine if_false_of (decide_eq_false c) ?_
          obtain rfl : i = 0 := by omega
          exact hR
      refine had _ ?_
      generalize (prevAt x i).any (fun p => S.bytes.contains p) = hb at step ⊢
      refine ⟨_, rfl, _, rfl, t, _, _, _, rfl, rfl, SqL.of (s2 _ _ ht), nV_at (List.getElem?_eq_getElem hi) rfl, ?_⟩
      refine ⟨_, rfl, sa, CS, sx, _, _, rfl, s2 _ _ hsx, T.clS, T.nSo, sF_o, so, _, rfl, .inl (SqL.of (s2 _ _ SX.oc)), rfl, nV_flat _, _, rfl, ?_⟩
      rw [nV_in]
      have stay : (S.bytes.contains x[i] && !hb) = false → ∃ u v, ([some (.ref a), some (.ref t), some (.int i), some (.ref p), some (.ref sa), some (.bl hb)] : L2.St) = [some (.ref a), some (.ref t), some (.int i), some (.ref p), u, v] ∧ Same H H' ∧ NL H' p (signsTo Tb x i (j + 1)) := fun hz => by
        rw [hz, if_neg Bool.false_ne_true, List.append_nil] at step
        refine ⟨_, _, rfl, s2, ?_⟩
        rw [step]
        exact hp
      cases hc : S.bytes.contains x[i] with
      | false =>
        refine if_false_of rfl ?_
        exact iteF (stay (by rw [hc]; rfl))
      | true =>
        refine if_true_of rfl ?_
        refine ⟨_, rfl, hb, rfl, ?_⟩
        cases hb with
        | true => exact iteF (stay (by rw [hc]; rfl))
        | false =>
          refine if_true_of rfl ?_
          refine ⟨_, rfl, .inl ⟨rfl, _, SqL.of hp⟩, _, rfl, sa, CS, sx, _, _, rfl, s2 _ _ hsx, T.clS, T.nSc, sF_c, p, sc, _, _, rfl, rfl, hp, s2 _ _ SX.ce, ?_, ?_⟩
          · rw [nV_len, nV_len]
            exact small16 (signsTo_len G x i j) hcl
          · rw [hc] at step
            refine ⟨_, _, rfl, ?_, ?_⟩
            · intro b o e
              rw [upd_ne (ne_of_none e np)]
              exact s2 b o e
            · rw [step, nV_app]
              exact upd_same
    · rintro σ H' ⟨u, v, rfl, s2, hp⟩
      rw [List.length_map, X.sa, signsTo_all] at hp
      exact ⟨_, rfl, k _ p s2 np hp⟩
/-! ### rules by their numbers -/
theorem TabX.rule_get {H : Hp} {a : Addr} {T : Table} {l ru sg : Addr} {as bs : List Addr} (X : TabX CR CS CT H a T l ru sg as bs) {k : Nat} {R : Rule} (h : T.rules[k]? = some R) :
    ∃ r t c, (as.map V.ref)[k]? = some (.ref r) ∧ RuleX CR H r R ru sg t c := by
  obtain ⟨r, t, c, h1, h2⟩ := X.rule k R h
  refine ⟨r, t, c, ?_, h2⟩
  rw [List.getElem?_map, h1]
  rfl
theorem TabX.rule_of {H : Hp} {a : Addr} {T : Table} {l ru sg : Addr} {as bs : List Addr} (X : TabX CR CS CT H a T l ru sg as bs) {k : Nat} {y : V} (h : (as.map V.ref)[k]? = some y) :
    ∃ R r t c, y = .ref r ∧ T.rules[k]? = some R ∧ RuleX CR H r R ru sg t c := by
  have hk : k < T.rules.length := by
    have := (List.getElem?_eq_some_iff.mp h).1
    rw [List.length_map, X.ra] at this
    exact this
  obtain ⟨r, t, c, h1, h2⟩ := X.rule_get (List.getElem?_eq_getElem hk)
  rw [h] at h1
  cases h1
  exact ⟨_, r, t, c, rfl, List.getElem?_eq_getElem hk, h2⟩
theorem TabX.rule_at {H : Hp} {a : Addr} {T : Table} {l ru sg : Addr} {as bs : List Addr} (X : TabX CR CS CT H a T l ru sg as bs) {k : Nat} {R : Rule} (h : T.rules[k]? = some R) {z : Int} (e : z = (k : Int)) :
    ∃ r t c, atI (as.map V.ref) z = some (.ref r) ∧ RuleX CR H r R ru sg t c := by
  obtain ⟨r, t, c, h1, h2⟩ := X.rule_get h
  exact ⟨r, t, c, at_of e h1, h2⟩
end
end RW
set_option Elab.async false
set_option linter.all false
set_option maxRecDepth 100000
set_option maxHeartbeats 2000000
/-! # Writing: the longest rule, the rules taken, a row's cells -/
namespace RW
open PySem PySem.Spec PyProof.Rows L2
open RC
open Sd50 (Table Rule Sign)
section
variable {P : Program} {w : World} {K : PySem.W.Frag} {mg : Str → Option Value} {base : Heap} {CR CS CT CO CD CF : Addr}
def bestV : Option Nat → Int
  | none => -1
  | some b => b
def spLongest (CR CS CT : Addr) : Sp := fun vs H Q _ => ∃ (a t : Addr) (T : Table) (x : List Nat) (i : Nat), vs = [.ref a, .ref t, .int i] ∧ TabAt CR CS CT H a T ∧ Good T ∧ NL H t x ∧ i ≤ x.length ∧
  ∀ H', Same H H' → Q (.int (bestV (Sd50.longest T (thoseAt T x i)))) H'
theorem sc31 : FnScope ["table", "text", "place", "best", "number", "rule"] ["table", "text", "place"] (defScope (top 31)) := ⟨rfl, rfl, rfl, by decide +kernel, rfl, by decide +kernel, by decide +kernel⟩
theorem ok_longest (F : RawFn K mg "longest_rule" ["table", "text", "place"] (top 31)) (T : TX K mg CR CS CT CO CD CF)
    (GA : HasMeth P w K mg base CX0 3 CT "applies" ["self", "rule", "text", "place"] (spApplies CR CS CT)) : HasFn P w K mg base CX0 4 "longest_rule" ["table", "text", "place"] (spLongest CR CS CT) := by
  obtain ⟨f, fd, F, b, gf⟩ := F
  obtain ⟨g, gd, G, gb, GM⟩ := GA
  refine ⟨f, fd, F.ok sc31 (fun vs H Q E h => ?_) (fun cdv A outer s H vs Q E hr h => ⟨_, pss_cons (ps_set (i := 3) sc31.nd rfl (.inl rfl) (pe_un un_neg pe_int))
    (pss_cons (ps_for PassesOwn.never rfl (pi_enum (by rfl) T.bEnum (pa_cons (pe_fld (pv 0) rfl) pa_nil)) (pg_tup rfl (pgs_cons (pg_name (i := 4) sc31.nd rfl (.inl rfl)) (pgs_cons (pg_name (i := 5) sc31.nd rfl (.inl rfl)) pgs_nil)))
      (pss_one (ps_if (PW.pt (pw_or (pt_cmpR op_lt (pv 3) pe_int (nomark _)) (pw_or1 (pt_cmpR op_gt (pe_callB call_len_seq (by rfl) T.bLen PySem.boot_len (pa_cons (pe_fld (pv 5) rfl) pa_nil))
          (pe_callB call_len_seq (by rfl) T.bLen PySem.boot_len (pa_cons (pe_fld (pe_ix ix_list (pe_fld (pv 0) rfl) (pv 3) (fun _ _ => rfl)) rfl) pa_nil)) (nomark _)))))
        (pss_one (ps_if (pt_val (pe_meth (pv 0) T.clT GM G hr gb .nil pass0 (pa_cons (pv 5) (pa_cons (pv 1) (pa_cons (pv 2) pa_nil))))) (pss_one (ps_set (i := 3) sc31.nd rfl (.inl rfl) (pv 4))) pss_nil)) pss_nil)))
    (pss_one (ps_ret (pv 3)))), ?_⟩), b, gf, F.kp⟩
  · obtain ⟨a, t, T, x, i, rfl, _⟩ := h
    rfl
  · obtain ⟨a, t, Tb, x, i, rfl, TA, GT, ht, hi, k⟩ := h
    obtain ⟨l, ru, sg, as, bs, X⟩ := id TA
    obtain ⟨dx, hob⟩ := X.ob
    refine ⟨_, rfl, ?_⟩
    refine ⟨_, rfl, a, CT, dx, _, _, rfl, hob, T.clT, T.nTr, tF_r, ru, _, rfl, SqL.of X.rl, ?_⟩
    refine for_it (walk_enum (K := K) (a := ru) (xs := as.map V.ref)) (fun j σ H' => ∃ u v, σ = [some (.ref a), some (.ref t), some (.int i), some (.int (bestV (bestN Tb x i j))), u, v] ∧ Same H H') ?_ ?_ ?_ ?_
    · exact ⟨none, none, rfl, Same.refl _⟩
    · rintro j σ H' _ ⟨_, _, _, s2⟩
      exact SqL.of (s2 _ _ X.rl)
    · rintro j y σ H' H'' hj ⟨u, v, rfl, s2⟩ ⟨q, n1, y1, rfl, nq, rfl, e1, hy⟩
      cases e1
      obtain ⟨R, r, rt, rc, rfl, hR, RX⟩ := X.rule_of hy
      have s3 : Same H (upd H' q (.tup [.int (j : Nat), .ref r])) := s2.trans (Same.new nq)
      refine ⟨q, _, rfl, SqT.of upd_same, rfl, ?_⟩
      refine ⟨_, _, rfl, _, _, rfl, rfl, ?_⟩
      have gR := GT.at hR
      have RA : RuleAt CR (upd H' q (.tup [.int (j : Nat), .ref r])) r R := (RX.same s3).at
      have step := bestN_succ (x := x) (i := i) hR
      have inner : better Tb (bestN Tb x i j) j = true → tIfS (tB (tMeth CT "applies" (spApplies CR CS CT) [] E0 (tVar 0) (tCons (tVar 5) (tCons (tVar 1) (tCons (tVar 2) tNil))))) (tAsg (tVar 4) (gName 3)) tNext
          { nx := fun σ H' => ∃ u v, σ = [some (.ref a), some (.ref t), some (.int i), some (.int (bestV (bestN Tb x i (j + 1)))), u, v] ∧ Same H H', rt := Q } [some (.ref a), some (.ref t), some (.int i), some (.int (bestV (bestN Tb x i j))), some (.int (j : Nat)), some (.ref r)] (upd H' q (.tup [.int (j : Nat), .ref r])) := fun hbt => by
        refine ⟨_, rfl, a, dx, _, rfl, s3 _ _ hob, tF_no (by decide +kernel) (by decide +kernel) (by decide +kernel), _, rfl, _, rfl, _, rfl, ?_⟩
        refine ⟨a, r, t, Tb, R, x, i, rfl, TA.same s3, RA, s3 _ _ ht, gR, hi, fun H3 s4 => ⟨_, rfl, ?_⟩⟩
        cases ha : appliesAt Tb R x i with
        | true =>
          rw [if_pos ⟨hbt, ha⟩] at step
          refine iteT ⟨_, rfl, some (.int (j : Nat)), some (.ref r), ?_, s3.trans s4⟩
          rw [step]
          rfl
        | false =>
          rw [if_neg (fun z => by rw [ha] at z; cases z.2)] at step
          refine iteF ⟨some (.int (j : Nat)), some (.ref r), ?_, s3.trans s4⟩
          rw [step]
      refine ⟨_, rfl, _, _, rfl, rfl, _, rfl, ?_⟩
      cases hb : bestN Tb x i j with
      | none =>
        rw [hb] at inner
        refine if_true_of (by decide) ?_
        exact iteT (inner rfl)
      | some m =>
        rw [hb] at inner step
        refine if_false_of (decide_eq_false (by show ¬ ((m : Nat) : Int) < 0; omega)) ?_
        have hm : m < Tb.rules.length := by
          have := bestN_lt hb
          have := (List.getElem?_eq_some_iff.mp hR).1
          omega
        have hM : Tb.rules[m]? = some Tb.rules[m] := List.getElem?_eq_getElem hm
        obtain ⟨mr, mt, mc, hat, MX⟩ := X.rule_at hM rfl
        obtain ⟨mx, hmx⟩ := MX.ob
        obtain ⟨rx, hrx⟩ := RX.ob
        refine ⟨_, rfl, r, CR, rx, _, _, rfl, s3 _ _ hrx, T.clR, T.nRt, rF_t, rt, _, rfl, .inl (SqL.of (s3 _ _ RX.tx)), ?_⟩
        refine ⟨_, rfl, a, CT, dx, _, _, rfl, s3 _ _ hob, T.clT, T.nTr, tF_r, _, rfl, ru, _, _, _, rfl, rfl, SqL.of (s3 _ _ X.rl), hat, ?_⟩
        refine ⟨mr, CR, mx, _, _, rfl, s3 _ _ hmx, T.clR, T.nRt, rF_t, mt, _, rfl, .inl (SqL.of (s3 _ _ MX.tx)), _, _, rfl, rfl, _, rfl, ?_⟩
        rw [nV_len, nV_len]
        have eb : better Tb (some m) j = decide (((Tb.rules[m].text.length : Nat) : Int) < ((R.text.length : Nat) : Int)) := by
          show decide (Sd50.lengthOf Tb m < Sd50.lengthOf Tb j) = _
          rw [lengthOf_of hM, lengthOf_of hR, Bool.eq_iff_iff, decide_eq_true_iff, decide_eq_true_iff]
          omega
        rw [← eb]
        cases hbt : better Tb (some m) j with
        | true => exact iteT (inner hbt)
        | false =>
          rw [if_neg (fun z => by rw [hbt] at z; cases z.1)] at step
          refine iteF ⟨some (.int (j : Nat)), some (.ref r), ?_, s3⟩
          rw [step]
          rfl
    · rintro σ H' ⟨u, v, rfl, s2⟩
      rw [List.length_map, X.ra, bestN_all]
      exact ⟨_, rfl, k _ s2⟩
end
end RW
set_option Elab.async false
set_option linter.all false
set_option maxRecDepth 100000
set_option maxHeartbeats 2000000
/-! # Writing: the rules taken, a row's cells -/
namespace RW
open PySem PySem.Spec PyProof.Rows L2
open RC
open Sd50 (Table Rule Sign)
section
variable {P : Program} {w : World} {K : PySem.W.Frag} {mg : Str → Option Value} {base : Heap} {CR CS CT CO CD CF CP fP : Addr}
theorem small256 {n : Nat} (h : n ≤ 256) : n < sizeLine := Nat.lt_of_le_of_lt h (by decide)
/-- a while by a measure that is named -/
theorem while_to {c : TT} {tb : TS} {D : Ends} {σ : L2.St} {H : Hp} (Pv : Nat → L2.St → Hp → Prop) (m0 : Nat) (h0 : Pv m0 σ H)
    (hs : ∀ m σ H, Pv m σ H → c σ H fun b H1 => if b = true then ∃ N : L2.St → Hp → Prop, (∀ σ' H', N σ' H' → ∃ m', m' < m ∧ Pv m' σ' H') ∧ tb { D with nx := N, ct := N, bk := D.nx } σ H1 else D.nx σ H1) : tWhile c tb D σ H := ⟨Pv, ⟨m0, h0⟩, hs⟩
def spByLongest (CR CS CT CP : Addr) : Sp := fun vs H Q E => ∃ (a t : Addr) (T : Table) (x : List Nat), vs = [.ref a, .ref t] ∧ TabAt CR CS CT H a T ∧ Good T ∧ NL H t x ∧ x.length ≤ 256 ∧
  (∀ l, Sd50.rulesOf T x = .ok l → ∀ H' p, Same H H' → H p = none → NL H' p l → Q (.ref p) H') ∧
  (∀ n, Sd50.rulesOf T x = .error n → ∀ H' d, Same H H' → H d = none → H' d = some (.xd [(("place" : Str), .int ((x.length : Int) - (n : Int)))]) → E (.ref CP) (some d) H')
theorem sc32 : FnScope ["table", "text", "numbers", "place", "number"] ["table", "text"] (defScope (top 32)) := ⟨rfl, rfl, rfl, by decide +kernel, rfl, by decide +kernel, by decide +kernel⟩
theorem ok_by_longest (F : RawFn K mg "rules_by_longest" ["table", "text"] (top 32)) (T : TX K mg CR CS CT CO CD CF) (TP : PySem.PlErr.Txt K mg CP fP)
    (GL : HasFn P w K mg base CX0 4 "longest_rule" ["table", "text", "place"] (spLongest CR CS CT)) : HasFn P w K mg base (L2.CX P w) 5 "rules_by_longest" ["table", "text"] (spByLongest CR CS CT CP) := by
  obtain ⟨f, fd, F, b, gf⟩ := F
  obtain ⟨g, gd, G, gb, gg, gk⟩ := GL
  refine ⟨f, fd, F.okX sc32 (fun vs H Q E h => ?_) (fun cdv A outer s H vs Q E hr h => ⟨_, pss_cons (ps_set (i := 2) sc32.nd rfl (.inl rfl) (pe_lst pa_nil))
    (pss_cons (ps_set (i := 3) sc32.nd rfl (.inl rfl) pe_int)
    (pss_cons (ps_while PassesOwn.leaving (pt_cmpR op_lt (pv 3) (pe_callB call_len_seq (by rfl) T.bLen PySem.boot_len (pa_cons (pv 1) pa_nil)) (nomark _))
      (pss_cons (ps_set (i := 4) sc32.nd rfl (.inl rfl) (pe_call G hr rfl gg gk gb .nil pass0 (pa_cons (pv 0) (pa_cons (pv 1) (pa_cons (pv 3) pa_nil)))))
      (pss_cons (ps_if (pt_cmpR op_lt (pv 4) pe_int (nomark _)) (pss_one (PlErr.ps_raise rfl TP hr (L2.takes_of rfl rfl rfl rfl) (pa_cons (pv 3) pa_nil))) pss_nil)
      (pss_cons (ps_expr (pe_bm PySem.F.plainAttrs_list PySem.F.slot_list_append PySem.F.type_list_append mt_append (pv 2) (pa_cons (pv 4) pa_nil)))
      (pss_one (ps_set (i := 3) sc32.nd rfl (.inl rfl) (pe_op op_add (pv 3) (pe_callB call_len_seq (by rfl) T.bLen PySem.boot_len (pa_cons (pe_fld (pe_ix ix_list (pe_fld (pv 0) rfl) (pv 4) (fun _ _ => rfl)) rfl) pa_nil)))))))))
    (pss_one (ps_ret (pv 2))))), ?_⟩), b, gf, F.kp⟩
  · obtain ⟨a, t, T, x, rfl, _⟩ := h
    rfl
  · obtain ⟨a, t, Tb, x, rfl, TA, GT, ht, hx, kO, kE⟩ := h
    obtain ⟨l, ru, sg, as, bs, X⟩ := id TA
    obtain ⟨dx, hob⟩ := X.ob
    refine ⟨Nat.zero_le _, fun p np => ?_⟩
    refine while_to (fun m σ H' => ∃ (i : Nat) (acc : List Nat) (u : Option V), m = x.length - i ∧ i ≤ x.length ∧ acc.length ≤ i ∧ σ = [some (.ref a), some (.ref t), some (.ref p), some (.int i), u] ∧ Same H H' ∧ NL H' p acc ∧
      Sd50.rulesOf Tb x = (rulesAt Tb x i).map fun r => acc ++ r) (x.length - 0) ⟨0, [], none, rfl, Nat.zero_le _, Nat.le_refl _, rfl, Same.new np, upd_same, ?_⟩ ?_
    · rw [rulesAt_zero]
      cases Sd50.rulesOf Tb x <;> rfl
    rintro m σ H' ⟨i, acc, u, rfl, hi, hacc, rfl, s2, hp, hru⟩
    refine ⟨_, rfl, _, rfl, t, _, rfl, .inl (SqL.of (s2 _ _ ht)), _, _, rfl, rfl, _, rfl, ?_⟩
    rw [nV_len]
    by_cases c : ((i : Nat) : Int) < ((x.length : Nat) : Int)
    · refine if_true_of (decide_eq_true c) ?_
      have hlt : i < x.length := by omega
      refine ⟨fun σ' H3 => ∃ m', m' < x.length - i ∧ ∃ (i : Nat) (acc : List Nat) (u : Option V), m' = x.length - i ∧ i ≤ x.length ∧ acc.length ≤ i ∧ σ' = [some (.ref a), some (.ref t), some (.ref p), some (.int i), u] ∧ Same H H3 ∧ NL H3 p acc ∧
        Sd50.rulesOf Tb x = (rulesAt Tb x i).map fun r => acc ++ r, fun _ _ z => z, ?_⟩
      refine ⟨_, rfl, _, rfl, _, rfl, ?_⟩
      refine ⟨a, t, Tb, x, i, rfl, TA.same s2, GT, s2 _ _ ht, hi, fun H3 s3 => ?_⟩
      have s23 := s2.trans s3
      refine ⟨_, rfl, _, _, rfl, rfl, _, rfl, ?_⟩
      cases hb : Sd50.longest Tb (thoseAt Tb x i) with
      | none =>
        refine if_true_of (by decide) ?_
        refine ⟨_, rfl, _, rfl, fun d nd => ?_⟩
        have hn := rulesAt_none hlt hb
        rw [hn] at hru
        refine kE (x.length - i) hru _ d (s23.trans (Same.new nd)) ?_ ?_
        · exact s23.free nd
        · rw [show ((x.length : Nat) : Int) - ((x.length - i : Nat) : Int) = (i : Int) by omega]
          exact upd_same
      | some n =>
        refine if_false_of (decide_eq_false (by show ¬ ((n : Nat) : Int) < 0; omega)) ?_
        obtain ⟨R, hR, ha⟩ := best_rule hb
        obtain ⟨hR0, hRe⟩ := applies_end ha
        have hs := rulesAt_some hb hR
        refine ⟨_, rfl, .inl ⟨rfl, _, SqL.of (s3 _ _ hp)⟩, _, rfl, p, _, _, rfl, rfl, s3 _ _ hp, (by rw [nV_len]; exact small256 (by omega)), ?_⟩
        have s4 : Same H (upd H3 p (.lst (nV acc ++ [.int (bestV (some n))]))) := fun b o e => by
          rw [upd_ne (ne_of_none e np)]
          exact s23 b o e
        obtain ⟨r, rt, rc, hat, RX⟩ := X.rule_at hR rfl
        obtain ⟨rx, hrx⟩ := RX.ob
        refine ⟨_, rfl, _, rfl, a, CT, dx, _, _, rfl, s4 _ _ hob, T.clT, T.nTr, tF_r, _, rfl, ru, _, _, _, rfl, rfl, SqL.of (s4 _ _ X.rl), hat, ?_⟩
        refine ⟨r, CR, rx, _, _, rfl, s4 _ _ hrx, T.clR, T.nRt, rF_t, rt, _, rfl, .inl (SqL.of (s4 _ _ RX.tx)), _, _, rfl, rfl, ?_⟩
        rw [nV_len]
        refine ⟨x.length - (i + R.text.length), by omega, i + R.text.length, acc ++ [n], some (.int (n : Nat)), rfl, hRe, ?_, rfl, s4, ?_, ?_⟩
        · rw [List.length_append]
          show acc.length + 1 ≤ _
          omega
        · have e := nV_snoc acc n
          show upd H3 p (.lst (nV acc ++ [.int (n : Nat)])) p = _
          rw [e]
          exact upd_same
        · rw [hru, hs]
          cases rulesAt Tb x (i + R.text.length) with
          | error _ => rfl
          | ok l => simp [Except.map]
    · refine if_false_of (decide_eq_false c) ?_
      obtain rfl : i = x.length := by omega
      rw [rulesAt_end] at hru
      have hru : Sd50.rulesOf Tb x = .ok acc := by
        rw [hru]
        simp [Except.map]
      exact ⟨_, rfl, kO acc hru _ p s2 np hp⟩
end
end RW
set_option Elab.async false
set_option linter.all false
set_option maxRecDepth 100000
set_option maxHeartbeats 2000000
/-! # Writing: a row's cells; how few cells -/
namespace RW
open PySem PySem.Spec PyProof.Rows L2
open RC
open Sd50 (Table Rule Sign)
section
variable {P : Program} {w : World} {K : PySem.W.Frag} {mg : Str → Option Value} {base : Heap} {CR CS CT CO CD CF CP fP : Addr}
theorem smallK {n : Nat} (h : n ≤ 10000) : n ≤ sizeLine := Nat.le_trans h (by decide)
def spRowCells (CR CS CT : Addr) : Sp := fun vs H Q _ => ∃ (a t n : Addr) (T : Table) (x l : List Nat), vs = [.ref a, .ref t, .ref n] ∧ TabAt CR CS CT H a T ∧ Good T ∧ NL H t x ∧ NL H n l ∧ x.length ≤ 256 ∧ writesAt T x 0 l = true ∧
  ∀ H' p, Same H H' → H p = none → NL H' p (cellsAt T x 0 l) → Q (.ref p) H'
theorem cellsAt_nil {T : Table} {x : List Nat} {i : Nat} : cellsAt T x i [] = [] := by
  unfold cellsAt
  cases x.drop i <;> rfl
theorem sc33 : FnScope ["table", "text", "numbers", "cells", "place", "number", "rule"] ["table", "text", "numbers"] (defScope (top 33)) := ⟨rfl, rfl, rfl, by decide +kernel, rfl, by decide +kernel, by decide +kernel⟩
theorem ok_row_cells (F : RawFn K mg "row_cells" ["table", "text", "numbers"] (top 33)) (T : TX K mg CR CS CT CO CD CF)
    (GS : HasMeth P w K mg base CX0 1 CT "sign_cells" ["self", "text", "place"] (spSigns CR CS CT)) : HasFn P w K mg base CX0 2 "row_cells" ["table", "text", "numbers"] (spRowCells CR CS CT) := by
  obtain ⟨f, fd, F, b, gf⟩ := F
  obtain ⟨g, gd, G, gb, GM⟩ := GS
  refine ⟨f, fd, F.ok sc33 (fun vs H Q E h => ?_) (fun cdv A outer s H vs Q E hr h => ⟨_, pss_cons (ps_set (i := 3) sc33.nd rfl (.inl rfl) (pe_lst pa_nil))
    (pss_cons (ps_set (i := 4) sc33.nd rfl (.inl rfl) pe_int)
    (pss_cons (ps_for PassesOwn.never rfl (pi_list (pv 2)) (pg_name (i := 5) sc33.nd rfl (.inl rfl))
      (pss_cons (ps_set (i := 6) sc33.nd rfl (.inl rfl) (pe_ix ix_list (pe_fld (pv 0) rfl) (pv 5) (fun _ _ => rfl)))
      (pss_cons (ps_expr (pe_bm PySem.F.plainAttrs_list PySem.F.slot_list_extend PySem.F.type_list_extend mt_extend (pv 3) (pa_cons (pe_op op_cat (pe_meth (pv 0) T.clT GM G hr gb .nil pass0 (pa_cons (pv 1) (pa_cons (pv 4) pa_nil))) (pe_fld (pv 6) rfl)) pa_nil)))
      (pss_one (ps_set (i := 4) sc33.nd rfl (.inl rfl) (pe_op op_add (pv 4) (pe_callB call_len_seq (by rfl) T.bLen PySem.boot_len (pa_cons (pe_fld (pv 6) rfl) pa_nil))))))))
    (pss_one (ps_ret (pv 3))))), ?_⟩), b, gf, F.kp⟩
  · obtain ⟨a, t, n, T, x, l, rfl, _⟩ := h
    rfl
  · obtain ⟨a, t, n, Tb, x, l, rfl, TA, GT, ht, hn, hx, hw, k⟩ := h
    obtain ⟨le, ru, sg, as, bs, X⟩ := id TA
    obtain ⟨dx, hob⟩ := X.ob
    have hll : l.length ≤ 256 := by
      have := writesAt_len hw
      omega
    have hcl := cells_len GT hw
    refine ⟨Nat.zero_le _, fun p np => ?_⟩
    refine ⟨_, rfl, n, rfl, ⟨_, SqL.of ((Same.new np) _ _ hn)⟩, ?_⟩
    refine for_list (K := K) (a := n) (xs := nV l) (fun j σ H' => ∃ (i : Nat) (acc : List Nat) (u v : Option V), σ = [some (.ref a), some (.ref t), some (.ref n), some (.ref p), some (.int i), u, v] ∧ Same H H' ∧ NL H' p acc ∧
      i ≤ x.length ∧ writesAt Tb x i (l.drop j) = true ∧ cellsAt Tb x 0 l = acc ++ cellsAt Tb x i (l.drop j)) ⟨0, [], none, none, rfl, Same.new np, upd_same, Nat.zero_le _, hw, rfl⟩ ?_ ?_ ?_
    · rintro j σ H' _ ⟨_, _, _, _, _, s2, _⟩
      exact SqL.of (s2 _ _ hn)
    · rintro j y σ H' hy ⟨i, acc, u, v, rfl, s2, hp, hi, hwj, hcj⟩
      obtain ⟨m, hm, rfl⟩ := nV_of_get hy
      obtain ⟨hj, ej⟩ := List.getElem?_eq_some_iff.mp hm
      have hd : l.drop j = m :: l.drop (j + 1) := by
        rw [List.drop_eq_getElem_cons hj, ej]
      rw [hd] at hwj hcj
      obtain ⟨R, hR, ha, hw2⟩ := writesAt_cons.mp hwj
      obtain ⟨hR0, hRe⟩ := applies_end ha
      rw [cellsAt_cons hR ha] at hcj
      obtain ⟨r, rt, rc, hat, RX⟩ := X.rule_at hR rfl
      obtain ⟨rx, hrx⟩ := RX.ob
      refine ⟨_, rfl, a, CT, dx, _, _, rfl, s2 _ _ hob, T.clT, T.nTr, tF_r, _, rfl, ru, _, _, _, rfl, rfl, SqL.of (s2 _ _ X.rl), hat, ?_⟩
      refine ⟨_, rfl, .inl ⟨rfl, _, SqL.of hp⟩, ?_⟩
      refine ⟨_, rfl, a, dx, _, rfl, s2 _ _ hob, tF_no (by decide +kernel) (by decide +kernel) (by decide +kernel), _, rfl, _, rfl, ?_⟩
      refine ⟨a, t, Tb, x, i, rfl, TA.same s2, GT, s2 _ _ ht, by omega, fun H3 q s3 nq hq => ?_⟩
      have s23 := s2.trans s3
      refine ⟨_, rfl, r, CR, rx, _, _, rfl, s23 _ _ hrx, T.clR, T.nRc, rF_c, q, rc, _, _, rfl, rfl, hq, s23 _ _ RX.ce, ?_, fun q2 nq2 => ?_⟩
      · have h1 := signs_len GT (prevAt x i) (x.drop i)
        have h2 := (GT.at hR).clen
        rw [nV_len, nV_len]
        exact small16 h1 h2
      have s4 : Same H3 (upd H3 q2 (.lst (nV (signsOn Tb x i) ++ nV R.cells))) := Same.new nq2
      refine ⟨p, q2, nV acc, _, rfl, rfl, (s3.trans s4) _ _ hp, upd_same, ?_, ?_⟩
      · have := congrArg List.length hcj
        rw [List.length_append, List.length_append, List.length_append] at this
        rw [List.length_append, nV_len, nV_len, nV_len]
        exact smallK (by omega)
      have s5 : Same H (upd (upd H3 q2 (.lst (nV (signsOn Tb x i) ++ nV R.cells))) p (.lst (nV acc ++ (nV (signsOn Tb x i) ++ nV R.cells)))) := fun b o e => by
        rw [upd_ne (ne_of_none e np)]
        exact (s23.trans s4) b o e
      refine ⟨_, rfl, _, rfl, r, CR, rx, _, _, rfl, s5 _ _ hrx, T.clR, T.nRt, rF_t, rt, _, rfl, .inl (SqL.of (s5 _ _ RX.tx)), _, _, rfl, rfl, ?_⟩
      rw [nV_len]
      refine ⟨i + R.text.length, acc ++ (signsOn Tb x i ++ R.cells), some (.int (m : Nat)), some (.ref r), rfl, s5, ?_, hRe, hw2, ?_⟩
      · rw [nV_app, nV_app]
        exact upd_same
      · rw [hcj]
        simp only [List.append_assoc]
    · rintro σ H' ⟨i, acc, u, v, rfl, s2, hp, hi, hwj, hcj⟩
      rw [nV_len, List.drop_length, cellsAt_nil, List.append_nil] at hcj
      rw [← hcj] at hp
      exact ⟨_, rfl, k _ p s2 np hp⟩

/-! ### how few cells -/
def oV : Option Nat → V
  | none => .non
  | some n => .int n
def spWith (CR CS CT : Addr) : Sp := fun vs H Q _ => ∃ (a t r f : Addr) (T : Table) (x : List Nat) (i k : Nat) (R : Rule) (ys : List V), vs = [.ref a, .ref t, .int i, .ref r, .ref f] ∧ TabAt CR CS CT H a T ∧ Good T ∧ NL H t x ∧ RuleAt CR H r R ∧ T.rules[k]? = some R ∧
  i < x.length ∧ H f = some (.lst ys) ∧ (∀ j, i < j → j ≤ x.length → ys[j]? = some (oV (fewAt T x j))) ∧ ∀ H', Same H H' → Q (oV (countAt T x i k)) H'
theorem sc35 : FnScope ["table", "text", "place", "rule", "fewest", "rest"] ["table", "text", "place", "rule", "fewest"] (defScope (top 35)) := ⟨rfl, rfl, rfl, by decide +kernel, rfl, by decide +kernel, by decide +kernel⟩
theorem ok_with (F : RawFn K mg "cells_with" ["table", "text", "place", "rule", "fewest"] (top 35)) (T : TX K mg CR CS CT CO CD CF)
    (GA : HasMeth P w K mg base CX0 3 CT "applies" ["self", "rule", "text", "place"] (spApplies CR CS CT)) (GS : HasMeth P w K mg base CX0 1 CT "sign_cells" ["self", "text", "place"] (spSigns CR CS CT)) :
    HasFn P w K mg base CX0 4 "cells_with" ["table", "text", "place", "rule", "fewest"] (spWith CR CS CT) := by
  obtain ⟨f, fd, F, b, gf⟩ := F
  obtain ⟨g, gd, G, gb, GM⟩ := GA
  obtain ⟨g2, gd2, G2, gb2, GM2⟩ := GS
  refine ⟨f, fd, F.ok sc35 (fun vs H Q E h => ?_) (fun cdv A outer s H vs Q E hr h => ⟨_, pss_cons (ps_if (pt_not (pt_val (pe_meth (pv 0) T.clT GM G hr gb .nil pass0 (pa_cons (pv 3) (pa_cons (pv 1) (pa_cons (pv 2) pa_nil)))))) (pss_one (ps_ret pe_non)) pss_nil)
    (pss_cons (ps_set (i := 5) sc35.nd rfl (.inl rfl) (pe_ix ix_list (pv 4) (pe_op op_add (pv 2) (pe_callB call_len_seq (by rfl) T.bLen PySem.boot_len (pa_cons (pe_fld (pv 3) rfl) pa_nil))) (fun _ _ => rfl)))
    (pss_cons (ps_if (pt_cmpR op_isN (pv 5) pe_non (nomark _)) (pss_one (ps_ret pe_non)) pss_nil)
    (pss_one (ps_ret (pe_op op_add (pe_op op_add (pe_callB call_len_seq (by rfl) T.bLen PySem.boot_len (pa_cons (pe_meth (pv 0) T.clT GM2 G2 (hr.mono (by decide)) gb2 .nil pass0 (pa_cons (pv 1) (pa_cons (pv 2) pa_nil))) pa_nil)) (pe_callB call_len_seq (by rfl) T.bLen PySem.boot_len (pa_cons (pe_fld (pv 3) rfl) pa_nil))) (pv 5)))))), ?_⟩), b, gf, F.kp⟩
  · obtain ⟨a, t, r, f, T, x, i, k, R, ys, rfl, _⟩ := h
    rfl
  · obtain ⟨a, t, r, fw, Tb, x, i, n, R, ys, rfl, TA, GT, ht, RA, hR, hi, hf, hys, k⟩ := h
    obtain ⟨le, ru, sg, as, bs, X⟩ := id TA
    obtain ⟨dx, hob⟩ := X.ob
    obtain ⟨rx, rt, rc, hr1, hr2, hr3⟩ := id RA
    have cn := countAt_of (x := x) (i := i) hR
    refine ⟨_, rfl, a, dx, _, rfl, hob, tF_no (by decide +kernel) (by decide +kernel) (by decide +kernel), _, rfl, _, rfl, _, rfl, ?_⟩
    refine ⟨a, r, t, Tb, R, x, i, rfl, TA, RA, ht, GT.at hR, Nat.le_of_lt hi, fun H2 s2 => ⟨_, rfl, ?_⟩⟩
    cases ha : appliesAt Tb R x i with
    | false =>
      rw [if_neg (by rw [ha]; exact Bool.false_ne_true)] at cn
      rw [cn] at k
      exact iteT (k _ s2)
    | true =>
      rw [if_pos ha] at cn
      obtain ⟨hR0, hRe⟩ := applies_end ha
      refine iteF ?_
      refine ⟨_, rfl, _, rfl, _, rfl, r, CR, rx, _, _, rfl, s2 _ _ hr1, T.clR, T.nRt, rF_t, rt, _, rfl, .inl (SqL.of (s2 _ _ hr2)), _, _, rfl, rfl, ?_⟩
      refine ⟨fw, ys, _, _, rfl, rfl, SqL.of (s2 _ _ hf), at_of (j := i + R.text.length) (by rw [nV_len]; rfl) (hys _ (by omega) hRe), ?_⟩
      refine ⟨_, rfl, rfl, _, rfl, ?_⟩
      cases hq : fewAt Tb x (i + R.text.length) with
      | none =>
        rw [hq] at cn
        rw [cn] at k
        exact iteT (k _ s2)
      | some c =>
        rw [hq] at cn
        rw [cn] at k
        refine if_false_of (by rfl) ?_
        refine ⟨_, rfl, a, dx, _, rfl, s2 _ _ hob, tF_no (by decide +kernel) (by decide +kernel) (by decide +kernel), _, rfl, _, rfl, ?_⟩
        refine ⟨a, t, Tb, x, i, rfl, TA.same s2, GT, s2 _ _ ht, hi, fun H3 q s3 nq hq2 => ?_⟩
        have s23 := s2.trans s3
        refine ⟨q, _, rfl, .inl (SqL.of hq2), ?_⟩
        refine ⟨_, rfl, r, CR, rx, _, _, rfl, s23 _ _ hr1, T.clR, T.nRc, rF_c, rc, _, rfl, .inl (SqL.of (s23 _ _ hr3)), _, _, rfl, rfl, ?_⟩
        refine ⟨_, rfl, _, _, rfl, rfl, ?_⟩
        rw [nV_len, nV_len]
        exact k _ s23
end
end RW
set_option Elab.async false
set_option linter.all false
set_option maxRecDepth 100000
set_option maxHeartbeats 2000000
/-! # Writing: the fewest cells -/
namespace RW
open PySem PySem.Spec PyProof.Rows L2
open RC
open Sd50 (Table Rule Sign)
section
variable {P : Program} {w : World} {K : PySem.W.Frag} {mg : Str → Option Value} {base : Heap} {CR CS CT CO CD CF CP fP : Addr}
theorem counts_get {T : Table} {x : List Nat} {i j : Nat} (h : j < T.rules.length) : (counts T x i)[j]? = some (countAt T x i j) := by
  unfold counts
  rw [List.getElem?_map, List.getElem?_range h]
  rfl
theorem counts_len {T : Table} {x : List Nat} {i : Nat} : (counts T x i).length = T.rules.length := by
  unfold counts
  rw [List.length_map, List.length_range]
theorem take_next' {α : Type} {l : List α} {j : Nat} {y : α} (h : l[j]? = some y) : l.take (j + 1) = l.take j ++ [y] := by
  rw [List.take_add_one, h]
  rfl
theorem take_small {α : Type} {l : List α} {j n : Nat} (h : l.length ≤ n) (hn : n < sizeLine) : (l.take j).length < sizeLine := by
  rw [List.length_take]
  omega
theorem line64 : 64 < sizeLine := by decide
/-- the numbers among them -/
def somes (l : List (Option Nat)) : List Nat := l.filterMap fun o => o
theorem somes_app (a b : List (Option Nat)) : somes (a ++ b) = somes a ++ somes b := List.filterMap_append
theorem somes_mem {l : List (Option Nat)} {n : Nat} : n ∈ somes l ↔ some n ∈ l := by
  unfold somes
  rw [List.mem_filterMap]
  constructor
  · rintro ⟨o, h1, rfl⟩
    exact h1
  · intro h
    exact ⟨_, h, rfl⟩
theorem somes_len (l : List (Option Nat)) : (somes l).length ≤ l.length := List.length_filterMap_le _ _
def spFewestAt (CR CS CT : Addr) : Sp := fun vs H Q _ => ∃ (a t f : Addr) (T : Table) (x : List Nat) (i : Nat) (ys : List V), vs = [.ref a, .ref t, .int i, .ref f] ∧ TabAt CR CS CT H a T ∧ Good T ∧ NL H t x ∧
  i < x.length ∧ H f = some (.lst ys) ∧ (∀ j, i < j → j ≤ x.length → ys[j]? = some (oV (fewAt T x j))) ∧ ∀ H', Same H H' → Q (oV (fewAt T x i)) H'
theorem sc36 : FnScope ["table", "text", "place", "fewest", "counts", "rule", "count"] ["table", "text", "place", "fewest"] (defScope (top 36)) := ⟨rfl, rfl, rfl, by decide +kernel, rfl, by decide +kernel, by decide +kernel⟩
theorem ok_fewest_at (F : RawFn K mg "fewest_at" ["table", "text", "place", "fewest"] (top 36)) (T : TX K mg CR CS CT CO CD CF)
    (G : HasFn P w K mg base CX0 4 "cells_with" ["table", "text", "place", "rule", "fewest"] (spWith CR CS CT)) : HasFn P w K mg base CX0 5 "fewest_at" ["table", "text", "place", "fewest"] (spFewestAt CR CS CT) := by
  obtain ⟨f, fd, F, b, gf⟩ := F
  obtain ⟨g, gd, G, gb, gg, gk⟩ := G
  refine ⟨f, fd, F.ok sc36 (fun vs H Q E h => ?_) (fun cdv A outer s H vs Q E hr h => ⟨_, pss_cons (ps_setLc (i := 4) (own := [("rule", 5)]) (g := gName 5) (tt := tYes) rfl sc36.nd rfl rfl (sw_true rfl rfl rfl (by decide +kernel)) (pi_list (pe_fld (pv 0) rfl))
      (blkOk_by (own := [("rule", 5)]) (N := ["table", "text", "place", "fewest", "counts", "rule", "count"]) (sc := defScope (top 36)) (by decide +kernel)) (fun _ _ _ _ _ => pg_name (i := 5) sc36.nd rfl (Or.inl rfl)) (fun _ _ _ _ _ => pts_nil)
      (fun _ _ _ _ _ => pe_call G hr rfl gg gk gb .nil pass0 (pa_cons (pv 0) (pa_cons (pv 1) (pa_cons (pv 2) (pa_cons (pv 5) (pa_cons (pv 3) pa_nil)))))))
    (pss_one (ps_ret (pe_callBK (L2.cr_minD rfl) (by rfl) T.bMin (by decide +kernel) (pa_cons (pe_lc (own := [("count", 6)]) (g := gName 6) rfl sc36.nd (pi_list (pv 4))
      (blkOk_by (own := [("count", 6)]) (N := ["table", "text", "place", "fewest", "counts", "rule", "count"]) (sc := defScope (top 36)) (by decide +kernel)) (fun _ _ _ _ _ => pg_name (i := 6) sc36.nd rfl (Or.inl rfl))
      (fun _ _ _ _ _ => pts_one (pt_cmpR op_notN (pv 6) pe_non (nomark _))) (fun _ _ _ _ _ => pv 6)) pa_nil) (pk_cons pe_non pk_nil)))), ?_⟩), b, gf, F.kp⟩
  · obtain ⟨a, t, f, T, x, i, ys, rfl, _⟩ := h
    rfl
  · obtain ⟨a, t, fw, Tb, x, i, ys, rfl, TA, GT, ht, hi, hf, hys, k⟩ := h
    obtain ⟨le, ru, sg, as, bs, X⟩ := id TA
    obtain ⟨dx, hob⟩ := X.ob
    refine ⟨_, rfl, a, CT, dx, _, _, rfl, hob, T.clT, T.nTr, tF_r, ru, rfl, ⟨_, SqL.of X.rl⟩, fun D nD => ?_⟩
    refine lc_list (K := K) (a := ru) (xs := as.map V.ref) (fun j H' => Same H H' ∧ H' D = some (.lst (((counts Tb x i).take j).map oV))) ⟨Same.new nD, upd_same⟩ (fun j H' _ h => SqL.of (h.1 _ _ X.rl)) ?_ ?_
    · rintro j y H' hy ⟨s2, hD⟩
      obtain ⟨R, r, rt, rc, rfl, hR, RX⟩ := X.rule_of hy
      have hj : j < Tb.rules.length := (List.getElem?_eq_some_iff.mp hR).1
      refine ⟨rfl, ?_⟩
      refine ⟨_, rfl, _, rfl, _, rfl, _, rfl, _, rfl, ?_⟩
      refine ⟨a, t, r, fw, Tb, x, i, j, R, ys, rfl, TA.same s2, GT, s2 _ _ ht, (RX.same s2).at, hR, hi, s2 _ _ hf, hys, fun H3 s3 => ?_⟩
      refine ⟨_, s3 _ _ hD, ?_, ?_, ?_⟩
      · rw [List.length_map]
        exact take_small (by rw [counts_len]; exact GT.nr) line64
      · intro b o e
        rw [upd_ne (ne_of_none e nD)]
        exact (s2.trans s3) b o e
      · rw [take_next' (counts_get hj), List.map_append]
        exact upd_same
    · rintro H1 ⟨s1, hD⟩
      rw [List.length_map, X.ra, ← counts_len (x := x) (i := i), List.take_length] at hD
      refine ⟨_, rfl, D, rfl, ⟨_, SqL.of hD⟩, fun D2 nD2 => ?_⟩
      refine lc_list (K := K) (a := D) (xs := (counts Tb x i).map oV) (fun j H' => Same H1 H' ∧ NL H' D2 (somes ((counts Tb x i).take j))) ⟨Same.new nD2, upd_same⟩ (fun j H' _ h => SqL.of (h.1 _ _ hD)) ?_ ?_
      · rintro j y H' hy ⟨s2, hD2⟩
        obtain ⟨o, ho, rfl⟩ : ∃ o, (counts Tb x i)[j]? = some o ∧ y = oV o := by
          rw [List.getElem?_map] at hy
          cases e : (counts Tb x i)[j]? with
          | none => rw [e] at hy; cases hy
          | some o => rw [e] at hy; exact ⟨o, rfl, (Option.some.inj hy).symm⟩
        have hz := take_next' ho
        refine ⟨rfl, ?_⟩
        refine ⟨_, rfl, rfl, _, rfl, ?_⟩
        cases o with
        | none =>
          refine if_false_of (by rfl) ?_
          refine ⟨s2, ?_⟩
          rw [hz, somes_app]
          show H' D2 = some (.lst (nV (somes ((counts Tb x i).take j) ++ [])))
          rw [List.append_nil]
          exact hD2
        | some n =>
          refine if_true_of (by rfl) ?_
          refine ⟨_, rfl, _, hD2, ?_, ?_, ?_⟩
          · rw [nV_len]
            refine Nat.lt_of_le_of_lt (somes_len _) (take_small (by rw [counts_len]; exact GT.nr) line64)
          · intro b o e
            rw [upd_ne (ne_of_none e nD2)]
            exact s2 b o e
          · rw [hz, somes_app]
            have e := nV_snoc (somes ((counts Tb x i).take j)) n
            show upd H' D2 (.lst (nV (somes ((counts Tb x i).take j)) ++ [.int (n : Nat)])) D2 = some (.lst (nV (somes ((counts Tb x i).take j) ++ [n])))
            rw [e]
            exact upd_same
      · rintro H2 ⟨s2, hD2⟩
        rw [List.length_map, List.take_length] at hD2
        have s12 := s1.trans s2
        refine ⟨D2, intsOf (somes (counts Tb x i)), rfl, rfl, ?_, ?_, ?_⟩
        · rw [nV_ints]
          exact SqL.of hD2
        · intro e
          cases hq : fewAt Tb x i with
          | none =>
            have := k _ s12
            rw [hq] at this
            exact this
          | some c =>
            have hm := somes_mem.mpr (fewAt_some hi hq).1
            have : somes (counts Tb x i) = [] := List.map_eq_nil_iff.mp e
            rw [this] at hm
            cases hm
        · intro m hm hle
          obtain ⟨n, hn, rfl⟩ := List.mem_map.mp hm
          have hn := somes_mem.mp hn
          cases hq : fewAt Tb x i with
          | none =>
            cases fewAt_none hi hq _ hn
          | some c =>
            obtain ⟨h1, h2⟩ := fewAt_some hi hq
            have h3 := h2 n hn
            have h4 := hle (c : Int) (List.mem_map.mpr ⟨c, somes_mem.mpr h1, rfl⟩)
            have e : n = c := by omega
            have := k _ s12
            rw [hq] at this
            rw [e]
            exact this
end
end RW
set_option Elab.async false
set_option linter.all false
set_option maxRecDepth 100000
set_option maxHeartbeats 2000000
/-! # Writing: the fewest cells from each place, the rules that give them -/
namespace RW
open PySem PySem.Spec PyProof.Rows L2
open RC
open Sd50 (Table Rule Sign)
section
variable {P : Program} {w : World} {K : PySem.W.Frag} {mg : Str → Option Value} {base : Heap} {CR CS CT CO CD CF CP fP : Addr}
/-- behind the places from m on -/
def fewV (T : Table) (x : List Nat) (m : Nat) : List V := (List.range (x.length + 1)).map fun i => if i < m then .non else oV (fewAt T x i)
theorem fewV_len {T : Table} {x : List Nat} {m : Nat} : (fewV T x m).length = x.length + 1 := by
  unfold fewV
  rw [List.length_map, List.length_range]
theorem fewV_get {T : Table} {x : List Nat} {m j : Nat} (h : j ≤ x.length) : (fewV T x m)[j]? = some (if j < m then .non else oV (fewAt T x j)) := by
  unfold fewV
  rw [List.getElem?_map, List.getElem?_range (by omega)]
  rfl
theorem fewV_at {T : Table} {x : List Nat} {m j : Nat} (h : j ≤ x.length) (hm : m ≤ j) : (fewV T x m)[j]? = some (oV (fewAt T x j)) := by
  rw [fewV_get h, if_neg (by omega)]
theorem fewV_start {T : Table} {x : List Nat} : (List.replicate x.length [V.non]).flatten ++ [V.int 0] = fewV T x x.length := by
  have e : (List.replicate x.length [V.non]).flatten = List.replicate x.length V.non := by simp
  rw [e]
  refine List.ext_getElem? fun j => ?_
  by_cases h : j < x.length
  · rw [fewV_get (by omega), if_pos h, List.getElem?_append_left (by rw [List.length_replicate]; exact h), List.getElem?_replicate, if_pos h]
  · by_cases h2 : j = x.length
    · subst h2
      rw [fewV_get (Nat.le_refl _), if_neg (by omega), List.getElem?_append_right (by rw [List.length_replicate]; exact Nat.le_refl _), List.length_replicate, Nat.sub_self, fewAt_end]
      rfl
    · rw [List.getElem?_eq_none (by rw [List.length_append, List.length_replicate]; show x.length + 1 ≤ j; omega), List.getElem?_eq_none (by rw [fewV_len]; omega)]
theorem fewV_set {T : Table} {x : List Nat} {m : Nat} (h : m < x.length + 1) : (fewV T x (m + 1)).set m (oV (fewAt T x m)) = fewV T x m := by
  refine List.ext_getElem? fun j => ?_
  rw [List.getElem?_set]
  by_cases hj : j ≤ x.length
  · rw [fewV_get hj, fewV_get hj, fewV_len]
    by_cases e : m = j
    · subst e
      rw [if_pos rfl, if_pos h, if_neg (by omega)]
    · rw [if_neg e]
      by_cases c : j < m
      · rw [if_pos (by omega), if_pos c]
      · rw [if_neg (by omega), if_neg c]
  · rw [if_neg (by omega), List.getElem?_eq_none (by rw [fewV_len]; omega), List.getElem?_eq_none (by rw [fewV_len]; omega)]
theorem ixN_nat {n : Nat} {z : Int} {j : Nat} (e : z = (j : Int)) (h : j < n) : ixN n z = some j := by
  subst e
  unfold ixN
  rw [if_pos (by omega), if_pos (by omega), Int.toNat_natCast]
def spFewFrom (CR CS CT : Addr) : Sp := fun vs H Q _ => ∃ (a t : Addr) (T : Table) (x : List Nat), vs = [.ref a, .ref t] ∧ TabAt CR CS CT H a T ∧ Good T ∧ NL H t x ∧ x.length ≤ 256 ∧
  ∀ H' p, Same H H' → H p = none → H' p = some (.lst (fewV T x 0)) → Q (.ref p) H'
theorem sc34 : FnScope ["table", "text", "fewest", "place"] ["table", "text"] (defScope (top 34)) := ⟨rfl, rfl, rfl, by decide +kernel, rfl, by decide +kernel, by decide +kernel⟩
theorem ok_few_from (F : RawFn K mg "fewest_cells_from" ["table", "text"] (top 34)) (T : TX K mg CR CS CT CO CD CF)
    (G : HasFn P w K mg base CX0 5 "fewest_at" ["table", "text", "place", "fewest"] (spFewestAt CR CS CT)) : HasFn P w K mg base CX0 6 "fewest_cells_from" ["table", "text"] (spFewFrom CR CS CT) := by
  obtain ⟨f, fd, F, b, gf⟩ := F
  obtain ⟨g, gd, G, gb, gg, gk⟩ := G
  refine ⟨f, fd, F.ok sc34 (fun vs H Q E h => ?_) (fun cdv A outer s H vs Q E hr h => ⟨_, pss_cons (ps_set (i := 2) sc34.nd rfl (.inl rfl) (pe_op op_cat (pe_op op_rep (pe_lst (pa_cons pe_non pa_nil)) (pe_callB call_len_seq (by rfl) T.bLen PySem.boot_len (pa_cons (pv 1) pa_nil))) (pe_lst (pa_cons pe_int pa_nil))))
    (pss_cons (ps_set (i := 3) sc34.nd rfl (.inl rfl) (pe_op op_sub (pe_callB call_len_seq (by rfl) T.bLen PySem.boot_len (pa_cons (pv 1) pa_nil)) pe_int))
    (pss_cons (ps_while PassesOwn.never (pt_cmpR op_ge (pv 3) pe_int (nomark _))
      (pss_cons (ps_asg (pe_call G hr rfl gg gk gb .nil pass0 (pa_cons (pv 0) (pa_cons (pv 1) (pa_cons (pv 3) (pa_cons (pv 2) pa_nil))))) (pg_sub (pv 2) (pv 3) set_list))
      (pss_one (ps_set (i := 3) sc34.nd rfl (.inl rfl) (pe_op op_sub (pv 3) pe_int)))))
    (pss_one (ps_ret (pv 2))))), ?_⟩), b, gf, F.kp⟩
  · obtain ⟨a, t, T, x, rfl, _⟩ := h
    rfl
  · obtain ⟨a, t, Tb, x, rfl, TA, GT, ht, hx, k⟩ := h
    refine ⟨(by decide), fun p1 n1 => ?_⟩
    have s1 : Same H (upd H p1 (.lst [.non])) := Same.new n1
    refine ⟨_, rfl, t, _, rfl, .inl (SqL.of (s1 _ _ ht)), ?_⟩
    rw [nV_len]
    refine ⟨p1, _, _, rfl, rfl, upd_same, by omega, by omega, ?_, fun p2 n2 => ?_⟩
    · rw [Int.toNat_natCast]
      show 1 * x.length ≤ sizeLine
      rw [Nat.one_mul]
      exact smallK (by omega)
    rw [Int.toNat_natCast]
    have s2 := s1.trans (Same.new (o := .lst (List.replicate x.length [V.non]).flatten) n2)
    refine ⟨(by decide), fun p3 n3 => ?_⟩
    have s3 := s2.trans (Same.new (o := .lst [V.int 0]) n3)
    have ne23 : p2 ≠ p3 := ne_of_none upd_same n3
    refine ⟨p2, p3, _, _, rfl, rfl, (upd_ne ne23).trans upd_same, upd_same, ?_, fun p n4 => ?_⟩
    · have e : ((List.replicate x.length [V.non]).flatten).length = x.length := by simp
      rw [e]
      exact smallK (by show x.length + 1 ≤ 10000; omega)
    rw [fewV_start (T := Tb)]
    have s4 := s3.trans (Same.new (o := .lst (fewV Tb x x.length)) n4)
    have np : H p = none := s3.free n4
    refine ⟨_, rfl, t, _, rfl, .inl (SqL.of (s4 _ _ ht)), _, _, rfl, rfl, ?_⟩
    rw [nV_len]
    refine while_to (fun m σ H' => ∃ (i : Int), m ≤ x.length ∧ i = (m : Int) - 1 ∧ σ = [some (.ref a), some (.ref t), some (.ref p), some (.int i)] ∧ Same H H' ∧ H' p = some (.lst (fewV Tb x m))) x.length ⟨_, Nat.le_refl _, rfl, rfl, s4, upd_same⟩ ?_
    rintro m σ H' ⟨i, hm, ei, rfl, s5, hp⟩
    refine ⟨_, rfl, _, _, rfl, rfl, _, rfl, ?_⟩
    cases m with
    | zero =>
      refine if_false_of (decide_eq_false (by omega)) ?_
      exact ⟨_, rfl, k _ p s5 np hp⟩
    | succ n =>
      refine if_true_of (decide_eq_true (by omega)) ?_
      obtain rfl : i = (n : Int) := by omega
      refine ⟨fun σ' H3 => ∃ m', m' < n + 1 ∧ ∃ (i : Int), m' ≤ x.length ∧ i = (m' : Int) - 1 ∧ σ' = [some (.ref a), some (.ref t), some (.ref p), some (.int i)] ∧ Same H H3 ∧ H3 p = some (.lst (fewV Tb x m')), fun _ _ z => z, ?_⟩
      refine ⟨_, rfl, _, rfl, _, rfl, _, rfl, ?_⟩
      refine ⟨a, t, p, Tb, x, n, _, rfl, TA.same s5, GT, s5 _ _ ht, by omega, hp, fun j h1 h2 => fewV_at h2 (by omega), fun H3 s6 => ?_⟩
      refine ⟨_, rfl, _, rfl, p, _, _, n, rfl, rfl, s6 _ _ hp, ixN_nat rfl (by rw [fewV_len]; omega), ?_⟩
      rw [fewV_set (by omega)]
      refine ⟨_, rfl, _, _, rfl, rfl, ?_⟩
      refine ⟨n, by omega, _, by omega, rfl, rfl, ?_, upd_same⟩
      intro b o e
      rw [upd_ne (ne_of_none e np)]
      exact (s5.trans s6) b o e

/-! ### the rules that give them -/
def spByFewest (CR CS CT : Addr) : Sp := fun vs H Q _ => ∃ (a t : Addr) (T : Table) (x : List Nat), vs = [.ref a, .ref t] ∧ TabAt CR CS CT H a T ∧ Good T ∧ NL H t x ∧ x.length ≤ 256 ∧
  (Sd50.least T x = none → ∀ H', Same H H' → Q .non H') ∧ (∀ l, Sd50.least T x = some l → ∀ H' p, Same H H' → H p = none → NL H' p l → Q (.ref p) H')
theorem oV_flat (o : Option Nat) : flatV (oV o) = true := by cases o <;> rfl
theorem oV_eq (a : Option Nat) (c : Nat) : eqV (oV a) (.int (c : Nat)) = decide (a = some c) := by
  cases a with
  | none => rfl
  | some n =>
    show ((n : Int) == (c : Int)) = _
    rw [Bool.eq_iff_iff, beq_iff_eq, decide_eq_true_iff]
    constructor
    · intro h
      rw [show n = c by omega]
    · intro h
      cases h
      rfl
theorem sc37 : FnScope ["table", "text", "fewest", "numbers", "place", "counts", "number", "rule"] ["table", "text"] (defScope (top 37)) := ⟨rfl, rfl, rfl, by decide +kernel, rfl, by decide +kernel, by decide +kernel⟩
theorem ok_by_fewest (F : RawFn K mg "rules_by_fewest" ["table", "text"] (top 37)) (T : TX K mg CR CS CT CO CD CF)
    (GF : HasFn P w K mg base CX0 6 "fewest_cells_from" ["table", "text"] (spFewFrom CR CS CT)) (GW : HasFn P w K mg base CX0 4 "cells_with" ["table", "text", "place", "rule", "fewest"] (spWith CR CS CT)) :
    HasFn P w K mg base CX0 7 "rules_by_fewest" ["table", "text"] (spByFewest CR CS CT) := by
  obtain ⟨f, fd, F, b, gf⟩ := F
  obtain ⟨g, gd, G, gb, gg, gk⟩ := GF
  obtain ⟨g2, gd2, G2, gb2, gg2, gk2⟩ := GW
  refine ⟨f, fd, F.ok sc37 (fun vs H Q E h => ?_) (fun cdv A outer s H vs Q E hr h => ⟨_, pss_cons (ps_set (i := 2) sc37.nd rfl (.inr rfl) (pe_call G hr rfl gg gk gb .nil pass0 (pa_cons (pv 0) (pa_cons (pv 1) pa_nil))))
    (pss_cons (ps_if (pt_cmpR op_isN (pe_ix ix_list (pv 2) pe_int (fun _ _ => rfl)) pe_non (nomark _)) (pss_one (ps_ret pe_non)) pss_nil)
    (pss_cons (ps_set (i := 3) sc37.nd rfl (.inl rfl) (pe_lst pa_nil))
    (pss_cons (ps_set (i := 4) sc37.nd rfl (.inr rfl) pe_int)
    (pss_cons (ps_while PassesOwn.never (pt_cmpR op_lt (pv 4) (pe_callB call_len_seq (by rfl) T.bLen PySem.boot_len (pa_cons (pv 1) pa_nil)) (nomark _))
      (pss_cons (ps_setLc (i := 5) (own := [("rule", 7)]) (g := gName 7) (tt := tYes) rfl sc37.nd rfl rfl (sw_true rfl rfl rfl (by decide +kernel)) (pi_list (pe_fld (pv 0) rfl))
        (blkOk_by (own := [("rule", 7)]) (N := ["table", "text", "fewest", "numbers", "place", "counts", "number", "rule"]) (sc := defScope (top 37)) (by decide +kernel)) (fun _ _ _ _ _ => pg_name (i := 7) sc37.nd rfl (Or.inl rfl)) (fun _ _ _ _ _ => pts_nil)
        (fun _ _ _ _ _ => pe_call G2 (hr.mono (by decide)) rfl gg2 gk2 gb2 .nil pass0 (pa_cons (pv 0) (pa_cons (pv 1) (pa_cons (pv 4) (pa_cons (pv 7) (pa_cons (pv 2) pa_nil)))))))
      (pss_cons (ps_set (i := 6) sc37.nd rfl (.inl rfl) (pe_bm PySem.F.plainAttrs_list PySem.F.slot_list_index PySem.F.type_list_index mt_index (pv 5) (pa_cons (pe_ix ix_list (pv 2) (pv 4) (fun _ _ => rfl)) pa_nil)))
      (pss_cons (ps_expr (pe_bm PySem.F.plainAttrs_list PySem.F.slot_list_append PySem.F.type_list_append mt_append (pv 3) (pa_cons (pv 6) pa_nil)))
      (pss_one (ps_set (i := 4) sc37.nd rfl (.inr rfl) (pe_op op_add (pv 4) (pe_callB call_len_seq (by rfl) T.bLen PySem.boot_len (pa_cons (pe_fld (pe_ix ix_list (pe_fld (pv 0) rfl) (pv 6) (fun _ _ => rfl)) rfl) pa_nil)))))))))
    (pss_one (ps_ret (pv 3))))))), ?_⟩), b, gf, F.kp⟩
  · obtain ⟨a, t, T, x, rfl, _⟩ := h
    rfl
  · obtain ⟨a, t, Tb, x, rfl, TA, GT, ht, hx, kN, kS⟩ := h
    obtain ⟨le, ru, sg, as, bs, X⟩ := id TA
    obtain ⟨dx, hob⟩ := X.ob
    refine ⟨_, rfl, _, rfl, ?_⟩
    refine ⟨a, t, Tb, x, rfl, TA, GT, ht, hx, fun H1 fw s1 nf hf => ?_⟩
    refine ⟨_, rfl, fw, _, _, _, rfl, rfl, SqL.of hf, at_of (j := 0) rfl (fewV_at (Nat.zero_le _) (Nat.le_refl _)), rfl, _, rfl, ?_⟩
    cases h0 : bestRow Tb x 0 with
    | none =>
      have e : fewAt Tb x 0 = none := by
        unfold fewAt
        rw [h0]
        rfl
      rw [e]
      refine if_true_of (by rfl) ?_
      refine kN ?_ _ s1
      rw [least_eq, h0]
      rfl
    | some y0 =>
    have e : fewAt Tb x 0 = some y0.1 := by
      unfold fewAt
      rw [h0]
      rfl
    rw [e]
    have hl : Sd50.least Tb x = some y0.2 := by
      rw [least_eq, h0]
      rfl
    refine if_false_of (by rfl) ?_
    refine ⟨Nat.zero_le _, fun p np1 => ?_⟩
    have np : H p = none := s1.free np1
    refine while_to (fun m σ H' => ∃ (i : Nat) (acc : List Nat) (y : Sd50.Row) (u v : Option V), m = x.length - i ∧ i ≤ x.length ∧ acc.length ≤ i ∧ σ = [some (.ref a), some (.ref t), some (.ref fw), some (.ref p), some (.int i), u, v, none] ∧ Same H1 H' ∧ NL H' p acc ∧
      bestRow Tb x i = some y ∧ y0.2 = acc ++ y.2) (x.length - 0) ⟨0, [], y0, none, none, rfl, Nat.zero_le _, Nat.le_refl _, rfl, Same.new np1, upd_same, h0, rfl⟩ ?_
    rintro m σ H' ⟨i, acc, y, u, v, rfl, hi, hacc, rfl, s2, hp, hy, hacy⟩
    have s12 := s1.trans s2
    refine ⟨_, rfl, _, rfl, t, _, rfl, .inl (SqL.of (s12 _ _ ht)), _, _, rfl, rfl, _, rfl, ?_⟩
    rw [nV_len]
    by_cases c : ((i : Nat) : Int) < ((x.length : Nat) : Int)
    · refine if_true_of (decide_eq_true c) ?_
      have hlt : i < x.length := by omega
      refine ⟨fun σ' H3 => ∃ m', m' < x.length - i ∧ ∃ (i : Nat) (acc : List Nat) (y : Sd50.Row) (u v : Option V), m' = x.length - i ∧ i ≤ x.length ∧ acc.length ≤ i ∧ σ' = [some (.ref a), some (.ref t), some (.ref fw), some (.ref p), some (.int i), u, v, none] ∧ Same H1 H3 ∧ NL H3 p acc ∧
        bestRow Tb x i = some y ∧ y0.2 = acc ++ y.2, fun _ _ z => z, ?_⟩
      obtain ⟨n, R, z, hR, ha, hz, hyz, hcn, hno⟩ := bestRow_pick hlt hy
      obtain ⟨hR0, hRe⟩ := applies_end ha
      refine ⟨_, rfl, a, CT, dx, _, _, rfl, s12 _ _ hob, T.clT, T.nTr, tF_r, ru, rfl, ⟨_, SqL.of (s12 _ _ X.rl)⟩, fun D nD => ?_⟩
      refine lc_list (K := K) (a := ru) (xs := as.map V.ref) (fun j H3 => Same H' H3 ∧ H3 D = some (.lst (((counts Tb x i).take j).map oV))) ⟨Same.new nD, upd_same⟩ (fun j H3 _ h => SqL.of ((s12.trans h.1) _ _ X.rl)) ?_ ?_
      · rintro j yy H3 hyy ⟨s3, hD⟩
        obtain ⟨R', r, rt, rc, rfl, hR', RX⟩ := X.rule_of hyy
        have hj : j < Tb.rules.length := (List.getElem?_eq_some_iff.mp hR').1
        have s13 := s12.trans s3
        refine ⟨rfl, ?_⟩
        refine ⟨_, rfl, _, rfl, _, rfl, _, rfl, _, rfl, ?_⟩
        refine ⟨a, t, r, fw, Tb, x, i, j, R', _, rfl, TA.same s13, GT, s13 _ _ ht, (RX.same s13).at, hR', hlt, (s2.trans s3) _ _ hf, fun j h1 h2 => fewV_at h2 (Nat.zero_le _), fun H4 s4 => ?_⟩
        refine ⟨_, s4 _ _ hD, ?_, ?_, ?_⟩
        · rw [List.length_map]
          exact take_small (by rw [counts_len]; exact GT.nr) line64
        · intro b o e
          rw [upd_ne (ne_of_none e nD)]
          exact (s3.trans s4) b o e
        · rw [take_next' (counts_get hj), List.map_append]
          exact upd_same
      · rintro H3 ⟨s3, hD⟩
        rw [List.length_map, X.ra, ← counts_len (x := x) (i := i), List.take_length] at hD
        have s13 := s12.trans s3
        have efy : fewAt Tb x i = some y.1 := by
          unfold fewAt
          rw [hy]
          rfl
        refine ⟨_, rfl, .inl ⟨rfl, _, SqL.of hD⟩, _, rfl, _, rfl, fw, _, _, _, rfl, rfl, SqL.of ((s2.trans s3) _ _ hf), at_of (j := i) rfl (fewV_at hi (Nat.zero_le _)), ?_⟩
        rw [efy]
        refine ⟨D, _, _, n, oV (some y.1), rfl, rfl, SqL.of hD, rfl, ?_, ?_, ?_, ?_, ?_⟩
        · rw [List.all_eq_true]
          intro v hv
          obtain ⟨o, _, rfl⟩ := List.mem_map.mp hv
          exact oV_flat o
        · rw [List.getElem?_map, hcn]
          rfl
        · rw [show oV (some y.1) = .int (y.1 : Nat) from rfl, ← show oV (some y.1) = .int (y.1 : Nat) from rfl, show eqV (oV (some y.1)) (oV (some y.1)) = decide (some y.1 = some y.1) from oV_eq _ _]
          exact decide_eq_true rfl
        · intro m' z' hm' hz'
          rw [List.getElem?_map] at hz'
          cases e' : (counts Tb x i)[m']? with
          | none => rw [e'] at hz'; cases hz'
          | some o =>
            rw [e'] at hz'
            have hz' := Option.some.inj hz'
            subst hz'
            show eqV (oV o) (.int (y.1 : Nat)) = false
            rw [oV_eq]
            refine decide_eq_false fun eo => hno m' hm' ?_
            rw [e', eo]
        refine ⟨_, rfl, .inl ⟨rfl, _, SqL.of (s3 _ _ hp)⟩, _, rfl, p, _, _, rfl, rfl, s3 _ _ hp, (by rw [nV_len]; exact small256 (by omega)), ?_⟩
        have s4 : Same H1 (upd H3 p (.lst (nV acc ++ [.int (n : Nat)]))) := fun b o e => by
          rw [upd_ne (ne_of_none e np1)]
          exact (s2.trans s3) b o e
        have s14 := s1.trans s4
        obtain ⟨r, rt, rc, hat, RX⟩ := X.rule_at hR rfl
        obtain ⟨rx, hrx⟩ := RX.ob
        refine ⟨_, rfl, _, rfl, a, CT, dx, _, _, rfl, s14 _ _ hob, T.clT, T.nTr, tF_r, _, rfl, ru, _, _, _, rfl, rfl, SqL.of (s14 _ _ X.rl), hat, ?_⟩
        refine ⟨r, CR, rx, _, _, rfl, s14 _ _ hrx, T.clR, T.nRt, rF_t, rt, _, rfl, .inl (SqL.of (s14 _ _ RX.tx)), _, _, rfl, rfl, ?_⟩
        rw [nV_len]
        refine ⟨x.length - (i + R.text.length), by omega, i + R.text.length, acc ++ [n], z, _, _, rfl, hRe, ?_, rfl, s4, ?_, hz, ?_⟩
        · rw [List.length_append]
          show acc.length + 1 ≤ _
          omega
        · have e := nV_snoc acc n
          show upd H3 p (.lst (nV acc ++ [.int (n : Nat)])) p = _
          rw [e]
          exact upd_same
        · rw [hacy, hyz]
          simp
    · refine if_false_of (decide_eq_false c) ?_
      obtain rfl : i = x.length := by omega
      rw [bestRow_end] at hy
      cases hy
      rw [List.append_nil] at hacy
      rw [← hacy] at hp
      exact ⟨_, rfl, kS _ hl _ p s12 np hp⟩
end
end RW
set_option Elab.async false
set_option linter.all false
set_option maxRecDepth 100000
set_option maxHeartbeats 2000000
/-! # WordError(), made without arguments; a def that lets it out -/
namespace RW
open PySem PySem.Spec PyProof.Rows L2
section
variable {P : Program} {w : World} {K : PySem.W.Frag} {mg : Str → Option Value} {base : Heap}
/-- a def whose errors have no context -/
theorem fun_okN {x qual : Str} {st : Stmt} {f : Addr} {fd : FuncData} {N ps : List Str} {k : Nat} {sp : Sp} (F : Fun K x qual st f fd) (S : FnScope N ps (defScope st)) (len : ∀ vs H Q E, sp vs H Q E → vs.length = ps.length)
    (hbody : ∀ (cdv : Value) (A : Around) (outer : List Env) (s : Shared) (H : Hp) (vs : List V) (Q : VK) (E : XK), Room k (A.deeper (envOfC qual (defScope st) s.heap.objs.size f cdv)) → sp vs H Q E →
      ∃ t, PSs (cxOf (L2N.CX P w) P w K mg base N qual (defScope st) f cdv A outer s H E) (defBody st) t ∧ t { nx := fun _ H' => Q .non H', rt := Q } (start N vs) H) : FnOk P w K mg base (L2N.CX P w) (k + 1) f fd ps sp := by
  obtain ⟨oc, od, kV, doc, pm, an, cdv, ct, osl, rfl, lk, hcd⟩ := F.ex
  exact fn_of lk hcd S len fun A outer s H vs Q E hr hsp => hbody cdv A outer s H vs Q E hr hsp
end
section
variable {X : Cx} {C : Addr} {bmB : List Value} {B newId initId : String}
/-- X() -/
theorem pmk_bare {x : Str} {p pos : Pos} (F : ExcBaseFacts B newId initId bmB) (q : PySem.W.excIn X.K C bmB newId = true) (gC : X.mg x = some (.ref C)) (kC : PySem.W.keepIn X.K (.ref C) = true) (r : Raises X (.ref C)) (hg : Gl X x)
    (hdb : (x == ("__debug__" : Str)) = false := by decide) : L2N.PMk X (.Call (.Name x p) [] [] pos) (fun _ H Q => Q (.ref C) none H) := by
  intro pins s σ H Q I h
  refine wpAny_Call_Name_kw (ld_glob I hg gC ?_ hdb)
  refine PySem.W.callWith_K0 I.kIn kC ?_
  show wpAny _ _ (call (.ref C) []) _ _ _
  obtain ⟨bm, N, nm, qn, bs, hdct, sn, sub, ab, col, dd, k0, k1, k2, k3, k5, mN, hC, hN, hni, T⟩ := exc_obj I.kIn q
  refine wpAny_call_exc_subT F T hC hN hni (fun h' e hm => ?_) (Nat.zero_le _)
  exact L2N.mk_of I hm r h (I.hok.gone hm.new)
/-- raise X() -/
theorem ps_raise_bare {W : WX} {x : Str} {p pos pos2 : Pos} (hc : X.calm = true) (tk : L2N.Takes X W) (F : ExcBaseFacts B newId initId bmB) (q : PySem.W.excIn X.K C bmB newId = true) (gC : X.mg x = some (.ref C)) (kC : PySem.W.keepIn X.K (.ref C) = true) (r : Raises X (.ref C)) (hg : Gl X x)
    (hdb : (x == ("__debug__" : Str)) = false := by decide) : PS X (.Raise (some (.Call (.Name x p) [] [] pos)) none pos2) (fun _ σ H => W (.ref C) none σ H) := L2N.ps_raise hc tk (pmk_bare F q gC kC r hg hdb)
end
section
variable {P : Program} {w : World} {K : PySem.W.Frag} {mg : Str → Option Value} {base : Heap} {CR CS CT CO CD CF CP fP : Addr}
def spNeed (CF : Addr) : Sp := fun vs H Q E => ∃ b : Bool, vs = [.bl b] ∧ (b = true → Q .non H) ∧ (b = false → E (.ref CF) none H)
theorem sc20 : FnScope ["holds"] ["holds"] (defScope (top 20)) := ⟨rfl, rfl, rfl, by decide +kernel, rfl, by decide +kernel, by decide +kernel⟩
theorem ok_need (F : RawFn K mg "need" ["holds"] (top 20)) (T : TX K mg CR CS CT CO CD CF) : HasFn P w K mg base (L2N.CX P w) 1 "need" ["holds"] (spNeed CF) := by
  obtain ⟨f, fd, F, b, gf⟩ := F
  refine ⟨f, fd, fun_okN F sc20 (fun vs H Q E h => ?_) (fun cdv A outer s H vs Q E hr h => ⟨_, pss_one (ps_if (pt_not (pt_val (pv 0)))
    (pss_one (ps_raise_bare rfl (L2N.takes_of rfl rfl rfl rfl) PySem.F.excBase_Exception T.xF T.gF T.kF (raises_own T.bF T.tF) (by exact rfl))) pss_nil), ?_⟩), b, gf, F.kp⟩
  · obtain ⟨b, rfl, _⟩ := h
    rfl
  · obtain ⟨b, rfl, h1, h2⟩ := h
    refine ⟨_, rfl, _, rfl, ?_⟩
    cases b with
    | true => exact iteF (h1 rfl)
    | false => exact iteT (h2 rfl)
end
end RW
set_option Elab.async false
set_option linter.all false
set_option maxRecDepth 100000
set_option maxHeartbeats 2000000
/-! # Reading: pieces, words, cells -/
namespace RW
open PySem PySem.Spec PyProof.Rows L2
open RC
open Sd50 (Table Rule Sign)
section
variable {P : Program} {w : World} {K : PySem.W.Frag} {mg : Str → Option Value} {base : Heap} {CR CS CT CO CD CF CP fP : Addr}
theorem passN {N : List Str} {qual : Str} {sc : Scope} {f : Addr} {cdv : Value} {A : Around} {outer : List Env} {s : Shared} {H : Hp} {E : XK} :
    Passes (L2N.CX P w) (cxOf (L2N.CX P w) P w K mg base N qual sc f cdv A outer s H E) E := L2N.passes_call (W := fun cls d _ H => E cls d H) (L2N.takes_of rfl rfl rfl rfl) (fun _ _ _ _ h => h)
theorem takesN {N : List Str} {qual : Str} {sc : Scope} {f : Addr} {cdv : Value} {A : Around} {outer : List Env} {s : Shared} {H : Hp} {E : XK} :
    L2N.Takes (cxOf (L2N.CX P w) P w K mg base N qual sc f cdv A outer s H E) (fun cls d _ H => E cls d H) := L2N.takes_of rfl rfl rfl rfl
theorem line5000 {n : Nat} (h : n ≤ 5000) : n < sizeLine := Nat.lt_of_le_of_lt h (by decide)
theorem take_of {α : Type} {l : List α} {j : Nat} {y : α} (h : l[j]? = some y) : l.take (j + 1) = l.take j ++ [y] := by
  rw [List.take_add_one, h]
  rfl
/-! ### pieces -/
/-- lists at those addresses hold those texts -/
structure PartsX (H : Hp) (as : List Addr) (ps : List (List Nat)) : Prop where
  len : as.length = ps.length
  each : ∀ (k : Nat) (q : List Nat), ps[k]? = some q → ∃ a, as[k]? = some a ∧ NL H a q
theorem PartsX.same {H H' : Hp} {as : List Addr} {ps : List (List Nat)} (x : PartsX H as ps) (s : Same H H') : PartsX H' as ps := by
  refine ⟨x.len, fun k q h => ?_⟩
  obtain ⟨a, h1, h2⟩ := x.each k q h
  exact ⟨a, h1, s _ _ h2⟩
theorem PartsX.nil {H : Hp} : PartsX H [] [] := ⟨rfl, fun k q h => by simp at h⟩
theorem PartsX.snoc {H : Hp} {as : List Addr} {ps : List (List Nat)} {a : Addr} {q : List Nat} (x : PartsX H as ps) (h : NL H a q) : PartsX H (as ++ [a]) (ps ++ [q]) := by
  refine ⟨by rw [List.length_append, List.length_append, x.len]; rfl, fun k r hr => ?_⟩
  by_cases c : k < ps.length
  · rw [List.getElem?_append_left c] at hr
    obtain ⟨b, h1, h2⟩ := x.each k r hr
    exact ⟨b, by rw [List.getElem?_append_left (by rw [x.len]; exact c)]; exact h1, h2⟩
  · have hk : k = ps.length := by
      have := (List.getElem?_eq_some_iff.mp hr).1
      rw [List.length_append] at this
      have : k < ps.length + 1 := this
      omega
    subst hk
    rw [List.getElem?_append_right (Nat.le_refl _), Nat.sub_self] at hr
    cases hr
    exact ⟨a, by rw [← x.len, List.getElem?_append_right (Nat.le_refl _), Nat.sub_self]; rfl, h⟩
theorem PartsX.mem {H : Hp} {as : List Addr} {ps : List (List Nat)} (x : PartsX H as ps) {a : Addr} (h : a ∈ as) : ∃ q, NL H a q := by
  obtain ⟨k, hk, e⟩ := List.mem_iff_getElem.mp h
  have hk2 : k < ps.length := by rw [← x.len]; exact hk
  obtain ⟨b, h1, h2⟩ := x.each k _ (List.getElem?_eq_getElem hk2)
  rw [List.getElem?_eq_getElem hk, e] at h1
  cases h1
  exact ⟨_, h2⟩
theorem PartsX.put {H : Hp} {as : List Addr} {ps : List (List Nat)} (x : PartsX H as ps) {b : Addr} {o : HO} (h : b ∉ as) : PartsX (L2.upd H b o) as ps := by
  refine ⟨x.len, fun k q hq => ?_⟩
  obtain ⟨a, h1, h2⟩ := x.each k q hq
  refine ⟨a, h1, ?_⟩
  show L2.upd H b o a = _
  rw [upd_ne fun e => h (by rw [← e]; exact List.mem_of_getElem? h1)]
  exact h2
def spParts : Sp := fun vs H Q _ => ∃ (a : Addr) (l : List Nat) (c : Nat), vs = [.ref a, .int c] ∧ NL H a l ∧ l.length ≤ 4096 ∧
  ∀ H' p as, Same H H' → H p = none → H' p = some (.lst (as.map V.ref)) → PartsX H' as (Sd50.pieces c l) → (∀ b ∈ as, H b = none) → (∀ b ∈ as, b ≠ p) → Q (.ref p) H'
theorem sc21 : FnScope ["octets", "separator", "parts", "octet"] ["octets", "separator"] (defScope (top 21)) := ⟨rfl, rfl, rfl, by decide +kernel, rfl, by decide +kernel, by decide +kernel⟩
theorem ok_parts (F : RawFn K mg "parts_between" ["octets", "separator"] (top 21)) : HasFn P w K mg base CX0 1 "parts_between" ["octets", "separator"] spParts := by
  obtain ⟨f, fd, F, b, gf⟩ := F
  refine ⟨f, fd, F.ok sc21 (fun vs H Q E h => ?_) (fun cdv A outer s H vs Q E hr h => ⟨_, pss_cons (ps_set (i := 2) sc21.nd rfl (.inl rfl) (pe_lst (pa_cons (pe_lst pa_nil) pa_nil)))
    (pss_cons (ps_for PassesOwn.never rfl (pi_list (pv 0)) (pg_name (i := 3) sc21.nd rfl (.inl rfl))
      (pss_one (ps_if (pt_cmpR op_eq (pv 3) (pv 1) (nomark _))
        (pss_one (ps_expr (pe_bm PySem.F.plainAttrs_list PySem.F.slot_list_append PySem.F.type_list_append mt_append (pv 2) (pa_cons (pe_lst pa_nil) pa_nil))))
        (pss_one (ps_expr (pe_bm PySem.F.plainAttrs_list PySem.F.slot_list_append PySem.F.type_list_append mt_append (pe_ix ix_list (pv 2) (pe_un un_neg pe_int) (fun _ _ => rfl)) (pa_cons (pv 3) pa_nil)))))))
    (pss_one (ps_ret (pv 2)))), ?_⟩), b, gf, F.kp⟩
  · obtain ⟨a, l, c, rfl, _⟩ := h
    rfl
  · obtain ⟨a, l, c, rfl, ha, hl, k⟩ := h
    refine ⟨Nat.zero_le _, fun p0 n0 => ⟨(by show 1 ≤ sizeLine; decide), fun p n1 => ?_⟩⟩
    have s1 : Same H (upd (upd H p0 (.lst [])) p (.lst [.ref p0])) := (Same.new n0).trans (Same.new n1)
    have np : H p = none := (Same.new n0).free n1
    have ne0 : p0 ≠ p := ne_of_none upd_same n1
    refine ⟨_, rfl, a, rfl, ⟨_, SqL.of (s1 _ _ ha)⟩, ?_⟩
    refine for_list (K := K) (a := a) (xs := nV l) (fun j σ H' => ∃ (qs : List (List Nat)) (q : List Nat) (qa : List Addr) (la : Addr) (u : Option V), σ = [some (.ref a), some (.int c), some (.ref p), u] ∧ Same H H' ∧ H' p = some (.lst ((qa ++ [la]).map V.ref)) ∧
      Sd50.pieces c (l.take j) = qs ++ [q] ∧ PartsX H' qa qs ∧ NL H' la q ∧ la ∉ qa ∧ (∀ b ∈ qa ++ [la], H b = none) ∧ (∀ b ∈ qa ++ [la], b ≠ p)) ?_ ?_ ?_ ?_
    · refine ⟨[], [], [], p0, none, rfl, s1, upd_same, rfl, PartsX.nil, ?_, List.not_mem_nil, ?_, ?_⟩
      · show upd (upd H p0 (.lst [])) p (.lst [.ref p0]) p0 = _
        rw [upd_ne ne0]
        exact upd_same
      · intro b hb
        rw [List.mem_singleton.mp hb]
        exact n0
      · intro b hb
        rw [List.mem_singleton.mp hb]
        exact ne0
    · rintro j σ H' _ ⟨_, _, _, _, _, _, s2, _⟩
      exact SqL.of (s2 _ _ ha)
    · rintro j y σ H' hy ⟨qs, q, qa, la, u, rfl, s2, hp, hpc, hqa, hla, hni, hnew, hne⟩
      obtain ⟨n, hn, rfl⟩ := nV_of_get hy
      have hj : j < l.length := (List.getElem?_eq_some_iff.mp hn).1
      obtain ⟨qs', q', e1, e2⟩ := pieces_snoc c n (l.take j)
      rw [hpc] at e1
      have e1' := List.append_inj' e1 rfl
      obtain rfl : qs = qs' := e1'.1
      obtain rfl : q = q' := (List.cons.inj e1'.2).1
      rw [← take_of hn] at e2
      have hcount : qa.length + 1 ≤ 4097 := by
        have h1 := pieces_len c (l.take j)
        rw [hpc, List.length_append, ← hqa.len, List.length_take] at h1
        have h2 : qa.length + 1 ≤ min j l.length + 1 := h1
        omega
      refine ⟨_, rfl, _, rfl, rfl, _, rfl, ?_⟩
      rw [dec_int]
      by_cases ce : n = c
      · subst ce
        rw [if_pos rfl] at e2
        refine if_true_of (beq_self_eq_true _) ?_
        refine ⟨_, rfl, .inl ⟨rfl, _, SqL.of hp⟩, Nat.zero_le _, fun m nm => ?_⟩
        have mp : m ≠ p := fun e => by
          rw [e, hp] at nm
          cases nm
        refine ⟨p, _, _, rfl, rfl, (upd_ne (Ne.symm mp)).trans hp, ?_, ?_⟩
        · rw [List.length_map, List.length_append]
          exact line5000 (by show qa.length + 1 ≤ 5000; omega)
        have s3 : Same H' (upd H' m (.lst [])) := Same.new nm
        have hall := (hqa.snoc hla)
        have hmem : p ∉ qa ++ [la] := fun h => hne p h rfl
        refine ⟨qs ++ [q], [], qa ++ [la], m, some (.int (n : Nat)), rfl, ?_, ?_, e2, (hall.same s3).put hmem, ?_, ?_, ?_, ?_⟩
        · intro b o e
          rw [upd_ne (ne_of_none e np)]
          exact (s2.trans s3) b o e
        · rw [show (qa ++ [la] ++ [m]).map V.ref = (qa ++ [la]).map V.ref ++ [V.ref m] from List.map_append ..]
          exact upd_same
        · show upd (upd H' m (.lst [])) p _ m = _
          rw [upd_ne mp]
          exact upd_same
        · intro hm
          obtain ⟨q, hq⟩ := hall.mem hm
          rw [hq] at nm
          cases nm
        · intro b hb
          rcases List.mem_append.mp hb with hb | hb
          · exact hnew b hb
          · rw [List.mem_singleton.mp hb]
            exact s2.free nm
        · intro b hb
          rcases List.mem_append.mp hb with hb | hb
          · exact hne b hb
          · rw [List.mem_singleton.mp hb]
            exact mp
      · rw [if_neg ce] at e2
        refine if_false_of (by rw [beq_eq_false_iff_ne]; omega) ?_
        refine ⟨_, rfl, _, rfl, p, _, _, .ref la, rfl, rfl, SqL.of hp, ?_, .inl ⟨rfl, _, SqL.of hla⟩, _, rfl, la, _, _, rfl, rfl, hla, ?_, ?_⟩
        · rw [List.map_append]
          exact atI_last _ _
        · rw [nV_len]
          have h1 := (pieces_each c (l.take j) q (by rw [hpc]; exact List.mem_append_right _ (List.mem_singleton.mpr rfl))).1
          rw [List.length_take] at h1
          exact line5000 (by omega)
        · have hlp : la ≠ p := hne la (List.mem_append_right _ (List.mem_singleton.mpr rfl))
          have hln : H la = none := hnew la (List.mem_append_right _ (List.mem_singleton.mpr rfl))
          refine ⟨qs, q ++ [n], qa, la, some (.int (n : Nat)), rfl, ?_, ?_, e2, hqa.put hni, ?_, hni, hnew, hne⟩
          · intro b o e
            rw [upd_ne (ne_of_none e hln)]
            exact s2 b o e
          · rw [upd_ne (Ne.symm hlp)]
            exact hp
          · show upd H' la (.lst (nV q ++ [.int (n : Nat)])) la = _
            rw [nV_snoc]
            exact upd_same
    · rintro σ H' ⟨qs, q, qa, la, u, rfl, s2, hp, hpc, hqa, hla, hni, hnew, hne⟩
      rw [nV_len, List.take_length] at hpc
      refine ⟨_, rfl, k H' p (qa ++ [la]) s2 np hp ?_ hnew hne⟩
      rw [hpc]
      exact hqa.snoc hla
end
end RW
set_option Elab.async false
set_option linter.all false
set_option maxRecDepth 100000
set_option maxHeartbeats 2000000
/-! # Reading: words -/
namespace RW
open PySem PySem.Spec PyProof.Rows L2
open RC
open Sd50 (Table Rule Sign)
section
variable {P : Program} {w : World} {K : PySem.W.Frag} {mg : Str → Option Value} {base : Heap} {CR CS CT CO CD CF CP fP : Addr}
theorem ord_us : ((("_" : Str).cps.getD 0 0 : Nat) : Int) = 95 := by decide +kernel
theorem ord_comma : ((("," : Str).cps.getD 0 0 : Nat) : Int) = 44 := by decide +kernel
theorem ord_0 : ((("0" : Str).cps.getD 0 0 : Nat) : Int) = 48 := by decide +kernel
theorem ord_9 : ((("9" : Str).cps.getD 0 0 : Nat) : Int) = 57 := by decide +kernel
theorem bl_get {f : Nat → Bool} {l : List Nat} {j n : Nat} (h : l[j]? = some n) : (l.map fun c => V.bl (f c)).take (j + 1) = (l.map fun c => V.bl (f c)).take j ++ [V.bl (f n)] := by
  refine take_of ?_
  rw [List.getElem?_map, h]
  rfl
theorem bl_len {f : Nat → Bool} {l : List Nat} (hl : l.length ≤ 4096) (j : Nat) : ((l.map fun c => V.bl (f c)).take j).length < sizeLine := by
  rw [List.length_take, List.length_map]
  exact line5000 (by omega)
theorem bl_map {f : Nat → Bool} {l : List Nat} : (l.map fun c => V.bl (f c)) = (l.map f).map V.bl := by
  rw [List.map_map]
  rfl
theorem all_id {f : Nat → Bool} {l : List Nat} : (l.map f).all id = l.all f := by
  rw [List.all_map]
  rfl
theorem nat_le_dec {a b : Nat} : decide ((a : Int) ≤ (b : Int)) = decide (a ≤ b) := by
  rw [Bool.eq_iff_iff, decide_eq_true_iff, decide_eq_true_iff]
  omega
def spReadWord (CF : Addr) : Sp := fun vs H Q E => ∃ (a : Addr) (l : List Nat), vs = [.ref a] ∧ NL H a l ∧ l.length ≤ 4096 ∧
  (l.all Sd50.isByte = true → ∀ H' p, Same H H' → H p = none → NL H' p (Sd50.blanks l) → Q (.ref p) H') ∧ (l.all Sd50.isByte = false → ∀ H', Same H H' → E (.ref CF) none H')
theorem blanks_take {l : List Nat} {j n : Nat} (h : l[j]? = some n) : Sd50.blanks (l.take (j + 1)) = Sd50.blanks (l.take j) ++ [if n = 95 then 32 else n] := by
  rw [take_of h]
  exact List.map_append ..
theorem sc22 : FnScope ["octets", "octet", "word"] ["octets"] (defScope (top 22)) := ⟨rfl, rfl, rfl, by decide +kernel, rfl, by decide +kernel, by decide +kernel⟩
theorem ok_read_word (F : RawFn K mg "read_word" ["octets"] (top 22)) (T : TX K mg CR CS CT CO CD CF) (G : HasFn P w K mg base (L2N.CX P w) 1 "need" ["holds"] (spNeed CF)) :
    HasFn P w K mg base (L2N.CX P w) 2 "read_word" ["octets"] (spReadWord CF) := by
  obtain ⟨f, fd, F, b, gf⟩ := F
  obtain ⟨g, gd, G, gb, gg, gk⟩ := G
  refine ⟨f, fd, fun_okN F sc22 (fun vs H Q E h => ?_) (fun cdv A outer s H vs Q E hr h => ⟨_, pss_cons (ps_expr (pe_call G hr rfl gg gk gb .nil passN (pa_cons (pe_callB (cr_all rfl) (by rfl) T.bAll (by decide +kernel)
      (pa_cons (pe_lc (own := [("octet", 1)]) (g := gName 1) (tt := tYes) rfl sc22.nd (pi_list (pv 0)) (blkOk_by (own := [("octet", 1)]) (N := ["octets", "octet", "word"]) (sc := defScope (top 22)) (by decide +kernel))
        (fun _ _ _ _ _ => pg_name (i := 1) sc22.nd rfl (Or.inl rfl)) (fun _ _ _ _ _ => pts_nil) (fun _ _ _ _ _ => pe_chain op_le op_le pe_int (pv 1) pe_int)) pa_nil)) pa_nil)))
    (pss_cons (ps_set (i := 2) sc22.nd rfl (.inl rfl) (pe_lst pa_nil))
    (pss_cons (ps_for PassesOwn.leaving rfl (pi_list (pv 0)) (pg_name (i := 1) sc22.nd rfl (.inl rfl))
      (pss_one (ps_if (pt_cmpR op_eq (pv 1) (pe_callB call_ord (by rfl) T.bOrd (by decide +kernel) (pa_cons pe_str pa_nil)) (nomark _))
        (pss_one (ps_expr (pe_bm PySem.F.plainAttrs_list PySem.F.slot_list_append PySem.F.type_list_append mt_append (pv 2) (pa_cons (pe_kn T.cBlank) pa_nil))))
        (pss_one (ps_expr (pe_bm PySem.F.plainAttrs_list PySem.F.slot_list_append PySem.F.type_list_append mt_append (pv 2) (pa_cons (pv 1) pa_nil)))))))
    (pss_one (ps_ret (pv 2))))), ?_⟩), b, gf, F.kp⟩
  · obtain ⟨a, l, rfl, _⟩ := h
    rfl
  · obtain ⟨a, l, rfl, ha, hl, kO, kE⟩ := h
    refine ⟨_, rfl, a, rfl, ⟨_, SqL.of ha⟩, fun D nD => ?_⟩
    refine lc_list (K := K) (a := a) (xs := nV l) (fun j H' => Same H H' ∧ H' D = some (.lst ((l.map fun c => V.bl (Sd50.isByte c)).take j))) ⟨Same.new nD, upd_same⟩ (fun j H' _ h => SqL.of (h.1 _ _ ha)) ?_ ?_
    · rintro j y H' hy ⟨s2, hD⟩
      obtain ⟨n, hn, rfl⟩ := nV_of_get hy
      have fin : ∃ acc, H' D = some (.lst acc) ∧ acc.length < sizeLine ∧ Same H (upd H' D (.lst (acc ++ [V.bl (Sd50.isByte n)]))) ∧ upd H' D (.lst (acc ++ [V.bl (Sd50.isByte n)])) D = some (.lst ((l.map fun c => V.bl (Sd50.isByte c)).take (j + 1))) := by
        refine ⟨_, hD, bl_len hl j, ?_, ?_⟩
        · intro b o e
          rw [upd_ne (ne_of_none e nD)]
          exact s2 b o e
        · rw [bl_get hn]
          exact upd_same
      refine ⟨rfl, _, rfl, _, _, rfl, rfl, _, rfl, ?_⟩
      have e33 : decide ((33 : Int) ≤ (n : Int)) = decide (33 ≤ n) := nat_le_dec (a := 33)
      have e126 : decide ((n : Int) ≤ (126 : Int)) = decide (n ≤ 126) := nat_le_dec (b := 126)
      rw [e33]
      by_cases c : 33 ≤ n
      · refine if_true_of (decide_eq_true c) ⟨_, _, rfl, rfl, ?_⟩
        have e : Sd50.isByte n = decide ((n : Int) ≤ (126 : Int)) := by
          unfold Sd50.isByte
          rw [decide_eq_true c, Bool.true_and, e126]
        rw [e] at fin
        exact fin
      · refine if_false_of (decide_eq_false c) ?_
        have e : Sd50.isByte n = false := by
          unfold Sd50.isByte
          rw [decide_eq_false c, Bool.false_and]
        rw [e] at fin
        exact fin
    · rintro H1 ⟨s1, hD⟩
      have e : (nV l).length = (l.map fun c => V.bl (Sd50.isByte c)).length := by
        rw [nV_len, List.length_map]
      rw [e, List.take_length, bl_map] at hD
      refine ⟨D, _, rfl, SqL.of hD, _, rfl, ?_, ?_⟩
      · rw [all_id]
        intro hb
        refine ⟨Nat.zero_le _, fun p np1 => ?_⟩
        have np : H p = none := s1.free np1
        have s2 := s1.trans (Same.new (o := .lst []) np1)
        refine ⟨_, rfl, a, rfl, ⟨_, SqL.of (s2 _ _ ha)⟩, ?_⟩
        refine for_list (K := K) (a := a) (xs := nV l) (fun j σ H' => ∃ u, σ = [some (.ref a), u, some (.ref p)] ∧ Same H H' ∧ NL H' p (Sd50.blanks (l.take j))) ⟨none, rfl, s2, upd_same⟩ ?_ ?_ ?_
        · rintro j σ H' _ ⟨_, _, s3, _⟩
          exact SqL.of (s3 _ _ ha)
        · rintro j y σ H' hy ⟨u, rfl, s3, hp⟩
          obtain ⟨n, hn, rfl⟩ := nV_of_get hy
          have hz : (nV (Sd50.blanks (l.take j))).length < sizeLine := by
            rw [nV_len, blanks_len, List.length_take]
            exact line5000 (by omega)
          have bt := blanks_take hn
          have fin : ∀ z : Nat, z = (if n = 95 then 32 else n) → ∃ u, ([some (.ref a), some (.int (n : Nat)), some (.ref p)] : L2.St) = [some (.ref a), u, some (.ref p)] ∧ Same H (upd H' p (.lst (nV (Sd50.blanks (l.take j)) ++ [V.int (z : Nat)]))) ∧ NL (upd H' p (.lst (nV (Sd50.blanks (l.take j)) ++ [V.int (z : Nat)]))) p (Sd50.blanks (l.take (j + 1))) := fun z hz => by
            refine ⟨_, rfl, ?_, ?_⟩
            · intro b o e
              rw [upd_ne (ne_of_none e np)]
              exact s3 b o e
            · rw [bt, ← hz, nV_snoc]
              exact upd_same
          refine ⟨_, rfl, _, rfl, (by decide +kernel), rfl, _, rfl, ?_⟩
          rw [dec_int, ord_us]
          by_cases c : n = 95
          · refine if_true_of (by subst c; rfl) ?_
            exact ⟨_, rfl, .inl ⟨rfl, _, SqL.of hp⟩, p, _, _, rfl, rfl, hp, hz, fin 32 (by rw [if_pos c])⟩
          · refine if_false_of (by rw [beq_eq_false_iff_ne]; omega) ?_
            exact ⟨_, rfl, .inl ⟨rfl, _, SqL.of hp⟩, _, rfl, p, _, _, rfl, rfl, hp, hz, fin n (by rw [if_neg c])⟩
        · rintro σ H' ⟨u, rfl, s3, hp⟩
          rw [nV_len, List.take_length] at hp
          exact ⟨_, rfl, kO hb H' p s3 np hp⟩
      · rw [all_id]
        intro hb
        exact kE hb _ s1
end
end RW
set_option Elab.async false
set_option linter.all false
set_option maxRecDepth 100000
set_option maxHeartbeats 2000000
/-! # Reading: letters, cells -/
namespace RW
open PySem PySem.Spec PyProof.Rows L2
open RC
open Sd50 (Table Rule Sign)
section
variable {P : Program} {w : World} {K : PySem.W.Frag} {mg : Str → Option Value} {base : Heap} {CR CS CT CO CD CF CP fP : Addr}
theorem intsOf_nodup {l : List Nat} : (intsOf l).Nodup ↔ l.Nodup := by
  unfold intsOf
  constructor
  · intro h
    refine List.Pairwise.imp ?_ (List.pairwise_map.mp h)
    intro a b hab e
    exact hab (by rw [e])
  · intro h
    refine List.pairwise_map.mpr (List.Pairwise.imp ?_ h)
    intro a b hab e
    exact hab (by omega)
def spEachOnce (CF : Addr) : Sp := fun vs H Q E => ∃ (a : Addr) (l : List Nat), vs = [.ref a] ∧ NL H a l ∧ l.length ≤ 4096 ∧
  (∀ w, Sd50.lettersRead l = some w → ∀ H' p, Same H H' → H p = none → NL H' p w → Q (.ref p) H') ∧ (Sd50.lettersRead l = none → ∀ H', Same H H' → E (.ref CF) none H')
theorem sc23 : FnScope ["octets", "word"] ["octets"] (defScope (top 23)) := ⟨rfl, rfl, rfl, by decide +kernel, rfl, by decide +kernel, by decide +kernel⟩
theorem ok_each_once (F : RawFn K mg "read_each_once" ["octets"] (top 23)) (T : TX K mg CR CS CT CO CD CF) (G : HasFn P w K mg base (L2N.CX P w) 1 "need" ["holds"] (spNeed CF))
    (GW : HasFn P w K mg base (L2N.CX P w) 2 "read_word" ["octets"] (spReadWord CF)) : HasFn P w K mg base (L2N.CX P w) 3 "read_each_once" ["octets"] (spEachOnce CF) := by
  obtain ⟨f, fd, F, b, gf⟩ := F
  obtain ⟨g, gd, G, gb, gg, gk⟩ := G
  obtain ⟨g2, gd2, G2, gb2, gg2, gk2⟩ := GW
  refine ⟨f, fd, fun_okN F sc23 (fun vs H Q E h => ?_) (fun cdv A outer s H vs Q E hr h => ⟨_, pss_cons (ps_set (i := 1) sc23.nd rfl (.inl rfl) (pe_call G2 hr rfl gg2 gk2 gb2 .nil passN (pa_cons (pv 0) pa_nil)))
    (pss_cons (ps_expr (pe_call G (hr.mono (by decide)) rfl gg gk gb .nil passN (pa_cons (pe_cmpR op_eq (pe_lenSetF (by rfl) T.bLen (by rfl) T.bSet (pv 1)) (pe_callB call_len_seq (by rfl) T.bLen PySem.boot_len (pa_cons (pv 1) pa_nil)) (nomark _)) pa_nil)))
    (pss_one (ps_ret (pv 1)))), ?_⟩), b, gf, F.kp⟩
  · obtain ⟨a, l, rfl, _⟩ := h
    rfl
  · obtain ⟨a, l, rfl, ha, hl, kO, kE⟩ := h
    rw [letters_read] at kO kE
    refine ⟨_, rfl, a, l, rfl, ha, hl, fun hb H1 p s1 np hp => ?_, fun hb H1 s1 => ?_⟩
    · rw [if_pos hb] at kO kE
      refine ⟨_, rfl, p, intsOf (Sd50.blanks l), rfl, ?_, ?_, fun n hn => ?_⟩
      · rw [nV_ints]
        exact SqL.of hp
      · intro x hx
        obtain ⟨m, hm, rfl⟩ := List.mem_map.mp hx
        obtain ⟨c, hc, rfl⟩ := List.mem_map.mp hm
        have := List.all_eq_true.mp hb c hc
        unfold Sd50.isByte at this
        rw [Bool.and_eq_true, decide_eq_true_iff, decide_eq_true_iff] at this
        split <;> omega
      refine ⟨_, rfl, p, _, rfl, .inl (SqL.of hp), rfl, _, rfl, ?_⟩
      rw [nV_len, dec_int]
      have hlen : (intsOf (Sd50.blanks l)).length = (Sd50.blanks l).length := List.length_map _
      rw [hlen, intsOf_nodup] at hn
      have key : ((n : Int) == ((Sd50.blanks l).length : Int)) = decide (Sd50.blanks l).Nodup := by
        rw [Bool.eq_iff_iff, beq_iff_eq, decide_eq_true_iff, ← hn]
        omega
      rw [key]
      refine ⟨fun hd => ?_, fun hd => ?_⟩
      · rw [if_pos (of_decide_eq_true hd)] at kO
        exact ⟨_, rfl, kO _ rfl H1 p s1 np hp⟩
      · rw [if_neg (of_decide_eq_false hd)] at kE
        exact kE rfl _ s1
    · rw [if_neg (by rw [hb]; exact Bool.false_ne_true)] at kE
      exact kE rfl _ s1

/-! ### a cell -/
/-- or, and of truth values, both answers known -/
theorem orV_to {ta tb : TE} {σ : L2.St} {H : Hp} {Q : VK} (c d : Bool) (h1 : ∀ R : VK, R (.bl c) H → ta σ H R) (h2 : c = false → ∀ R : VK, R (.bl d) H → tb σ H R) (h : Q (.bl (c || d)) H) : tOrV ta tb σ H Q := by
  refine h1 _ ⟨c, rfl, ?_⟩
  cases c with
  | true => exact iteT h
  | false => exact iteF (h2 rfl _ h)
theorem andV_to {ta tb : TE} {σ : L2.St} {H : Hp} {Q : VK} (c d : Bool) (h1 : ∀ R : VK, R (.bl c) H → ta σ H R) (h2 : c = true → ∀ R : VK, R (.bl d) H → tb σ H R) (h : Q (.bl (c && d)) H) : tAndV ta tb σ H Q := by
  refine h1 _ ⟨c, rfl, ?_⟩
  cases c with
  | true => exact iteT (h2 rfl _ h)
  | false => exact iteF h
theorem natOf_take {l : List Nat} {j n : Nat} (h : l[j]? = some n) : Sd50.natOf (l.take (j + 1)) = 10 * Sd50.natOf (l.take j) + (n - 48) := by
  rw [take_of h, natOf_snoc]
def spCell (CF : Addr) : Sp := fun vs H Q E => ∃ (a : Addr) (l : List Nat), vs = [.ref a] ∧ NL H a l ∧ l.length ≤ 4096 ∧
  (∀ n, readCell l = some n → ∀ H', Same H H' → Q (.int (n : Nat)) H') ∧ (readCell l = none → ∀ H', Same H H' → E (.ref CF) none H')
theorem sc24 : FnScope ["octets", "octet", "number"] ["octets"] (defScope (top 24)) := ⟨rfl, rfl, rfl, by decide +kernel, rfl, by decide +kernel, by decide +kernel⟩
theorem ok_cell (F : RawFn K mg "read_cell" ["octets"] (top 24)) (T : TX K mg CR CS CT CO CD CF) (G : HasFn P w K mg base (L2N.CX P w) 1 "need" ["holds"] (spNeed CF)) :
    HasFn P w K mg base (L2N.CX P w) 2 "read_cell" ["octets"] (spCell CF) := by
  obtain ⟨f, fd, F, b, gf⟩ := F
  obtain ⟨g, gd, G, gb, gg, gk⟩ := G
  refine ⟨f, fd, fun_okN F sc24 (fun vs H Q E h => ?_) (fun cdv A outer s H vs Q E hr h => ⟨_, pss_cons (ps_expr (pe_call G hr rfl gg gk gb .nil passN (pa_cons (pe_and (pe_cmpR op_gt (pe_callB call_len_seq (by rfl) T.bLen PySem.boot_len (pa_cons (pv 0) pa_nil)) pe_int (nomark _))
      (pe_one (pe_callB (cr_all rfl) (by rfl) T.bAll (by decide +kernel)
      (pa_cons (pe_lc (own := [("octet", 1)]) (g := gName 1) (tt := tYes) rfl sc24.nd (pi_list (pv 0)) (blkOk_by (own := [("octet", 1)]) (N := ["octets", "octet", "number"]) (sc := defScope (top 24)) (by decide +kernel))
        (fun _ _ _ _ _ => pg_name (i := 1) sc24.nd rfl (Or.inl rfl)) (fun _ _ _ _ _ => pts_nil)
        (fun _ _ _ _ _ => pe_chain op_le op_le (pe_callB call_ord (by rfl) T.bOrd (by decide +kernel) (pa_cons pe_str pa_nil)) (pv 1) (pe_callB call_ord (by rfl) T.bOrd (by decide +kernel) (pa_cons pe_str pa_nil)))) pa_nil)))) pa_nil)))
    (pss_cons (ps_expr (pe_call G hr rfl gg gk gb .nil passN (pa_cons (pe_or (pe_cmpR op_eq (pe_callB call_len_seq (by rfl) T.bLen PySem.boot_len (pa_cons (pv 0) pa_nil)) pe_int (nomark _))
      (pe_one (pe_cmpR op_ne (pe_ix ix_list (pv 0) pe_int (fun _ _ => rfl)) (pe_callB call_ord (by rfl) T.bOrd (by decide +kernel) (pa_cons pe_str pa_nil)) (nomark _)))) pa_nil)))
    (pss_cons (ps_set (i := 2) sc24.nd rfl (.inl rfl) pe_int)
    (pss_cons (ps_for PassesOwn.leaving rfl (pi_list (pv 0)) (pg_name (i := 1) sc24.nd rfl (.inl rfl))
      (pss_one (ps_set (i := 2) sc24.nd rfl (.inl rfl) (pe_op op_sub (pe_op op_add (pe_op op_mul pe_int (pv 2)) (pv 1)) (pe_callB call_ord (by rfl) T.bOrd (by decide +kernel) (pa_cons pe_str pa_nil))))))
    (pss_cons (ps_expr (pe_call G hr rfl gg gk gb .nil passN (pa_cons (pe_cmpR op_le (pv 2) (pe_kn T.cLC) (nomark _)) pa_nil)))
    (pss_one (ps_ret (pv 2))))))), ?_⟩), b, gf, F.kp⟩
  · obtain ⟨a, l, rfl, _⟩ := h
    rfl
  · obtain ⟨a, l, rfl, ha, hl, kO, kE⟩ := h
    rw [readCell_eq] at kO kE
    refine ⟨_, rfl, a, _, rfl, .inl (SqL.of ha), _, _, rfl, rfl, _, rfl, ?_⟩
    rw [nV_len]
    by_cases hne : l = []
    · refine if_false_of (decide_eq_false (by subst hne; decide)) ?_
      refine ⟨_, rfl, (fun z => nomatch z), fun _ => ?_⟩
      rw [if_neg fun z => z.1.1 hne] at kE
      exact kE rfl _ (Same.refl _)
    have hpos : 0 < l.length := List.length_pos_iff.mpr hne
    refine if_true_of (decide_eq_true (by omega)) ?_
    refine ⟨_, rfl, a, rfl, ⟨_, SqL.of ha⟩, fun D nD => ?_⟩
    refine lc_list (K := K) (a := a) (xs := nV l) (fun j H' => Same H H' ∧ H' D = some (.lst ((l.map fun c => V.bl (Sd50.isDigit c)).take j))) ⟨Same.new nD, upd_same⟩ (fun j H' _ h => SqL.of (h.1 _ _ ha)) ?_ ?_
    · rintro j y H' hy ⟨s2, hD⟩
      obtain ⟨n, hn, rfl⟩ := nV_of_get hy
      have fin : ∃ acc, H' D = some (.lst acc) ∧ acc.length < sizeLine ∧ Same H (upd H' D (.lst (acc ++ [V.bl (Sd50.isDigit n)]))) ∧ upd H' D (.lst (acc ++ [V.bl (Sd50.isDigit n)])) D = some (.lst ((l.map fun c => V.bl (Sd50.isDigit c)).take (j + 1))) := by
        refine ⟨_, hD, bl_len hl j, ?_, ?_⟩
        · intro b o e
          rw [upd_ne (ne_of_none e nD)]
          exact s2 b o e
        · rw [bl_get hn]
          exact upd_same
      refine ⟨rfl, _, rfl, (by decide +kernel), _, rfl, _, _, rfl, rfl, _, rfl, ?_⟩
      have e48 : decide ((48 : Int) ≤ (n : Int)) = decide (48 ≤ n) := nat_le_dec (a := 48)
      have e57 : decide ((n : Int) ≤ (57 : Int)) = decide (n ≤ 57) := nat_le_dec (b := 57)
      rw [ord_0, e48]
      by_cases c : 48 ≤ n
      · refine if_true_of (decide_eq_true c) ⟨_, rfl, (by decide +kernel), _, _, rfl, rfl, ?_⟩
        have e : Sd50.isDigit n = decide ((n : Int) ≤ ((("9" : Str).cps.getD 0 0 : Nat) : Int)) := by
          unfold Sd50.isDigit
          rw [decide_eq_true c, Bool.true_and, ord_9, e57]
        rw [e] at fin
        exact fin
      · refine if_false_of (decide_eq_false c) ?_
        have e : Sd50.isDigit n = false := by
          unfold Sd50.isDigit
          rw [decide_eq_false c, Bool.false_and]
        rw [e] at fin
        exact fin
    · rintro H1 ⟨s1, hD⟩
      have e : (nV l).length = (l.map fun c => V.bl (Sd50.isDigit c)).length := by
        rw [nV_len, List.length_map]
      rw [e, List.take_length, bl_map] at hD
      refine ⟨D, _, rfl, SqL.of hD, _, rfl, ?_, ?_⟩
      · rw [all_id]
        intro hb
        have h0 : l[0]? = some (l.head hne) := by
          rw [← List.head?_eq_getElem?, List.head?_eq_some_head hne]
        dsimp only [tSeq, tDrop, tCall, tCons]
        refine orV_to (decide (l.length = 1)) (decide (l.head? ≠ some 48)) ?_ ?_ ?_
        · intro R hR
          refine ⟨_, rfl, a, _, rfl, .inl (SqL.of (s1 _ _ ha)), rfl, ?_⟩
          rw [nV_len, dec_int]
          have e : ((l.length : Int) == 1) = decide (l.length = 1) := by
            rw [Bool.eq_iff_iff, beq_iff_eq, decide_eq_true_iff]
            omega
          rw [e]
          exact hR
        · intro _ R hR
          refine ⟨_, rfl, a, _, _, _, rfl, rfl, SqL.of (s1 _ _ ha), nV_at (i := 0) h0 rfl, _, rfl, (by decide +kernel), rfl, ?_⟩
          rw [dec_int, ord_0]
          have e : (!((l.head hne : Nat) : Int) == 48) = decide (l.head? ≠ some 48) := by
            rw [List.head?_eq_some_head hne, Bool.eq_iff_iff, Bool.not_eq_true', beq_eq_false_iff_ne, decide_eq_true_iff]
            constructor
            · intro h e
              exact h (by rw [Option.some.inj e]; rfl)
            · intro h e
              exact h (by rw [show l.head hne = 48 by omega])
          rw [e]
          exact hR
        refine ⟨_, rfl, fun h2 => ?_, fun h2 => ?_⟩
        · have h2 : l.length = 1 ∨ l.head? ≠ some 48 := by
            rw [Bool.or_eq_true, decide_eq_true_iff, decide_eq_true_iff] at h2
            exact h2
          refine ⟨_, rfl, a, rfl, ⟨_, SqL.of (s1 _ _ ha)⟩, ?_⟩
          refine for_list (K := K) (a := a) (xs := nV l) (fun j σ H' => ∃ u, σ = [some (.ref a), u, some (.int (Sd50.natOf (l.take j) : Nat))] ∧ Same H H') ⟨none, rfl, s1⟩ ?_ ?_ ?_
          · rintro j σ H' _ ⟨_, _, s3⟩
            exact SqL.of (s3 _ _ ha)
          · rintro j y σ H' hy ⟨u, rfl, s3⟩
            obtain ⟨n, hn, rfl⟩ := nV_of_get hy
            refine ⟨_, rfl, _, _, rfl, rfl, .inl ⟨by decide, by decide⟩, _, rfl, _, _, rfl, rfl, _, rfl, (by decide +kernel), _, _, rfl, rfl, ?_⟩
            refine ⟨some (.int (n : Nat)), ?_, s3⟩
            have hd := digit_iff.mp (List.all_eq_true.mp hb n (List.mem_of_getElem? hn))
            rw [natOf_take hn, ord_0]
            have e : (10 : Int) * ((Sd50.natOf (l.take j) : Nat) : Int) + (n : Int) - 48 = ((10 * Sd50.natOf (l.take j) + (n - 48) : Nat) : Int) := by omega
            rw [← e]
            rfl
          · rintro σ H' ⟨u, rfl, s3⟩
            rw [nV_len, List.take_length]
            refine ⟨_, rfl, _, _, rfl, rfl, _, rfl, fun h3 => ?_, fun h3 => ?_⟩
            · have h3 : Sd50.natOf l ≤ 63 := by
                have := of_decide_eq_true h3
                omega
              rw [if_pos ⟨⟨hne, hb⟩, h2, h3⟩] at kO
              exact ⟨_, rfl, kO _ rfl _ s3⟩
            · have h3 : ¬ Sd50.natOf l ≤ 63 := by
                have := of_decide_eq_false h3
                omega
              rw [if_neg fun z => h3 z.2.2] at kE
              exact kE rfl _ s3
        · rw [Bool.or_eq_false_iff, decide_eq_false_iff_not, decide_eq_false_iff_not] at h2
          rw [if_neg fun z => z.2.1.elim h2.1 h2.2] at kE
          exact kE rfl _ s1
      · rw [all_id]
        intro hb
        rw [if_neg fun z => by rw [hb] at z; exact Bool.false_ne_true z.1.2] at kE
        exact kE rfl _ s1
end
end RW
set_option Elab.async false
set_option linter.all false
set_option maxRecDepth 100000
set_option maxHeartbeats 2000000
/-! # Reading: cells, places -/
namespace RW
open PySem PySem.Spec PyProof.Rows L2
open RC
open Sd50 (Table Rule Sign)
section
variable {P : Program} {w : World} {K : PySem.W.Frag} {mg : Str → Option Value} {base : Heap} {CR CS CT CO CD CF CP fP : Addr}
def spCells (CF : Addr) : Sp := fun vs H Q E => ∃ (a : Addr) (l : List Nat), vs = [.ref a] ∧ NL H a l ∧ l.length ≤ 4096 ∧
  (∀ cs, Sd50.cellsRead l = some cs → ∀ H' p, Same H H' → H p = none → NL H' p cs → Q (.ref p) H') ∧ (Sd50.cellsRead l = none → ∀ H', Same H H' → E (.ref CF) none H')
theorem sc25 : FnScope ["octets", "cells", "part"] ["octets"] (defScope (top 25)) := ⟨rfl, rfl, rfl, by decide +kernel, rfl, by decide +kernel, by decide +kernel⟩
theorem ok_cells (F : RawFn K mg "read_cells" ["octets"] (top 25)) (T : TX K mg CR CS CT CO CD CF) (G : HasFn P w K mg base (L2N.CX P w) 1 "need" ["holds"] (spNeed CF))
    (GP : HasFn P w K mg base CX0 1 "parts_between" ["octets", "separator"] spParts) (GC : HasFn P w K mg base (L2N.CX P w) 2 "read_cell" ["octets"] (spCell CF)) : HasFn P w K mg base (L2N.CX P w) 3 "read_cells" ["octets"] (spCells CF) := by
  obtain ⟨f, fd, F, b, gf⟩ := F
  obtain ⟨g, gd, G, gb, gg, gk⟩ := G
  obtain ⟨g2, gd2, G2, gb2, gg2, gk2⟩ := GP
  obtain ⟨g3, gd3, G3, gb3, gg3, gk3⟩ := GC
  refine ⟨f, fd, fun_okN F sc25 (fun vs H Q E h => ?_) (fun cdv A outer s H vs Q E hr h => ⟨_, pss_cons (LcX.ps_setLcX (E := E) (i := 1) (own := [("part", 2)]) (g := gName 2) (tt := tYes) rfl rfl takesN rfl sc25.nd rfl rfl (sw_true rfl rfl rfl (by decide +kernel))
      (pi_list (pe_call G2 (hr.mono (by decide)) rfl gg2 gk2 gb2 .nil pass0 (pa_cons (pv 0) (pa_cons (pe_callB call_ord (by rfl) T.bOrd (by decide +kernel) (pa_cons pe_str pa_nil)) pa_nil))))
      (blkOk_by (own := [("part", 2)]) (N := ["octets", "cells", "part"]) (sc := defScope (top 25)) (by decide +kernel))
      (fun _ _ _ _ _ => pg_name (i := 2) sc25.nd rfl (Or.inl rfl)) (fun _ _ _ _ _ => pts_nil)
      (fun _ _ _ _ _ xe hp => pe_callS (E := fun _ => E) G3 hr rfl gg3 gk3 gb3 hp (pa_cons (pv 2) pa_nil)))
    (pss_cons (ps_expr (pe_call G (hr.mono (by decide)) rfl gg gk gb .nil passN (pa_cons (pe_cmpR op_le (pe_callB call_len_seq (by rfl) T.bLen PySem.boot_len (pa_cons (pv 1) pa_nil)) (pe_kn T.cMC) (nomark _)) pa_nil)))
    (pss_one (ps_ret (pv 1)))), ?_⟩), b, gf, F.kp⟩
  · obtain ⟨a, l, rfl, _⟩ := h
    rfl
  · obtain ⟨a, l, rfl, ha, hl, kO, kE⟩ := h
    rw [cells_read] at kO kE
    refine ⟨_, rfl, _, rfl, (by decide +kernel), ?_⟩
    refine ⟨a, l, 44, by rw [ord_comma]; rfl, ha, hl, fun H1 p as s1 np hp PX hnew hne => ?_⟩
    refine ⟨p, rfl, ⟨_, SqL.of hp⟩, fun D nD => ?_⟩
    have plen := pieces_len 44 l
    refine lc_list (K := K) (a := p) (xs := as.map V.ref) (fun j H' => ∃ vs, Same H1 H' ∧ NL H' D vs ∧ ((Sd50.pieces 44 l).take j).mapM readCell = some vs) ⟨[], Same.new nD, upd_same, rfl⟩ (fun j H' _ h => SqL.of (h.choose_spec.1 _ _ hp)) ?_ ?_
    · rintro j y H' hy ⟨vs, s2, hD, hvs⟩
      have hj : j < (Sd50.pieces 44 l).length := by
        have := (List.getElem?_eq_some_iff.mp hy).1
        rw [List.length_map, PX.len] at this
        exact this
      obtain ⟨pa, hpa, hq⟩ := PX.each j _ (List.getElem?_eq_getElem hj)
      rw [List.getElem?_map, hpa] at hy
      cases hy
      generalize hqe : (Sd50.pieces 44 l)[j] = q at hq
      have hqj : (Sd50.pieces 44 l)[j]? = some q := by rw [List.getElem?_eq_getElem hj, hqe]
      have hql : q.length ≤ 4096 := Nat.le_trans (pieces_each 44 l q (List.mem_of_getElem? hqj)).1 hl
      have step := mapM_snoc (x := q) hvs
      rw [← take_of hqj] at step
      refine ⟨rfl, _, rfl, ?_⟩
      refine ⟨pa, q, rfl, s2 _ _ hq, hql, fun n hn H3 s3 => ?_, fun hn H3 s3 => ?_⟩
      · rw [hn] at step
        refine ⟨_, s3 _ _ hD, ?_, vs ++ [n], ?_, ?_, step⟩
        · have := mapM_len hvs
          rw [List.length_take] at this
          rw [nV_len]
          exact line5000 (by omega)
        · intro b o e
          rw [upd_ne (ne_of_none e nD)]
          exact (s2.trans s3) b o e
        · show upd H3 D (.lst (nV vs ++ [.int (n : Nat)])) D = _
          rw [nV_snoc]
          exact upd_same
      · rw [hn] at step
        refine kE ?_ _ ((s1.trans s2).trans s3)
        have e := mapM_none (l' := (Sd50.pieces 44 l).drop (j + 1)) (show ((Sd50.pieces 44 l).take (j + 1)).mapM readCell = none from step)
        rw [List.take_append_drop] at e
        rw [e]
        split <;> rfl
    · rintro H2 ⟨vs, s2, hD, hvs⟩
      rw [List.length_map, PX.len, List.take_length] at hvs
      have hvl := mapM_len hvs
      have s12 := s1.trans s2
      refine ⟨_, rfl, D, _, rfl, .inl (SqL.of hD), _, _, rfl, rfl, _, rfl, ?_⟩
      rw [nV_len]
      refine ⟨fun h4 => ?_, fun h4 => ?_⟩
      · have h4 : ¬ 4 < (Sd50.pieces 44 l).length := by
          have := of_decide_eq_true h4
          omega
        rw [if_neg h4, hvs] at kO
        exact ⟨_, rfl, kO vs rfl _ D s12 (s1.free nD) hD⟩
      · have h4 : 4 < (Sd50.pieces 44 l).length := by
          have := of_decide_eq_false h4
          omega
        rw [if_pos h4] at kE
        exact kE rfl _ s12
end
end RW
set_option Elab.async false
set_option linter.all false
set_option maxRecDepth 100000
set_option maxHeartbeats 2000000
/-! # Reading: the place of a rule -/
namespace RW
open PySem PySem.Spec PyProof.Rows L2
open RC
open Sd50 (Table Rule Sign)
section
variable {P : Program} {w : World} {K : PySem.W.Frag} {mg : Str → Option Value} {base : Heap} {CR CS CT CO CD CF CP fP : Addr}
def placeCs : List Nat := [97, 119, 98, 101, 105, 115]
def zPlaces : Str := ("awbei" : Str) ++ ("s" : Str)
theorem zPlaces_is : zPlaces.cps = placeCs.toArray := by decide +kernel
theorem zPlaces_get {i c : Nat} (h : zPlaces.cps[i]? = some c) : placeCs[i]? = some c := by
  rw [zPlaces_is] at h
  rw [← h]
  simp
theorem zPlaces_size : zPlaces.cps.size = placeCs.length := by
  rw [zPlaces_is]
  simp
def spPlace (CF : Addr) : Sp := fun vs H Q E => ∃ (a : Addr) (l : List Nat), vs = [.ref a] ∧ NL H a l ∧
  (∀ c, l = [c] → c ∈ placeCs → ∀ H', Same H H' → Q (.str (sgn c)) H') ∧ ((∀ c, l = [c] → c ∉ placeCs) → ∀ H', Same H H' → E (.ref CF) none H')
theorem sc26 : FnScope ["octets", "place"] ["octets"] (defScope (top 26)) := ⟨rfl, rfl, rfl, by decide +kernel, rfl, by decide +kernel, by decide +kernel⟩
theorem ok_place (F : RawFn K mg "place_told" ["octets"] (top 26)) (T : TX K mg CR CS CT CO CD CF) (G : HasFn P w K mg base (L2N.CX P w) 1 "need" ["holds"] (spNeed CF)) :
    HasFn P w K mg base (L2N.CX P w) 2 "place_told" ["octets"] (spPlace CF) := by
  obtain ⟨f, fd, F, b, gf⟩ := F
  obtain ⟨g, gd, G, gb, gg, gk⟩ := G
  refine ⟨f, fd, fun_okN F sc26 (fun vs H Q E h => ?_) (fun cdv A outer s H vs Q E hr h => ⟨_, pss_cons (ps_expr (pe_call G hr rfl gg gk gb .nil passN (pa_cons (pe_cmpR op_eq (pe_callB call_len_seq (by rfl) T.bLen PySem.boot_len (pa_cons (pv 0) pa_nil)) pe_int (nomark _)) pa_nil)))
    (pss_cons (ps_for PassesOwn.leaving rfl (pi_str (pe_op op_add_str (pe_kn T.cPlaces) (pe_kn T.cSign))) (pg_name (i := 1) sc26.nd rfl (.inl rfl))
      (pss_one (ps_if (pt_cmpR op_eq (pe_callB call_ord (by rfl) T.bOrd (by decide +kernel) (pa_cons (pv 1) pa_nil)) (pe_ix ix_list (pv 0) pe_int (fun _ _ => rfl)) (nomark _)) (pss_one (ps_ret (pv 1))) pss_nil)))
    (pss_one (ps_raise_bare rfl takesN PySem.F.excBase_Exception T.xF T.gF T.kF (raises_own T.bF T.tF) (by exact rfl)))), ?_⟩), b, gf, F.kp⟩
  · obtain ⟨a, l, rfl, _⟩ := h
    rfl
  · obtain ⟨a, l, rfl, ha, kO, kE⟩ := h
    refine ⟨_, rfl, a, _, rfl, .inl (SqL.of ha), rfl, _, rfl, ?_⟩
    rw [nV_len, dec_int]
    refine ⟨fun h1 => ?_, fun h1 => ?_⟩
    · have h1 : l.length = 1 := by
        have := beq_iff_eq.mp h1
        omega
      obtain ⟨c, rfl⟩ := List.length_eq_one_iff.mp h1
      refine ⟨_, _, rfl, rfl, (by decide +kernel), ?_⟩
      refine ⟨zPlaces, rfl, ?_⟩
      refine for_it (walk_str (z := zPlaces)) (fun j σ H' => ∃ u, σ = [some (.ref a), u] ∧ Same H H' ∧ c ∉ placeCs.take j) ?_ ?_ ?_ ?_
      · exact ⟨none, rfl, Same.refl _, List.not_mem_nil⟩
      · intro _ _ _ _ _
        trivial
      · rintro j y σ H' H'' hj ⟨u, rfl, s2, hno⟩ ⟨rfl, d, hd, rfl⟩
        have hd := zPlaces_get hd
        refine ⟨_, rfl, _, rfl, rfl, _, rfl, a, _, _, _, rfl, rfl, SqL.of (s2 _ _ ha), nV_at (i := 0) (n := c) rfl rfl, rfl, _, rfl, ?_⟩
        rw [dec_int]
        show if (((d : Nat) : Int) == (c : Int)) = true then _ else _
        by_cases e : d = c
        · subst e
          refine if_true_of (beq_self_eq_true _) ?_
          exact ⟨_, rfl, kO d rfl (List.mem_of_getElem? hd) _ s2⟩
        · refine if_false_of (by rw [beq_eq_false_iff_ne]; omega) ?_
          refine ⟨_, rfl, s2, ?_⟩
          rw [take_of hd]
          intro hm
          rcases List.mem_append.mp hm with h | h
          · exact hno h
          · exact e (List.mem_singleton.mp h).symm
      · rintro σ H' ⟨u, rfl, s2, hno⟩
        rw [zPlaces_size, List.take_length] at hno
        refine kE (fun c' hc' => ?_) _ s2
        cases hc'
        exact hno
    · refine kE (fun c hc => ?_) _ (Same.refl _)
      subst hc
      cases h1
end
end RW
set_option Elab.async false
set_option linter.all false
set_option maxRecDepth 100000
set_option maxHeartbeats 2000000
/-! # Reading: a line -/
namespace RW
open PySem PySem.Spec PyProof.Rows L2
open RC
open Sd50 (Table Rule Sign)
/-! ### plain: a line -/
theorem line_of {T : Table} {b k w c : List Nat} (h : Sd50.pieces 32 b = [k, w, c]) : Sd50.lineRead T b =
    if k = [115] then (Sd50.lettersRead w).bind fun w => (Sd50.cellsRead c).bind fun c => if w ≠ [] ∧ T.signs.length < 4 then some { T with signs := T.signs ++ [⟨w, c⟩] } else none
    else (match k with
      | [x] => (Sd50.placeOf x).bind fun p => (Sd50.wordRead w).bind fun w => (Sd50.cellsRead c).bind fun c => if T.rules.length < 64 ∧ T.rules.any (fun r => r.place == p && r.text == w) = false then some { T with rules := T.rules ++ [⟨p, w, c⟩] } else none
      | _ => none) := by
  unfold Sd50.lineRead
  rw [h]
  rfl
theorem line_len {T : Table} {b : List Nat} (h : (Sd50.pieces 32 b).length ≠ 3) : Sd50.lineRead T b = none := by
  unfold Sd50.lineRead
  split
  · rename_i e
    rw [e] at h
    exact absurd rfl h
  · rfl
theorem letters_nil : Sd50.lettersRead [] = some [] := rfl
theorem word_nil : Sd50.wordRead [] = none := rfl
theorem bind_none {α β : Type} (o : Option α) : (o.bind fun _ => (none : Option β)) = none := by cases o <;> rfl
theorem line_empty {T : Table} {b k c : List Nat} (h : Sd50.pieces 32 b = [k, [], c]) : Sd50.lineRead T b = none := by
  rw [line_of h]
  split
  · rw [letters_nil]
    cases Sd50.cellsRead c with
    | none => rfl
    | some cs =>
      show (if ([] : List Nat) ≠ [] ∧ T.signs.length < 4 then some ({ T with signs := T.signs ++ [⟨[], cs⟩] } : Table) else none) = none
      rw [if_neg fun z => z.1 rfl]
  · split
    · rw [word_nil]
      exact bind_none _
    · rfl
theorem line_sign {T : Table} {b w c : List Nat} (h : Sd50.pieces 32 b = [[115], w, c]) : Sd50.lineRead T b =
    (Sd50.lettersRead w).bind fun w => (Sd50.cellsRead c).bind fun c => if w ≠ [] ∧ T.signs.length < 4 then some { T with signs := T.signs ++ [⟨w, c⟩] } else none := by
  rw [line_of h, if_pos rfl]
theorem line_rule {T : Table} {b w c : List Nat} {x : Nat} (h : Sd50.pieces 32 b = [[x], w, c]) (hx : x ≠ 115) : Sd50.lineRead T b =
    (Sd50.placeOf x).bind fun p => (Sd50.wordRead w).bind fun w => (Sd50.cellsRead c).bind fun c => if T.rules.length < 64 ∧ T.rules.any (fun r => r.place == p && r.text == w) = false then some { T with rules := T.rules ++ [⟨p, w, c⟩] } else none := by
  rw [line_of h, if_neg fun e => hx (List.cons.inj e).1]
theorem place_of {x : Nat} (h : x ∈ placeCs) (hx : x ≠ 115) : ∃ p, Sd50.placeOf x = some p ∧ p < 5 ∧ plS p = sgn x := by
  unfold placeCs at h
  simp only [List.mem_cons, List.not_mem_nil, or_false] at h
  rcases h with rfl | rfl | rfl | rfl | rfl | rfl
  · exact ⟨0, rfl, by decide, rfl⟩
  · exact ⟨1, rfl, by decide, rfl⟩
  · exact ⟨2, rfl, by decide, rfl⟩
  · exact ⟨3, rfl, by decide, rfl⟩
  · exact ⟨4, rfl, by decide, rfl⟩
  · exact absurd rfl hx
theorem place_no {x : Nat} (h : x ∉ placeCs) : Sd50.placeOf x = none := by
  unfold Sd50.placeOf
  rw [List.findIdx?_eq_none_iff]
  intro y hy
  cases e : y == x with
  | false => rfl
  | true =>
    have := beq_iff_eq.mp e
    subst this
    refine absurd ?_ h
    unfold placeCs
    simp only [List.mem_cons, List.not_mem_nil, or_false] at hy ⊢
    rcases hy with rfl | rfl | rfl | rfl | rfl <;> simp
theorem line_no_place {T : Table} {b k w c : List Nat} (h : Sd50.pieces 32 b = [k, w, c]) (hk : ∀ x, k = [x] → x ∉ placeCs) : Sd50.lineRead T b = none := by
  rw [line_of h]
  split
  · rename_i e
    exact absurd (by unfold placeCs; simp) (hk 115 e)
  · split
    · rename_i x _
      rw [place_no (hk x rfl)]
      rfl
    · rfl
theorem plS_inj {p q : Nat} (hp : p < 5) (hq : q < 5) : decide (V.str (plS p) = V.str (plS q)) = (p == q) := by
  have key : ∀ p q : Fin 5, decide (plS p.val = plS q.val) = (p.val == q.val) := by decide +kernel
  have := key ⟨p, hp⟩ ⟨q, hq⟩
  rw [← this, Bool.eq_iff_iff, decide_eq_true_iff, decide_eq_true_iff]
  exact ⟨fun h => V.str.inj h, fun h => by rw [h]⟩
theorem sgn_s {x : Nat} : decide (V.str (sgn x) = V.str ("s" : Str)) = (x == 115) := by
  have e : ("s" : Str) = sgn 115 := by decide +kernel
  rw [e, Bool.eq_iff_iff, decide_eq_true_iff, beq_iff_eq]
  constructor
  · intro h
    have := V.str.inj h
    unfold sgn at this
    have := Str.mk.inj this
    simpa using this
  · intro h
    rw [h]
/-! ### the table grows -/
section
variable {CR CS CT : Addr}
theorem each_snoc {α : Type} {xs : List α} {as : List Addr} {x : α} {a : Addr} {G : α → Addr → Prop} (hl : as.length = xs.length) (h : ∀ (k : Nat) (y : α), xs[k]? = some y → ∃ b, as[k]? = some b ∧ G y b) (hx : G x a) :
    ∀ (k : Nat) (y : α), (xs ++ [x])[k]? = some y → ∃ b, (as ++ [a])[k]? = some b ∧ G y b := by
  intro k y hk
  by_cases c : k < xs.length
  · rw [List.getElem?_append_left c] at hk
    obtain ⟨b, h1, h2⟩ := h k y hk
    exact ⟨b, by rw [List.getElem?_append_left (by rw [hl]; exact c)]; exact h1, h2⟩
  · have hk' : k = xs.length := by
      have := (List.getElem?_eq_some_iff.mp hk).1
      rw [List.length_append] at this
      have : k < xs.length + 1 := this
      omega
    subst hk'
    rw [List.getElem?_append_right (Nat.le_refl _), Nat.sub_self] at hk
    cases hk
    exact ⟨a, by rw [← hl, List.getElem?_append_right (Nat.le_refl _), Nat.sub_self]; rfl, hx⟩
theorem RuleX.put {H : Hp} {r : Addr} {R : Rule} {n1 n2 t c : Addr} (x : RuleX CR H r R n1 n2 t c) {b : Addr} {xs : List V} (hb : H b = some (.lst xs)) (h : b = n1 ∨ b = n2) (o : HO) : RuleX CR (upd H b o) r R n1 n2 t c := by
  obtain ⟨dx, hx⟩ := x.ob
  have t1 : t ≠ b := by
    rcases h with rfl | rfl
    · exact x.t1
    · exact x.t2
  have c1 : c ≠ b := by
    rcases h with rfl | rfl
    · exact x.c1
    · exact x.c2
  have r1 : r ≠ b := ne_of hx hb (fun z => nomatch z)
  exact ⟨⟨dx, (upd_ne r1).trans hx⟩, (upd_ne t1).trans x.tx, (upd_ne c1).trans x.ce, x.t1, x.t2, x.c1, x.c2⟩
theorem SignX.put {H : Hp} {r : Addr} {S : Sign} {n1 n2 t c : Addr} (x : SignX CS H r S n1 n2 t c) {b : Addr} {xs : List V} (hb : H b = some (.lst xs)) (h : b = n1 ∨ b = n2) (o : HO) : SignX CS (upd H b o) r S n1 n2 t c := by
  obtain ⟨dx, hx⟩ := x.ob
  have t1 : t ≠ b := by
    rcases h with rfl | rfl
    · exact x.o1
    · exact x.o2
  have c1 : c ≠ b := by
    rcases h with rfl | rfl
    · exact x.c1
    · exact x.c2
  have r1 : r ≠ b := ne_of hx hb (fun z => nomatch z)
  exact ⟨⟨dx, (upd_ne r1).trans hx⟩, (upd_ne t1).trans x.oc, (upd_ne c1).trans x.ce, x.o1, x.o2, x.c1, x.c2⟩
theorem TabX.add_sign {H : Hp} {a : Addr} {T : Table} {l ru sg : Addr} {as bs : List Addr} (X : TabX CR CS CT H a T l ru sg as bs) {x o c : Addr} {S : Sign} (h : SignX CS H x S ru sg o c) :
    TabX CR CS CT (upd H sg (.lst ((bs ++ [x]).map V.ref))) a { T with signs := T.signs ++ [S] } l ru sg as (bs ++ [x]) := by
  obtain ⟨dx, hob⟩ := X.ob
  have ha : a ≠ sg := ne_of hob X.sl (fun z => nomatch z)
  refine ⟨⟨dx, (upd_ne ha).trans hob⟩, (upd_ne X.l2).trans X.le, (upd_ne X.rs).trans X.rl, upd_same, X.l1, X.l2, X.rs, X.ra, ?_, fun k r e => ?_, fun k s e => ?_⟩
  · show (bs ++ [x]).length = (T.signs ++ [S]).length
    rw [List.length_append, List.length_append, X.sa]
    rfl
  · obtain ⟨r', t, c', h1, h2⟩ := X.rule k r e
    exact ⟨r', t, c', h1, h2.put X.sl (.inr rfl) _⟩
  · obtain ⟨b, h1, o', c', h2⟩ := each_snoc (G := fun s b => ∃ o c, SignX CS H b s ru sg o c) X.sa (fun k s e => by obtain ⟨b, o, c, h1, h2⟩ := X.sign k s e; exact ⟨b, h1, o, c, h2⟩) ⟨o, c, h⟩ k s e
    exact ⟨b, o', c', h1, h2.put X.sl (.inr rfl) _⟩
theorem TabX.add_rule {H : Hp} {a : Addr} {T : Table} {l ru sg : Addr} {as bs : List Addr} (X : TabX CR CS CT H a T l ru sg as bs) {x t c : Addr} {R : Rule} (h : RuleX CR H x R ru sg t c) :
    TabX CR CS CT (upd H ru (.lst ((as ++ [x]).map V.ref))) a { T with rules := T.rules ++ [R] } l ru sg (as ++ [x]) bs := by
  obtain ⟨dx, hob⟩ := X.ob
  have ha : a ≠ ru := ne_of hob X.rl (fun z => nomatch z)
  refine ⟨⟨dx, (upd_ne ha).trans hob⟩, (upd_ne X.l1).trans X.le, upd_same, (upd_ne (Ne.symm X.rs)).trans X.sl, X.l1, X.l2, X.rs, ?_, X.sa, fun k r e => ?_, fun k s e => ?_⟩
  · show (as ++ [x]).length = (T.rules ++ [R]).length
    rw [List.length_append, List.length_append, X.ra]
    rfl
  · obtain ⟨b, h1, o', c', h2⟩ := each_snoc (G := fun s b => ∃ o c, RuleX CR H b s ru sg o c) X.ra (fun k s e => by obtain ⟨b, o, c, h1, h2⟩ := X.rule k s e; exact ⟨b, h1, o, c, h2⟩) ⟨t, c, h⟩ k r e
    exact ⟨b, o', c', h1, h2.put X.rl (.inl rfl) _⟩
  · obtain ⟨r', t, c', h1, h2⟩ := X.sign k s e
    exact ⟨r', t, c', h1, h2.put X.rl (.inl rfl) _⟩
end
end RW
set_option Elab.async false
set_option linter.all false
set_option maxRecDepth 100000
set_option maxHeartbeats 2000000
/-! # Reading: a line, walked -/
namespace RW
open PySem PySem.Spec PyProof.Rows L2
open RC
open Sd50 (Table Rule Sign)
section
variable {P : Program} {w : World} {K : PySem.W.Frag} {mg : Str → Option Value} {base : Heap} {CR CS CT CO CD CF CP fP : Addr}
def spLine (CR CS CT CF : Addr) : Sp := fun vs H Q E => ∃ (a o : Addr) (T : Table) (b : List Nat) (l ru sg : Addr) (as bs : List Addr), vs = [.ref a, .ref o] ∧ TabX CR CS CT H a T l ru sg as bs ∧ Good T ∧ NL H o b ∧ b.length ≤ 4096 ∧
  (∀ U, Sd50.lineRead T b = some U → ∀ H' as' bs', TabX CR CS CT H' a U l ru sg as' bs' → (∀ x o, H x = some o → x ≠ ru → x ≠ sg → H' x = some o) → Q .non H') ∧
  (Sd50.lineRead T b = none → ∀ H', Same H H' → E (.ref CF) none H')
theorem sc27 : FnScope ["table", "octets", "parts", "place", "word", "rule"] ["table", "octets"] (defScope (top 27)) := ⟨rfl, rfl, rfl, by decide +kernel, rfl, by decide +kernel, by decide +kernel⟩
theorem ok_line (F : RawFn K mg "read_line" ["table", "octets"] (top 27)) (T : TX K mg CR CS CT CO CD CF) (G : HasFn P w K mg base (L2N.CX P w) 1 "need" ["holds"] (spNeed CF))
    (GP : HasFn P w K mg base CX0 1 "parts_between" ["octets", "separator"] spParts) (GL : HasFn P w K mg base (L2N.CX P w) 2 "place_told" ["octets"] (spPlace CF)) (GE : HasFn P w K mg base (L2N.CX P w) 3 "read_each_once" ["octets"] (spEachOnce CF))
    (GW : HasFn P w K mg base (L2N.CX P w) 2 "read_word" ["octets"] (spReadWord CF)) (GC : HasFn P w K mg base (L2N.CX P w) 3 "read_cells" ["octets"] (spCells CF))
    (MR : HasInit P w K mg base CX0 1 CR ["self", "place", "text", "cells"] (spMk3 CR "place" "text" "cells")) (MS : HasInit P w K mg base CX0 1 CS ["self", "octets", "cells"] (spMk2 CS "octets" "cells")) :
    HasFn P w K mg base (L2N.CX P w) 4 "read_line" ["table", "octets"] (spLine CR CS CT CF) := by
  obtain ⟨f, fd, F, b, gf⟩ := F
  obtain ⟨g, gd, G, gb, gg, gk⟩ := G
  obtain ⟨gp, gpd, GP, gpb, gpg, gpk⟩ := GP
  obtain ⟨gl, gld, GL, glb, glg, glk⟩ := GL
  obtain ⟨ge, ged, GE, geb, geg, gek⟩ := GE
  obtain ⟨gw, gwd, GW, gwb, gwg, gwk⟩ := GW
  obtain ⟨gc, gcd, GC, gcb, gcg, gck⟩ := GC
  obtain ⟨mr, mrd, MR, mrb, MRk⟩ := MR
  obtain ⟨ms, msd, MS, msb, MSk⟩ := MS
  refine ⟨f, fd, fun_okN F sc27 (fun vs H Q E h => ?_) (fun cdv A outer s H vs Q E hr h => ⟨_, pss_cons (ps_set (i := 2) sc27.nd rfl (.inl rfl) (pe_call GP (hr.mono (by decide)) rfl gpg gpk gpb .nil pass0 (pa_cons (pv 1) (pa_cons (pe_kn T.cBlank) pa_nil))))
    (pss_cons (ps_expr (pe_call G (hr.mono (by decide)) rfl gg gk gb .nil passN (pa_cons (pe_and (pe_cmpR op_eq (pe_callB call_len_seq (by rfl) T.bLen PySem.boot_len (pa_cons (pv 2) pa_nil)) pe_int (nomark _))
      (pe_one (pe_cmpR op_gt (pe_callB call_len_seq (by rfl) T.bLen PySem.boot_len (pa_cons (pe_ix ix_list (pv 2) pe_int (fun _ _ => rfl)) pa_nil)) pe_int (nomark _)))) pa_nil)))
    (pss_cons (ps_set (i := 3) sc27.nd rfl (.inr rfl) (pe_call GL (hr.mono (by decide)) rfl glg glk glb .nil passN (pa_cons (pe_ix ix_list (pv 2) pe_int (fun _ _ => rfl)) pa_nil)))
    (pss_one (ps_if (pt_cmpR op_eq (pv 3) (pe_kn T.cSign) (nomark _))
      (pss_cons (ps_set (i := 4) sc27.nd rfl (.inr rfl) (pe_call GE hr rfl geg gek geb .nil passN (pa_cons (pe_ix ix_list (pv 2) pe_int (fun _ _ => rfl)) pa_nil)))
      (pss_cons (ps_expr (pe_call G (hr.mono (by decide)) rfl gg gk gb .nil passN (pa_cons (pe_cmpR op_lt (pe_callB call_len_seq (by rfl) T.bLen PySem.boot_len (pa_cons (pe_fld (pv 0) rfl) pa_nil)) (pe_kn T.cMS) (nomark _)) pa_nil)))
      (pss_one (ps_expr (pe_bm PySem.F.plainAttrs_list PySem.F.slot_list_append PySem.F.type_list_append mt_append (pe_fld (pv 0) rfl)
        (pa_cons (pe_make MSk MS (hr.mono (by decide)) rfl T.gS msb .nil pass0 (pa_cons (pv 4) (pa_cons (pe_call GC hr rfl gcg gck gcb .nil passN (pa_cons (pe_ix ix_list (pv 2) pe_int (fun _ _ => rfl)) pa_nil)) pa_nil))) pa_nil))))))
      (pss_cons (ps_set (i := 4) sc27.nd rfl (.inr rfl) (pe_call GW (hr.mono (by decide)) rfl gwg gwk gwb .nil passN (pa_cons (pe_ix ix_list (pv 2) pe_int (fun _ _ => rfl)) pa_nil)))
      (pss_cons (ps_expr (pe_call G (hr.mono (by decide)) rfl gg gk gb .nil passN (pa_cons (pe_and (pe_cmpR op_le (pe_callB call_len_seq (by rfl) T.bLen PySem.boot_len (pa_cons (pv 4) pa_nil)) (pe_kn T.cLR) (nomark _))
        (pe_one (pe_cmpR op_lt (pe_callB call_len_seq (by rfl) T.bLen PySem.boot_len (pa_cons (pe_fld (pv 0) rfl) pa_nil)) (pe_kn T.cMR) (nomark _)))) pa_nil)))
      (pss_cons (ps_expr (pe_call G (hr.mono (by decide)) rfl gg gk gb .nil passN (pa_cons (pe_not (pe_callB (cr_any rfl) (by rfl) T.bAny (by decide +kernel)
        (pa_cons (pe_lc (own := [("rule", 5)]) (g := gName 5) (tt := tYes) (te := tAndV (tOp rEq (tFld K (tVar 5) "place") (tVar 3)) (tOp (rEqD K) (tFld K (tVar 5) "text") (tVar 4))) rfl sc27.nd (pi_list (pe_fld (pv 0) rfl)) (blkOk_by (own := [("rule", 5)]) (N := ["table", "octets", "parts", "place", "word", "rule"]) (sc := defScope (top 27)) (by decide +kernel))
          (fun _ _ _ _ _ => pg_name (i := 5) sc27.nd rfl (Or.inl rfl)) (fun _ _ _ _ _ => pts_nil)
          (fun _ _ _ _ _ => pe_and (pe_cmpR op_eq (pe_fld (pv 5) rfl) (pv 3) (nomark _)) (pe_one (pe_cmpR (op_eqD hr.units) (pe_fld (pv 5) rfl) (pv 4) (nomark _))))) pa_nil))) pa_nil)))
      (pss_one (ps_expr (pe_bm PySem.F.plainAttrs_list PySem.F.slot_list_append PySem.F.type_list_append mt_append (pe_fld (pv 0) rfl)
        (pa_cons (pe_make MRk MR (hr.mono (by decide)) rfl T.gR mrb .nil pass0 (pa_cons (pv 3) (pa_cons (pv 4) (pa_cons (pe_call GC hr rfl gcg gck gcb .nil passN (pa_cons (pe_ix ix_list (pv 2) pe_int (fun _ _ => rfl)) pa_nil)) pa_nil)))) pa_nil))))))))))), ?_⟩), b, gf, F.kp⟩
  · obtain ⟨a, o, T, b, l, ru, sg, as, bs, rfl, _⟩ := h
    rfl
  · obtain ⟨a, o, Tb, b, l, ru, sg, as, bs, rfl, X, GT, ho, hb, kO, kE⟩ := h
    obtain ⟨dx, hob⟩ := X.ob
    refine ⟨_, rfl, ?_⟩
    refine ⟨o, b, 32, rfl, ho, hb, fun H1 p ps s1 np hp PX hnew hne => ?_⟩
    have plen : (nV b).length = b.length := nV_len b
    refine ⟨_, rfl, p, _, rfl, .inl (SqL.of hp), rfl, _, rfl, ?_⟩
    rw [List.length_map, PX.len, dec_int]
    by_cases h3 : (Sd50.pieces 32 b).length = 3
    · obtain ⟨k, wd, c, hpc⟩ : ∃ k w c, Sd50.pieces 32 b = [k, w, c] := by
        match hq : Sd50.pieces 32 b, h3 with
        | [k, w, c], _ => exact ⟨k, w, c, rfl⟩
      obtain ⟨ka, hka, hk⟩ := PX.each 0 k (by rw [hpc]; rfl)
      obtain ⟨wa, hwa, hw⟩ := PX.each 1 wd (by rw [hpc]; rfl)
      obtain ⟨ca, hca, hc⟩ := PX.each 2 c (by rw [hpc]; rfl)
      have at0 : atI (ps.map V.ref) 0 = some (.ref ka) := at_of (j := 0) rfl (by rw [List.getElem?_map, hka]; rfl)
      have at1 : atI (ps.map V.ref) 1 = some (.ref wa) := at_of (j := 1) rfl (by rw [List.getElem?_map, hwa]; rfl)
      have at2 : atI (ps.map V.ref) 2 = some (.ref ca) := at_of (j := 2) rfl (by rw [List.getElem?_map, hca]; rfl)
      have hwl : wd.length ≤ 4096 := Nat.le_trans (pieces_each 32 b wd (by rw [hpc]; simp)).1 hb
      have hcl : c.length ≤ 4096 := Nat.le_trans (pieces_each 32 b c (by rw [hpc]; simp)).1 hb
      refine if_true_of (by rw [h3]; rfl) ?_
      refine ⟨_, rfl, p, _, _, _, rfl, rfl, SqL.of hp, at1, wa, _, rfl, .inl (SqL.of hw), _, _, rfl, rfl, _, rfl, ?_⟩
      rw [nV_len]
      refine ⟨fun hpos => ?_, fun hpos => ?_⟩
      · have hpos : 0 < wd.length := by
          have := of_decide_eq_true hpos
          omega
        have hwne : wd ≠ [] := List.length_pos_iff.mp hpos
        refine ⟨_, rfl, p, _, _, _, rfl, rfl, SqL.of hp, at0, ?_⟩
        refine ⟨ka, k, rfl, hk, fun x hx hxm H2 s2 => ?_, fun hno H2 s2 => kE (line_no_place hpc hno) _ (s1.trans s2)⟩
        subst hx
        have s12 := s1.trans s2
        refine ⟨_, rfl, rfl, _, rfl, ?_⟩
        rw [sgn_s]
        by_cases hs : x = 115
        · subst hs
          have hline := line_sign (T := Tb) hpc
          refine if_true_of rfl ?_
          refine ⟨_, rfl, p, _, _, _, rfl, rfl, SqL.of (s2 _ _ hp), at1, ?_⟩
          refine ⟨wa, wd, rfl, s2 _ _ hw, hwl, fun w' hw' H3 wp s3 nwp hwp => ?_, fun hn H3 s3 => ?_⟩
          · rw [hw'] at hline
            have s13 := s12.trans s3
            have s23 := s2.trans s3
            refine ⟨_, rfl, a, CT, dx, _, _, rfl, s13 _ _ hob, T.clT, T.nTs, tF_s, sg, _, rfl, .inl (SqL.of (s13 _ _ X.sl)), _, _, rfl, rfl, _, rfl, ?_⟩
            rw [List.length_map, X.sa]
            have hw'ne : w' ≠ [] := by
              intro e
              rw [letters_read] at hw'
              split at hw'
              · split at hw'
                · have h1 := congrArg List.length (Option.some.inj hw')
                  rw [blanks_len, e] at h1
                  exact absurd h1 (by show wd.length ≠ 0; omega)
                · cases hw'
              · cases hw'
            refine ⟨fun h4 => ?_, fun h4 => ?_⟩
            · have h4 : Tb.signs.length < 4 := by
                have := of_decide_eq_true h4
                omega
              refine ⟨_, rfl, a, CT, dx, _, _, rfl, s13 _ _ hob, T.clT, T.nTs, tF_s, .inl ⟨rfl, _, SqL.of (s13 _ _ X.sl)⟩, ?_⟩
              refine ⟨_, rfl, _, rfl, p, _, _, _, rfl, rfl, SqL.of (s23 _ _ hp), at2, ?_⟩
              refine ⟨ca, c, rfl, s23 _ _ hc, hcl, fun cs hcs H4 cp s4 ncp hcp => ?_, fun hn H4 s4 => ?_⟩
              · rw [hcs] at hline
                have hline : Sd50.lineRead Tb b = some { Tb with signs := Tb.signs ++ [⟨w', cs⟩] } := by
                  rw [hline]
                  show (if w' ≠ [] ∧ Tb.signs.length < 4 then some ({ Tb with signs := Tb.signs ++ [⟨w', cs⟩] } : Table) else none) = _
                  rw [if_pos ⟨hw'ne, h4⟩]
                have s14 := s13.trans s4
                intro x dxx nx ndx nxd
                refine ⟨x, dxx, .ref wp, .ref cp, rfl, upd_same, rfl, ?_⟩
                rw [upd_upd]
                have s5 : Same H4 (upd (upd H4 dxx (.own x)) x (.ins CS dxx [("octets", .ref wp), ("cells", .ref cp)])) := by
                  intro b o e
                  rw [upd_ne (ne_of_none e nx), upd_ne (ne_of_none e ndx)]
                  exact e
                have s15 := s14.trans s5
                have SX : SignX CS (upd (upd H4 dxx (.own x)) x (.ins CS dxx [("octets", .ref wp), ("cells", .ref cp)])) x ⟨w', cs⟩ ru sg wp cp := by
                  refine ⟨⟨dxx, upd_same⟩, s5 _ _ (s4 _ _ hwp), s5 _ _ hcp, ?_, ?_, ?_, ?_⟩
                  · exact (ne_of_none (s12 _ _ X.rl) nwp).symm
                  · exact (ne_of_none (s12 _ _ X.sl) nwp).symm
                  · exact (ne_of_none (s13 _ _ X.rl) ncp).symm
                  · exact (ne_of_none (s13 _ _ X.sl) ncp).symm
                refine ⟨sg, _, _, rfl, rfl, s15 _ _ X.sl, ?_, ?_⟩
                · rw [List.length_map, X.sa]
                  exact line5000 (by omega)
                have e : bs.map V.ref ++ [V.ref x] = (bs ++ [x]).map V.ref := by rw [List.map_append]; rfl
                rw [e]
                refine kO _ hline _ as (bs ++ [x]) ((X.same s15).add_sign SX) fun z o hz h1 h2 => ?_
                rw [upd_ne h2]
                exact s15 _ _ hz
              · rw [hn] at hline
                exact kE hline _ (s13.trans s4)
            · have h4 : ¬ Tb.signs.length < 4 := by
                have := of_decide_eq_false h4
                omega
              refine kE ?_ _ s13
              rw [hline]
              show ((Sd50.cellsRead c).bind fun c => if w' ≠ [] ∧ Tb.signs.length < 4 then some ({ Tb with signs := Tb.signs ++ [⟨w', c⟩] } : Table) else none) = none
              cases Sd50.cellsRead c with
              | none => rfl
              | some cs =>
                show (if w' ≠ [] ∧ Tb.signs.length < 4 then some ({ Tb with signs := Tb.signs ++ [⟨w', cs⟩] } : Table) else none) = none
                rw [if_neg fun z => h4 z.2]
          · rw [hn] at hline
            exact kE hline _ (s12.trans s3)
        · obtain ⟨pl, hpl, hp5, hps⟩ := place_of hxm hs
          have hline := line_rule (T := Tb) hpc hs
          rw [hpl] at hline
          refine if_false_of (by rw [beq_eq_false_iff_ne]; exact hs) ?_
          refine ⟨_, rfl, p, _, _, _, rfl, rfl, SqL.of (s2 _ _ hp), at1, ?_⟩
          refine ⟨wa, wd, rfl, s2 _ _ hw, hwl, fun hall H3 wp s3 nwp hwp => ?_, fun hall H3 s3 => ?_⟩
          · have s13 := s12.trans s3
            have s23 := s2.trans s3
            have hwr : Sd50.wordRead wd = if wd.length ≤ 16 then some (Sd50.blanks wd) else none := by
              unfold Sd50.wordRead
              by_cases c : wd.length ≤ 16
              · rw [if_pos c, if_pos ⟨hwne, c, hall⟩]
              · rw [if_neg c, if_neg fun z => c z.2.1]
            rw [hwr] at hline
            refine ⟨_, rfl, wp, _, rfl, .inl (SqL.of hwp), _, _, rfl, rfl, _, rfl, ?_⟩
            rw [nV_len, blanks_len]
            by_cases c16 : wd.length ≤ 16
            · rw [if_pos c16] at hline
              refine if_true_of (decide_eq_true (by omega)) ?_
              refine ⟨_, rfl, a, CT, dx, _, _, rfl, s13 _ _ hob, T.clT, T.nTr, tF_r, ru, _, rfl, .inl (SqL.of (s13 _ _ X.rl)), _, _, rfl, rfl, _, rfl, ?_⟩
              rw [List.length_map, X.ra]
              refine ⟨fun h64 => ?_, fun h64 => ?_⟩
              · have h64 : Tb.rules.length < 64 := by
                  have := of_decide_eq_true h64
                  omega
                refine ⟨_, rfl, a, CT, dx, _, _, rfl, s13 _ _ hob, T.clT, T.nTr, tF_r, ru, rfl, ⟨_, SqL.of (s13 _ _ X.rl)⟩, fun D nD => ?_⟩
                refine lc_list (K := K) (a := ru) (xs := as.map V.ref) (fun j H' => Same H3 H' ∧ H' D = some (.lst ((Tb.rules.map fun r => V.bl (r.place == pl && r.text == Sd50.blanks wd)).take j))) ⟨Same.new nD, upd_same⟩
                  (fun j H' _ h => SqL.of (h.1 _ _ (s13 _ _ X.rl))) ?_ ?_
                · rintro j y H' hy ⟨s4, hD⟩
                  obtain ⟨R, r, rt, rc, rfl, hR, RX⟩ := X.rule_of hy
                  have s14 := s13.trans s4
                  obtain ⟨rx, hrx⟩ := RX.ob
                  have fin : ∃ acc, H' D = some (.lst acc) ∧ acc.length < sizeLine ∧ Same H3 (upd H' D (.lst (acc ++ [V.bl (R.place == pl && R.text == Sd50.blanks wd)]))) ∧ upd H' D (.lst (acc ++ [V.bl (R.place == pl && R.text == Sd50.blanks wd)])) D = some (.lst ((Tb.rules.map fun r => V.bl (r.place == pl && r.text == Sd50.blanks wd)).take (j + 1))) := by
                    refine ⟨_, hD, ?_, ?_, ?_⟩
                    · rw [List.length_take, List.length_map]
                      exact line5000 (by omega)
                    · intro b o e
                      rw [upd_ne (ne_of_none e nD)]
                      exact s4 b o e
                    · rw [take_of (y := V.bl (R.place == pl && R.text == Sd50.blanks wd)) (by rw [List.getElem?_map, hR]; rfl)]
                      exact upd_same
                  refine ⟨rfl, _, rfl, r, CR, rx, _, _, rfl, s14 _ _ hrx, T.clR, T.nRp, rF_p, _, rfl, rfl, _, rfl, ?_⟩
                  rw [← hps, plS_inj (GT.at hR).place hp5]
                  cases hc1 : R.place == pl with
                  | false =>
                    rw [hc1] at fin
                    exact iteF fin
                  | true =>
                    rw [hc1, Bool.true_and] at fin
                    refine iteT ?_
                    refine ⟨_, rfl, r, CR, rx, _, _, rfl, s14 _ _ hrx, T.clR, T.nRt, rF_t, _, rfl, RW.nD R.text, RW.nD (Sd50.blanks wd), dp_nV (SqL.of (s14 _ _ RX.tx)), dp_nV (SqL.of (s4 _ _ hwp)), nD_shaped _, nD_shaped _, ?_⟩
                    rw [nD_eqv]
                    have e : (R.text == Sd50.blanks wd) = decide (R.text = Sd50.blanks wd) := by
                      rw [Bool.eq_iff_iff, beq_iff_eq, decide_eq_true_iff]
                    rw [e] at fin
                    exact fin
                · rintro H4 ⟨s4, hD⟩
                  have s14 := s13.trans s4
                  have s24 := s23.trans s4
                  have e : (as.map V.ref).length = (Tb.rules.map fun r => V.bl (r.place == pl && r.text == Sd50.blanks wd)).length := by
                    rw [List.length_map, List.length_map, X.ra]
                  rw [e, List.take_length] at hD
                  have hD : H4 D = some (.lst ((Tb.rules.map fun r => (r.place == pl && r.text == Sd50.blanks wd)).map V.bl)) := by
                    rw [List.map_map]
                    exact hD
                  have ean : (Tb.rules.map fun r => (r.place == pl && r.text == Sd50.blanks wd)).any id = Tb.rules.any fun r => r.place == pl && r.text == Sd50.blanks wd := by
                    rw [List.any_map]
                    rfl
                  refine ⟨D, _, rfl, SqL.of hD, _, rfl, _, rfl, ?_⟩
                  rw [ean]
                  refine ⟨fun hno => ?_, fun hno => ?_⟩
                  · have hno : (Tb.rules.any fun r => r.place == pl && r.text == Sd50.blanks wd) = false := by
                      rw [Bool.not_eq_true'] at hno
                      exact hno
                    refine ⟨_, rfl, a, CT, dx, _, _, rfl, s14 _ _ hob, T.clT, T.nTr, tF_r, .inl ⟨rfl, _, SqL.of (s14 _ _ X.rl)⟩, ?_⟩
                    refine ⟨_, rfl, _, rfl, _, rfl, p, _, _, _, rfl, rfl, SqL.of (s24 _ _ hp), at2, ?_⟩
                    refine ⟨ca, c, rfl, s24 _ _ hc, hcl, fun cs hcs H5 cp s5 ncp hcp => ?_, fun hn H5 s5 => ?_⟩
                    · rw [hcs] at hline
                      have hline : Sd50.lineRead Tb b = some { Tb with rules := Tb.rules ++ [⟨pl, Sd50.blanks wd, cs⟩] } := by
                        rw [hline]
                        show (if Tb.rules.length < 64 ∧ (Tb.rules.any fun r => r.place == pl && r.text == Sd50.blanks wd) = false then some ({ Tb with rules := Tb.rules ++ [⟨pl, Sd50.blanks wd, cs⟩] } : Table) else none) = _
                        rw [if_pos ⟨h64, hno⟩]
                      have s15 := s14.trans s5
                      intro x' dxx nx ndx nxd
                      refine ⟨x', dxx, .str (sgn x), .ref wp, .ref cp, rfl, upd_same, ?_⟩
                      refine ⟨rfl, ?_⟩
                      rw [upd_upd]
                      have s6 : Same H5 (upd (upd H5 dxx (.own x')) x' (.ins CR dxx [("place", .str (sgn x)), ("text", .ref wp), ("cells", .ref cp)])) := by
                        intro b o e
                        rw [upd_ne (ne_of_none e nx), upd_ne (ne_of_none e ndx)]
                        exact e
                      have s16 := s15.trans s6
                      have RX : RuleX CR (upd (upd H5 dxx (.own x')) x' (.ins CR dxx [("place", .str (sgn x)), ("text", .ref wp), ("cells", .ref cp)])) x' ⟨pl, Sd50.blanks wd, cs⟩ ru sg wp cp := by
                        refine ⟨⟨dxx, ?_⟩, s6 _ _ (s5 _ _ (s4 _ _ hwp)), s6 _ _ hcp, ?_, ?_, ?_, ?_⟩
                        · rw [upd_same]
                          show _ = some (HO.ins CR dxx [("place", .str (plS pl)), ("text", .ref wp), ("cells", .ref cp)])
                          rw [hps]
                        · exact (ne_of_none (s12 _ _ X.rl) nwp).symm
                        · exact (ne_of_none (s12 _ _ X.sl) nwp).symm
                        · exact (ne_of_none (s14 _ _ X.rl) ncp).symm
                        · exact (ne_of_none (s14 _ _ X.sl) ncp).symm
                      refine ⟨ru, _, _, rfl, rfl, s16 _ _ X.rl, ?_, ?_⟩
                      · rw [List.length_map, X.ra]
                        exact line5000 (by omega)
                      have e : as.map V.ref ++ [V.ref x'] = (as ++ [x']).map V.ref := by rw [List.map_append]; rfl
                      rw [e]
                      refine kO _ hline _ (as ++ [x']) bs ((X.same s16).add_rule RX) fun z o hz h1 h2 => ?_
                      rw [upd_ne h1]
                      exact s16 _ _ hz
                    · rw [hn] at hline
                      exact kE hline _ (s14.trans s5)
                  · have hno : ¬ (Tb.rules.any fun r => r.place == pl && r.text == Sd50.blanks wd) = false := by
                      intro z
                      rw [z] at hno
                      cases hno
                    refine kE ?_ _ s14
                    rw [hline]
                    show ((Sd50.cellsRead c).bind fun c => if Tb.rules.length < 64 ∧ (Tb.rules.any fun r => r.place == pl && r.text == Sd50.blanks wd) = false then some ({ Tb with rules := Tb.rules ++ [⟨pl, Sd50.blanks wd, c⟩] } : Table) else none) = none
                    cases Sd50.cellsRead c with
                    | none => rfl
                    | some cs =>
                      show (if Tb.rules.length < 64 ∧ (Tb.rules.any fun r => r.place == pl && r.text == Sd50.blanks wd) = false then some ({ Tb with rules := Tb.rules ++ [⟨pl, Sd50.blanks wd, cs⟩] } : Table) else none) = none
                      rw [if_neg fun z => hno z.2]
              · have h64 : ¬ Tb.rules.length < 64 := by
                  have := of_decide_eq_false h64
                  omega
                refine kE ?_ _ s13
                rw [hline]
                show ((Sd50.cellsRead c).bind fun c => if Tb.rules.length < 64 ∧ (Tb.rules.any fun r => r.place == pl && r.text == Sd50.blanks wd) = false then some ({ Tb with rules := Tb.rules ++ [⟨pl, Sd50.blanks wd, c⟩] } : Table) else none) = none
                cases Sd50.cellsRead c with
                | none => rfl
                | some cs =>
                  show (if Tb.rules.length < 64 ∧ (Tb.rules.any fun r => r.place == pl && r.text == Sd50.blanks wd) = false then some ({ Tb with rules := Tb.rules ++ [⟨pl, Sd50.blanks wd, cs⟩] } : Table) else none) = none
                  rw [if_neg fun z => h64 z.1]
            · rw [if_neg c16] at hline
              refine if_false_of (decide_eq_false (by omega)) ?_
              exact ⟨_, rfl, (fun z => nomatch z), fun _ => kE hline _ s13⟩
          · have hwr : Sd50.wordRead wd = none := by
              unfold Sd50.wordRead
              rw [if_neg fun z => by rw [hall] at z; exact Bool.false_ne_true z.2.2]
            rw [hwr] at hline
            exact kE hline _ (s12.trans s3)
      · have hz : wd = [] := by
          have := of_decide_eq_false hpos
          exact List.eq_nil_of_length_eq_zero (by omega)
        subst hz
        exact kE (line_empty hpc) _ s1
    · refine if_false_of (by rw [beq_eq_false_iff_ne]; omega) ?_
      exact ⟨_, rfl, (fun z => nomatch z), fun _ => kE (line_len h3) _ s1⟩
end
end RW
set_option Elab.async false
set_option linter.all false
set_option maxRecDepth 100000
set_option maxHeartbeats 2000000
/-! # Reading: a table -/
namespace RW
open PySem PySem.Spec PyProof.Rows L2
open RC
open Sd50 (Table Rule Sign)
section
variable {P : Program} {w : World} {K : PySem.W.Frag} {mg : Str → Option Value} {base : Heap} {CR CS CT CO CD CF CP fP CL fL : Addr}
def spRead (CR CS CT CL : Addr) : Sp := fun vs H Q E => ∃ (a : Addr) (b : List Nat), vs = [.ref a] ∧ NL H a b ∧ b.length ≤ 4096 ∧
  (∀ T, Sd50.read b = .ok T → ∀ H' p, Same H H' → TabAt CR CS CT H' p T → Q (.ref p) H') ∧
  (∀ n, Sd50.read b = .error n → ∀ H' d, Same H H' → H d = none → H' d = some (.xd [(("line" : Str), .int (n : Nat))]) → E (.ref CL) (some d) H')
theorem room_dp {k : Nat} {A : Around} (hr : Room k A) : A.depth + 1 < recursionLimit := by
  have := hr.dp
  omega
/-- an if whose branches meet again -/
theorem if_join {c : Bool} {A : Prop} {K : Hp → Prop} {H1 : Hp} (Pp : Hp → Prop) (h1 : c = true → (∀ H, Pp H → K H) → A) (h2 : c = false → Pp H1) (h : ∀ H, Pp H → K H) : if c = true then A else K H1 := by
  cases c with
  | true => exact iteT (h1 rfl h)
  | false => exact iteF (h _ (h2 rfl))
theorem PartsX.front {H : Hp} {as : List Addr} {a : Addr} {ps : List (List Nat)} {q : List Nat} (x : PartsX H (as ++ [a]) (ps ++ [q])) : PartsX H as ps := by
  have hl : as.length = ps.length := by
    have := x.len
    rw [List.length_append, List.length_append] at this
    exact Nat.add_right_cancel this
  refine ⟨hl, fun k r hk => ?_⟩
  have hlt := (List.getElem?_eq_some_iff.mp hk).1
  obtain ⟨b, h1, h2⟩ := x.each k r (by rw [List.getElem?_append_left hlt]; exact hk)
  rw [List.getElem?_append_left (by rw [hl]; exact hlt)] at h1
  exact ⟨b, h1, h2⟩
theorem PartsX.last {H : Hp} {as : List Addr} {a : Addr} {ps : List (List Nat)} {q : List Nat} (x : PartsX H (as ++ [a]) (ps ++ [q])) : NL H a q := by
  have hl : as.length = ps.length := by
    have := x.len
    rw [List.length_append, List.length_append] at this
    exact Nat.add_right_cancel this
  obtain ⟨b, h1, h2⟩ := x.each ps.length q (by rw [List.getElem?_append_right (Nat.le_refl _), Nat.sub_self]; rfl)
  rw [← hl, List.getElem?_append_right (Nat.le_refl _), Nat.sub_self] at h1
  cases h1
  exact h2
/-- letters anew -/
theorem TabX.set_letters {H : Hp} {a : Addr} {T : Table} {l ru sg : Addr} {as bs : List Addr} (X : TabX CR CS CT H a T l ru sg as bs) {n : Addr} {w : List Nat} (hn : NL H n w) (h1 : n ≠ ru) (h2 : n ≠ sg) :
    ∃ dx, H a = some (.ins CT dx (tF l ru sg)) ∧ TabX CR CS CT (upd H a (.ins CT dx (putF "letters" (.ref n) (tF l ru sg)))) a ⟨w, T.signs, T.rules⟩ n ru sg as bs := by
  obtain ⟨dx, hob⟩ := X.ob
  refine ⟨dx, hob, ?_⟩
  have e : putF "letters" (.ref n) (tF l ru sg) = tF n ru sg := put_here
  rw [e]
  have na : ∀ {b : Addr} {xs : List V}, H b = some (.lst xs) → b ≠ a := fun hb => ne_of hb hob (fun z => nomatch z)
  refine ⟨⟨dx, upd_same⟩, (upd_ne (na hn)).trans hn, (upd_ne (na X.rl)).trans X.rl, (upd_ne (na X.sl)).trans X.sl, h1, h2, X.rs, X.ra, X.sa, fun k r hk => ?_, fun k r hk => ?_⟩
  · obtain ⟨b, t, c, hb, RX⟩ := X.rule k r hk
    obtain ⟨rx, hrx⟩ := RX.ob
    have nb : b ≠ a := ne_of hrx hob (fun z => by cases z)
    exact ⟨b, t, c, hb, ⟨⟨rx, (upd_ne nb).trans hrx⟩, (upd_ne (na RX.tx)).trans RX.tx, (upd_ne (na RX.ce)).trans RX.ce, RX.t1, RX.t2, RX.c1, RX.c2⟩⟩
  · obtain ⟨b, t, c, hb, RX⟩ := X.sign k r hk
    obtain ⟨rx, hrx⟩ := RX.ob
    have nb : b ≠ a := ne_of hrx hob (fun z => by cases z)
    exact ⟨b, t, c, hb, ⟨⟨rx, (upd_ne nb).trans hrx⟩, (upd_ne (na RX.oc)).trans RX.oc, (upd_ne (na RX.ce)).trans RX.ce, RX.o1, RX.o2, RX.c1, RX.c2⟩⟩
/-- the try in the loop -/
def tRdTry (K : PySem.W.Frag) (CR CS CT CF CL : Addr) (E : XK) : TS := fun D σ H => tIfS (tTest (tOp rEq (tVar 3) (tC (.int 0))))
  (sFld K (tVar 2) (tCallS (spEachOnce CF) (fun σ => WE (wOnly K (.ref CF) (fun _ _ _ => LnErr.tRaise CL (fun cls d _ H => E cls d H) (tCons (tOp (rI0 fun i j => .int (i + j)) (tVar 3) (tC (.int 1))) tNil)) (fun cls d _ H => E cls d H) D) σ) (tCons (tVar 4) tNil)) "letters")
  (tDrop (tCallS (spLine CR CS CT CF) (fun σ => WE (wOnly K (.ref CF) (fun _ _ _ => LnErr.tRaise CL (fun cls d _ H => E cls d H) (tCons (tOp (rI0 fun i j => .int (i + j)) (tVar 3) (tC (.int 1))) tNil)) (fun cls d _ H => E cls d H) D) σ) (tCons (tVar 2) (tCons (tVar 4) tNil)))) D σ H
theorem sc28 : FnScope ["octets", "lines", "table", "index", "line"] ["octets"] (defScope (top 28)) := ⟨rfl, rfl, rfl, by decide +kernel, rfl, by decide +kernel, by decide +kernel⟩
theorem ok_read (F : RawFn K mg "read_table" ["octets"] (top 28)) (T : TX K mg CR CS CT CO CD CF) (TL : PySem.LnErr.Txt K mg CL fL)
    (GP : HasFn P w K mg base CX0 1 "parts_between" ["octets", "separator"] spParts) (GE : HasFn P w K mg base (L2N.CX P w) 3 "read_each_once" ["octets"] (spEachOnce CF))
    (GL : HasFn P w K mg base (L2N.CX P w) 4 "read_line" ["table", "octets"] (spLine CR CS CT CF)) (MT : HasInit P w K mg base CX0 1 CT ["self", "letters"] (spTable CT)) :
    HasFn P w K mg base (L2.CX P w) 5 "read_table" ["octets"] (spRead CR CS CT CL) := by
  obtain ⟨f, fd, F, b, gf⟩ := F
  obtain ⟨gp, gpd, GP, gpb, gpg, gpk⟩ := GP
  obtain ⟨ge, ged, GE, geb, geg, gek⟩ := GE
  obtain ⟨gl, gld, GL, glb, glg, glk⟩ := GL
  obtain ⟨mt, mtd, MT, mtb, MTk⟩ := MT
  refine ⟨f, fd, F.okX sc28 (fun vs H Q E h => ?_) (fun cdv A outer s H vs Q E hr h => ⟨_, pss_cons (ps_if (pt_cmpR op_eq (pe_callB call_len_seq (by rfl) T.bLen PySem.boot_len (pa_cons (pv 0) pa_nil)) pe_int (nomark _))
      (pss_one (LnErr.ps_raise rfl TL hr (L2.takes_of rfl rfl rfl rfl) (pa_cons pe_int pa_nil))) pss_nil)
    (pss_cons (ps_set (i := 1) sc28.nd rfl (.inl rfl) (pe_call GP (hr.mono (by decide)) rfl gpg gpk gpb .nil pass0 (pa_cons (pv 0) (pa_cons (pe_kn T.cNL) pa_nil))))
    (pss_cons (ps_if (pt_cmpR op_eq (pe_callB call_len_seq (by rfl) T.bLen PySem.boot_len (pa_cons (pe_ix ix_list (pv 1) (pe_un un_neg pe_int) (fun _ _ => rfl)) pa_nil)) pe_int (nomark _))
      (pss_one (ps_expr (pe_bm0 PySem.F.plainAttrs_list PySem.F.slot_list_pop PySem.F.type_list_pop mt_pop (pv 1)))) pss_nil)
    (pss_cons (ps_set (i := 2) sc28.nd rfl (.inl rfl) (pe_make MTk MT (hr.mono (by decide)) rfl T.gT mtb .nil pass0 (pa_cons (pe_lst pa_nil) pa_nil)))
    (pss_cons (ps_for PassesOwn.leaving rfl (pi_enum (by rfl) T.bEnum (pa_cons (pv 1) pa_nil)) (pg_tup rfl (pgs_cons (pg_name (i := 3) sc28.nd rfl (.inl rfl)) (pgs_cons (pg_name (i := 4) sc28.nd rfl (.inl rfl)) pgs_nil)))
      (pss_one (L2H.ps_try_onlyX (Wout := fun cls d _ H => E cls d H) (tb := fun W => tIfS (tTest (tOp rEq (tVar 3) (tC (.int 0)))) (sFld K (tVar 2) (tCallS (spEachOnce CF) (fun σ => WE W σ) (tCons (tVar 4) tNil)) "letters") (tDrop (tCallS (spLine CR CS CT CF) (fun σ => WE W σ) (tCons (tVar 2) (tCons (tVar 4) tNil)))))
        rfl rfl ⟨rfl, by decide, .inl T.gF⟩ (fun hd => PassesOwnAt.leaving) (L2.takes_of rfl rfl rfl rfl)
        (fun W pn xe tk _ _ => pss_one (ps_if (pt_cmpR op_eq (pv 3) pe_int (nomark _)) (pss_one (ps_fld (pv 2) (pe_callS (E := fun σ => WE W σ) GE (hr.mono (by decide)) rfl geg gek geb (fun σ => L2N.passAt tk σ) (pa_cons (pv 4) pa_nil)) rfl))
          (pss_one (ps_expr (pe_callS (E := fun σ => WE W σ) GL hr rfl glg glk glb (fun σ => L2N.passAt tk σ) (pa_cons (pv 2) (pa_cons (pv 4) pa_nil)))))))
        (fun a oe cls d pn hz hf tk hot => pss_one (LnErr.ps_raiseH hot TL (by have hd := room_dp hr; exact hd) tk (pa_cons (pe_op op_add (pv 3) pe_int) pa_nil))))))
    (pss_one (ps_ret (pv 2))))))), ?_⟩), b, gf, F.kp⟩
  · obtain ⟨a, b, rfl, _⟩ := h
    rfl
  · obtain ⟨a, b, rfl, ha, hb, kO, kE⟩ := h
    refine ⟨_, rfl, a, _, rfl, .inl (SqL.of ha), rfl, _, rfl, ?_⟩
    rw [nV_len, dec_int]
    by_cases hne : b = []
    · subst hne
      refine if_true_of rfl ?_
      exact ⟨_, rfl, fun d nd => kE 1 read_nil _ d (Same.new nd) nd upd_same⟩
    have hpos : 0 < b.length := List.length_pos_iff.mpr hne
    refine if_false_of (by rw [beq_eq_false_iff_ne]; omega) ?_
    refine ⟨_, rfl, ?_⟩
    refine ⟨a, b, 10, rfl, ha, hb, fun H1 p ps s1 np hp PX hnew hnp => ?_⟩
    obtain ⟨qs, q, hpc⟩ : ∃ qs q, Sd50.pieces 10 b = qs ++ [q] := ⟨_, _, (List.dropLast_concat_getLast (pieces_ne 10 b)).symm⟩
    obtain ⟨qa, la, rfl⟩ : ∃ qa la, ps = qa ++ [la] := by
      have : ps ≠ [] := by
        intro e
        have := PX.len
        rw [e, hpc, List.length_append] at this
        exact absurd this (by show 0 ≠ qs.length + 1; omega)
      exact ⟨_, _, (List.dropLast_concat_getLast this).symm⟩
    rw [hpc] at PX
    have hla := PX.last
    have hlines : Sd50.linesOf b = if q = [] then qs else qs ++ [q] := by
      unfold Sd50.linesOf
      rw [hpc]
      simp
    refine ⟨_, rfl, _, rfl, p, _, _, .ref la, rfl, rfl, SqL.of hp, (by rw [List.map_append]; exact atI_last _ _), la, _, rfl, .inl (SqL.of hla), rfl, _, rfl, ?_⟩
    rw [nV_len, dec_int]
    refine if_join (H1 := H1) (fun H2 => ∃ ps2, Same H H2 ∧ H2 p = some (.lst (ps2.map V.ref)) ∧ PartsX H2 ps2 (Sd50.linesOf b)) ?_ ?_ ?_
    · intro hz kk
      have hz : q = [] := by
        have := beq_iff_eq.mp hz
        exact List.eq_nil_of_length_eq_zero (by omega)
      refine ⟨_, rfl, .inl ⟨rfl, _, SqL.of hp⟩, p, _, .ref la, rfl, rfl, hp, ?_, ?_⟩
      · rw [List.map_append, List.length_append, List.length_map]
        show (qa.map V.ref ++ [V.ref la])[qa.length + 1 - 1]? = _
        rw [Nat.add_sub_cancel, List.getElem?_append_right (by rw [List.length_map]; exact Nat.le_refl _), List.length_map, Nat.sub_self]
        rfl
      · refine kk _ ⟨qa, ?_, ?_, ?_⟩
        · intro x o e
          rw [upd_ne (ne_of_none e np)]
          exact s1 x o e
        · rw [upd_same, List.map_append]
          show some (HO.lst (qa.map V.ref ++ [V.ref la]).dropLast) = _
          rw [List.dropLast_concat]
        · rw [hlines, if_pos hz]
          exact PX.front.put fun h => hnp p (List.mem_append_left _ h) rfl
    · intro hz
      have hz : q ≠ [] := by
        intro e
        subst e
        cases hz
      refine ⟨qa ++ [la], s1, hp, ?_⟩
      rw [hlines, if_neg hz]
      exact PX
    rintro H2 ⟨ps2, s2, hp2, PX2⟩
    have hL : ∀ x ∈ Sd50.linesOf b, x.length ≤ 4096 := by
      intro x hx
      refine Nat.le_trans (pieces_each 10 b x ?_).1 hb
      rw [hpc]
      rw [hlines] at hx
      split at hx
      · exact List.mem_append_left _ hx
      · exact hx
    have hLne := linesOf_ne hne
    rw [read_from] at kO kE
    generalize Sd50.linesOf b = L at PX2 hL hLne kO kE
    refine ⟨Nat.zero_le _, fun le nle => ?_⟩
    intro ta dx nta ndx nedx
    refine ⟨ta, dx, le, rfl, upd_same, fun H3 ru sg nru nsg nrs hta hru hsg kp => ⟨rfl, ?_⟩⟩
    have sl : Same H2 (upd H2 le (.lst (nV []))) := Same.new nle
    have hlt : le ≠ ta := ne_of_none upd_same nta
    have hldx : le ≠ dx := ne_of_none upd_same ndx
    have n2ta : H2 ta = none := sl.free nta
    have n2dx : H2 dx = none := sl.free ndx
    have rup : ru ≠ ta := fun e => by rw [e, upd_same] at nru; cases nru
    have sgp : sg ≠ ta := fun e => by rw [e, upd_same] at nsg; cases nsg
    rw [upd_ne rup] at nru
    rw [upd_ne sgp] at nsg
    have rud : ru ≠ dx := fun e => by rw [e, upd_same] at nru; cases nru
    have sgd : sg ≠ dx := fun e => by rw [e, upd_same] at nsg; cases nsg
    rw [upd_ne rud] at nru
    rw [upd_ne sgd] at nsg
    have n2ru : H2 ru = none := sl.free nru
    have n2sg : H2 sg = none := sl.free nsg
    have s3 : Same H2 H3 := fun x o e => kp x o (by rw [upd_ne (ne_of_none e n2ta), upd_ne (ne_of_none e n2dx)]; exact sl x o e) (ne_of_none e n2ta)
    have hle3 : H3 le = some (.lst (nV [])) := kp le _ (by rw [upd_ne hlt, upd_ne hldx]; exact upd_same) hlt
    have X3 : TabX CR CS CT H3 ta ⟨[], [], []⟩ le ru sg [] [] := ⟨⟨dx, hta⟩, hle3, hru, hsg, (ne_of_none (o := .lst []) upd_same nru), (ne_of_none (o := .lst []) upd_same nsg), nrs, rfl, rfl, fun k r h => by simp at h, fun k r h => by simp at h⟩
    refine ⟨_, rfl, p, _, rfl, SqL.of (s3 _ _ hp2), ?_⟩
    refine for_it (tb := tRdTry K CR CS CT CF CL E) (walk_enum (K := K) (a := p) (xs := ps2.map V.ref)) (fun j σ H' => ∃ (U : Table) (l : Addr) (as bs : List Addr) (u v : Option V), σ = [some (.ref a), some (.ref p), some (.ref ta), u, v] ∧ Same H2 H' ∧ TabX CR CS CT H' ta U l ru sg as bs ∧ Good U ∧
      readFrom 0 ⟨[], [], []⟩ L = readFrom j U (L.drop j)) ⟨_, le, [], [], none, none, rfl, s3, X3, good_empty [], rfl⟩ ?_ ?_ ?_
    · rintro j σ H' _ ⟨_, _, _, _, _, _, _, s4, _⟩
      exact SqL.of (s4 _ _ hp2)
    · rintro j y σ H' H'' hj ⟨U, l, as, bs, u, v, rfl, s4, X4, GU, hrd⟩ ⟨q', n1, y1, rfl, nq, rfl, e1, hy⟩
      cases e1
      have hjL : j < L.length := by
        rw [List.length_map, PX2.len] at hj
        exact hj
      obtain ⟨ln, hln, hlnl⟩ := PX2.each j _ (List.getElem?_eq_getElem hjL)
      have hy : (ps2.map V.ref)[j]? = some y1 := hy
      rw [List.getElem?_map, hln] at hy
      have hy : y1 = .ref ln := (Option.some.inj hy).symm
      subst hy
      generalize hline : L[j] = line at hlnl
      have hd : L.drop j = line :: L.drop (j + 1) := by rw [List.drop_eq_getElem_cons hjL, hline]
      have hlen : line.length ≤ 4096 := hL line (by rw [← hline]; exact List.getElem_mem hjL)
      rw [hd, readFrom_cons] at hrd
      have s5 : Same H' (upd H' q' (.tup [.int (j : Nat), .ref ln])) := Same.new nq
      have s25 := s4.trans s5
      have X5 := X4.same s5
      -- the error
      have bad : takeLine j U line = none → ∀ H6, Same (upd H' q' (.tup [.int (j : Nat), .ref ln])) H6 → ∀ (D : Ends), wOnly K (.ref CF) (fun _ _ _ => LnErr.tRaise CL (fun cls d _ H => E cls d H) (tCons (tOp (rI0 fun i j => .int (i + j)) (tVar 3) (tC (.int 1))) tNil)) (fun cls d _ H => E cls d H) D (.ref CF) none
          [some (.ref a), some (.ref p), some (.ref ta), some (.int (j : Nat)), some (.ref ln)] H6 := fun hn H6 s6 D => by
        refine ⟨true, T.eF, fun _ x nx => ?_, fun z => Bool.noConfusion z⟩
        refine ⟨_, rfl, _, _, rfl, rfl, _, rfl, fun d nd => ?_⟩
        have s26 := s25.trans s6
        rw [hn] at hrd
        refine kE (j + 1) hrd _ d ((s2.trans s26).trans (Same.new nd)) ?_ upd_same
        exact (s2.trans s26).free nd
      refine ⟨q', _, rfl, SqT.of upd_same, rfl, _, _, rfl, _, _, rfl, rfl, ?_⟩
      refine ⟨_, rfl, rfl, _, rfl, ?_⟩
      rw [dec_int]
      by_cases hj0 : j = 0
      · subst hj0
        refine if_true_of rfl ?_
        refine ⟨_, rfl, ln, line, rfl, s25 _ _ hlnl, hlen, fun w hw H6 n s6 nn hn => ?_, fun hn H6 s6 => ?_⟩
        · have s26 := s25.trans s6
          have hn1 : n ≠ ru := (ne_of_none X5.rl nn).symm
          have hn2 : n ≠ sg := (ne_of_none X5.sl nn).symm
          obtain ⟨dx6, hta6, X6⟩ := (X5.same s6).set_letters hn hn1 hn2
          refine ⟨_, rfl, ta, CT, dx6, _, rfl, hta6, T.clT, T.nTl, (by show 3 < 1000; decide), ?_⟩
          have htk : takeLine 0 U line = some ⟨w, U.signs, U.rules⟩ := by
            show (Sd50.lettersRead line).map _ = _
            rw [hw]
            rfl
          rw [htk] at hrd
          refine ⟨_, n, as, bs, _, _, rfl, ?_, X6, takeLine_good GU htk, hrd⟩
          intro x o e
          rw [upd_ne (ne_of_none e n2ta)]
          exact s26 x o e
        · refine bad ?_ H6 s6 _
          show (Sd50.lettersRead line).map _ = _
          rw [hn]
          rfl
      · refine if_false_of (by rw [beq_eq_false_iff_ne]; omega) ?_
        obtain ⟨m, rfl⟩ : ∃ m, j = m + 1 := ⟨j - 1, by omega⟩
        refine ⟨_, rfl, _, rfl, ?_⟩
        refine ⟨ta, ln, U, line, l, ru, sg, as, bs, rfl, X5, GU, s25 _ _ hlnl, hlen, fun U' hU H6 as' bs' X6 k6 => ?_, fun hn H6 s6 => ?_⟩
        · have htk : takeLine (m + 1) U line = some U' := hU
          rw [htk] at hrd
          refine ⟨U', l, as', bs', _, _, rfl, ?_, X6, takeLine_good GU htk, hrd⟩
          intro x o e
          exact k6 x o (s25 x o e) (ne_of_none e n2ru) (ne_of_none e n2sg)
        · exact bad hn H6 s6 _
    · rintro σ H' ⟨U, l, as, bs, u, v, rfl, s4, X4, GU, hrd⟩
      rw [List.length_map, PX2.len, List.drop_length, readFrom_nil (List.length_pos_iff.mpr hLne)] at hrd
      exact ⟨_, rfl, kO U hrd _ ta (s2.trans s4) ⟨l, ru, sg, as, bs, X4⟩⟩
end
end RW
set_option Elab.async false
set_option linter.all false
set_option maxRecDepth 100000
set_option maxHeartbeats 2000000
/-! # sorted(xs, key=f) where the keys hold lists that stood there before -/
namespace SortL
open PySem PySem.W PySem.Calls PyProof.Rows
section
variable {prog : Program} {w : World} {A : Around} {E : Value → Shared → Prop} {s : Shared} {a kS : Addr} {vs : List Value} {e1 : Nat} {P : PySem.Fin → Shared → Prop} {kz : List PyData}
/-- v reads as k by lists of the old heap alone -/
def OldKey (h₁ h : Heap) (v : Value) (k : PyData) : Prop := ∃ as, Reads h v k as ∧ ∀ b ∈ as, h₁.get? b ≠ none
/-- a call that gives such a key and keeps all that was there -/
def KeyRun (h₁ : Heap) (k : PyData) (s₁ : Shared) (v : Value) (s₂ : Shared) : Prop :=
  ∃ h' tk, s₂ = { s₁ with heap := h', toks := tk } ∧ (∀ b o, s₁.heap.get? b = some o → h'.get? b = some o) ∧ OldKey h₁ h' v k
theorem OldKey.up {h₁ h h' : Heap} {v : Value} {k : PyData} (q : OldKey h₁ h v k) (kp : ∀ b o, h.get? b = some o → h'.get? b = some o) : OldKey h₁ h' v k := by
  obtain ⟨as, r, o⟩ := q
  exact ⟨as, PyProof.Rows.Reads.keeps kp r, o⟩
/-- the store of the keys is written anew: keys stay -/
theorem OldKey.store {h₁ h h' : Heap} {v : Value} {k : PyData} {arr : Array Value} {e : Nat} (q : OldKey h₁ h v k) (al : alike k k = true) (nS : h₁.get? kS = none) (hS : h.get? kS = some (seqObj "list" arr e)) (kp : ∀ b o, b ≠ kS → h.get? b = some o → h'.get? b = some o) :
    OldKey h₁ h' v k := by
  obtain ⟨as, r, o⟩ := q
  refine ⟨as, Reads.keepBut (a := kS) kp (fun ob eo => ?_) k v as al r fun hm => o kS hm nS, o⟩
  rw [hS] at eo
  rw [← Option.some.inj eo]
/-- the keys taken, one call an item; then the sort -/
theorem rest {f : Value} {h₁ : Heap} (kp : KeepsBut a h₁ s.heap) (hkS : h₁.get? kS = none) (nk : s.heap.get? kS = some (seqObj "list" #[] 0)) (na : s.heap.get? a = some (seqObj "list" #[] e1)) (hka : kS ≠ a)
    (hlen : kz.length = vs.length) (hZ : vs.length ≤ sizeLine) (hal : AllAlike kz) (hsk : Sortable kz) (hu : ∀ d, d ∈ kz → A.units + d.depth < cLine)
    (turn : ∀ (i : Nat) (v : Value) (k : PyData), vs[i]? = some v → kz[i]? = some k → ∀ (h : Heap) (tk : Nat), KeepsBut a h₁ h →
      wpAny (model prog w) A (call f [v]) (KeyRun h₁ k { s with heap := h, toks := tk }) (fun _ _ => False) { s with heap := h, toks := tk })
    (h : ∀ h' tk out c, KeepsBut a h₁ h' → h'.get? a = some (seqObj "list" (List.toArray out) c) → KeyedOut false kz vs out → P (.done (.ret .none)) { s with heap := h', toks := tk }) :
    wpAny (model prog w) A (ksk_rest a f false vs.toArray e1 (.ref kS)) P E s := by
  unfold ksk_rest
  refine wpAny_bind (wpAny_rule ?_)
  first
    | rw [List.forIn_toArray]
    | rw [← Array.forIn_toList]
  refine wpAny_bind (ksk_fold (fun i s' => ∃ (g : Heap) (tk : Nat) (arr : Array Value) (e : Nat), s' = { s with heap := g, toks := tk } ∧ KeepsBut a h₁ g ∧ g.get? kS = some (seqObj "list" arr e) ∧ g.get? a = some (seqObj "list" #[] e1) ∧ EachIs (OldKey h₁ g) arr.toList (kz.take i)) vs 0 s
    ⟨s.heap, s.toks, #[], 0, rfl, kp, nk, na, by rw [List.take_zero]; exact EachIs.nil⟩ ?_ ?_)
  · rintro j x s' hx ⟨g, tk, arr, e, rfl, kg, hgS, hga, hk⟩
    rw [Nat.zero_add] at hk ⊢
    have hj : j < kz.length := by
      have := (List.getElem?_eq_some_iff.mp hx).1
      omega
    have hkj : kz[j]? = some kz[j] := List.getElem?_eq_getElem hj
    have al : ∀ d ∈ kz, alike d d = true := fun d hd => hal d hd d hd
    have hz : arr.size ≤ vs.length := by
      have h1 := hk.length
      rw [Array.length_toList, List.length_take] at h1
      omega
    refine wpAny_bind (wpAny_attempt (wpAny_mono (turn j x _ hx hkj g tk kg) (fun v s'' he => ?_) fun _ _ hF => hF.elim))
    obtain ⟨g2, tk2, rfl, up, new⟩ := he
    try dsimp only
    have h2S := up _ _ hgS
    have h2a := up _ _ hga
    have sb := Heap.SameBut.update g2 kS (Obj.mapSeq (·.push v))
    obtain ⟨c2, h3S⟩ : ∃ c2, (g2.update kS (Obj.mapSeq (·.push v))).get? kS = some (seqObj "list" (arr.push v) c2) := ⟨_, get?_update_seq h2S (·.push v)⟩
    have step : ∀ (u : Value) (d : PyData), d ∈ kz → OldKey h₁ g2 u d → OldKey h₁ (g2.update kS (Obj.mapSeq (·.push v))) u d := fun u d hd q => q.store (al d hd) hkS h2S fun b o hb q' => (sb.2 b hb).trans q'
    refine wpAny_bind (listUpdate_at h2S rfl ?_ (Nat.le_trans hz hZ) (by rw [Array.size_push]; omega))
    refine wpAny_pure ⟨rfl, _, _, arr.push v, c2, rfl, (kg.trans_all up).same sb (.inr hkS), h3S, (sb.2 a hka.symm).trans h2a, ?_⟩
    have ek : kz.take (j + 1) = kz.take j ++ [kz[j]] := by
      rw [List.take_add_one, hkj]
      rfl
    have ea : (arr.push v).toList = arr.toList ++ [v] := by simp
    rw [ea, ek]
    refine each_snoc (step v _ (List.getElem_mem hj) new) ?_
    have key : ∀ {us : List Value} {ds : List PyData}, EachIs (OldKey h₁ g) us ds → (∀ d ∈ ds, d ∈ kz) → EachIs (OldKey h₁ (g2.update kS (Obj.mapSeq (·.push v)))) us ds := by
      intro us ds q
      induction q with
      | nil => intro _; exact .nil
      | cons h1 _ ih =>
        intro hm
        exact .cons (step _ _ (hm _ List.mem_cons_self) (h1.up up)) (ih fun d hd => hm d (List.mem_cons_of_mem _ hd))
    exact key hk fun d hd => List.mem_of_mem_take hd
  · rintro s' ⟨g, tk, arr, e, rfl, kg, hgS, hga, hk⟩
    rw [Nat.zero_add, List.take_of_length_le (by omega)] at hk
    have hk' : EachIs (fun v k => ∃ as, Reads g v k as) arr.toList kz := hk.mono fun v k q => ⟨q.choose, q.choose_spec.1⟩
    have hsz : arr.size = vs.length := by
      have h1 := hk'.length
      rw [Array.length_toList] at h1
      omega
    try dsimp only
    refine wpAny_bind (listItems_at hgS rfl ?_)
    exact keyH_end (κ := dataKind g kz) (h₁ := h₁) kg hkS hgS hga hka (SortsAt.data (s := { s with heap := g, toks := tk }) hk' hal hsk hu) hsz hZ fun h3 tk3 c k3 n3 => h h3 tk3 _ c k3 n3 ⟨g, arr.toList, hal, rfl, hk'⟩
theorem tree {f : Value} {n : Nat} (ho : s.heap.get? a = some (seqObj "list" vs.toArray n)) (hlen : kz.length = vs.length) (hZ : vs.length ≤ sizeLine) (hal : AllAlike kz) (hsk : Sortable kz) (hu : ∀ d, d ∈ kz → A.units + d.depth < cLine)
    (turn : ∀ (i : Nat) (v : Value) (k : PyData), vs[i]? = some v → kz[i]? = some k → ∀ (h : Heap) (tk : Nat), KeepsBut a s.heap h →
      wpAny (model prog w) A (call f [v]) (KeyRun s.heap k { s with heap := h, toks := tk }) (fun _ _ => False) { s with heap := h, toks := tk })
    (h : ∀ h' tk out c, KeepsBut a s.heap h' → h'.get? a = some (seqObj "list" (List.toArray out) c) → KeyedOut false kz vs out → P (.done (.ret .none)) { s with heap := h', toks := tk }) :
    wpAny (model prog w) A (ksk_tree a f false) P E s := by
  have ha : a < s.heap.objs.size := Heap.lt_size ho
  obtain ⟨e1, ho1⟩ : ∃ e1, (s.heap.update a (Obj.mapSeq fun _ => (#[] : Array Value))).get? a = some (seqObj "list" #[] e1) := ⟨_, get?_update_seq ho fun _ => #[]⟩
  have sz : ((s.heap.update a (Obj.mapSeq fun _ => (#[] : Array Value))).push (seqObj "tuple" vs.toArray 0)).objs.size = s.heap.objs.size + 1 := by rw [size_push', Heap.size_update]
  unfold ksk_tree
  refine wpAny_bind (listItems_at ho rfl ?_)
  refine wpAny_bind (listUpdate_at ho rfl ?_ (by rw [List.size_toArray]; exact hZ) (Nat.zero_le _))
  refine wpAny_bind (seqEpoch_at ho1 rfl ?_)
  refine wpAny_bind (wpAny_newTuple ?_ (by show vs.length ≤ _; exact hZ))
  refine wpAny_bind (wpAny_newList ?_ (Nat.zero_le _))
  refine wpAny_holding ?_
  have kp : KeepsBut a s.heap (sortingHeap s.heap a vs) := fun b o hb q => sortingHeap_old hb q
  exact rest (kz := kz) (h₁ := s.heap) (s := { s with heap := ((s.heap.update a (Obj.mapSeq fun _ => (#[] : Array Value))).push (seqObj "tuple" vs.toArray 0)).push (seqObj "list" #[] 0) }) (kS := ((s.heap.update a (Obj.mapSeq fun _ => (#[] : Array Value))).push (seqObj "tuple" vs.toArray 0)).objs.size)
    kp (Heap.get?_none_of_le (by rw [sz]; exact Nat.le_succ _)) (Heap.get?_push_size _ rfl) (Heap.get?_push_of_some _ (Heap.get?_push_of_some _ ho1)) (by rw [sz]; exact Nat.ne_of_gt (Nat.lt_succ_of_lt ha)) hlen hZ hal hsk hu turn h
end
section
variable {prog : Program} {w : World} {A : Around} {E : Value → Shared → Prop} {s : Shared} {β : Type} {vs : List Value} {bs : List β} {R : Value → β → Prop}
/-- sorted(xs, key=f) -/
theorem sorted_old {l : Addr} {f : Addr} {Q : Value → Shared → Prop} (k : β → PyData) (hl : s.heap.IsList l vs.toArray) (e : EachIs R vs bs) (hal : AllAlike (bs.map k)) (hk : Sortable (bs.map k)) (hL : bs.length ≤ sizeLine)
    (hu : ∀ x, x ∈ bs → A.units + 2 + (k x).depth < cLine) (ha1 : argsOk "sorted" ⟨[.ref l], [(Str.ofString "key", .ref f)]⟩) (ha2 : ∀ x, argsOk "list.sort" ⟨[.ref x], [(Str.ofString "key", .ref f)]⟩)
    (turn : ∀ (v : Value) (x : β), R v x → x ∈ bs → ∀ (h : Heap) (tk : Nat), (∀ b o, s.heap.get? b = some o → h.get? b = some o) →
      wpAny (model prog w) A.in1.in1 (call (.ref f) [v]) (KeyRun s.heap (k x) { s with heap := h, toks := tk }) (fun _ _ => False) { s with heap := h, toks := tk })
    (h : ∀ out c h' tk, (∀ b o, s.heap.get? b = some o → h'.get? b = some o) → h'.get? (s.heap.objs.size + 1) = some (seqObj "list" (List.toArray out) c) → out.length = bs.length → EachIs R out (bs.mergeSort (dataLe false k)) →
      Q (.ref (s.heap.objs.size + 1)) { s with heap := h', toks := tk }) :
    wpAny (model prog w) A (call (.builtin "sorted") [.ref l] [(Str.ofString "key", .ref f)]) Q E s := by
  have up : ∀ {g : Heap}, KeepsBut (s.heap.objs.size + 1) (copyHeap s.heap vs) g → ∀ b o, s.heap.get? b = some o → g.get? b = some o := fun {g} kp b o q =>
    kp b o (Nat.ne_of_lt (Nat.lt_succ_of_lt (Heap.lt_size q))) (copyHeap_old q)
  have hvl : vs.length = bs.length := e.length
  refine sorted_of_sort hl (by rw [hvl]; exact hL) ha1 ha2 fun E' => ?_
  rw [ksk_t1]
  refine tree (kz := bs.map k) (s := { s with heap := copyHeap s.heap vs }) (copyHeap_at s.heap vs) (by rw [List.length_map]; exact hvl.symm) (by rw [hvl]; exact hL) hal hk (bound_map (A := A.in1.in1) hu) ?_ fun h' tk out c kp hD ko => ⟨rfl, ?_⟩
  · intro i v d hv hd g tk kp
    rw [List.getElem?_map] at hd
    cases q : bs[i]? with
    | none =>
      rw [q] at hd
      cases hd
    | some x =>
      rw [q] at hd
      have hd := Option.some.inj hd
      have hz : (v, x) ∈ vs.zip bs := List.mem_of_getElem? (i := i) (by rw [List.getElem?_zip_eq_some]; exact ⟨hv, q⟩)
      refine wpAny_mono (turn v x (e.zip _ hz) (List.mem_of_getElem? q) g tk (up kp)) (fun u s' hq => ?_) fun _ _ z => z
      obtain ⟨h', tk', rfl, kp', as, r, o⟩ := hq
      rw [← hd]
      refine ⟨h', tk', rfl, kp', as, r, fun b hb hn => o b hb ?_⟩
      cases hb' : s.heap.get? b with
      | none => rfl
      | some ob =>
        have hn : (copyHeap s.heap vs).get? b = none := hn
        rw [copyHeap_old hb'] at hn
        cases hn
  · exact h out c h' tk (up kp) hD ((ko.length (by rw [List.length_map]; exact hvl.symm)).trans hvl) (keyedOut_each k ko e)
end
end SortL
set_option Elab.async false
set_option linter.all false
set_option maxRecDepth 100000
set_option maxHeartbeats 2000000
/-! # sorted(texts, key=lambda text: (len(text), text)) -/
namespace RW
open PySem PySem.Spec PyProof.Rows L2
open RC
/-! ### the order -/
def keyD (t : List Nat) : PyData := .tuple [.int t.length, .list ((intsOf t).map PyData.int)]
theorem lesser_lt : ∀ x y : List Nat, x.length = y.length → Sd50.lesser x y = !decide (intsOf y < intsOf x)
  | [], [], _ => by simp [Sd50.lesser, intsOf]
  | [], _ :: _, h => by simp at h
  | _ :: _, [], h => by simp at h
  | a :: x, b :: y, h => by
    have ih := lesser_lt x y (by simpa using h)
    show (decide (a < b) || (a == b && Sd50.lesser x y)) = !decide (((b : Nat) : Int) :: intsOf y < ((a : Nat) : Int) :: intsOf x)
    rw [ih, Bool.eq_iff_iff]
    simp only [Bool.or_eq_true, Bool.and_eq_true, decide_eq_true_eq, beq_iff_eq, Bool.not_eq_true', decide_eq_false_iff_not, List.cons_lt_cons_iff]
    constructor
    · rintro (h1 | ⟨rfl, h1⟩)
      · rintro (h2 | ⟨h2, _⟩) <;> omega
      · rintro (h2 | ⟨_, h2⟩)
        · omega
        · exact h1 h2
    · intro h1
      by_cases c : a < b
      · exact .inl c
      · refine .inr ⟨?_, fun h2 => h1 (.inr ⟨?_, h2⟩)⟩
        · have : ¬ ((b : Nat) : Int) < ((a : Nat) : Int) := fun h2 => h1 (.inl h2)
          omega
        · have : ¬ ((b : Nat) : Int) < ((a : Nat) : Int) := fun h2 => h1 (.inl h2)
          omega
theorem alike_key (x y : List Nat) : PySem.W.alike (keyD x) (keyD y) = true := by
  unfold keyD
  simp only [PySem.W.alike, PySem.W.alikeAll, PySem.W.alike_ints, Bool.and_self]
theorem intsOf_eqv (x y : List Nat) : PyData.eqv (.list ((intsOf x).map PyData.int)) (.list ((intsOf y).map PyData.int)) = decide (x = y) := nD_eqv x y
theorem key_le (x y : List Nat) : PySem.W.dataLe false keyD x y = Sd50.sooner x y := by
  rw [PySem.W.dataLe_eq]
  show (!PySem.W.dataLt (keyD y) (keyD x)) = _
  have a1 : PySem.W.alike (.int ((y.length : Nat) : Int)) (.int ((x.length : Nat) : Int)) = true := by simp only [PySem.W.alike]
  have a2 : PySem.W.alike (.list ((intsOf y).map PyData.int)) (.list ((intsOf x).map PyData.int)) = true := by simp only [PySem.W.alike, PySem.W.alike_ints]
  have e1 : PySem.W.dataLt (keyD y) (keyD x) = if PyData.eqv (.int ((y.length : Nat) : Int)) (.int ((x.length : Nat) : Int)) = true then (if PyData.eqv (.list ((intsOf y).map PyData.int)) (.list ((intsOf x).map PyData.int)) = true then false else PySem.W.dataLt (.list ((intsOf y).map PyData.int)) (.list ((intsOf x).map PyData.int))) else PySem.W.dataLt (.int ((y.length : Nat) : Int)) (.int ((x.length : Nat) : Int)) := PySem.W.dataLt_pair a1 a2
  have e2 : PySem.W.dataLt (.list ((intsOf y).map PyData.int)) (.list ((intsOf x).map PyData.int)) = decide (intsOf y < intsOf x) := by
    rw [PySem.W.dataLt_list]
    exact PySem.W.dataLt_ints _ _
  have e3 : PyData.eqv (.int ((y.length : Nat) : Int)) (.int ((x.length : Nat) : Int)) = decide (y.length = x.length) := by
    simp only [PyData.eqv]
    rw [Bool.eq_iff_iff, beq_iff_eq, decide_eq_true_iff]
    omega
  rw [e1, e2, e3, intsOf_eqv, PySem.W.dataLt_int]
  unfold Sd50.sooner
  by_cases hl : y.length = x.length
  · rw [if_pos (decide_eq_true hl), lesser_lt x y hl.symm, decide_eq_false (by omega : ¬ x.length < y.length)]
    have : (x.length == y.length) = true := by rw [hl]; exact beq_self_eq_true _
    rw [this, Bool.false_or, Bool.true_and]
    by_cases he : y = x
    · subst he
      rw [if_pos (decide_eq_true rfl)]
      have : ¬ intsOf y < intsOf y := List.lt_irrefl _
      rw [decide_eq_false this]
    · rw [if_neg (by rw [decide_eq_true_iff]; exact he)]
  · rw [if_neg (by rw [decide_eq_true_iff]; exact hl)]
    have : (x.length == y.length) = false := by
      rw [beq_eq_false_iff_ne]
      omega
    rw [this, Bool.false_and, Bool.or_false, Bool.eq_iff_iff, Bool.not_eq_true', decide_eq_false_iff_not, decide_eq_true_iff]
    omega
theorem key_sorted (l : List (List Nat)) : (l.mergeSort (PySem.W.dataLe false keyD)).Perm l ∧ (l.mergeSort (PySem.W.dataLe false keyD)).Pairwise fun x y => Sd50.sooner x y = true := by
  have e : PySem.W.dataLe false keyD = Sd50.sooner := by
    funext x y
    exact key_le x y
  rw [e]
  exact ⟨List.mergeSort_perm _ _, List.pairwise_mergeSort sooner_trans sooner_total _⟩
/-! ### the lambda, called -/
def lamPs (p : Pos) : Arguments := { posonlyargs := [], args := [{ arg := "text", annotation := none, pos := p }], vararg := none, kwonlyargs := [], kw_defaults := [], kwarg := none, defaults := [] }
def lamB (p1 p2 p3 p4 p5 : Pos) (k : Nat) : Expr := .Tuple [.Call (.Name "len" p1) [.Name "text" p2] [] p3, .Name "text" p4] k p5
def lamSc : Scope := { kind := .function, names := [(PySem.Str.ofString "text", .local), (PySem.Str.ofString "len", .globalImplicit)], isGenerator := false, isCoroutine := false, more := [] }
section
variable {prog : Program} {w : World} {A : Around} {s : Shared} {K : PySem.W.Frag} {mg : Str → Option Value} {base h₁ : Heap} {f t c' : Addr} {qual : Str} {pm ctv : Value} {p p1 p2 p3 p4 p5 : Pos} {k : Nat}
theorem lam_run (M : Mod K mg base) (kb : ∀ b o, base.get? b = some o → s.heap.get? b = some o) (bl : mg "len" = none) (ho : s.heap.get? f = some (PySem.W.kla_obj "<lambda>" qual (lamPs p) (lamB p1 p2 p3 p4 p5 k) lamSc [] pm c' ctv)) (hcd : s.heap.CodeRec (.ref c') qual)
    (hroom : A.depth < recursionLimit) {its : List Value} {n : Nat} {l : List Nat} (ht : s.heap.get? t = some (seqObj "list" its.toArray n)) (hr : ReadsAll s.heap its ((intsOf l).map PyData.int) []) (hl : its.length = l.length) (hz : l.length ≤ sizeLine) (told : h₁.get? t ≠ none) :
    wpAny (model prog w) A (call (.ref f) [.ref t]) (SortL.KeyRun h₁ (keyD l) s) (fun _ _ => False) s := by
  refine wpAny_call (PySem.W.kla_callFunE hroom ho rfl rfl rfl rfl hcd ?_)
  have hb : bindArgs (PySem.W.kla_fn "<lambda>" qual (lamPs p) (lamB p1 p2 p3 p4 p5 k) lamSc [] pm (.ref c') ctv) ⟨[.ref t], []⟩ = pure [(("text" : Str), .ref t)] := by rfl
  rw [hb]
  refine wpAny_pure (wpAny_newFunctionEnv (by show ∀ x ∈ lamSc.names, x.2 ≠ .cell; decide) (fun x hx => by rw [List.mem_singleton.mp hx]; rfl) (fun h2 hns hsb => ⟨((M.nolimit).keeps kb).fresh _ hsb, ?_⟩) rfl)
  have up : ∀ b o, s.heap.get? b = some o → h2.get? b = some o := fun b o e => hsb.extBut b o (Nat.ne_of_lt (Heap.lt_size e)) (Heap.get?_push_of_some _ e)
  show codeAny _ _ (.expr (lamB p1 p2 p3 p4 p5 k) (PySem.W.envX qual lamSc s.heap.objs.size f (.ref c') [])) _ _
  refine PySem.W.kla_codeExpr ?_
  have kb2 : ∀ b o, base.get? b = some o → h2.get? b = some o := fun b o e => up b o (kb b o e)
  have ht2 := up _ _ ht
  have text : ∀ {pos : Pos} {M' : Model} {A' : Around} {Q E : Value → Shared → Prop} {s' : Shared}, s'.heap = h2 → Q (.ref t) s' → wpAny M' A' (eval (.Name "text" pos) (PySem.W.envX qual lamSc s.heap.objs.size f (.ref c') [])) Q E s' := fun {pos M' A' Q E s'} e q => by
    refine wpAny_Name (wpAny_loadName_local rfl rfl (by rw [e]; exact hns) ?_ q) (by decide)
    rfl
  obtain ⟨mb, b1, b2⟩ := M.blt
  have hl63 : ((its.toArray.size : Nat) : Int) < 2 ^ 63 := by
    have e : sizeLine = 16777216 := sizeLine_eq
    rw [List.size_toArray]
    omega
  refine wpAny_Tuple_spliced ?_
  show wpAny _ _ (spliced [(false, eval (.Call (.Name "len" p1) [.Name "text" p2] [] p3) (PySem.W.envX qual lamSc s.heap.objs.size f (.ref c') [])), (false, eval (.Name "text" p4) (PySem.W.envX qual lamSc s.heap.objs.size f (.ref c') []))]) _ _ _
  refine Calls.spliced_cons ?_
  refine wpAny_Call_Name_kw (Calls.Name_function_global rfl rfl (Calls.loadGlobal_builtin (mg := mg) (mb := mb) (M.glob.keeps kb2) bl (b1.keeps kb2) ((b2 "len" (by decide)).trans boot_len) ?_))
  refine PyProof.Rows.callWith_builtin1 ?_ rfl rfl
  show wpAny _ _ (spliced [(false, eval (.Name "text" p2) (PySem.W.envX qual lamSc s.heap.objs.size f (.ref c') []))]) _ _ _
  refine Calls.spliced_cons (text rfl (Calls.spliced_nil ?_))
  refine Calls.call_len_list (items := its.toArray) ⟨_, ht2, rfl, n, rfl⟩ hl63 ?_
  refine Calls.spliced_cons (text rfl (Calls.spliced_nil ⟨by show 2 ≤ sizeLine; decide, ?_⟩))
  refine ⟨_, _, rfl, fun b o e => Heap.get?_push_of_some _ (up b o e), [] ++ ((t :: []) ++ []), ?_, fun b hb => ?_⟩
  · refine Reads.tuple (a := h2.objs.size) (Heap.get?_push_size _ rfl) rfl rfl ?_
    have e : ((its.toArray.size : Nat) : Int) = ((l.length : Nat) : Int) := by rw [List.size_toArray, hl]
    rw [e]
    refine ReadsAll.cons (.int _ _) (ReadsAll.cons ?_ .nil)
    refine Reads.list (Heap.get?_push_of_some _ ht2) rfl rfl ?_
    show ReadsAll _ its ((intsOf l).map PyData.int) []
    exact PyProof.Rows.ReadsAll.keeps (fun b o e => Heap.get?_push_of_some _ (up b o e)) hr
  · have e : b = t := by simpa using hb
    rw [e]
    exact told
end
end RW
set_option Elab.async false
set_option linter.all false
set_option maxRecDepth 100000
set_option maxHeartbeats 2000000
/-! # sorted by the lambda, as an expression -/
namespace RW
open PySem PySem.Spec PyProof.Rows L2
open RC
theorem refs_vals : ∀ {as : List Addr} {its : List Value}, Vals (as.map V.ref) its → its = as.map Value.ref
  | [], _, .nil => rfl
  | a :: as, _, .cons r t => by
    have e : _ = Value.ref a := r
    rw [e, refs_vals t]
    rfl
theorem vals_refs : ∀ as : List Addr, Vals (as.map V.ref) (as.map Value.ref)
  | [] => .nil
  | a :: as => .cons rfl (vals_refs as)
theorem nums_reads {h : Heap} : ∀ {l : List Nat} {its : List Value}, Vals (nV l) its → ReadsAll h its ((intsOf l).map PyData.int) []
  | [], _, .nil => .nil
  | n :: l, _, .cons r t => by
    obtain ⟨tk, rfl⟩ := r
    exact ReadsAll.cons (as := []) (.int _ _) (nums_reads t)
/-- v is a text's object -/
def TextV (H : Hp) (v : Value) (t : List Nat) : Prop := ∃ a, v = .ref a ∧ NL H a t
theorem parts_each {H : Hp} : ∀ {as : List Addr} {ts : List (List Nat)}, PartsX H as ts → PySem.W.EachIs (TextV H) (as.map Value.ref) ts
  | [], [], _ => .nil
  | [], _ :: _, x => absurd x.len (by simp)
  | _ :: _, [], x => absurd x.len (by simp)
  | a :: as, t :: ts, x => by
    obtain ⟨b, h1, h2⟩ := x.each 0 t rfl
    cases h1
    refine .cons ⟨a, rfl, h2⟩ (parts_each ⟨Nat.succ.inj x.len, fun k q hq => ?_⟩)
    exact x.each (k + 1) q hq
theorem each_parts {H : Hp} : ∀ {out : List Value} {ts : List (List Nat)}, PySem.W.EachIs (TextV H) out ts → ∃ as : List Addr, out = as.map Value.ref ∧ PartsX H as ts
  | _, _, .nil => ⟨[], rfl, PartsX.nil⟩
  | _, _, .cons h t => by
    obtain ⟨a, rfl, ha⟩ := h
    obtain ⟨as, rfl, x⟩ := each_parts t
    refine ⟨a :: as, rfl, congrArg (· + 1) x.len, fun k q hq => ?_⟩
    cases k with
    | zero =>
      cases hq
      exact ⟨a, rfl, ha⟩
    | succ k => exact x.each k q hq
theorem lam_nofree : ∀ y ∈ lamSc.names, y.2 ≠ .free := by decide
def tSortLam (T : List (Addr × Str)) (te : TE) : TE := fun σ H Q => te σ H fun x H1 => ∃ l as ts, x = .ref l ∧ H1 l = some (.lst (as.map V.ref)) ∧ PartsX H1 as ts ∧ LamX.Tabs T H1 ∧
  ∀ H2 p as2 ts2, LamX.ExtN H1 H2 → LamX.Tabs T H2 → H2 p = some (.lst (as2.map V.ref)) → PartsX H2 as2 ts2 → ts2.Perm ts → (ts2.Pairwise fun x y => Sd50.sooner x y = true) → Q (.ref p) H2
theorem lst_not_tbl {xs : List V} : ∀ ps, HO.lst xs ≠ .tbl ps := fun _ z => nomatch z
theorem PartsX.ext {H H' : Hp} {as : List Addr} {ps : List (List Nat)} (x : PartsX H as ps) (s : LamX.ExtN H H') : PartsX H' as ps := by
  refine ⟨x.len, fun k q h => ?_⟩
  obtain ⟨a, h1, h2⟩ := x.each k q h
  exact ⟨a, h1, s _ _ h2 lst_not_tbl⟩
theorem args_sorted_key (l f : Addr) : argsOk "sorted" ⟨[.ref l], [(Str.ofString "key", .ref f)]⟩ := by
  unfold argsOk
  kernel_rfl
theorem args_sort_key (l f : Addr) : argsOk "list.sort" ⟨[.ref l], [(Str.ofString "key", .ref f)]⟩ := by
  unfold argsOk
  kernel_rfl
theorem key_depth (t : List Nat) : (keyD t).depth ≤ 2 := by
  unfold keyD
  simp only [PyData.depth, PyData.depthAll, PySem.W.depth_ints]
  decide
section
variable {X : Cx} {T : List (Addr × Str)} {c P : Addr} {e : Expr} {te : TE} {p p1 p2 p3 p4 p5 q1 pos lp kp : Pos} {k j : Nat}
theorem pe_sortLam (TB : LamX.TabB X.base X.mg c P) (hcode : X.env.code = .ref c) (hm : (P, X.env.qual ++ "<lambda>") ∈ T) (hu : ∀ p ∈ T, p.1 = P → p.2 = X.env.qual ++ "<lambda>") (hg : Gl X "sorted") (hs : X.mg "sorted" = none) (bl : X.mg "len" = none) (he : PE X e te) (hr : Room j X.A)
    (hst : starEach [e] X.env = (false, eval e X.env) :: starEach [] X.env := by rfl) :
    PE X (.Call (.Name "sorted" q1) [e] [⟨some "key", .Lambda (lamPs p) (lamB p1 p2 p3 p4 p5 k) lamSc lp, kp⟩] pos) (tSortLam T te) := by
  refine ⟨fun pins s σ H Q I h => ?_⟩
  refine wpAny_Call_Name_kw (ld_blt I hg hs boot_sorted ?_)
  refine PyProof.Rows.callWith_kw ?_ (by rw [hst]; rfl) (by rw [hst]; rfl) rfl rfl
  rw [hst]
  show wpAny _ _ (spliced [(false, eval e X.env)]) _ _ _
  refine Calls.spliced_cons (thn (he.run pins s σ H _ I h) fun u s1 ⟨x, H1, I1, r1, l, as, ts, ex, hl, PX, hT, q⟩ => Calls.spliced_nil ?_)
  subst ex
  have eu : u = Value.ref l := r1
  subst eu
  show wpAny _ _ (evalAll [do let v ← eval (.Lambda (lamPs p) (lamB p1 p2 p3 p4 p5 k) lamSc lp) X.env; standAt pos; pure v]) _ _ _
  refine wpAny_evalAll_cons (wpAny_bind ?_)
  refine LamX.lam_make2 (T := T) I1 TB hcode hm hu hT rfl (fun y hy hf => absurd hf (lam_nofree y hy)) fun f c' pm ctv H2 s2 I2 hE hT2 ho nf _ hc => ?_
  refine wpAny_bind (wpAny_standAt (wpAny_pure (wpAny_evalAll_nil ?_)))
  show wpAny _ _ (call (.builtin "sorted") [.ref l] [(Str.ofString "key", .ref f)]) _ _ _
  have hl2 := hE _ _ hl lst_not_tbl
  have PX2 := PX.ext hE
  obtain ⟨hz, its, n, rv, hob⟩ := I2.hok l _ hl2
  have eits := refs_vals rv
  subst eits
  have hlen : as.length = ts.length := PX2.len
  rw [List.length_map] at hz
  have hcode' : s2.heap.CodeRec (.ref c') (X.env.qual ++ "<lambda>") := by
    obtain ⟨⟨oc, vs, t, e1, e2, e3⟩, _⟩ := I2.hok c' _ hc
    exact ⟨c', oc, vs, t, rfl, e1, e2, e3⟩
  have hclo : cloFrom X.env.cells lamSc.names [] = [] := rfl
  rw [hclo] at ho
  refine SortL.sorted_old (k := keyD) (bs := ts) (R := TextV H2) (vs := as.map Value.ref) ⟨_, hob, rfl, n, rfl⟩ (parts_each PX2) (PySem.W.AllAlike.of alike_key) (PySem.W.Sortable.tuples fun b => ⟨_, _, rfl⟩) (by omega) (fun t _ => ?_) (args_sorted_key l f) (fun x => args_sort_key x f)
    (fun v t hv ht g tk kg => ?_) fun out ep g tk kg hD hol he2 => ?_
  · have h1 := key_depth t
    have h2 := hr.units
    omega
  · obtain ⟨a, rfl, hat⟩ := hv
    obtain ⟨hz2, its, m, rv2, hob2⟩ := I2.hok a _ hat
    have hl3 := rv2.length
    rw [nV_len] at hl3 hz2
    refine lam_run (s := { s2 with heap := g, toks := tk }) (its := its) (n := m) I2.mod (fun b o e => kg b o (I2.bk b o e)) bl (kg _ _ ho) (hcode'.keeps kg) (by have := hr.depth; exact this) (kg _ _ hob2) (PyProof.Rows.ReadsAll.keeps kg (nums_reads rv2)) hl3.symm hz2 ?_
    rw [hob2]
    exact fun z => nomatch z
  · obtain ⟨as2, rfl, PX3⟩ := each_parts he2
    have hlen2 : as2.length = ts.length := by
      rw [List.length_map] at hol
      exact hol
    have np : H2 (s2.heap.objs.size + 1) = none := I2.hok.fresh (Nat.le_succ _)
    have new : Same H2 (upd H2 (s2.heap.objs.size + 1) (.lst (as2.map V.ref))) := Same.new np
    obtain ⟨k1, k2⟩ := key_sorted ts
    refine ⟨.ref (s2.heap.objs.size + 1), upd H2 (s2.heap.objs.size + 1) (.lst (as2.map V.ref)), I2.laid (t' := tk) kg (Nat.le_succ _) ⟨?_, as2.map Value.ref, ep, vals_refs as2, hD⟩, rfl, ?_⟩
    · rw [List.length_map]
      omega
    · exact q _ _ as2 _ (hE.trans (LamX.ExtN.of new)) (hT2.ext new) upd_same (PX3.same new) k1 k2
end
end RW
set_option Elab.async false
set_option linter.all false
set_option maxRecDepth 100000
set_option maxHeartbeats 2000000
/-! # Understanding: rows, longer rows -/
namespace RW
open PySem PySem.Spec PyProof.Rows L2
open RC
open Sd50 (Table Rule Sign)
section
variable {P : Program} {w : World} {K : PySem.W.Frag} {mg : Str → Option Value} {base : Heap} {CR CS CT CO CD CF CP fP : Addr}
theorem sc40 : FnScope ["self", "numbers", "text", "cell_count"] ["self", "numbers", "text", "cell_count"] (defScope (inClass (top 40) 0)) := ⟨rfl, rfl, rfl, by decide +kernel, rfl, by decide +kernel, by decide +kernel⟩
theorem ok_row (F : RawInit K CO "Row.__init__" ["self", "numbers", "text", "cell_count"] (inClass (top 40) 0)) (T : TX K mg CR CS CT CO CD CF) : HasInit P w K mg base CX0 1 CO ["self", "numbers", "text", "cell_count"] (spMk3 CO "numbers" "text" "cell_count") := by
  obtain ⟨f, fd, F, b, M⟩ := F
  refine ⟨f, fd, F.ok sc40 (fun vs H Q E h => ?_) (fun cdv A outer s H vs Q E hr h => ⟨_, pss_cons (ps_fld (pv 0) (pv 1) rfl) (pss_cons (ps_fld (pv 0) (pv 2) rfl) (pss_one (ps_fld (pv 0) (pv 3) rfl))), ?_⟩), b, M⟩
  · obtain ⟨p, dx, x, y, z, rfl, _⟩ := h
    rfl
  · obtain ⟨p, dx, x, y, z, rfl, hp, k⟩ := h
    refine ⟨_, rfl, _, rfl, p, CO, dx, [], rfl, hp, T.clO, T.nOn, (by decide), ?_⟩
    refine ⟨_, rfl, _, rfl, p, CO, dx, _, rfl, upd_same, T.clO, T.nOt, (by show 1 < 1000; decide), ?_⟩
    refine ⟨_, rfl, _, rfl, p, CO, dx, _, rfl, upd_same, T.clO, T.nOc, (by show 2 < 1000; decide), ?_⟩
    show Q .non (upd (upd (upd H p _) p _) p _)
    rw [upd_upd, upd_upd]
    exact k
/-! ### rows in the heap -/
def RowAt (CO : Addr) (H : Hp) (a : Addr) (p : PRow) : Prop := ∃ dx n t, H a = some (.ins CO dx (oF n t p.count)) ∧ NL H n p.nums ∧ NL H t p.text
theorem RowAt.same {H H' : Hp} {a : Addr} {p : PRow} (x : RowAt CO H a p) (s : Same H H') : RowAt CO H' a p := by
  obtain ⟨dx, n, t, h1, h2, h3⟩ := x
  exact ⟨dx, n, t, s _ _ h1, s _ _ h2, s _ _ h3⟩
structure RowsX (CO : Addr) (H : Hp) (as : List Addr) (ps : List PRow) : Prop where
  len : as.length = ps.length
  each : ∀ (k : Nat) (q : PRow), ps[k]? = some q → ∃ a, as[k]? = some a ∧ RowAt CO H a q
theorem RowsX.same {H H' : Hp} {as : List Addr} {ps : List PRow} (x : RowsX CO H as ps) (s : Same H H') : RowsX CO H' as ps := by
  refine ⟨x.len, fun k q h => ?_⟩
  obtain ⟨a, h1, h2⟩ := x.each k q h
  exact ⟨a, h1, h2.same s⟩
theorem RowsX.nil {H : Hp} : RowsX CO H [] [] := ⟨rfl, fun k q h => by simp at h⟩
theorem RowsX.app {H : Hp} {as bs : List Addr} {ps qs : List PRow} (x : RowsX CO H as ps) (y : RowsX CO H bs qs) : RowsX CO H (as ++ bs) (ps ++ qs) := by
  refine ⟨by rw [List.length_append, List.length_append, x.len, y.len], fun k q hq => ?_⟩
  by_cases c : k < ps.length
  · rw [List.getElem?_append_left c] at hq
    obtain ⟨b, h1, h2⟩ := x.each k q hq
    exact ⟨b, by rw [List.getElem?_append_left (by rw [x.len]; exact c)]; exact h1, h2⟩
  · rw [List.getElem?_append_right (by omega)] at hq
    obtain ⟨b, h1, h2⟩ := y.each _ q hq
    exact ⟨b, by rw [List.getElem?_append_right (by rw [x.len]; omega), x.len]; exact h1, h2⟩
theorem RowsX.one {H : Hp} {a : Addr} {p : PRow} (h : RowAt CO H a p) : RowsX CO H [a] [p] := by
  refine ⟨rfl, fun k q hq => ?_⟩
  cases k with
  | zero =>
    cases hq
    exact ⟨a, rfl, h⟩
  | succ k => simp at hq
/-- rows of a rule at least -/
def Full (ps : List PRow) : Prop := ∀ p ∈ ps, p.nums ≠ [] ∧ p.text ≠ []
theorem nV_not_refs {l : List Nat} (h : l ≠ []) (cs : List Addr) : HO.lst (nV l) ≠ HO.lst (cs.map V.ref) := by
  intro e
  have e := HO.lst.inj e
  cases l with
  | nil => exact h rfl
  | cons n r =>
    cases cs with
    | nil => cases e
    | cons c cs =>
      have := (List.cons.inj e).1
      cases this
theorem RowAt.put {H : Hp} {a : Addr} {p : PRow} (x : RowAt CO H a p) (h1 : p.nums ≠ []) (h2 : p.text ≠ []) {b : Addr} {cs : List Addr} (hb : H b = some (.lst (cs.map V.ref))) (o : HO) : RowAt CO (upd H b o) a p := by
  obtain ⟨dx, n, t, e1, e2, e3⟩ := x
  exact ⟨dx, n, t, (upd_ne (ne_of e1 hb (fun z => nomatch z))).trans e1, (upd_ne (ne_of e2 hb (nV_not_refs h1 cs))).trans e2, (upd_ne (ne_of e3 hb (nV_not_refs h2 cs))).trans e3⟩
theorem RowsX.put {H : Hp} {as : List Addr} {ps : List PRow} (x : RowsX CO H as ps) (F : Full ps) {b : Addr} {cs : List Addr} (hb : H b = some (.lst (cs.map V.ref))) (o : HO) : RowsX CO (upd H b o) as ps := by
  refine ⟨x.len, fun k q hq => ?_⟩
  obtain ⟨a, h1, h2⟩ := x.each k q hq
  obtain ⟨f1, f2⟩ := F q (List.mem_of_getElem? hq)
  exact ⟨a, h1, h2.put f1 f2 hb o⟩
theorem longer_full {T : Table} (G : Good T) {cells : List Nat} {p : PRow} (n : Nat) : Full (longerN T cells p n) := by
  intro q hq
  unfold longerN at hq
  obtain ⟨k, _, h⟩ := List.mem_filterMap.mp hq
  obtain ⟨r, hr, _, _, rfl⟩ := ext_of h
  have := (G.at hr).ne
  exact ⟨by simp, by simp [this]⟩
/-! ### longer rows -/
theorem prev_app (a b : List Nat) : prevAt (a ++ b) a.length = a.getLast? := by
  rw [← prev_take (x := a ++ b) (i := a.length) (by rw [List.length_append]; omega), List.take_left]
theorem signs_app {T : Table} (a b : List Nat) : signsOn T (a ++ b) a.length = Sd50.signsAt T a.getLast? b := by
  unfold signsOn
  rw [prev_app, List.drop_left]
theorem longer_len {T : Table} {cells : List Nat} {p : PRow} (n : Nat) : (longerN T cells p n).length ≤ n := by
  unfold longerN
  have := List.length_filterMap_le (ext T cells p) (List.range n)
  rw [List.length_range] at this
  exact this
def spLonger (CR CS CT CO : Addr) : Sp := fun vs H Q _ => ∃ (a r c : Addr) (T : Table) (p : PRow) (cells : List Nat), vs = [.ref a, .ref r, .ref c] ∧ TabAt CR CS CT H a T ∧ Good T ∧ RowAt CO H r p ∧ NL H c cells ∧ p.nums.length ≤ 1000 ∧ p.text.length ≤ 256 ∧
  ∀ H' q as, Same H H' → H q = none → H' q = some (.lst (as.map V.ref)) → RowsX CO H' as (longer T cells p) → Q (.ref q) H'
theorem sc41 : FnScope ["table", "row", "cells", "rows", "number", "rule", "text", "added", "end"] ["table", "row", "cells"] (defScope (top 41)) := ⟨rfl, rfl, rfl, by decide +kernel, rfl, by decide +kernel, by decide +kernel⟩
theorem ok_longer (F : RawFn K mg "longer_rows" ["table", "row", "cells"] (top 41)) (T : TX K mg CR CS CT CO CD CF) (GS : HasMeth P w K mg base CX0 1 CT "sign_cells" ["self", "text", "place"] (spSigns CR CS CT))
    (MO : HasInit P w K mg base CX0 1 CO ["self", "numbers", "text", "cell_count"] (spMk3 CO "numbers" "text" "cell_count")) : HasFn P w K mg base CX0 3 "longer_rows" ["table", "row", "cells"] (spLonger CR CS CT CO) := by
  obtain ⟨f, fd, F, b, gf⟩ := F
  obtain ⟨g, gd, G, gb, GM⟩ := GS
  obtain ⟨mo, mod, MO, mob, MOk⟩ := MO
  refine ⟨f, fd, F.ok sc41 (fun vs H Q E h => ?_) (fun cdv A outer s H vs Q E hr h => ⟨_, pss_cons (ps_set (i := 3) sc41.nd rfl (.inl rfl) (pe_lst pa_nil))
    (pss_cons (ps_for PassesOwn.never rfl (pi_enum (by rfl) T.bEnum (pa_cons (pe_fld (pv 0) rfl) pa_nil)) (pg_tup rfl (pgs_cons (pg_name (i := 4) sc41.nd rfl (.inl rfl)) (pgs_cons (pg_name (i := 5) sc41.nd rfl (.inl rfl)) pgs_nil)))
      (pss_cons (ps_set (i := 6) sc41.nd rfl (.inl rfl) (pe_op op_cat (pe_fld (pv 1) rfl) (pe_fld (pv 5) rfl)))
      (pss_cons (ps_set (i := 7) sc41.nd rfl (.inl rfl) (pe_op op_cat (pe_meth (pv 0) T.clT GM G (hr.mono (by decide)) gb .nil pass0 (pa_cons (pv 6) (pa_cons (pe_callB call_len_seq (by rfl) T.bLen PySem.boot_len (pa_cons (pe_fld (pv 1) rfl) pa_nil)) pa_nil))) (pe_fld (pv 5) rfl)))
      (pss_cons (ps_set (i := 8) sc41.nd rfl (.inl rfl) (pe_op op_add (pe_fld (pv 1) rfl) (pe_callB call_len_seq (by rfl) T.bLen PySem.boot_len (pa_cons (pv 7) pa_nil))))
      (pss_one (ps_if (PW.pt (pw_and (pt_cmpR (op_eqD hr.units) (pe_slice sl_list (pv 2) (po_some (pe_fld (pv 1) rfl)) (po_some (pv 8))) (pv 7) (nomark _)) (pw_and1 (pt_cmpR op_le (pe_callB call_len_seq (by rfl) T.bLen PySem.boot_len (pa_cons (pv 6) pa_nil)) (pe_kn T.cLT) (nomark _)))))
        (pss_one (ps_expr (pe_bm PySem.F.plainAttrs_list PySem.F.slot_list_append PySem.F.type_list_append mt_append (pv 3)
          (pa_cons (pe_make MOk MO hr rfl T.gO mob .nil pass0 (pa_cons (pe_op op_cat (pe_fld (pv 1) rfl) (pe_lst (pa_cons (pv 4) pa_nil))) (pa_cons (pv 6) (pa_cons (pv 8) pa_nil)))) pa_nil)))) pss_nil))))))
    (pss_one (ps_ret (pv 3)))), ?_⟩), b, gf, F.kp⟩
  · obtain ⟨a, r, c, T, p, cells, rfl, _⟩ := h
    rfl
  · obtain ⟨a, rr, c, Tb, p, cells, rfl, TA, GT, RA, hc, hn1, ht1, k⟩ := h
    obtain ⟨le, ru, sg, as, bs, X⟩ := id TA
    obtain ⟨dx, hob⟩ := X.ob
    obtain ⟨ox, on, ot, ho, hon, hot⟩ := RA
    refine ⟨Nat.zero_le _, fun q nq => ?_⟩
    have s1 : Same H (upd H q (.lst [])) := Same.new nq
    refine ⟨_, rfl, a, CT, dx, _, _, rfl, s1 _ _ hob, T.clT, T.nTr, tF_r, ru, _, rfl, SqL.of (s1 _ _ X.rl), ?_⟩
    refine for_it (walk_enum (K := K) (a := ru) (xs := as.map V.ref)) (fun j σ H' => ∃ (cs : List Addr) (u v x y z : Option V), σ = [some (.ref a), some (.ref rr), some (.ref c), some (.ref q), u, v, x, y, z] ∧ Same H H' ∧ H' q = some (.lst (cs.map V.ref)) ∧ RowsX CO H' cs (longerN Tb cells p j))
      ⟨[], none, none, none, none, none, rfl, s1, upd_same, RowsX.nil⟩ ?_ ?_ ?_
    · rintro j σ H' _ ⟨_, _, _, _, _, _, _, s2, _⟩
      exact SqL.of (s2 _ _ X.rl)
    · rintro j y0 σ H' H'' hj ⟨cs, u, v, x, y, z, rfl, s2, hq, RX⟩ ⟨tp, n1, y1, rfl, ntp, rfl, e1, hy⟩
      cases e1
      obtain ⟨R, r, rt, rc, rfl, hR, RR⟩ := X.rule_of hy
      obtain ⟨rx, hrx⟩ := RR.ob
      have hjl : j < 64 := GT.lt hR
      have hstep := longerN_succ (T := Tb) (cells := cells) (p := p) (n := j)
      have s3 : Same H' (upd H' tp (.tup [.int (j : Nat), .ref r])) := Same.new ntp
      have s13 := s2.trans s3
      have gR := GT.at hR
      refine ⟨tp, _, rfl, SqT.of upd_same, rfl, _, _, rfl, _, _, rfl, rfl, ?_⟩
      refine ⟨_, rfl, rr, CO, ox, _, _, rfl, s13 _ _ ho, T.clO, T.nOt, oF_t, _, rfl, r, CR, rx, _, _, rfl, s13 _ _ hrx, T.clR, T.nRt, rF_t, ot, rt, _, _, rfl, rfl, s13 _ _ hot, s13 _ _ RR.tx, ?_, fun tx ntx => ?_⟩
      · rw [nV_len, nV_len]
        have := gR.len
        exact smallK (by omega)
      rw [nV_app]
      have s4 := s3.trans (Same.new (o := .lst (nV (p.text ++ R.text))) ntx)
      have s14 := s2.trans s4
      have htx : upd (upd H' tp (.tup [.int (j : Nat), .ref r])) tx (.lst (nV (p.text ++ R.text))) tx = some (.lst (nV (p.text ++ R.text))) := upd_same
      generalize upd (upd H' tp (.tup [.int (j : Nat), .ref r])) tx (.lst (nV (p.text ++ R.text))) = H4 at s4 s14 htx
      refine ⟨_, rfl, a, dx, _, rfl, s14 _ _ hob, tF_no (by decide +kernel) (by decide +kernel) (by decide +kernel), _, rfl, _, rfl, rr, CO, ox, _, _, rfl, s14 _ _ ho, T.clO, T.nOt, oF_t, ot, _, rfl, .inl (SqL.of (s14 _ _ hot)), ?_⟩
      have hpos := gR.pos
      refine ⟨a, tx, Tb, p.text ++ R.text, p.text.length, by rw [nV_len]; rfl, TA.same s14, GT, htx, (by rw [List.length_append]; omega), fun H5 sgn ss nsg hsg => ?_⟩
      rw [signs_app] at hsg
      have s15 := s14.trans ss
      have s45 := s4.trans ss
      have hsl := signs_len GT p.text.getLast? R.text
      have hcl := gR.clen
      refine ⟨_, rfl, r, CR, rx, _, _, rfl, s15 _ _ hrx, T.clR, T.nRc, rF_c, sgn, rc, _, _, rfl, rfl, hsg, s15 _ _ RR.ce, ?_, fun ad nad => ?_⟩
      · rw [nV_len, nV_len]
        exact small16 hsl hcl
      rw [nV_app]
      have had0 : addedBy Tb p.text R = Sd50.signsAt Tb p.text.getLast? R.text ++ R.cells := rfl
      rw [← had0]
      have s6 := s45.trans (Same.new (o := .lst (nV (addedBy Tb p.text R))) nad)
      have htx6 : upd H5 ad (.lst (nV (addedBy Tb p.text R))) tx = some (.lst (nV (p.text ++ R.text))) := (ss.trans (Same.new nad)) _ _ htx
      have had : upd H5 ad (.lst (nV (addedBy Tb p.text R))) ad = some (.lst (nV (addedBy Tb p.text R))) := upd_same
      generalize upd H5 ad (.lst (nV (addedBy Tb p.text R))) = H6 at s6 htx6 had
      have s16 := s2.trans s6
      refine ⟨_, rfl, rr, CO, ox, _, _, rfl, s16 _ _ ho, T.clO, T.nOc, oF_c, _, rfl, ad, _, rfl, .inl (SqL.of had), _, _, rfl, rfl, ?_⟩
      rw [nV_len]
      refine ⟨_, rfl, _, rfl, rr, CO, ox, _, _, rfl, s16 _ _ ho, T.clO, T.nOc, oF_c, _, rfl, _, rfl, _, rfl, c, _, rfl, SqL.of (s16 _ _ hc), fun sl nsl => ?_⟩
      have ecut : cutV (nV cells) (some ((p.count : Nat) : Int)) (some (((p.count : Nat) : Int) + (((addedBy Tb p.text R).length : Nat) : Int))) = nV ((cells.drop p.count).take (addedBy Tb p.text R).length) := cut_nV cells p.count _
      rw [ecut]
      have s7 := Same.new (o := .lst (nV ((cells.drop p.count).take (addedBy Tb p.text R).length))) nsl
      have hsl7 : upd H6 sl (.lst (nV ((cells.drop p.count).take (addedBy Tb p.text R).length))) sl = some (.lst (nV ((cells.drop p.count).take (addedBy Tb p.text R).length))) := upd_same
      generalize upd H6 sl (.lst (nV ((cells.drop p.count).take (addedBy Tb p.text R).length))) = H7 at s7 hsl7
      have s67 := s6.trans s7
      have s17 := s2.trans s67
      have RX7 := RX.same s67
      have hq7 := s67 _ _ hq
      refine ⟨_, rfl, nD _, nD _, dp_nV (SqL.of hsl7), dp_nV (SqL.of (s7 _ _ had)), nD_shaped _, nD_shaped _, ?_⟩
      rw [nD_eqv]
      have no : ¬ ((cells.drop p.count).take (addedBy Tb p.text R).length = addedBy Tb p.text R ∧ (p.text ++ R.text).length ≤ 256) → longerN Tb cells p (j + 1) = longerN Tb cells p j := fun hn => by
        rw [hstep]
        unfold ext
        rw [hR]
        dsimp only
        rw [if_neg hn]
        exact List.append_nil _
      refine ⟨_, rfl, ?_⟩
      by_cases c1 : (cells.drop p.count).take (addedBy Tb p.text R).length = addedBy Tb p.text R
      · refine if_true_of (decide_eq_true c1) ?_
        refine ⟨_, rfl, tx, _, rfl, .inl (SqL.of (s7 _ _ htx6)), _, _, rfl, rfl, _, rfl, ?_⟩
        rw [nV_len]
        by_cases c2 : (p.text ++ R.text).length ≤ 256
        · refine if_true_of (decide_eq_true (by omega)) ?_
          have hst : longerN Tb cells p (j + 1) = longerN Tb cells p j ++ [⟨p.nums ++ [j], p.text ++ R.text, p.count + (addedBy Tb p.text R).length⟩] := by
            rw [hstep]
            unfold ext
            rw [hR]
            dsimp only
            rw [if_pos ⟨c1, c2⟩]
            rfl
          refine ⟨_, rfl, .inl ⟨rfl, _, SqL.of hq7⟩, ?_⟩
          refine ⟨_, rfl, rr, CO, ox, _, _, rfl, s17 _ _ ho, T.clO, T.nOn, oF_n, _, rfl, (by show 1 ≤ sizeLine; decide), fun o1 no1 => ?_⟩
          have s8 := Same.new (o := .lst [V.int (j : Nat)]) no1
          refine ⟨on, o1, _, _, rfl, rfl, (s17.trans s8) _ _ hon, upd_same, ?_, fun nn nnn => ?_⟩
          · rw [nV_len]
            exact smallK (by show p.nums.length + 1 ≤ 10000; omega)
          have e9 : nV p.nums ++ [V.int ((j : Nat) : Int)] = nV (p.nums ++ [j]) := nV_snoc _ _
          rw [e9]
          have s9 := s8.trans (Same.new (o := .lst (nV (p.nums ++ [j]))) nnn)
          have hnn : upd (upd H7 o1 (.lst [V.int (j : Nat)])) nn (.lst (nV (p.nums ++ [j]))) nn = some (.lst (nV (p.nums ++ [j]))) := upd_same
          generalize upd (upd H7 o1 (.lst [V.int (j : Nat)])) nn (.lst (nV (p.nums ++ [j]))) = H9 at s9 hnn
          refine ⟨_, rfl, _, rfl, ?_⟩
          intro nr ndx xn xd xe
          refine ⟨nr, ndx, .ref nn, .ref tx, .int ((p.count : Nat) + ((addedBy Tb p.text R).length : Nat)), rfl, upd_same, rfl, ?_⟩
          rw [upd_upd]
          have s10 : Same H9 (upd (upd H9 ndx (.own nr)) nr (.ins CO ndx [("numbers", .ref nn), ("text", .ref tx), ("cell_count", .int ((p.count : Nat) + ((addedBy Tb p.text R).length : Nat)))])) := by
            intro b o e
            rw [upd_ne (ne_of_none e xn), upd_ne (ne_of_none e xd)]
            exact e
          have hnr : RowAt CO (upd (upd H9 ndx (.own nr)) nr (.ins CO ndx [("numbers", .ref nn), ("text", .ref tx), ("cell_count", .int ((p.count : Nat) + ((addedBy Tb p.text R).length : Nat)))])) nr ⟨p.nums ++ [j], p.text ++ R.text, p.count + (addedBy Tb p.text R).length⟩ :=
            ⟨ndx, nn, tx, upd_same, s10 _ _ hnn, s10 _ _ (s9 _ _ (s7 _ _ htx6))⟩
          have s70 := s9.trans s10
          generalize upd (upd H9 ndx (.own nr)) nr (.ins CO ndx [("numbers", .ref nn), ("text", .ref tx), ("cell_count", .int ((p.count : Nat) + ((addedBy Tb p.text R).length : Nat)))]) = H10 at s70 hnr
          refine ⟨q, _, _, rfl, rfl, s70 _ _ hq7, ?_, ?_⟩
          · rw [List.length_map, RX.len]
            have := longer_len (T := Tb) (cells := cells) (p := p) j
            exact line5000 (by omega)
          have eq1 : cs.map V.ref ++ [V.ref nr] = (cs ++ [nr]).map V.ref := by rw [List.map_append]; rfl
          rw [eq1]
          have s11 := s17.trans s70
          have all := (RX7.same s70).app (RowsX.one hnr)
          rw [← hst] at all
          refine ⟨cs ++ [nr], _, _, _, _, _, rfl, ?_, upd_same, all.put (longer_full GT _) (s70 _ _ hq7) _⟩
          intro b o e
          rw [upd_ne (ne_of_none e nq)]
          exact s11 b o e
        · refine if_false_of (decide_eq_false (by omega)) ?_
          refine ⟨cs, _, _, _, _, _, rfl, s17, hq7, ?_⟩
          rw [no fun z => c2 z.2]
          exact RX7
      · refine if_false_of (decide_eq_false c1) ?_
        refine ⟨cs, _, _, _, _, _, rfl, s17, hq7, ?_⟩
        rw [no fun z => c1 z.1]
        exact RX7
    · rintro σ H' ⟨cs, u, v, x, y, z, rfl, s2, hq, RX⟩
      rw [List.length_map, X.ra] at RX
      exact ⟨_, rfl, k H' q cs s2 nq hq RX⟩
end
end RW
set_option Elab.async false
set_option linter.all false
set_option maxRecDepth 100000
set_option maxHeartbeats 4000000
/-! # Understanding: is it the longest row; all texts -/
namespace RW
open PySem PySem.Spec PyProof.Rows L2
open RC
open Sd50 (Table Rule Sign)
section
variable {P : Program} {w : World} {K : PySem.W.Frag} {mg : Str → Option Value} {base : Heap} {CR CS CT CO CD CF CP fP : Addr}
def spIsBy (CR CS CT CO : Addr) : Sp := fun vs H Q _ => ∃ (a r : Addr) (T : Table) (p : PRow), vs = [.ref a, .ref r] ∧ TabAt CR CS CT H a T ∧ Good T ∧ RowAt CO H r p ∧ p.text.length ≤ 256 ∧ ∀ H', Same H H' → Q (.bl (found T p)) H'
theorem sc42 : FnScope ["table", "row"] ["table", "row"] (defScope (top 42)) := ⟨rfl, rfl, rfl, by decide +kernel, rfl, by decide +kernel, by decide +kernel⟩
theorem ok_is_by (F : RawFn K mg "is_by_longest" ["table", "row"] (top 42)) (T : TX K mg CR CS CT CO CD CF) (TP : PySem.PlErr.Txt K mg CP fP)
    (GL : HasFn P w K mg base (L2.CX P w) 5 "rules_by_longest" ["table", "text"] (spByLongest CR CS CT CP)) : HasFn P w K mg base CX0 6 "is_by_longest" ["table", "row"] (spIsBy CR CS CT CO) := by
  obtain ⟨f, fd, F, b, gf⟩ := F
  obtain ⟨g, gd, G, gb, gg, gk⟩ := GL
  refine ⟨f, fd, F.ok sc42 (fun vs H Q E h => ?_) (fun cdv A outer s H vs Q E hr h => ⟨_, pss_one (ps_try_only (tb := fun W => tRet (tOp (rEqD K) (tCallS (spByLongest CR CS CT CP) (fun σ => WE W σ) (tCons (tVar 0) (tCons (tFld K (tVar 1) "text") tNil))) (tFld K (tVar 1) "numbers"))) (ts := fun _ _ _ => tRet (tC (.bl false))) (Wout := fun _ _ _ _ => False)
      rfl rfl ⟨rfl, by decide, Or.inl TP.gC⟩ takes0
      (fun W pn xe tk _ => pss_one (ps_ret (pe_cmpR (op_eqD hr.units) (pe_callS (E := fun σ => WE W σ) G hr rfl gg gk gb (fun σ => passAt tk σ) (pa_cons (pv 0) (pa_cons (pe_fld (pv 1) rfl) pa_nil))) (pe_fld (pv 1) rfl) (nomark _))))
      (fun _ _ _ _ _ _ _ => pss_one (ps_ret pe_bl))), ?_⟩), b, gf, F.kp⟩
  · obtain ⟨a, r, T, p, rfl, _⟩ := h
    rfl
  · obtain ⟨a, r, Tb, p, rfl, TA, GT, RA, hx, k⟩ := h
    obtain ⟨ox, on, ot, ho, hon, hot⟩ := RA
    refine ⟨_, rfl, _, rfl, r, CO, ox, _, _, rfl, ho, T.clO, T.nOt, oF_t, ?_⟩
    refine ⟨a, ot, Tb, p.text, rfl, TA, GT, hot, hx, fun l hl H2 q s2 nq hq => ?_, fun n hn H2 d s2 nd hd => ?_⟩
    · refine ⟨_, rfl, r, CO, ox, _, _, rfl, s2 _ _ ho, T.clO, T.nOn, oF_n, nD l, nD p.nums, dp_nV (SqL.of hq), dp_nV (SqL.of (s2 _ _ hon)), nD_shaped _, nD_shaped _, ?_⟩
      rw [nD_eqv]
      have e : found Tb p = decide (l = p.nums) := by
        unfold found
        rw [hl]
      rw [← e]
      exact k _ s2
    · refine ⟨true, TP.te, fun _ _ _ => ?_, fun z => Bool.noConfusion z⟩
      have e : found Tb p = false := by
        unfold found
        rw [hn]
      have := k _ s2
      rw [e] at this
      exact this
/-! ### rows apart from some lists -/
def RowA (CO : Addr) (no : List Addr) (H : Hp) (a : Addr) (p : PRow) : Prop := ∃ dx n t, H a = some (.ins CO dx (oF n t p.count)) ∧ NL H n p.nums ∧ NL H t p.text ∧ n ∉ no ∧ t ∉ no
structure RowsA (CO : Addr) (no : List Addr) (H : Hp) (as : List Addr) (ps : List PRow) : Prop where
  len : as.length = ps.length
  each : ∀ (k : Nat) (q : PRow), ps[k]? = some q → ∃ a, as[k]? = some a ∧ RowA CO no H a q
theorem RowA.at {no : List Addr} {H : Hp} {a : Addr} {p : PRow} (x : RowA CO no H a p) : RowAt CO H a p := by
  obtain ⟨dx, n, t, h1, h2, h3, _⟩ := x
  exact ⟨dx, n, t, h1, h2, h3⟩
theorem RowsA.same {no : List Addr} {H H' : Hp} {as : List Addr} {ps : List PRow} (x : RowsA CO no H as ps) (s : Same H H') : RowsA CO no H' as ps := by
  refine ⟨x.len, fun k q h => ?_⟩
  obtain ⟨a, h1, dx, n, t, e1, e2, e3, n1, n2⟩ := x.each k q h
  exact ⟨a, h1, dx, n, t, s _ _ e1, s _ _ e2, s _ _ e3, n1, n2⟩
theorem RowsA.more {no : List Addr} {H : Hp} {as : List Addr} {ps : List PRow} (x : RowsA CO no H as ps) {b : Addr} (hb : H b = none) : RowsA CO (b :: no) H as ps := by
  refine ⟨x.len, fun k q h => ?_⟩
  obtain ⟨a, h1, dx, n, t, e1, e2, e3, n1, n2⟩ := x.each k q h
  refine ⟨a, h1, dx, n, t, e1, e2, e3, fun hm => ?_, fun hm => ?_⟩
  · rcases List.mem_cons.mp hm with rfl | hm
    · rw [e2] at hb
      cases hb
    · exact n1 hm
  · rcases List.mem_cons.mp hm with rfl | hm
    · rw [e3] at hb
      cases hb
    · exact n2 hm
theorem RowsA.put {no : List Addr} {H : Hp} {as : List Addr} {ps : List PRow} (x : RowsA CO no H as ps) {b : Addr} {xs : List V} (hb : H b = some (.lst xs)) (hm : b ∈ no) (o : HO) : RowsA CO no (upd H b o) as ps := by
  refine ⟨x.len, fun k q h => ?_⟩
  obtain ⟨a, h1, dx, n, t, e1, e2, e3, n1, n2⟩ := x.each k q h
  exact ⟨a, h1, dx, n, t, (upd_ne (ne_of e1 hb (fun z => nomatch z))).trans e1, (upd_ne fun e => n1 (by rw [e]; exact hm)).trans e2, (upd_ne fun e => n2 (by rw [e]; exact hm)).trans e3, n1, n2⟩
theorem RowsX.apart {H : Hp} {as : List Addr} {ps : List PRow} (x : RowsX CO H as ps) (F : Full ps) {b : Addr} {cs : List Addr} (hb : H b = some (.lst (cs.map V.ref))) : RowsA CO [b] H as ps := by
  refine ⟨x.len, fun k q h => ?_⟩
  obtain ⟨a, h1, dx, n, t, e1, e2, e3⟩ := x.each k q h
  obtain ⟨f1, f2⟩ := F q (List.mem_of_getElem? h)
  exact ⟨a, h1, dx, n, t, e1, e2, e3, fun hm => (ne_of e2 hb (nV_not_refs f1 cs)) (List.mem_singleton.mp hm), fun hm => (ne_of e3 hb (nV_not_refs f2 cs)) (List.mem_singleton.mp hm)⟩
theorem told_snoc {T : Table} {cells : List Nat} (l : List PRow) (p : PRow) : told T cells (l ++ [p]) = told T cells l ++ if (done cells p && found T p) = true then [p.text] else [] := by
  unfold told
  rw [List.filter_append, List.map_append, List.filter_cons]
  congr 1
  split <;> rfl
theorem told_len {T : Table} {cells : List Nat} (l : List PRow) : (told T cells l).length ≤ l.length := by
  unfold told
  rw [List.length_map]
  exact List.length_filter_le _ _
/-- the rows to come from the first rows of a level -/
def onw (T : Table) (cells : List Nat) (l : List PRow) : List PRow := (l.filter fun p => !done cells p).flatMap (longer T cells)
theorem onw_snoc {T : Table} {cells : List Nat} (l : List PRow) (p : PRow) : onw T cells (l ++ [p]) = onw T cells l ++ if done cells p = true then [] else longer T cells p := by
  unfold onw
  rw [List.filter_append, List.flatMap_append, List.filter_cons]
  congr 1
  cases done cells p <;> simp
theorem onw_full {T : Table} (G : Good T) {cells : List Nat} (l : List PRow) : Full (onw T cells l) := by
  intro q hq
  obtain ⟨p, _, h⟩ := List.mem_flatMap.mp hq
  exact longer_full G _ q h
theorem onw_len {T : Table} (G : Good T) {cells : List Nat} : ∀ l : List PRow, (onw T cells l).length ≤ 64 * l.length
  | [] => Nat.le_refl _
  | p :: l => by
    have ih := onw_len G (cells := cells) l
    have h1 : (longer T cells p).length ≤ 64 := Nat.le_trans (longer_len _) G.nr
    have e : onw T cells (p :: l) = (if done cells p = true then [] else longer T cells p) ++ onw T cells l := by
      unfold onw
      rw [List.filter_cons]
      cases done cells p <;> simp
    rw [e, List.length_append, List.length_cons]
    split
    · show 0 + _ ≤ _
      omega
    · omega
theorem line_big {n : Nat} (h : n ≤ 1000000) : n < sizeLine := Nat.lt_of_le_of_lt h (by decide)
/-! ### a def whose code object is known -/
theorem fun_okC {x qual : Str} {st : Stmt} {f : Addr} {fd : FuncData} {N ps : List Str} {k : Nat} {sp : Sp} {c : Addr} (F : Fun K x qual st f fd) (hc : fd.code = .ref c) (S : FnScope N ps (defScope st)) (len : ∀ vs H Q E, sp vs H Q E → vs.length = ps.length)
    (hbody : ∀ (A : Around) (outer : List Env) (s : Shared) (H : Hp) (vs : List V) (Q : VK) (E : XK), Room k (A.deeper (envOfC qual (defScope st) s.heap.objs.size f (.ref c))) → sp vs H Q E →
      ∃ t, PSs (cxOf CX0 P w K mg base N qual (defScope st) f (.ref c) A outer s H E).nox (defBody st) t ∧ t { nx := fun _ H' => Q .non H', rt := Q } (start N vs) H) : FnOk P w K mg base CX0 (k + 1) f fd ps sp := by
  obtain ⟨oc, od, kV, doc, pm, an, cdv, ct, osl, rfl, lk, hcd⟩ := F.ex
  have hc : cdv = .ref c := hc
  subst hc
  refine fn_of lk hcd S len fun A outer s H vs Q E hr hsp => ?_
  obtain ⟨t, h, q⟩ := hbody A outer s H vs Q E hr hsp
  exact ⟨t, h.nox, q⟩
/-- the key's qualified name -/
def qL : Str := ("texts_of" : Str) ++ ".<locals>." ++ "<lambda>"
def tabsL (P : Addr) : List (Addr × Str) := [(P, qL)]
def spTexts (CR CS CT PT : Addr) : Sp := fun vs H Q _ => ∃ (a c : Addr) (T : Table) (cells : List Nat), vs = [.ref a, .ref c] ∧ TabAt CR CS CT H a T ∧ Good T ∧ NL H c cells ∧ cells.length ≤ 64 ∧ Sd50Neutral.fewRows T cells.length [([], cells)] = true ∧ LamX.Tabs (tabsL PT) H ∧
  ∀ H' p as, LamX.ExtN H H' → LamX.Tabs (tabsL PT) H' → H' p = some (.lst (as.map V.ref)) → PartsX H' as (Sd50.sources T cells) → Q (.ref p) H'
end
end RW
set_option Elab.async false
set_option linter.all false
set_option maxRecDepth 100000
set_option maxHeartbeats 4000000
/-! # Understanding: all texts, walked -/
namespace RW
open PySem PySem.Spec PyProof.Rows L2
open RC
open Sd50 (Table Rule Sign)
section
variable {P : Program} {w : World} {K : PySem.W.Frag} {mg : Str → Option Value} {base : Heap} {CR CS CT CO CD CF CP fP : Addr}
theorem sc43 : FnScope ["table", "cells", "rows", "texts", "longer", "row"] ["table", "cells"] (defScope (top 43)) := ⟨rfl, rfl, rfl, by decide +kernel, rfl, by decide +kernel, by decide +kernel⟩
theorem RowsX.bare {H : Hp} {as : List Addr} {ps : List PRow} (x : RowsX CO H as ps) : RowsA CO [] H as ps := by
  refine ⟨x.len, fun k q h => ?_⟩
  obtain ⟨a, h1, dx, n, t, e1, e2, e3⟩ := x.each k q h
  exact ⟨a, h1, dx, n, t, e1, e2, e3, List.not_mem_nil, List.not_mem_nil⟩
/-- between two levels -/
def TxInv (CO : Addr) (H : Hp) (Tb : Table) (cells : List Nat) (a c tl : Addr) (m : Nat) (σ : L2.St) (H' : Hp) : Prop := ∃ (d : Nat) (rl : Addr) (as ts : List Addr) (u v : Option V), m = cells.length + 1 - d ∧ d ≤ cells.length + 1 ∧
  σ = [some (.ref a), some (.ref c), some (.ref rl), some (.ref tl), u, v] ∧ Same H H' ∧ H' rl = some (.lst (as.map V.ref)) ∧ rl ≠ tl ∧ RowsA CO [tl] H' as (level Tb cells d) ∧ H' tl = some (.lst (ts.map V.ref)) ∧ PartsX H' ts (textsUpTo Tb cells d) ∧ tl ∉ ts
/-- within a level, behind j rows -/
def TxIn (CO : Addr) (H : Hp) (Tb : Table) (cells : List Nat) (a c rl tl lg : Addr) (d : Nat) (as : List Addr) (j : Nat) (σ : L2.St) (H' : Hp) : Prop := ∃ (ts gs : List Addr) (v : Option V), σ = [some (.ref a), some (.ref c), some (.ref rl), some (.ref tl), some (.ref lg), v] ∧
  Same H H' ∧ H' rl = some (.lst (as.map V.ref)) ∧ RowsA CO [lg, tl] H' as (level Tb cells d) ∧ H' tl = some (.lst (ts.map V.ref)) ∧ PartsX H' ts (textsUpTo Tb cells d ++ told Tb cells ((level Tb cells d).take j)) ∧ tl ∉ ts ∧ lg ∉ ts ∧ H' lg = some (.lst (gs.map V.ref)) ∧
  RowsX CO H' gs (onw Tb cells ((level Tb cells d).take j))
/-- texts_of stands with its code object -/
def RawTexts (K : PySem.W.Frag) (mg : Str → Option Value) (base : Heap) (PT : Addr) : Prop := ∃ (f : Addr) (fd : FuncData) (c : Addr), Fun K "texts_of" "texts_of" (top 43) f fd ∧ Binds K fd ["table", "cells"] [] ∧ mg "texts_of" = some (.ref f) ∧ fd.code = .ref c ∧ LamX.TabB base mg c PT
theorem ok_texts {PT : Addr} (F : RawTexts K mg base PT) (T : TX K mg CR CS CT CO CD CF) (MO : HasInit P w K mg base CX0 1 CO ["self", "numbers", "text", "cell_count"] (spMk3 CO "numbers" "text" "cell_count"))
    (GB : HasFn P w K mg base CX0 6 "is_by_longest" ["table", "row"] (spIsBy CR CS CT CO)) (GL : HasFn P w K mg base CX0 3 "longer_rows" ["table", "row", "cells"] (spLonger CR CS CT CO)) :
    HasFn P w K mg base CX0 7 "texts_of" ["table", "cells"] (spTexts CR CS CT PT) := by
  obtain ⟨f, fd, cc, F, b, gf, hcode, TB⟩ := F
  obtain ⟨mo, mod, MO, mob, MOk⟩ := MO
  obtain ⟨g, gd, G, gb, gg, gk⟩ := GB
  obtain ⟨g2, gd2, G2, gb2, gg2, gk2⟩ := GL
  refine ⟨f, fd, fun_okC F hcode sc43 (fun vs H Q E h => ?_) (fun A outer s H vs Q E hr h => ⟨_, pss_cons (ps_set (i := 2) sc43.nd rfl (.inl rfl) (pe_lst (pa_cons (pe_make MOk MO (hr.mono (by decide)) rfl T.gO mob .nil pass0 (pa_cons (pe_lst pa_nil) (pa_cons (pe_lst pa_nil) (pa_cons pe_int pa_nil)))) pa_nil)))
    (pss_cons (ps_set (i := 3) sc43.nd rfl (.inl rfl) (pe_lst pa_nil))
    (pss_cons (ps_while PassesOwn.never (pt_cmpR op_gt (pe_callB call_len_seq (by rfl) T.bLen PySem.boot_len (pa_cons (pv 2) pa_nil)) pe_int (nomark _))
      (pss_cons (ps_set (i := 4) sc43.nd rfl (.inl rfl) (pe_lst pa_nil))
      (pss_cons (ps_for PassesOwn.never rfl (pi_list (pv 2)) (pg_name (i := 5) sc43.nd rfl (.inl rfl))
        (pss_one (ps_if (pt_cmpR op_eq (pe_fld (pv 5) rfl) (pe_callB call_len_seq (by rfl) T.bLen PySem.boot_len (pa_cons (pv 1) pa_nil)) (nomark _))
          (pss_one (ps_if (pt_val (pe_call G hr rfl gg gk gb .nil pass0 (pa_cons (pv 0) (pa_cons (pv 5) pa_nil))))
            (pss_one (ps_expr (pe_bm PySem.F.plainAttrs_list PySem.F.slot_list_append PySem.F.type_list_append mt_append (pv 3) (pa_cons (pe_fld (pv 5) rfl) pa_nil)))) pss_nil))
          (pss_one (ps_expr (pe_bm PySem.F.plainAttrs_list PySem.F.slot_list_extend PySem.F.type_list_extend mt_extend (pv 4) (pa_cons (pe_call G2 (hr.mono (by decide)) rfl gg2 gk2 gb2 .nil pass0 (pa_cons (pv 0) (pa_cons (pv 5) (pa_cons (pv 1) pa_nil)))) pa_nil)))))))
      (pss_one (ps_set (i := 2) sc43.nd rfl (.inl rfl) (pv 4))))))
    (pss_one (ps_ret (pe_sortLam (T := tabsL PT) TB rfl (List.mem_singleton.mpr rfl) (fun p hp _ => by rw [List.mem_singleton.mp hp]; rfl) (by rfl) T.bSorted T.bLen (pv 3) hr))))), ?_⟩), b, gf, F.kp⟩
  · obtain ⟨a, c, T, cells, rfl, _⟩ := h
    rfl
  · obtain ⟨a, c, Tb, cells, rfl, TA, GT, hc, hcl, few, hT, k⟩ := h
    refine ⟨Nat.zero_le _, fun n1 nn1 => ⟨Nat.zero_le _, fun t1 nt1 => ?_⟩⟩
    intro x dx nx nd ne
    refine ⟨x, dx, .ref n1, .ref t1, .int 0, rfl, upd_same, rfl, ?_⟩
    rw [upd_upd]
    have s1 := Same.new (o := .lst []) nn1
    have s2 := Same.new (o := .lst []) nt1
    have hn1 : upd (upd H n1 (.lst [])) t1 (.lst []) n1 = some (.lst []) := s2 _ _ upd_same
    have ht1 : upd (upd H n1 (.lst [])) t1 (.lst []) t1 = some (.lst []) := upd_same
    have s12 := s1.trans s2
    generalize upd (upd H n1 (.lst [])) t1 (.lst []) = H2 at s12 hn1 ht1 nx nd
    have s3 : Same H2 (upd (upd H2 dx (.own x)) x (.ins CO dx [("numbers", .ref n1), ("text", .ref t1), ("cell_count", .int 0)])) := by
      intro b o e
      rw [upd_ne (ne_of_none e nx), upd_ne (ne_of_none e nd)]
      exact e
    have hrow : RowAt CO (upd (upd H2 dx (.own x)) x (.ins CO dx [("numbers", .ref n1), ("text", .ref t1), ("cell_count", .int 0)])) x row0 := ⟨dx, n1, t1, upd_same, s3 _ _ hn1, s3 _ _ ht1⟩
    have s13 := s12.trans s3
    generalize upd (upd H2 dx (.own x)) x (.ins CO dx [("numbers", .ref n1), ("text", .ref t1), ("cell_count", .int 0)]) = H3 at s13 hrow
    refine ⟨(by show 1 ≤ sizeLine; decide), fun rl nrl => ?_⟩
    have s4 := Same.new (o := .lst [V.ref x]) nrl
    have s14 := s13.trans s4
    have hrow4 := hrow.same s4
    have hrl : upd H3 rl (.lst [.ref x]) rl = some (.lst ([x].map V.ref)) := upd_same
    generalize upd H3 rl (.lst [.ref x]) = H4 at s4 s14 hrow4 hrl
    refine ⟨Nat.zero_le _, fun tl ntl => ?_⟩
    have s5 := Same.new (o := .lst []) ntl
    have Htl : H tl = none := s14.free ntl
    have rtl : rl ≠ tl := ne_of_none hrl ntl
    refine while_to (TxInv CO H Tb cells a c tl) (cells.length + 1 - 0) ⟨0, rl, [x], [], none, none, rfl, Nat.zero_le _, rfl, s14.trans s5, s5 _ _ hrl, rtl, ((RowsX.one hrow4).bare.more ntl).same s5, upd_same, PartsX.nil, List.not_mem_nil⟩ ?_
    clear hrl hrow4 s14 s4 hrow s13 s3 ne s12 hn1 ht1 nx nd s2 s1 nn1 nt1 rtl s5 ntl nrl
    rintro m σ H' ⟨d, rl, as, ts, u, v, rfl, hd, rfl, s6, hrl, rtl, RA, htl, PX, tts⟩
    refine ⟨_, rfl, rl, _, rfl, .inl (SqL.of hrl), _, _, rfl, rfl, _, rfl, ?_⟩
    rw [List.length_map, RA.len]
    by_cases hz : level Tb cells d = []
    · refine if_false_of (decide_eq_false (by rw [hz]; decide)) ?_
      have hall := texts_done hz hd
      rw [hall] at PX
      refine ⟨_, rfl, tl, ts, _, rfl, htl, PX, hT.ext s6, fun H2 p as2 ts2 e2 t2 hp PX2 hperm hsort => ?_⟩
      have es := sources_eq GT hperm hsort
      rw [es] at PX2
      exact k H2 p as2 ((LamX.ExtN.of s6).trans e2) t2 hp PX2
    have hdl : d ≤ cells.length := by
      refine Nat.le_of_lt_succ (Nat.lt_of_le_of_ne hd fun e => hz ?_)
      rw [e]
      exact level_end GT
    have hpos : 0 < (level Tb cells d).length := List.length_pos_iff.mpr hz
    refine if_true_of (decide_eq_true (by omega)) ?_
    refine ⟨fun σ' H3 => ∃ m', m' < cells.length + 1 - d ∧ TxInv CO H Tb cells a c tl m' σ' H3, fun _ _ z => z, ?_⟩
    refine ⟨Nat.zero_le _, fun lg nlg => ?_⟩
    have s7 := Same.new (o := .lst []) nlg
    have Hlg : H lg = none := s6.free nlg
    have tlg : tl ≠ lg := ne_of_none htl nlg
    have rlg : rl ≠ lg := ne_of_none hrl nlg
    have lts : lg ∉ ts := fun hm => by
      obtain ⟨q, hq⟩ := PX.mem hm
      rw [hq] at nlg
      cases nlg
    have hfew := level_few GT few d
    have htfew := texts_few GT few d
    refine ⟨_, rfl, rl, rfl, ⟨_, SqL.of (s7 _ _ hrl)⟩, ?_⟩
    refine for_list (K := K) (a := rl) (xs := as.map V.ref) (TxIn CO H Tb cells a c rl tl lg d as) ⟨ts, [], v, rfl, s6.trans s7, s7 _ _ hrl, (RA.more nlg).same s7, s7 _ _ htl, ?_, tts, lts, upd_same, RowsX.nil⟩ ?_ ?_ ?_
    · show PartsX _ ts (textsUpTo Tb cells d ++ [])
      rw [List.append_nil]
      exact PX.same s7
    · rintro j σ H3 _ ⟨_, _, _, _, _, h, _⟩
      exact SqL.of h
    · clear PX htl hrl RA s6 s7 nlg tts lts
      rintro j y σ H3 hy ⟨ts, gs, v, rfl, s6, hrl, RA, htl, PX, tts, lts, hlg, GX⟩
      have hj : j < (level Tb cells d).length := by
        have := (List.getElem?_eq_some_iff.mp hy).1
        rw [List.length_map, RA.len] at this
        exact this
      obtain ⟨ra, hra, RP⟩ := RA.each j _ (List.getElem?_eq_getElem hj)
      rw [List.getElem?_map, hra] at hy
      cases hy
      generalize hpe : (level Tb cells d)[j] = p at RP
      have hpj : (level Tb cells d)[j]? = some p := by rw [List.getElem?_eq_getElem hj, hpe]
      have htake := take_of hpj
      obtain ⟨hcount, _, hnums, htext⟩ := level_ok GT d p (List.mem_of_getElem? hpj)
      have RP0 := RP.at
      obtain ⟨ox, on, ot, ho, hon, hot, non, not'⟩ := RP
      have ht_tl : ot ≠ tl := fun e => not' (by rw [e]; simp)
      have ht_lg : ot ≠ lg := fun e => not' (by rw [e]; simp)
      refine ⟨_, rfl, ra, CO, ox, _, _, rfl, ho, T.clO, T.nOc, oF_c, _, rfl, c, _, rfl, .inl (SqL.of (s6 _ _ hc)), rfl, _, rfl, ?_⟩
      rw [nV_len, dec_int]
      have edone : (((p.count : Nat) : Int) == ((cells.length : Nat) : Int)) = done cells p := by
        unfold done
        rw [Bool.eq_iff_iff, beq_iff_eq, decide_eq_true_iff]
        omega
      rw [edone]
      have htold := told_snoc (T := Tb) (cells := cells) ((level Tb cells d).take j) p
      have honw := onw_snoc (T := Tb) (cells := cells) ((level Tb cells d).take j) p
      rw [← htake] at htold honw
      cases hdn : done cells p with
      | true =>
        rw [hdn] at htold honw
        rw [if_pos rfl, List.append_nil] at honw
        refine iteT ?_
        refine ⟨_, rfl, _, rfl, a, ra, Tb, p, rfl, TA.same s6, GT, RP0, htext, fun H4 s8 => ⟨_, rfl, ?_⟩⟩
        have s68 := s6.trans s8
        cases hf : found Tb p with
        | false =>
          rw [hf] at htold
          rw [if_neg (by decide), List.append_nil] at htold
          refine iteF ⟨ts, gs, _, rfl, s68, s8 _ _ hrl, RA.same s8, s8 _ _ htl, ?_, tts, lts, s8 _ _ hlg, ?_⟩
          · rw [htold]
            exact PX.same s8
          · rw [honw]
            exact GX.same s8
        | true =>
          rw [hf] at htold
          rw [if_pos (by decide)] at htold
          refine iteT ?_
          refine ⟨_, rfl, .inl ⟨rfl, _, SqL.of (s8 _ _ htl)⟩, _, rfl, ra, CO, ox, _, _, rfl, s8 _ _ ho, T.clO, T.nOt, oF_t, tl, _, _, rfl, rfl, s8 _ _ htl, ?_, ?_⟩
          · have h1 := told_len (T := Tb) (cells := cells) ((level Tb cells d).take j)
            rw [List.length_take] at h1
            have h2 := PX.len
            rw [List.length_append] at h2
            rw [List.length_map]
            exact line_big (by omega)
          have eq1 : ts.map V.ref ++ [V.ref ot] = (ts ++ [ot]).map V.ref := by rw [List.map_append]; rfl
          rw [eq1]
          have frame : ∀ {b : Addr} {o : HO}, b ≠ tl → H4 b = some o → upd H4 tl (.lst ((ts ++ [ot]).map V.ref)) b = some o := fun hb e => (upd_ne hb).trans e
          refine ⟨ts ++ [ot], gs, _, rfl, ?_, frame rtl (s8 _ _ hrl), (RA.same s8).put (s8 _ _ htl) (by simp) _, upd_same, ?_, ?_, ?_, frame tlg.symm (s8 _ _ hlg), ?_⟩
          · intro b o e
            exact frame (ne_of_none e Htl) (s68 b o e)
          · rw [htold, ← List.append_assoc]
            refine ((PX.same s8).put tts).snoc ?_
            exact frame ht_tl (s8 _ _ hot)
          · intro hm
            rcases List.mem_append.mp hm with hm | hm
            · exact tts hm
            · exact ht_tl (List.mem_singleton.mp hm).symm
          · intro hm
            rcases List.mem_append.mp hm with hm | hm
            · exact lts hm
            · exact ht_lg (List.mem_singleton.mp hm).symm
          · rw [honw]
            exact (GX.same s8).put (onw_full GT _) (s8 _ _ htl) _
      | false =>
        rw [hdn] at htold honw
        rw [Bool.false_and, if_neg (by decide), List.append_nil] at htold
        rw [if_neg (by decide)] at honw
        refine iteF ?_
        refine ⟨_, rfl, .inl ⟨rfl, _, SqL.of hlg⟩, _, rfl, _, rfl, _, rfl, a, ra, c, Tb, p, cells, rfl, TA.same s6, GT, RP0, s6 _ _ hc, by omega, htext, fun H4 q bs s8 nq hq QX => ?_⟩
        have s68 := s6.trans s8
        have hlong : (longer Tb cells p).length ≤ 64 := Nat.le_trans (longer_len _) GT.nr
        refine ⟨lg, q, _, _, rfl, rfl, s8 _ _ hlg, hq, ?_, ?_⟩
        · have h1 := onw_len GT (cells := cells) ((level Tb cells d).take j)
          rw [List.length_take] at h1
          rw [List.length_map, List.length_map, GX.len, QX.len]
          exact Nat.le_of_lt (line_big (by omega))
        rw [← List.map_append]
        have frame : ∀ {b : Addr} {o : HO}, b ≠ lg → H4 b = some o → upd H4 lg (.lst ((gs ++ bs).map V.ref)) b = some o := fun hb e => (upd_ne hb).trans e
        have all := (GX.same s8).app QX
        rw [← honw] at all
        refine ⟨ts, gs ++ bs, _, rfl, ?_, frame rlg (s8 _ _ hrl), (RA.same s8).put (s8 _ _ hlg) (by simp) _, frame tlg (s8 _ _ htl), ?_, tts, lts, upd_same, all.put (onw_full GT _) (s8 _ _ hlg) _⟩
        · intro b o e
          exact frame (ne_of_none e Hlg) (s68 b o e)
        · rw [htold]
          exact (PX.same s8).put lts
    · rintro σ H3 ⟨ts2, gs, v2, rfl, s8, hrl2, RA2, htl2, PX2, tts2, lts2, hlg2, GX⟩
      rw [List.length_map, RA.len, List.take_length] at PX2 GX
      refine ⟨_, rfl, cells.length + 1 - (d + 1), by omega, d + 1, lg, gs, ts2, _, _, rfl, by omega, rfl, s8, hlg2, tlg.symm, ?_, htl2, PX2, tts2⟩
      exact GX.apart (onw_full GT _) htl2
end
end RW
set_option Elab.async false
set_option linter.all false
set_option maxRecDepth 100000
set_option maxHeartbeats 4000000
/-! # The desk: the reader of the calls -/
namespace RW
open PySem PySem.Spec PyProof.Rows L2
open RC
open Sd50 (Table Rule Sign)
section
variable {P : Program} {w : World} {K : PySem.W.Frag} {mg : Str → Option Value} {base : Heap} {CR CS CT CO CD CF CP fP : Addr}
/-- a list that is read, and that is not the object at r -/
def SqN (K : PySem.W.Frag) (H : Hp) (n : Addr) (xs : List V) (r : Addr) : Prop := (Rd H n (.lst xs) ∧ r ≠ n) ∨
  ∃ (o : Obj) (its : Array Value) (m : Nat), K.lookup n = some o ∧ o.cls = .type "list" ∧ o.dict = none ∧ o.data = .seq its m ∧ its.size ≤ sizeLine ∧ Vals xs its.toList
theorem SqN.to {H : Hp} {n r : Addr} {xs : List V} (h : SqN K H n xs r) : SqL K H n xs := h.elim (fun h => .inl h.1) .inr
theorem SqN.of {H : Hp} {n r : Addr} {xs : List V} (h : SqL K H n xs) (hr : H r = none) : SqN K H n xs r := by
  rcases h with (h | ⟨o, h⟩) | h
  · exact .inl ⟨.inl h, (ne_of_none h hr).symm⟩
  · exact .inl ⟨.inr ⟨o, h⟩, (ne_of_none h hr).symm⟩
  · exact .inr h
theorem Rd.put {H : Hp} {n r : Addr} {o u : HO} (h : Rd H n u) (hne : r ≠ n) : Rd (upd H r o) n u := by
  rcases h with h | ⟨ob, h⟩
  · exact .inl ((upd_ne hne.symm).trans h)
  · exact .inr ⟨ob, (upd_ne hne.symm).trans h⟩
theorem SqN.put {H : Hp} {n r : Addr} {xs : List V} (h : SqN K H n xs r) (o : HO) : SqN K (upd H r o) n xs r := h.elim (fun h => .inl ⟨Rd.put h.1 h.2, h.2⟩) .inr
theorem SqN.put2 {H : Hp} {n r r2 : Addr} {xs : List V} (h : SqN K H n xs r) (h2 : SqN K H n xs r2) (o : HO) : SqN K (upd H r2 o) n xs r := by
  rcases h with h | h
  · rcases h2 with h2 | h2
    · exact .inl ⟨Rd.put h.1 h2.2, h.2⟩
    · exact .inr h2
  · exact .inr h
theorem SqN.same {H H' : Hp} {n r : Addr} {xs : List V} (h : SqN K H n xs r) (s : Same H H') : SqN K H' n xs r := by
  rcases h with ⟨h | ⟨o, h⟩, hne⟩ | h
  · exact .inl ⟨.inl (s _ _ h), hne⟩
  · exact .inl ⟨.inr ⟨o, s _ _ h⟩, hne⟩
  · exact .inr h
/-- the reader at a: its numbers at n, its place -/
def RdAt (CD : Addr) (H : Hp) (a n : Addr) (p : Nat) : Prop := ∃ dx, H a = some (.ins CD dx (dF n p))
def spReader (CD : Addr) : Sp := fun vs H Q _ => ∃ (p dx n : Addr), vs = [.ref p, .ref n] ∧ H p = some (.ins CD dx []) ∧ Q .non (upd H p (.ins CD dx (dF n 0)))
theorem sc510 : FnScope ["self", "numbers"] ["self", "numbers"] (defScope (inClass (top 51) 0)) := ⟨rfl, rfl, rfl, by decide +kernel, rfl, by decide +kernel, by decide +kernel⟩
theorem ok_reader (F : RawInit K CD "CallReader.__init__" ["self", "numbers"] (inClass (top 51) 0)) (T : TX K mg CR CS CT CO CD CF) : HasInit P w K mg base CX0 1 CD ["self", "numbers"] (spReader CD) := by
  obtain ⟨f, fd, F, b, M⟩ := F
  refine ⟨f, fd, F.ok sc510 (fun vs H Q E h => ?_) (fun cdv A outer s H vs Q E hr h => ⟨_, pss_cons (ps_fld (pv 0) (pv 1) rfl) (pss_one (ps_fld (pv 0) pe_int rfl)), ?_⟩), b, M⟩
  · obtain ⟨p, dx, n, rfl, _⟩ := h
    rfl
  · obtain ⟨p, dx, n, rfl, hp, k⟩ := h
    refine ⟨_, rfl, _, rfl, p, CD, dx, [], rfl, hp, T.clD, T.nDn, (by decide), ?_⟩
    refine ⟨_, rfl, p, CD, dx, _, rfl, upd_same, T.clD, T.nDp, (by show 1 < 1000; decide), ?_⟩
    show Q .non (upd (upd H p _) p _)
    rw [upd_upd]
    exact k
def spAtEnd (K : PySem.W.Frag) (CD : Addr) : Sp := fun vs H Q _ => ∃ (a n : Addr) (p : Nat) (ns : List Int), vs = [.ref a] ∧ RdAt CD H a n p ∧ SqL K H n (ns.map V.int) ∧ Q (.bl (decide (p = ns.length))) H
theorem sc511 : FnScope ["self"] ["self"] (defScope (inClass (top 51) 1)) := ⟨rfl, rfl, rfl, by decide +kernel, rfl, by decide +kernel, by decide +kernel⟩
theorem ok_at_end (F : RawMeth K CD "at_end" "CallReader.at_end" ["self"] (inClass (top 51) 1)) (T : TX K mg CR CS CT CO CD CF) : HasMeth P w K mg base CX0 1 CD "at_end" ["self"] (spAtEnd K CD) := by
  obtain ⟨f, fd, F, b, M⟩ := F
  refine ⟨f, fd, F.ok sc511 (fun vs H Q E h => ?_) (fun cdv A outer s H vs Q E hr h => ⟨_, pss_one (ps_ret (pe_cmpR op_eq (pe_fld (pv 0) rfl) (pe_callB call_len_seq (by rfl) T.bLen PySem.boot_len (pa_cons (pe_fld (pv 0) rfl) pa_nil)) (nomark _))), ?_⟩), b, M⟩
  · obtain ⟨a, n, p, ns, rfl, _⟩ := h
    rfl
  · obtain ⟨a, n, p, ns, rfl, ⟨dx, hd⟩, hs, k⟩ := h
    refine ⟨_, rfl, a, CD, dx, _, _, rfl, hd, T.clD, T.nDp, dF_p, _, rfl, a, CD, dx, _, _, rfl, hd, T.clD, T.nDn, dF_n, n, _, rfl, .inl hs, rfl, ?_⟩
    rw [List.length_map, dec_int]
    have e : (((p : Nat) : Int) == ((ns.length : Nat) : Int)) = decide (p = ns.length) := by
      rw [Bool.eq_iff_iff, beq_iff_eq, decide_eq_true_iff]
      omega
    rw [e]
    exact k
theorem dF_put {n : Addr} {p q : Nat} : putF "position" (.int (q : Nat)) (dF n p) = dF n q := (put_past (by decide +kernel)).trans (congrArg _ put_here)
def spTake (K : PySem.W.Frag) (CD : Addr) : Sp := fun vs H Q _ => ∃ (a n dx : Addr) (p : Nat) (ns : List Int) (z : Int), vs = [.ref a] ∧ H a = some (.ins CD dx (dF n p)) ∧ SqL K H n (ns.map V.int) ∧ ns[p]? = some z ∧ Q (.int z) (upd H a (.ins CD dx (dF n (p + 1))))
theorem sc512 : FnScope ["self", "number"] ["self"] (defScope (inClass (top 51) 2)) := ⟨rfl, rfl, rfl, by decide +kernel, rfl, by decide +kernel, by decide +kernel⟩
theorem ints_at {ns : List Int} {p : Nat} {z : Int} (h : ns[p]? = some z) {i : Int} (e : i = (p : Int)) : atI (ns.map V.int) i = some (.int z) := at_of e (by rw [List.getElem?_map, h]; rfl)
theorem ok_take (F : RawMeth K CD "take" "CallReader.take" ["self"] (inClass (top 51) 2)) (T : TX K mg CR CS CT CO CD CF) : HasMeth P w K mg base CX0 1 CD "take" ["self"] (spTake K CD) := by
  obtain ⟨f, fd, F, b, M⟩ := F
  refine ⟨f, fd, F.ok sc512 (fun vs H Q E h => ?_) (fun cdv A outer s H vs Q E hr h => ⟨_, pss_cons (ps_set (i := 1) sc512.nd rfl (.inl rfl) (pe_ix ix_list (pe_fld (pv 0) rfl) (pe_fld (pv 0) rfl) (fun _ _ => rfl)))
    (pss_cons (ps_fld (pv 0) (pe_op op_add (pe_fld (pv 0) rfl) pe_int) rfl) (pss_one (ps_ret (pv 1)))), ?_⟩), b, M⟩
  · obtain ⟨a, n, dx, p, ns, z, rfl, _⟩ := h
    rfl
  · obtain ⟨a, n, dx, p, ns, z, rfl, hd, hs, hz, k⟩ := h
    refine ⟨_, rfl, a, CD, dx, _, _, rfl, hd, T.clD, T.nDn, dF_n, _, rfl, a, CD, dx, _, _, rfl, hd, T.clD, T.nDp, dF_p, n, _, _, _, rfl, rfl, hs, ints_at hz rfl, ?_⟩
    refine ⟨_, rfl, a, CD, dx, _, _, rfl, hd, T.clD, T.nDp, dF_p, _, _, rfl, rfl, _, rfl, a, CD, dx, _, rfl, hd, T.clD, T.nDp, (by show 2 < 1000; decide), ?_⟩
    have e : putF "position" (.int (((p : Nat) : Int) + 1)) (dF n p) = dF n (p + 1) := dF_put (q := p + 1)
    rw [e]
    exact ⟨_, rfl, k⟩
def spTakeList (K : PySem.W.Frag) (CD : Addr) : Sp := fun vs H Q _ => ∃ (a n dx : Addr) (p len : Nat) (ns : List Int), vs = [.ref a] ∧ H a = some (.ins CD dx (dF n p)) ∧ SqN K H n (ns.map V.int) a ∧ ns[p]? = some (len : Int) ∧
  ∀ q, upd H a (.ins CD dx (dF n (p + 1 + len))) q = none → Q (.ref q) (upd (upd H a (.ins CD dx (dF n (p + 1 + len)))) q (.lst (((ns.drop (p + 1)).take len).map V.int)))
theorem sc513 : FnScope ["self", "length", "start"] ["self"] (defScope (inClass (top 51) 3)) := ⟨rfl, rfl, rfl, by decide +kernel, rfl, by decide +kernel, by decide +kernel⟩
theorem cut_ints (ns : List Int) (i n : Nat) : cutV (ns.map V.int) (some (i : Int)) (some ((i + n : Nat) : Int)) = ((ns.drop i).take n).map V.int := by
  unfold cutV
  rw [HT.sIx_nat, HT.sIx_nat, List.length_map, ← List.map_drop, ← List.map_take]
  congr 1
  by_cases h : i ≤ ns.length
  · rw [Nat.min_eq_left h]
    by_cases h2 : i + n ≤ ns.length
    · rw [Nat.min_eq_left h2, Nat.add_sub_cancel_left]
    · rw [Nat.min_eq_right (by omega), List.take_of_length_le (by rw [List.length_drop]; omega), List.take_of_length_le (by rw [List.length_drop]; omega)]
  · rw [List.drop_eq_nil_of_le (by omega : ns.length ≤ min i ns.length), List.drop_eq_nil_of_le (by omega : ns.length ≤ i)]
    simp
theorem ok_take_list (F : RawMeth K CD "take_list" "CallReader.take_list" ["self"] (inClass (top 51) 3)) (T : TX K mg CR CS CT CO CD CF) (GT : HasMeth P w K mg base CX0 1 CD "take" ["self"] (spTake K CD)) : HasMeth P w K mg base CX0 2 CD "take_list" ["self"] (spTakeList K CD) := by
  obtain ⟨f, fd, F, b, M⟩ := F
  obtain ⟨g, gd, G, gb, GM⟩ := GT
  refine ⟨f, fd, F.ok sc513 (fun vs H Q E h => ?_) (fun cdv A outer s H vs Q E hr h => ⟨_, pss_cons (ps_set (i := 1) sc513.nd rfl (.inl rfl) (pe_meth0 (pv 0) T.clD GM G hr gb .nil pass0))
    (pss_cons (ps_set (i := 2) sc513.nd rfl (.inl rfl) (pe_fld (pv 0) rfl))
    (pss_cons (ps_fld (pv 0) (pe_op op_add (pv 2) (pv 1)) rfl)
    (pss_one (ps_ret (pe_slice sl_list (pe_fld (pv 0) rfl) (po_some (pv 2)) (po_some (pe_fld (pv 0) rfl))))))), ?_⟩), b, M⟩
  · obtain ⟨a, n, dx, p, len, ns, rfl, _⟩ := h
    rfl
  · obtain ⟨a, n, dx, p, len, ns, rfl, hd, hs, hz, k⟩ := h
    refine ⟨_, rfl, a, dx, _, rfl, hd, dF_no (by decide +kernel) (by decide +kernel), ?_⟩
    refine ⟨a, n, dx, p, ns, _, rfl, hd, hs.to, hz, ?_⟩
    refine ⟨_, rfl, a, CD, dx, _, _, rfl, upd_same, T.clD, T.nDp, dF_p, ?_⟩
    refine ⟨_, rfl, _, rfl, _, _, rfl, rfl, _, rfl, a, CD, dx, _, rfl, upd_same, T.clD, T.nDp, (by show 2 < 1000; decide), ?_⟩
    have e : putF "position" (.int ((((p + 1 : Nat) : Nat) : Int) + ((len : Nat) : Int))) (dF n (p + 1)) = dF n (p + 1 + len) := dF_put (q := p + 1 + len)
    rw [e, upd_upd]
    refine ⟨_, rfl, a, CD, dx, _, _, rfl, upd_same, T.clD, T.nDn, dF_n, _, rfl, _, rfl, _, rfl, a, CD, dx, _, _, rfl, upd_same, T.clD, T.nDp, dF_p, _, rfl, n, _, rfl, (hs.put _).to, fun q nq => ?_⟩
    rw [cut_ints]
    exact k q nq
end
end RW
set_option Elab.async false
set_option linter.all false
set_option maxRecDepth 100000
set_option maxHeartbeats 4000000
/-! # The desk: a call executed -/
namespace RW
open PySem PySem.Spec PyProof.Rows L2
open RC
open Sd50 (Table Rule Sign)
/-- what a call gives: a number, a list, or the place where no rule applies -/
def execO (T : Table) (num : Nat) (k : Int) (told : List Nat) : Except Nat (Int ⊕ List Nat) :=
  if num = 1 then (Sd50.written T told).map .inr
  else if num = 2 then (Sd50.rulesOf T told).map .inr
  else if num = 3 then (match Sd50.least T told with
    | none => .ok (.inl (-3))
    | some l => .ok (.inr (Sd50.cellsOf T none told l)))
  else if k < 0 ∨ told.any (fun x => decide (63 < x)) = true then .ok (.inl (-2))
  else if num = 4 then .ok (.inr (Sd50.decimal (Sd50.sources T told).length))
  else (match (Sd50.sources T told)[k.toNat]? with
    | none => .ok (.inl (-3))
    | some t => .ok (.inr t))
theorem sources_len {T : Table} (G : Good T) {cells : List Nat} (h : Sd50Neutral.fewRows T cells.length [([], cells)] = true) : (Sd50.sources T cells).length ≤ 2000 * (cells.length + 1) := by
  have e := sources_eq G (R := (allTexts T cells).mergeSort Sd50.sooner) (List.mergeSort_perm _ _) (List.pairwise_mergeSort sooner_trans sooner_total _)
  rw [← e, List.length_mergeSort]
  exact texts_few G h _
theorem log_small {n : Nat} (h : n ≤ 1000000) : n.log2 < 1920 := by
  by_cases h0 : n = 0
  · subst h0
    decide
  · have : n.log2 < 20 := (Nat.log2_lt h0).mpr (by omega)
    omega
theorem decimal_len {n : Nat} (h : n ≤ 1000000) : (Sd50.decimal n).length ≤ 10 := by
  unfold Sd50.decimal
  rw [List.length_map]
  have := PySem.W.KXf.digits_le (a := (n : Int)) (by omega) (by omega)
  rw [Int.natAbs_natCast] at this
  exact this
/-- the number n as a text -/
def numZ (n : Nat) : Str := PySem.Str.ofString (toString ((n : Nat) : Int))
theorem numZ_cps (n : Nat) : (numZ n).cps.toList = Sd50.decimal n := PySem.W.KIN.signs_num n
section
variable {P : Program} {w : World} {K : PySem.W.Frag} {mg : Str → Option Value} {base : Heap} {CR CS CT CO CD CF CP fP : Addr}
theorem passL2 {N : List Str} {qual : Str} {sc : Scope} {f : Addr} {cdv : Value} {A : Around} {outer : List Env} {s : Shared} {H : Hp} {E : XK} :
    Passes (L2.CX P w) (cxOf (L2.CX P w) P w K mg base N qual sc f cdv A outer s H E) E := L2.passes_call (W := fun cls d _ H => E cls d H) (L2.takes_of rfl rfl rfl rfl) (fun _ _ _ _ h => h)
def spExec (CR CS CT CP PT : Addr) : Sp := fun vs H Q E => ∃ (a t : Addr) (T : Table) (num : Nat) (k : Int) (told : List Nat), vs = [.ref a, .int num, .int k, .ref t] ∧ TabAt CR CS CT H a T ∧ Good T ∧ NL H t told ∧ ReqOk T ⟨num, k, 0, told⟩ ∧ LamX.Tabs (tabsL PT) H ∧
  (∀ z, execO T num k told = .ok (.inl z) → ∀ H', LamX.ExtN H H' → LamX.Tabs (tabsL PT) H' → Q (.int z) H') ∧
  (∀ l, execO T num k told = .ok (.inr l) → ∀ H' p, LamX.ExtN H H' → LamX.Tabs (tabsL PT) H' → NL H' p l → Q (.ref p) H') ∧
  (∀ n, execO T num k told = .error n → ∀ H' d, Same H H' → H d = none → H' d = some (.xd [(("place" : Str), .int ((told.length : Int) - (n : Int)))]) → E (.ref CP) (some d) H')
theorem sc54 : FnScope ["table", "number", "k", "told", "numbers", "texts", "cell", "sign"] ["table", "number", "k", "told"] (defScope (top 54)) := ⟨rfl, rfl, rfl, by decide +kernel, rfl, by decide +kernel, by decide +kernel⟩
theorem ok_exec {PT : Addr} (F : RawFn K mg "execute_call" ["table", "number", "k", "told"] (top 54)) (T : TX K mg CR CS CT CO CD CF) (GC : HasFn P w K mg base CX0 2 "row_cells" ["table", "text", "numbers"] (spRowCells CR CS CT))
    (GL : HasFn P w K mg base (L2.CX P w) 5 "rules_by_longest" ["table", "text"] (spByLongest CR CS CT CP)) (GF : HasFn P w K mg base CX0 7 "rules_by_fewest" ["table", "text"] (spByFewest CR CS CT)) (GT : HasFn P w K mg base CX0 7 "texts_of" ["table", "cells"] (spTexts CR CS CT PT)) :
    HasFn P w K mg base (L2.CX P w) 8 "execute_call" ["table", "number", "k", "told"] (spExec CR CS CT CP PT) := by
  obtain ⟨f, fd, F, b, gf⟩ := F
  obtain ⟨gc, gcd, GC, gcb, gcg, gck⟩ := GC
  obtain ⟨gl, gld, GL, glb, glg, glk⟩ := GL
  obtain ⟨gw, gwd, GF, gwb, gwg, gwk⟩ := GF
  obtain ⟨gt, gtd, GT, gtb, gtg, gtk⟩ := GT
  refine ⟨f, fd, F.okX sc54 (fun vs H Q E h => ?_) (fun cdv A outer s H vs Q E hr h => ⟨_, pss_cons (ps_if (pt_cmpR op_eq (pv 1) pe_int (nomark _))
      (pss_one (ps_ret (pe_call GC (hr.mono (by decide)) rfl gcg gck gcb .nil pass0 (pa_cons (pv 0) (pa_cons (pv 3) (pa_cons (pe_call GL (hr.mono (by decide)) rfl glg glk glb .nil passL2 (pa_cons (pv 0) (pa_cons (pv 3) pa_nil))) pa_nil)))))) pss_nil)
    (pss_cons (ps_if (pt_cmpR op_eq (pv 1) pe_int (nomark _)) (pss_one (ps_ret (pe_call GL (hr.mono (by decide)) rfl glg glk glb .nil passL2 (pa_cons (pv 0) (pa_cons (pv 3) pa_nil))))) pss_nil)
    (pss_cons (ps_if (pt_cmpR op_eq (pv 1) pe_int (nomark _))
      (pss_cons (ps_set (i := 4) sc54.nd rfl (.inl rfl) (pe_call GF hr rfl gwg gwk gwb .nil pass0 (pa_cons (pv 0) (pa_cons (pv 3) pa_nil))))
      (pss_cons (ps_if (pt_cmpR op_isN (pv 4) pe_non (nomark _)) (pss_one (ps_ret (pe_kn T.cNone))) pss_nil)
      (pss_one (ps_ret (pe_call GC (hr.mono (by decide)) rfl gcg gck gcb .nil pass0 (pa_cons (pv 0) (pa_cons (pv 3) (pa_cons (pv 4) pa_nil)))))))) pss_nil)
    (pss_cons (ps_if (PW.pt (pw_or (pt_cmpR op_lt (pv 2) pe_int (nomark _)) (pw_or1 (pt_val (pe_callB (cr_any rfl) (by rfl) T.bAny (by decide +kernel)
        (pa_cons (pe_lc (own := [("cell", 6)]) (g := gName 6) (tt := tYes) rfl sc54.nd (pi_list (pv 3)) (blkOk_by (own := [("cell", 6)]) (N := ["table", "number", "k", "told", "numbers", "texts", "cell", "sign"]) (sc := defScope (top 54)) (by decide +kernel))
          (fun _ _ _ _ _ => pg_name (i := 6) sc54.nd rfl (Or.inl rfl)) (fun _ _ _ _ _ => pts_nil) (fun _ _ _ _ _ => pe_cmpR op_gt (pv 6) (pe_kn T.cLC) (nomark _))) pa_nil)))))) (pss_one (ps_ret (pe_kn T.cNA))) pss_nil)
    (pss_cons (ps_set (i := 5) sc54.nd rfl (.inl rfl) (pe_call GT hr rfl gtg gtk gtb .nil pass0 (pa_cons (pv 0) (pa_cons (pv 3) pa_nil))))
    (pss_cons (ps_if (pt_cmpR op_eq (pv 1) pe_int (nomark _))
      (pss_one (ps_ret (pe_lc (own := [("sign", 7)]) (g := gName 7) (tt := tYes) rfl sc54.nd (pi_str (pe_callTy call_str_int (by rfl) T.bStr boot_str (pa_cons (pe_callB call_len_seq (by rfl) T.bLen PySem.boot_len (pa_cons (pv 5) pa_nil)) pa_nil)))
        (blkOk_by (own := [("sign", 7)]) (N := ["table", "number", "k", "told", "numbers", "texts", "cell", "sign"]) (sc := defScope (top 54)) (by decide +kernel))
        (fun _ _ _ _ _ => pg_name (i := 7) sc54.nd rfl (Or.inl rfl)) (fun _ _ _ _ _ => pts_nil) (fun _ _ _ _ _ => pe_callB call_ord (by rfl) T.bOrd (by decide +kernel) (pa_cons (pv 7) pa_nil))))) pss_nil)
    (pss_cons (ps_if (pt_cmpR op_ge (pv 2) (pe_callB call_len_seq (by rfl) T.bLen PySem.boot_len (pa_cons (pv 5) pa_nil)) (nomark _)) (pss_one (ps_ret (pe_kn T.cNone))) pss_nil)
    (pss_one (ps_ret (pe_ix ix_list (pv 5) (pv 2) (fun _ _ => rfl))))))))))
    , ?_⟩), b, gf, F.kp⟩
  · obtain ⟨a, t, T, num, k, told, rfl, _⟩ := h
    rfl
  · obtain ⟨a, t, Tb, num, k, told, rfl, TA, GT', ht, RQ, hT, kZ, kL, kE⟩ := h
    have hlen : told.length ≤ 256 := RQ.len
    have hne : ∀ c : Nat, (((num : Nat) : Int) == ((c : Nat) : Int)) = decide (num = c) := fun c => by
      rw [Bool.eq_iff_iff, beq_iff_eq, decide_eq_true_iff]
      omega
    have k1 : ∀ {H' : Hp}, Same H H' → LamX.ExtN H H' ∧ LamX.Tabs (tabsL PT) H' := fun s => ⟨LamX.ExtN.of s, hT.ext s⟩
    refine ⟨_, rfl, rfl, _, rfl, ?_⟩
    rw [dec_int, show ((num : Int) == 1) = decide (num = 1) from hne 1]
    by_cases c1 : num = 1
    · refine if_true_of (decide_eq_true c1) ?_
      have ex : execO Tb num k told = (Sd50.written Tb told).map .inr := by
        unfold execO
        rw [if_pos c1]
      refine ⟨_, rfl, _, rfl, _, rfl, _, rfl, ?_⟩
      refine ⟨a, t, Tb, told, rfl, TA, GT', ht, hlen, fun l hl H2 p s2 np hp => ?_, fun n hn H2 d s2 nd hd => ?_⟩
      · refine ⟨a, t, p, Tb, told, l, rfl, TA.same s2, GT', s2 _ _ ht, hp, hlen, rulesOf_writes hl, fun H3 q s3 nq hq => ?_⟩
        refine kL (cellsAt Tb told 0 l) ?_ H3 q (k1 (s2.trans s3)).1 (k1 (s2.trans s3)).2 hq
        rw [ex]
        unfold Sd50.written
        rw [hl]
        rfl
      · refine kE n ?_ H2 d s2 nd hd
        rw [ex]
        unfold Sd50.written
        rw [hn]
        rfl
    refine if_false_of (decide_eq_false c1) ?_
    refine ⟨_, rfl, rfl, _, rfl, ?_⟩
    rw [dec_int, show ((num : Int) == 2) = decide (num = 2) from hne 2]
    by_cases c2 : num = 2
    · refine if_true_of (decide_eq_true c2) ?_
      have ex : execO Tb num k told = (Sd50.rulesOf Tb told).map .inr := by
        unfold execO
        rw [if_neg c1, if_pos c2]
      refine ⟨_, rfl, _, rfl, ?_⟩
      refine ⟨a, t, Tb, told, rfl, TA, GT', ht, hlen, fun l hl H2 p s2 np hp => ?_, fun n hn H2 d s2 nd hd => ?_⟩
      · refine kL l ?_ H2 p (k1 s2).1 (k1 s2).2 hp
        rw [ex, hl]
        rfl
      · refine kE n ?_ H2 d s2 nd hd
        rw [ex, hn]
        rfl
    refine if_false_of (decide_eq_false c2) ?_
    refine ⟨_, rfl, rfl, _, rfl, ?_⟩
    rw [dec_int, show ((num : Int) == 3) = decide (num = 3) from hne 3]
    by_cases c3 : num = 3
    · refine if_true_of (decide_eq_true c3) ?_
      refine ⟨_, rfl, _, rfl, ?_⟩
      refine ⟨a, t, Tb, told, rfl, TA, GT', ht, hlen, fun hn H2 s2 => ?_, fun l hl H2 p s2 np hp => ?_⟩
      · refine ⟨_, rfl, rfl, _, rfl, ?_⟩
        refine if_true_of (by rfl) ?_
        refine kZ (-3) ?_ H2 (k1 s2).1 (k1 s2).2
        unfold execO
        rw [if_neg c1, if_neg c2, if_pos c3, hn]
      · refine ⟨_, rfl, rfl, _, rfl, ?_⟩
        refine if_false_of (by rfl) ?_
        refine ⟨_, rfl, _, rfl, _, rfl, ?_⟩
        refine ⟨a, t, p, Tb, told, l, rfl, TA.same s2, GT', s2 _ _ ht, hp, hlen, least_writes hl, fun H3 q s3 nq hq => ?_⟩
        refine kL (cellsAt Tb told 0 l) ?_ H3 q (k1 (s2.trans s3)).1 (k1 (s2.trans s3)).2 hq
        unfold execO
        rw [if_neg c1, if_neg c2, if_pos c3, hl]
        rfl
    refine if_false_of (decide_eq_false c3) ?_
    have hfew := RQ.few (by have := RQ.lo; show 4 ≤ num; have : 1 ≤ num := RQ.lo; omega)
    have h64 : told.length ≤ 64 := hfew.1
    have bad : (k < 0 ∨ told.any (fun x => decide (63 < x)) = true) → ∀ H', Same H H' → Q (.int (-2)) H' := fun hb H' s => by
      refine kZ (-2) ?_ H' (k1 s).1 (k1 s).2
      unfold execO
      rw [if_neg c1, if_neg c2, if_neg c3, if_pos hb]
    refine ⟨_, rfl, _, _, rfl, rfl, _, rfl, ?_⟩
    by_cases ck : k < 0
    · refine if_true_of (decide_eq_true ck) ?_
      exact iteT (bad (.inl ck) _ (Same.refl _))
    refine if_false_of (decide_eq_false ck) ?_
    refine ⟨_, rfl, t, rfl, ⟨_, SqL.of ht⟩, fun D nD => ?_⟩
    refine lc_list (K := K) (a := t) (xs := nV told) (fun j H' => Same H H' ∧ H' D = some (.lst ((told.map fun c => V.bl (decide (63 < c))).take j))) ⟨Same.new nD, upd_same⟩ (fun j H' _ h => SqL.of (h.1 _ _ ht)) ?_ ?_
    · rintro j y H' hy ⟨s2, hD⟩
      obtain ⟨n, hn, rfl⟩ := nV_of_get hy
      refine ⟨rfl, _, rfl, _, _, rfl, rfl, _, hD, bl_len (f := fun c => decide (63 < c)) (by omega) j, ?_, ?_⟩
      · intro b o e
        rw [upd_ne (ne_of_none e nD)]
        exact s2 b o e
      · rw [bl_get (f := fun c => decide (63 < c)) hn]
        have e : decide ((63 : Int) < ((n : Nat) : Int)) = decide (63 < n) := by
          rw [Bool.eq_iff_iff, decide_eq_true_iff, decide_eq_true_iff]
          omega
        show upd H' D (.lst (_ ++ [V.bl (decide ((63 : Int) < ((n : Nat) : Int)))])) D = _
        rw [e]
        exact upd_same
    rintro H1 ⟨s1, hD⟩
    have e0 : (nV told).length = (told.map fun c => V.bl (decide (63 < c))).length := by
      rw [nV_len, List.length_map]
    rw [e0, List.take_length, bl_map (f := fun c => decide (63 < c))] at hD
    refine ⟨D, _, rfl, SqL.of hD, _, rfl, ?_⟩
    have eany : (told.map fun c => decide (63 < c)).any id = told.any fun x => decide (63 < x) := by
      rw [List.any_map]
      rfl
    rw [eany]
    by_cases ca : told.any (fun x => decide (63 < x)) = true
    · refine if_true_of ca ?_
      exact bad (.inr ca) _ s1
    refine if_false_of (by simpa using ca) ?_
    have few : Sd50Neutral.fewRows Tb told.length [([], told)] = true := by
      rcases hfew.2 with ⟨c, hc, h63⟩ | h
      · exact absurd (List.any_eq_true.mpr ⟨c, hc, decide_eq_true h63⟩) ca
      · exact h
    have hsl := sources_len GT' few
    have hTb1 := hT.ext s1
    refine ⟨_, rfl, _, rfl, ?_⟩
    refine ⟨a, t, Tb, told, rfl, TA.same s1, GT', s1 _ _ ht, h64, few, hTb1, fun H2 p as e2 t2 hp PX => ?_⟩
    have e12 := (LamX.ExtN.of s1).trans e2
    have hal : as.length = (Sd50.sources Tb told).length := PX.len
    have hcond : ¬ (k < 0 ∨ told.any (fun x => decide (63 < x)) = true) := fun z => z.elim ck ca
    refine ⟨_, rfl, rfl, _, rfl, ?_⟩
    rw [dec_int, show ((num : Int) == 4) = decide (num = 4) from hne 4]
    by_cases c4 : num = 4
    · refine if_true_of (decide_eq_true c4) ?_
      refine ⟨_, rfl, p, _, rfl, .inl (SqL.of hp), _, rfl, ?_, ?_⟩
      · rw [List.length_map, hal, Int.natAbs_natCast]
        exact log_small (by omega)
      rw [List.length_map, hal]
      refine ⟨numZ (Sd50.sources Tb told).length, rfl, fun D2 nD2 => ?_⟩
      generalize hN : (Sd50.sources Tb told).length = N at hsl
      have hdl : (Sd50.decimal N).length ≤ 10 := decimal_len (by omega)
      refine lc_it (walk_str (z := numZ N)) (fun j H' => Same H2 H' ∧ NL H' D2 ((Sd50.decimal N).take j)) ⟨Same.new nD2, upd_same⟩ (fun _ _ _ _ => trivial) ?_ ?_
      · rintro j y H' H'' hj ⟨s3, hD2⟩ ⟨rfl, c, hc, rfl⟩
        have hc' : (Sd50.decimal N)[j]? = some c := by
          rw [← numZ_cps, Array.getElem?_toList]
          exact hc
        refine ⟨rfl, _, rfl, _, rfl, rfl, _, hD2, ?_, ?_, ?_⟩
        · rw [nV_len, List.length_take]
          exact line5000 (by omega)
        · intro b o e
          rw [upd_ne (ne_of_none e nD2)]
          exact s3 b o e
        · rw [take_of hc']
          have e := nV_snoc ((Sd50.decimal N).take j) c
          show upd _ D2 (.lst (nV ((Sd50.decimal N).take j) ++ [V.int (c : Nat)])) D2 = some (.lst (nV ((Sd50.decimal N).take j ++ [c])))
          rw [e]
          exact upd_same
      · rintro H3 ⟨s3, hD2⟩
        have esz : (numZ N).cps.size = (Sd50.decimal N).length := by
          rw [← numZ_cps, Array.length_toList]
        rw [esz, List.take_length] at hD2
        refine kL (Sd50.decimal N) ?_ H3 D2 (e12.trans (LamX.ExtN.of s3)) (t2.ext s3) hD2
        unfold execO
        rw [if_neg c1, if_neg c2, if_neg c3, if_neg hcond, if_pos c4, hN]
    refine if_false_of (decide_eq_false c4) ?_
    refine ⟨_, rfl, _, rfl, p, _, rfl, .inl (SqL.of hp), _, _, rfl, rfl, _, rfl, ?_⟩
    rw [List.length_map, hal]
    by_cases cl : (((Sd50.sources Tb told).length : Nat) : Int) ≤ k
    · refine if_true_of (decide_eq_true cl) ?_
      refine kZ (-3) ?_ H2 e12 t2
      unfold execO
      rw [if_neg c1, if_neg c2, if_neg c3, if_neg hcond, if_neg c4, List.getElem?_eq_none (by omega)]
    · refine if_false_of (decide_eq_false cl) ?_
      have hk : k.toNat < (Sd50.sources Tb told).length := by omega
      obtain ⟨b, hb1, hb2⟩ := PX.each k.toNat _ (List.getElem?_eq_getElem hk)
      refine ⟨_, rfl, _, rfl, p, _, _, _, rfl, rfl, SqL.of hp, at_of (j := k.toNat) (v := .ref b) (by omega) (by rw [List.getElem?_map, hb1]; rfl), ?_⟩
      refine kL _ ?_ H2 b e12 t2 hb2
      unfold execO
      rw [if_neg c1, if_neg c2, if_neg c3, if_neg hcond, if_neg c4, List.getElem?_eq_getElem hk]
end
end RW
set_option Elab.async false
set_option linter.all false
set_option maxRecDepth 100000
set_option maxHeartbeats 4000000
/-! # The desk: a call answered -/
namespace RW
open PySem PySem.Spec PyProof.Rows L2
open RC
open Sd50 (Table Rule Sign)
/-! ### plain: what is answered -/
def limitOf (num : Nat) : Nat := if num = 2 then 256 else 4096
def fromO (T : Table) (q : Req) : List Int := match execO T q.num q.k q.told with
  | .error n => [-100 - ((q.told.length : Int) - (n : Int))]
  | .ok (.inl z) => [z]
  | .ok (.inr l) => if q.most < (l.length : Int) then [-1] else (l.length : Int) :: intsOf l
theorem no2 {a b : Prop} (h1 : ¬ a) (h2 : ¬ b) : ¬ (a ∨ b) := fun z => z.elim h1 h2
theorem no3 {a b c : Prop} (h1 : ¬ a) (h2 : ¬ b) (h3 : ¬ c) : ¬ (a ∨ b ∨ c) := fun z => z.elim h1 fun z => z.elim h2 h3
theorem within_true {n : Nat} {z : Int} (h : 0 ≤ z ∧ z ≤ (n : Int)) : Sd50.within n z = true := by
  unfold Sd50.within
  rw [decide_eq_true h.1, decide_eq_true h.2]
  rfl
theorem within_false {n : Nat} {z : Int} (h : ¬ (0 ≤ z ∧ z ≤ (n : Int))) : Sd50.within n z = false := by
  unfold Sd50.within
  cases hb : (decide (0 ≤ z) && decide (z ≤ (n : Int))) with
  | false => rfl
  | true =>
    rw [Bool.and_eq_true, decide_eq_true_iff, decide_eq_true_iff] at hb
    exact absurd hb h
theorem put_is (most : Int) (l : List Nat) : (Sd50.put most l).ret :: intsOf (Sd50.put most l).out = if most < (l.length : Int) then [-1] else (l.length : Int) :: intsOf l := by
  unfold Sd50.put
  split <;> rfl
theorem told_error {T : Table} {t : List Nat} {n : Nat} (h : Sd50.rulesOf T t = .error n) : n ≤ t.length := by
  have h : rulesAt T t 0 = .error n := h
  have := (rulesAt_error t.length 0 n (by omega) (Nat.zero_le _) h).2
  omega
theorem ans_bad {T : Table} {q : Req} (R : ReqOk T q) (h : ¬ (0 ≤ q.most ∧ q.most ≤ (limitOf q.num : Int))) : ansOf T q = [-2] := by
  obtain ⟨num, k, most, told⟩ := q
  have h1 : 1 ≤ num := R.lo
  have h5 : num ≤ 5 := R.hi
  have bad : Sd50.bad.ret :: intsOf Sd50.bad.out = [-2] := rfl
  unfold ansOf Req.call
  match num, h1, h5 with
  | 1, _, _ =>
    show (if Sd50.within 256 _ = false ∨ Sd50.within 4096 most = false then Sd50.bad else _).ret :: intsOf (if Sd50.within 256 _ = false ∨ Sd50.within 4096 most = false then Sd50.bad else _).out = [-2]
    rw [if_pos (.inr (within_false h))]
    rfl
  | 2, _, _ =>
    show (if Sd50.within 256 _ = false ∨ Sd50.within 256 most = false then Sd50.bad else _).ret :: intsOf (if Sd50.within 256 _ = false ∨ Sd50.within 256 most = false then Sd50.bad else _).out = [-2]
    rw [if_pos (.inr (within_false h))]
    rfl
  | 3, _, _ =>
    show (if Sd50.within 256 _ = false ∨ Sd50.within 4096 most = false then Sd50.bad else _).ret :: intsOf (if Sd50.within 256 _ = false ∨ Sd50.within 4096 most = false then Sd50.bad else _).out = [-2]
    rw [if_pos (.inr (within_false h))]
    rfl
  | 4, _, _ =>
    show (if Sd50.within 64 (told.length : Int) = false ∨ Sd50.within 4096 most = false ∨ told.any (fun x => decide (63 < x)) = true then Sd50.bad else Sd50.put most (Sd50.decimal (Sd50.sources T told).length)).ret :: intsOf (if Sd50.within 64 (told.length : Int) = false ∨ Sd50.within 4096 most = false ∨ told.any (fun x => decide (63 < x)) = true then Sd50.bad else Sd50.put most (Sd50.decimal (Sd50.sources T told).length)).out = [-2]
    rw [if_pos (.inr (.inl (within_false h)))]
    rfl
  | 5, _, _ =>
    show (if Sd50.within 64 (told.length : Int) = false ∨ Sd50.within 4096 most = false ∨ k < 0 ∨ told.any (fun x => decide (63 < x)) = true then Sd50.bad else (match (Sd50.sources T told)[k.toNat]? with
      | none => ⟨-3, []⟩
      | some t => Sd50.put most t)).ret :: intsOf (if Sd50.within 64 (told.length : Int) = false ∨ Sd50.within 4096 most = false ∨ k < 0 ∨ told.any (fun x => decide (63 < x)) = true then Sd50.bad else (match (Sd50.sources T told)[k.toNat]? with
      | none => ⟨-3, []⟩
      | some t => Sd50.put most t)).out = [-2]
    rw [if_pos (.inr (.inl (within_false h)))]
    rfl
theorem ans_exec {T : Table} {q : Req} (R : ReqOk T q) (h : 0 ≤ q.most ∧ q.most ≤ (limitOf q.num : Int)) : ansOf T q = fromO T q := by
  obtain ⟨num, k, most, told⟩ := q
  have h1 : 1 ≤ num := R.lo
  have h5 : num ≤ 5 := R.hi
  have hlen : told.length ≤ 256 := R.len
  have w256 : Sd50.within 256 (told.length : Int) = true := within_true ⟨by omega, by omega⟩
  unfold ansOf Req.call fromO execO
  match num, h1, h5 with
  | 1, _, _ =>
    have wm : Sd50.within 4096 most = true := within_true h
    show (if Sd50.within 256 (told.length : Int) = false ∨ Sd50.within 4096 most = false then Sd50.bad else Sd50.placed told most (Sd50.written T told)).ret :: intsOf (if Sd50.within 256 (told.length : Int) = false ∨ Sd50.within 4096 most = false then Sd50.bad else Sd50.placed told most (Sd50.written T told)).out = _
    rw [w256, wm, if_neg (by simp)]
    rw [if_pos rfl]
    unfold Sd50.written
    cases hr : Sd50.rulesOf T told with
    | error n =>
      have := told_error hr
      show (-100 - ((told.length - n : Nat) : Int)) :: [] = [-100 - ((told.length : Int) - (n : Int))]
      rw [show ((told.length - n : Nat) : Int) = (told.length : Int) - (n : Int) by omega]
    | ok l => exact put_is most _
  | 2, _, _ =>
    have wm : Sd50.within 256 most = true := within_true h
    show (if Sd50.within 256 (told.length : Int) = false ∨ Sd50.within 256 most = false then Sd50.bad else Sd50.placed told most (Sd50.rulesOf T told)).ret :: intsOf (if Sd50.within 256 (told.length : Int) = false ∨ Sd50.within 256 most = false then Sd50.bad else Sd50.placed told most (Sd50.rulesOf T told)).out = _
    rw [w256, wm, if_neg (by simp)]
    rw [if_neg (show ¬ (2 : Nat) = 1 by decide), if_pos rfl]
    cases hr : Sd50.rulesOf T told with
    | error n =>
      have := told_error hr
      show (-100 - ((told.length - n : Nat) : Int)) :: [] = [-100 - ((told.length : Int) - (n : Int))]
      rw [show ((told.length - n : Nat) : Int) = (told.length : Int) - (n : Int) by omega]
    | ok l => exact put_is most _
  | 3, _, _ =>
    have wm : Sd50.within 4096 most = true := within_true h
    show (if Sd50.within 256 (told.length : Int) = false ∨ Sd50.within 4096 most = false then Sd50.bad else (match Sd50.least T told with
      | none => ⟨-3, []⟩
      | some l => Sd50.put most (Sd50.cellsOf T none told l))).ret :: intsOf (if Sd50.within 256 (told.length : Int) = false ∨ Sd50.within 4096 most = false then Sd50.bad else (match Sd50.least T told with
      | none => ⟨-3, []⟩
      | some l => Sd50.put most (Sd50.cellsOf T none told l))).out = _
    rw [w256, wm, if_neg (by simp)]
    rw [if_neg (show ¬ (3 : Nat) = 1 by decide), if_neg (show ¬ (3 : Nat) = 2 by decide), if_pos rfl]
    cases hr : Sd50.least T told with
    | none => rfl
    | some l => exact put_is most _
  | 4, _, _ =>
    have wm : Sd50.within 4096 most = true := within_true h
    have h64 : told.length ≤ 64 := (R.few (by show 4 ≤ 4; decide)).1
    have w64 : Sd50.within 64 (told.length : Int) = true := within_true ⟨by omega, by omega⟩
    have k0 : k = 0 := R.k0 (by show (4 : Nat) ≠ 5; decide)
    show (if Sd50.within 64 (told.length : Int) = false ∨ Sd50.within 4096 most = false ∨ told.any (fun x => decide (63 < x)) = true then Sd50.bad else Sd50.put most (Sd50.decimal (Sd50.sources T told).length)).ret :: intsOf (if Sd50.within 64 (told.length : Int) = false ∨ Sd50.within 4096 most = false ∨ told.any (fun x => decide (63 < x)) = true then Sd50.bad else Sd50.put most (Sd50.decimal (Sd50.sources T told).length)).out = _
    rw [w64, wm]
    rw [if_neg (by decide : ¬ (4 : Nat) = 1), if_neg (by decide : ¬ (4 : Nat) = 2), if_neg (by decide : ¬ (4 : Nat) = 3)]
    by_cases ca : told.any (fun x => decide (63 < x)) = true
    · rw [if_pos (.inr (.inr ca)), if_pos (.inr ca)]
      rfl
    · rw [if_neg (no3 Bool.noConfusion Bool.noConfusion ca), if_neg (no2 (show ¬ k < 0 by omega) ca), if_pos rfl]
      exact put_is most _
  | 5, _, _ =>
    have wm : Sd50.within 4096 most = true := within_true h
    have h64 : told.length ≤ 64 := (R.few (by show 4 ≤ 5; decide)).1
    have w64 : Sd50.within 64 (told.length : Int) = true := within_true ⟨by omega, by omega⟩
    show (if Sd50.within 64 (told.length : Int) = false ∨ Sd50.within 4096 most = false ∨ k < 0 ∨ told.any (fun x => decide (63 < x)) = true then Sd50.bad else (match (Sd50.sources T told)[k.toNat]? with
      | none => ⟨-3, []⟩
      | some t => Sd50.put most t)).ret :: intsOf (if Sd50.within 64 (told.length : Int) = false ∨ Sd50.within 4096 most = false ∨ k < 0 ∨ told.any (fun x => decide (63 < x)) = true then Sd50.bad else (match (Sd50.sources T told)[k.toNat]? with
      | none => ⟨-3, []⟩
      | some t => Sd50.put most t)).out = _
    rw [w64, wm]
    rw [if_neg (by decide : ¬ (5 : Nat) = 1), if_neg (by decide : ¬ (5 : Nat) = 2), if_neg (by decide : ¬ (5 : Nat) = 3)]
    by_cases ca : k < 0 ∨ told.any (fun x => decide (63 < x)) = true
    · rw [if_pos (.inr (.inr ca)), if_pos ca]
      rfl
    · rw [if_neg (no3 Bool.noConfusion Bool.noConfusion ca), if_neg ca, if_neg (show ¬ (5 : Nat) = 4 by decide)]
      cases hr : (Sd50.sources T told)[k.toNat]? with
      | none => rfl
      | some t => exact put_is most _
theorem ans_len {T : Table} {q : Req} (R : ReqOk T q) : (ansOf T q).length ≤ 4097 := by
  by_cases h : 0 ≤ q.most ∧ q.most ≤ (limitOf q.num : Int)
  · rw [ans_exec R h]
    have hl : limitOf q.num ≤ 4096 := by
      unfold limitOf
      split <;> omega
    unfold fromO
    split
    · show 1 ≤ 4097; decide
    · show 1 ≤ 4097; decide
    · split
      · show 1 ≤ 4097; decide
      · rename_i l _ _
        rw [List.length_cons, ints_len]
        omega
  · rw [ans_bad R h]
    show 1 ≤ 4097
    decide
end RW
set_option Elab.async false
set_option linter.all false
set_option maxRecDepth 100000
set_option maxHeartbeats 4000000
/-! # The desk: a call answered, walked -/
namespace RW
open PySem PySem.Spec PyProof.Rows L2
open RC
open Sd50 (Table Rule Sign)
section
variable {P : Program} {w : World} {K : PySem.W.Frag} {mg : Str → Option Value} {base : Heap} {CR CS CT CO CD CF CP fP PT : Addr}
/-- all but the tables and the reader stay -/
def FrameN (rd : Addr) (H H' : Hp) : Prop := ∀ b o, H b = some o → (∀ ps, o ≠ .tbl ps) → b ≠ rd → H' b = some o
theorem ins_apart {H : Hp} {a b C D dx dy : Addr} {fs gs : List (Str × V)} (h1 : H a = some (.ins C dx fs)) (h2 : H b = some (.ins D dy gs)) (hk : fs.map Prod.fst ≠ gs.map Prod.fst) : a ≠ b := ne_of h1 h2 fun z => hk (by injection z with _ _ e; rw [e])
theorem rd_rule : (["place", "text", "cells"] : List Str) ≠ (["numbers", "position"] : List Str) := by decide +kernel
theorem rd_sign : (["octets", "cells"] : List Str) ≠ (["numbers", "position"] : List Str) := by decide +kernel
theorem rd_tab : (["letters", "rules", "signs"] : List Str) ≠ (["numbers", "position"] : List Str) := by decide +kernel
theorem TabX.frame {H H' : Hp} {a : Addr} {T : Table} {l ru sg : Addr} {as bs : List Addr} (x : TabX CR CS CT H a T l ru sg as bs) {rd n dx : Addr} {p : Nat} (hrd : H rd = some (.ins CD dx (dF n p))) (s : FrameN rd H H') : TabX CR CS CT H' a T l ru sg as bs := by
  have L : ∀ {b : Addr} {xs : List V}, H b = some (.lst xs) → H' b = some (.lst xs) := fun hb => s _ _ hb (fun ps z => nomatch z) (ne_of hb hrd (fun z => nomatch z))
  have I : ∀ {b C dy : Addr} {fs : List (Str × V)}, H b = some (.ins C dy fs) → fs.map Prod.fst ≠ (dF n p).map Prod.fst → H' b = some (.ins C dy fs) := fun hb hk => s _ _ hb (fun ps z => nomatch z) (ins_apart hb hrd hk)
  obtain ⟨dx, h⟩ := x.ob
  refine ⟨⟨dx, I h rd_tab⟩, L x.le, L x.rl, L x.sl, x.l1, x.l2, x.rs, x.ra, x.sa, fun k r e => ?_, fun k r e => ?_⟩
  · obtain ⟨b, t, c, h1, h2⟩ := x.rule k r e
    obtain ⟨dy, hb⟩ := h2.ob
    exact ⟨b, t, c, h1, ⟨dy, I hb rd_rule⟩, L h2.tx, L h2.ce, h2.t1, h2.t2, h2.c1, h2.c2⟩
  · obtain ⟨b, t, c, h1, h2⟩ := x.sign k r e
    obtain ⟨dy, hb⟩ := h2.ob
    exact ⟨b, t, c, h1, ⟨dy, I hb rd_sign⟩, L h2.oc, L h2.ce, h2.o1, h2.o2, h2.c1, h2.c2⟩
theorem TabAt.frame {H H' : Hp} {a : Addr} {T : Table} (x : TabAt CR CS CT H a T) {rd n dx : Addr} {p : Nat} (hrd : H rd = some (.ins CD dx (dF n p))) (s : FrameN rd H H') : TabAt CR CS CT H' a T := by
  obtain ⟨l, ru, sg, as, bs, h⟩ := x
  exact ⟨l, ru, sg, as, bs, h.frame hrd s⟩
theorem SqN.frame {H H' : Hp} {n rd r : Addr} {xs : List V} (h : SqN K H n xs r) (hd : SqN K H n xs rd) (s : FrameN rd H H') : SqN K H' n xs r := by
  rcases h with ⟨h, hne⟩ | h
  · rcases hd with ⟨_, hn⟩ | hd
    · rcases h with h | ⟨o, h⟩
      · exact .inl ⟨.inl (s _ _ h (fun ps z => nomatch z) hn.symm), hne⟩
      · exact .inl ⟨.inr ⟨o, s _ _ h (fun ps z => nomatch z) hn.symm⟩, hne⟩
    · exact .inr hd
  · exact .inr h
theorem TabS.put {H : Hp} {P' : Addr} {q : Str} (t : LamX.TabS H P' q) {b : Addr} {o : HO} (h1 : b ≠ P') (h2 : ∀ c, H c = some (LamX.CodeO c q) → b ≠ c) : LamX.TabS (upd H b o) P' q := by
  obtain ⟨ps, e1, e2, e3⟩ := t
  refine ⟨ps, (upd_ne h1.symm).trans e1, e2, fun pos cv hc => ?_⟩
  obtain ⟨c, hcv, hco⟩ := e3 pos cv hc
  exact ⟨c, hcv, (upd_ne (h2 c hco).symm).trans hco⟩
/-- the reader's writing leaves the tables -/
theorem Tabs.rd {H : Hp} (t : LamX.Tabs (tabsL PT) H) {rd C dx : Addr} {fs : List (Str × V)} (h : H rd = some (.ins C dx fs)) (o : HO) : LamX.Tabs (tabsL PT) (upd H rd o) := by
  intro p hp
  have tp := t p hp
  obtain ⟨ps, e1, _⟩ := id tp
  refine TabS.put tp (ne_of h e1 (fun z => nomatch z)) fun c hc => ne_of h hc (fun z => ?_)
  unfold LamX.CodeO at z
  cases z
/-- statements that meet again -/
theorem seq_meet {t u : TS} {D : Ends} {σ : L2.St} {H : Hp} (Pp : L2.St → Hp → Prop) (h1 : ∀ K : L2.St → Hp → Prop, (∀ σ H, Pp σ H → K σ H) → t { D with nx := K } σ H) (h2 : ∀ σ H, Pp σ H → u D σ H) : tSeq t u D σ H := h1 _ h2
/-- a constant stored -/
theorem seq_set {v : V} {i : Nat} {u : TS} {D : Ends} {σ : L2.St} {H : Hp} (h : u D (σ.set i (some v)) H) : tSeq (tAsg (tC v) (gName i)) u D σ H := h
def spAns1 (K : PySem.W.Frag) (CR CS CT CD PT : Addr) : Sp := fun vs H Q _ => ∃ (a rd n dx : Addr) (p : Nat) (ns rest : List Int) (T : Table) (q : Req), vs = [.ref a, .ref rd] ∧ TabAt CR CS CT H a T ∧ Good T ∧ H rd = some (.ins CD dx (dF n p)) ∧ SqN K H n (ns.map V.int) rd ∧ ReqOk T q ∧
  ns.drop p = q.flat ++ rest ∧ LamX.Tabs (tabsL PT) H ∧
  ∀ H' r, FrameN rd H H' → LamX.Tabs (tabsL PT) H' → H' rd = some (.ins CD dx (dF n (p + q.flat.length))) → H' r = some (.lst ((ansOf T q).map V.int)) → (∀ xs, H r ≠ some (.lst xs)) → Q (.ref r) H'
theorem drop_cons_get {ns : List Int} {p : Nat} {z : Int} {r : List Int} (h : ns.drop p = z :: r) : ns[p]? = some z ∧ ns.drop (p + 1) = r := by
  have h0 : (ns.drop p)[0]? = some z := by rw [h]; rfl
  rw [List.getElem?_drop] at h0
  refine ⟨h0, ?_⟩
  rw [← List.drop_drop, h]
  rfl
theorem sc53 : FnScope ["table", "reader", "number", "k", "most", "told", "limit", "answered", "error"] ["table", "reader"] (defScope (top 53)) := ⟨rfl, rfl, rfl, by decide +kernel, rfl, by decide +kernel, by decide +kernel⟩
theorem ok_answer (F : RawFn K mg "answer_call" ["table", "reader"] (top 53)) (T : TX K mg CR CS CT CO CD CF) (TP : PySem.PlErr.Txt K mg CP fP) (GT : HasMeth P w K mg base CX0 1 CD "take" ["self"] (spTake K CD)) (GL : HasMeth P w K mg base CX0 2 CD "take_list" ["self"] (spTakeList K CD))
    (GX : HasFn P w K mg base (L2.CX P w) 8 "execute_call" ["table", "number", "k", "told"] (spExec CR CS CT CP PT)) : HasFn P w K mg base CX0 9 "answer_call" ["table", "reader"] (spAns1 K CR CS CT CD PT) := by
  obtain ⟨f, fd, F, b, gf⟩ := F
  obtain ⟨gt, gtd, GT, gtb, GTM⟩ := GT
  obtain ⟨gl, gld, GL, glb, GLM⟩ := GL
  obtain ⟨gx, gxd, GX, gxb, gxg, gxk⟩ := GX
  refine ⟨f, fd, F.ok sc53 (fun vs H Q E h => ?_) (fun cdv A outer s H vs Q E hr h => ⟨_, pss_cons (ps_set (i := 2) sc53.nd rfl (.inl rfl) (pe_meth0 (pv 1) T.clD GTM GT (hr.mono (by decide)) gtb .nil pass0))
    (pss_cons (ps_set (i := 3) sc53.nd rfl (.inl rfl) pe_int)
    (pss_cons (ps_if (pt_cmpR op_eq (pv 2) pe_int (nomark _)) (pss_one (ps_set (i := 3) sc53.nd rfl (.inl rfl) (pe_meth0 (pv 1) T.clD GTM GT (hr.mono (by decide)) gtb .nil pass0))) pss_nil)
    (pss_cons (ps_set (i := 4) sc53.nd rfl (.inl rfl) (pe_meth0 (pv 1) T.clD GTM GT (hr.mono (by decide)) gtb .nil pass0))
    (pss_cons (ps_set (i := 5) sc53.nd rfl (.inl rfl) (pe_meth0 (pv 1) T.clD GLM GL (hr.mono (by decide)) glb .nil pass0))
    (pss_cons (ps_set (i := 6) sc53.nd rfl (.inl rfl) (pe_kn T.cMost))
    (pss_cons (ps_if (pt_cmpR op_eq (pv 2) pe_int (nomark _)) (pss_one (ps_set (i := 6) sc53.nd rfl (.inl rfl) (pe_kn T.cMRd))) pss_nil)
    (pss_cons (ps_if (pt_not (pt_chain op_le op_le pe_int (pv 4) (pv 6))) (pss_one (ps_ret (pe_lst (pa_cons (pe_kn T.cNA) pa_nil)))) pss_nil)
    (pss_cons (ps_try_as (i := 8) (Wout := fun _ _ _ _ => False) rfl rfl sc53.nd rfl rfl ⟨rfl, by decide, Or.inl TP.gC⟩ takes0
      (fun W pn xe tk _ => pss_one (ps_set (i := 7) sc53.nd rfl (.inl rfl) (pe_callS (E := fun σ => WE W σ) GX hr rfl gxg gxk gxb (fun σ => passAt tk σ) (pa_cons (pv 0) (pa_cons (pv 2) (pa_cons (pv 3) (pa_cons (pv 5) pa_nil)))))))
      (fun a oe cls d pn hz hf => pss_one (ps_ret (pe_lst (pa_cons (pe_op op_sub (pe_un un_neg (pe_kn T.cH)) (pe_xf (PlErr.xf TP) TP.noN hz hf (pv 8))) pa_nil)))))
    (pss_cons (ps_if (pt_val (pe_callB call_isi (by rfl) T.bIsi (by decide +kernel) (pa_cons (pv 7) (pa_cons (pe_bltn (v := .ty "int") (by rfl) T.bInt boot_int rfl) pa_nil)))) (pss_one (ps_ret (pe_lst (pa_cons (pv 7) pa_nil)))) pss_nil)
    (pss_cons (ps_if (pt_cmpR op_gt (pe_callB call_len_seq (by rfl) T.bLen PySem.boot_len (pa_cons (pv 7) pa_nil)) (pv 4) (nomark _)) (pss_one (ps_ret (pe_lst (pa_cons (pe_kn T.cTM) pa_nil)))) pss_nil)
    (pss_one (ps_ret (pe_op op_cat (pe_lst (pa_cons (pe_callB call_len_seq (by rfl) T.bLen PySem.boot_len (pa_cons (pv 7) pa_nil)) pa_nil)) (pv 7))))))))))))))
    , ?_⟩), b, gf, F.kp⟩
  · obtain ⟨a, rd, n, dx, p, ns, rest, T, q, rfl, _⟩ := h
    rfl
  · obtain ⟨a, rd, n, dx, p, ns, rest, Tb, q, rfl, TA, G, hrd, hs, R, hd, hT, k⟩ := h
    obtain ⟨num, qk, most, told⟩ := q
    have h1 : 1 ≤ num := R.lo
    have hlen : told.length ≤ 256 := R.len
    have hflat : ns.drop p = (num : Int) :: ((if num = 5 then [qk] else []) ++ most :: (told.length : Int) :: (intsOf told ++ rest)) := by
      rw [hd]
      unfold Req.flat
      by_cases c : num = 5
      · subst c
        simp
      · simp [c]
    have hfl : (Req.flat ⟨num, qk, most, told⟩).length = 1 + (if num = 5 then 1 else 0) + 2 + told.length := by
      unfold Req.flat
      by_cases c : num = 5
      · simp [c, ints_len]
        omega
      · simp [c, ints_len]
        omega
    obtain ⟨hz0, hd1⟩ := drop_cons_get hflat
    refine ⟨_, rfl, rd, dx, _, rfl, hrd, dF_no (by decide +kernel) (by decide +kernel), ?_⟩
    refine ⟨rd, n, dx, p, ns, _, rfl, hrd, hs.to, hz0, ?_⟩
    refine seq_set (v := .int 0) (i := 3) ?_
    dsimp only
    have hne5 : ∀ c : Nat, (((num : Nat) : Int) == ((c : Nat) : Int)) = decide (num = c) := fun c => by
      rw [Bool.eq_iff_iff, beq_iff_eq, decide_eq_true_iff]
      omega
    have hsP : ∀ o, SqN K (upd H rd o) n (ns.map V.int) rd := fun o => hs.put o
    refine seq_meet (fun σ H' => ∃ p', σ = [some (.ref a), some (.ref rd), some (.int (num : Nat)), some (.int qk), none, none, none, none, none] ∧ H' = upd H rd (.ins CD dx (dF n p')) ∧
      ns.drop p' = most :: (told.length : Int) :: (intsOf told ++ rest) ∧ p' + 2 + told.length = p + (Req.flat ⟨num, qk, most, told⟩).length) (fun Kn hK => ?_) ?_
    · refine ⟨_, rfl, rfl, _, rfl, ?_⟩
      rw [dec_int, show ((num : Int) == 5) = decide (num = 5) from hne5 5]
      by_cases c : num = 5
      · rw [if_pos c] at hd1 hfl
        obtain ⟨hz1, hd2⟩ := drop_cons_get hd1
        refine if_true_of (decide_eq_true c) ?_
        refine ⟨_, rfl, rd, dx, _, rfl, upd_same, dF_no (by decide +kernel) (by decide +kernel), ?_⟩
        refine ⟨rd, n, dx, p + 1, ns, _, rfl, upd_same, (hsP _).to, hz1, ?_⟩
        rw [upd_upd]
        exact hK _ _ ⟨p + 1 + 1, rfl, rfl, hd2, by omega⟩
      · rw [if_neg c] at hd1 hfl
        refine if_false_of (decide_eq_false c) ?_
        have k0 : qk = 0 := R.k0 c
        subst k0
        exact hK _ _ ⟨p + 1, rfl, rfl, hd1, by omega⟩
    rintro σ H' ⟨p', rfl, rfl, hdp, hpp⟩
    obtain ⟨hz2, hd3⟩ := drop_cons_get hdp
    obtain ⟨hz3, hd4⟩ := drop_cons_get hd3
    refine ⟨_, rfl, rd, dx, _, rfl, upd_same, dF_no (by decide +kernel) (by decide +kernel), ?_⟩
    refine ⟨rd, n, dx, p', ns, _, rfl, upd_same, (hsP _).to, hz2, ?_⟩
    rw [upd_upd]
    refine ⟨_, rfl, rd, dx, _, rfl, upd_same, dF_no (by decide +kernel) (by decide +kernel), ?_⟩
    refine ⟨rd, n, dx, p' + 1, told.length, ns, rfl, upd_same, hsP _, hz3, ?_⟩
    rw [upd_upd]
    intro tl ntl
    have htake : ((ns.drop (p' + 1 + 1)).take told.length).map V.int = nV told := by
      rw [hd4, List.take_left' (ints_len told), nV_ints]
    rw [htake]
    have epos : p' + 1 + 1 + told.length = p + (Req.flat ⟨num, qk, most, told⟩).length := by omega
    rw [epos] at ntl ⊢
    -- from here on: the heap with the reader moved, the list told
    have f2 : FrameN rd H (upd H rd (.ins CD dx (dF n (p + (Req.flat ⟨num, qk, most, told⟩).length)))) := fun b o e _ hb => (upd_ne hb).trans e
    have hT2 : LamX.Tabs (tabsL PT) (upd H rd (.ins CD dx (dF n (p + (Req.flat ⟨num, qk, most, told⟩).length)))) := Tabs.rd hT hrd _
    have hrd2 : upd H rd (.ins CD dx (dF n (p + (Req.flat ⟨num, qk, most, told⟩).length))) rd = some (.ins CD dx (dF n (p + (Req.flat ⟨num, qk, most, told⟩).length))) := upd_same
    have hno2 : ∀ b, b ≠ rd → upd H rd (.ins CD dx (dF n (p + (Req.flat ⟨num, qk, most, told⟩).length))) b = H b := fun b hb => upd_ne hb
    generalize upd H rd (.ins CD dx (dF n (p + (Req.flat ⟨num, qk, most, told⟩).length))) = H2 at f2 hT2 hrd2 hno2 ntl ⊢
    have s3 := Same.new (o := .lst (nV told)) ntl
    have htl : NL (upd H2 tl (.lst (nV told))) tl told := upd_same
    generalize upd H2 tl (.lst (nV told)) = H3 at s3 htl
    have hT3 := hT2.ext s3
    have f3 : FrameN rd H H3 := fun b o e hn hb => s3 _ _ (f2 b o e hn hb)
    have TA3 := TA.frame hrd f3
    have fin : ∀ (H5 : Hp) (r : Addr) (xs : List Int), LamX.ExtN H3 H5 → LamX.Tabs (tabsL PT) H5 → H5 r = none → xs = ansOf Tb ⟨num, qk, most, told⟩ → Q (.ref r) (upd H5 r (.lst (xs.map V.int))) := fun H5 r xs e5 t5 nr ex => by
      have s6 := Same.new (o := .lst (xs.map V.int)) nr
      have hrd5 := e5 _ _ (s3 _ _ hrd2) (fun ps z => nomatch z)
      refine k _ r (fun b o e hn hb => s6 _ _ (e5 _ _ (f3 b o e hn hb) hn)) (t5.ext s6) (s6 _ _ hrd5) (by rw [← ex]; exact upd_same) fun ys hy => ?_
      have hrr : r ≠ rd := ne_of hy hrd (fun z => nomatch z)
      have := e5 _ _ (f3 r _ hy (fun ps z => nomatch z) hrr) (fun ps z => nomatch z)
      rw [nr] at this
      cases this
    refine seq_set (v := .int 4096) (i := 6) ?_
    dsimp only
    refine seq_meet (fun σ H' => σ = [some (.ref a), some (.ref rd), some (.int (num : Nat)), some (.int qk), some (.int most), some (.ref tl), some (.int (limitOf num : Nat)), none, none] ∧ H' = H3) (fun Kn hK => ?_) ?_
    · refine ⟨_, rfl, rfl, _, rfl, ?_⟩
      rw [dec_int, show ((num : Int) == 2) = decide (num = 2) from hne5 2]
      by_cases c : num = 2
      · refine if_true_of (decide_eq_true c) ?_
        refine hK _ _ ⟨?_, rfl⟩
        unfold limitOf
        rw [if_pos c]
        rfl
      · refine if_false_of (decide_eq_false c) ?_
        refine hK _ _ ⟨?_, rfl⟩
        unfold limitOf
        rw [if_neg c]
        rfl
    rintro σ H' ⟨rfl, rfl⟩
    have one : (1 : Nat) ≤ sizeLine := by decide
    refine seq_meet (fun σ H4 => σ = [some (.ref a), some (.ref rd), some (.int (num : Nat)), some (.int qk), some (.int most), some (.ref tl), some (.int (limitOf num : Nat)), none, none] ∧ H4 = H' ∧ (0 ≤ most ∧ most ≤ (limitOf num : Int))) (fun Kn hK => ?_) ?_
    · refine ⟨_, rfl, _, _, rfl, rfl, _, rfl, ?_⟩
      by_cases h0 : 0 ≤ most
      · refine if_true_of (decide_eq_true h0) ?_
        refine ⟨_, rfl, _, _, rfl, rfl, _, rfl, ?_⟩
        by_cases h2 : most ≤ (limitOf num : Int)
        · refine if_false_of (by rw [decide_eq_true h2]; rfl) ?_
          exact hK _ _ ⟨rfl, rfl, h0, h2⟩
        · refine if_true_of (by rw [decide_eq_false h2]; rfl) ?_
          refine ⟨one, fun r nr => ?_⟩
          exact fin _ r [-2] (LamX.ExtN.refl _) hT3 nr (ans_bad R fun z => h2 z.2).symm
      · refine if_false_of (decide_eq_false h0) ?_
        refine ⟨_, rfl, iteT ⟨one, fun r nr => ?_⟩⟩
        exact fin _ r [-2] (LamX.ExtN.refl _) hT3 nr (ans_bad R fun z => h0 z.1).symm
    rintro σ H4 ⟨rfl, rfl, hlim⟩
    have eans := ans_exec R hlim
    unfold fromO at eans
    refine ⟨_, rfl, _, rfl, _, rfl, _, rfl, ?_⟩
    refine ⟨a, tl, Tb, num, qk, told, rfl, TA3, G, htl, ⟨R.lo, R.hi, R.k0, R.byte, R.len, R.few⟩, hT3, fun z hz H5 e5 t5 => ?_, fun l hl H5 p5 e5 t5 hp5 => ?_, fun m hm H5 d s5 nd hd5 => ?_⟩
    · have eans : ansOf Tb ⟨num, qk, most, told⟩ = [z] := by
        rw [eans]
        dsimp only
        rw [hz]
      refine ⟨_, rfl, .int z, .ty "int", .type "int", .type "int", true, rfl, .ty _, .base (.int z), kit_ty (by decide +kernel), _, rfl, iteT ?_⟩
      refine ⟨_, rfl, one, fun r nr => ?_⟩
      exact fin H5 r [z] e5 t5 nr eans.symm
    · have eans : ansOf Tb ⟨num, qk, most, told⟩ = if most < (l.length : Int) then [-1] else (l.length : Int) :: intsOf l := by
        rw [eans]
        dsimp only
        rw [hl]
      refine ⟨_, rfl, .ref p5, .ty "int", .type "list", .type "int", false, rfl, .ty _, .base (.lst hp5), kit_ty (by decide +kernel), _, rfl, iteF ?_⟩
      refine ⟨_, rfl, p5, _, rfl, .inl (SqL.of hp5), _, rfl, _, _, rfl, rfl, _, rfl, ?_⟩
      rw [nV_len]
      by_cases hm : most < (l.length : Int)
      · refine if_true_of (decide_eq_true hm) ?_
        rw [if_pos hm] at eans
        refine ⟨one, fun r nr => ?_⟩
        exact fin H5 r [-1] e5 t5 nr eans.symm
      · refine if_false_of (decide_eq_false hm) ?_
        rw [if_neg hm] at eans
        have hl2 : limitOf num ≤ 4096 := by
          unfold limitOf
          split <;> omega
        refine ⟨_, rfl, p5, _, rfl, .inl (SqL.of hp5), one, fun n1 nn1 => ?_⟩
        have s6 := Same.new (o := .lst [V.int ((nV l).length : Nat)]) nn1
        refine ⟨_, rfl, n1, p5, _, _, rfl, rfl, upd_same, s6 _ _ hp5, ?_, fun r nr => ?_⟩
        · rw [nV_len]
          exact smallK (by show 1 + l.length ≤ 10000; omega)
        have := fin _ r ((l.length : Int) :: intsOf l) (e5.trans (LamX.ExtN.of s6)) (t5.ext s6) nr eans.symm
        have ec : ((l.length : Int) :: intsOf l).map V.int = [V.int ((nV l).length : Nat)] ++ nV l := by
          rw [List.map_cons, nV_ints, nV_len]
          rfl
        rw [ec] at this
        exact this
    · have eans : ansOf Tb ⟨num, qk, most, told⟩ = [-100 - ((told.length : Int) - (m : Int))] := by
        rw [eans]
        dsimp only
        rw [hm]
      refine ⟨true, TP.te, fun _ x nx => ?_, fun z => Bool.noConfusion z⟩
      refine ⟨_, rfl, _, rfl, rfl, rfl, d, _, _, rfl, hd5, lk_here, _, _, rfl, rfl, one, fun r nr => ?_⟩
      exact fin H5 r _ (LamX.ExtN.of s5) (hT3.ext s5) nr eans.symm
end
end RW
set_option Elab.async false
set_option linter.all false
set_option maxRecDepth 100000
set_option maxHeartbeats 4000000
/-! # The desk: all answers -/
namespace RW
open PySem PySem.Spec PyProof.Rows L2
open RC
open Sd50 (Table Rule Sign)
def accOf (T : Table) (l : List Req) : List Int := 1 :: 0 :: l.flatMap fun q => answered (ansOf T q)
theorem acc_len {T : Table} : ∀ l : List Req, (∀ q ∈ l, ReqOk T q) → (l.flatMap fun q => answered (ansOf T q)).length ≤ 4098 * l.length
  | [], _ => Nat.le_refl _
  | q :: l, h => by
    have ih := acc_len l fun q hq => h q (List.mem_cons_of_mem _ hq)
    have h1 := ans_len (h q List.mem_cons_self)
    rw [List.flatMap_cons, List.length_append, List.length_cons]
    have e : (answered (ansOf T q)).length = (ansOf T q).length + 1 := rfl
    omega
theorem flat_pos (q : Req) : q.flat ≠ [] := by
  unfold Req.flat
  split <;> simp
section
variable {P : Program} {w : World} {K : PySem.W.Frag} {mg : Str → Option Value} {base : Heap} {CR CS CT CO CD CF CP fP CL fL PT : Addr}
/-- a list's writing leaves the tables -/
theorem Tabs.lst {H : Hp} (t : LamX.Tabs (tabsL PT) H) {b : Addr} {xs : List V} (h : H b = some (.lst xs)) (o : HO) : LamX.Tabs (tabsL PT) (upd H b o) := by
  intro p hp
  have tp := t p hp
  obtain ⟨ps, e1, _⟩ := id tp
  refine TabS.put tp (ne_of h e1 (fun z => nomatch z)) fun c hc => ne_of h hc (fun z => ?_)
  unfold LamX.CodeO at z
  cases z
def spAns (K : PySem.W.Frag) (PT : Addr) : Sp := fun vs H Q _ => ∃ (a : Addr) (ns : List Int), vs = [.ref a] ∧ SqL K H a (ns.map V.int) ∧ PySd50.answers_asked ns = true ∧ LamX.Tabs (tabsL PT) H ∧
  ∀ (H' : Hp) (p : Addr), H' p = some (.lst ((PySd50.answers ns).map V.int)) → Q (.ref p) H'
/-- behind i calls -/
def AnInv (rd tp rs a dx : Addr) (Hf : Hp) (CD PT : Addr) (T : Table) (ns : List Int) (reqs : List Req) (m : Nat) (σ : L2.St) (H' : Hp) : Prop := ∃ (i p : Nat) (u : Option V), m = reqs.length - i ∧ i ≤ reqs.length ∧
  σ = [some (.ref a), some (.ref rd), some (.ref tp), none, some (.ref rs), u] ∧ FrameN rd Hf H' ∧ LamX.Tabs (tabsL PT) H' ∧ H' rd = some (.ins CD dx (dF a p)) ∧ H' rs = some (.lst ((accOf T (reqs.take i)).map V.int)) ∧ p ≤ ns.length ∧ ns.drop p = (reqs.drop i).flatMap Req.flat
theorem sc52 : FnScope ["calls", "reader", "table", "error", "results", "result"] ["calls"] (defScope (top 52)) := ⟨rfl, rfl, rfl, by decide +kernel, rfl, by decide +kernel, by decide +kernel⟩
theorem ok_answers {f : Addr} {fd : FuncData} (F : Fun K "answers" "answers" (top 52) f fd) (T : TX K mg CR CS CT CO CD CF) (TL : PySem.LnErr.Txt K mg CL fL) (MD : HasInit P w K mg base CX0 1 CD ["self", "numbers"] (spReader CD)) (GE : HasMeth P w K mg base CX0 1 CD "at_end" ["self"] (spAtEnd K CD))
    (GT : HasMeth P w K mg base CX0 1 CD "take" ["self"] (spTake K CD)) (GL : HasMeth P w K mg base CX0 2 CD "take_list" ["self"] (spTakeList K CD)) (GR : HasFn P w K mg base (L2.CX P w) 5 "read_table" ["octets"] (spRead CR CS CT CL))
    (GA : HasFn P w K mg base CX0 9 "answer_call" ["table", "reader"] (spAns1 K CR CS CT CD PT)) : FnOk P w K mg base CX0 10 f fd ["calls"] (spAns K PT) := by
  obtain ⟨md, mdd, MD, mdb, MDk⟩ := MD
  obtain ⟨ge, ged, GE, geb, GEM⟩ := GE
  obtain ⟨gt, gtd, GT, gtb, GTM⟩ := GT
  obtain ⟨gl, gld, GL, glb, GLM⟩ := GL
  obtain ⟨gr, grd, GR, grb, grg, grk⟩ := GR
  obtain ⟨ga, gad, GA, gab, gag, gak⟩ := GA
  refine F.ok sc52 (fun vs H Q E h => ?_) (fun cdv A outer s H vs Q E hr h => ⟨_, pss_cons (ps_set (i := 1) sc52.nd rfl (.inl rfl) (pe_make MDk MD (hr.mono (by decide)) rfl T.gD mdb .nil pass0 (pa_cons (pv 0) pa_nil)))
    (pss_cons (ps_expr (pe_meth0 (pv 1) T.clD GTM GT (hr.mono (by decide)) gtb .nil pass0))
    (pss_cons (ps_try_as (i := 3) (Wout := fun _ _ _ _ => False) rfl rfl sc52.nd rfl rfl ⟨rfl, by decide, Or.inl TL.gC⟩ takes0
      (fun W pn xe tk _ => pss_one (ps_set (i := 2) sc52.nd rfl (.inl rfl) (pe_callS (E := fun σ => WE W σ) GR (hr.mono (by decide)) rfl grg grk grb (fun σ => passAt tk σ) (pa_cons (pe_meth0 (pv 1) T.clD GLM GL (hr.mono (by decide)) glb .nil pass0) pa_nil))))
      (fun a oe cls d pn hz hf => pss_one (ps_ret (pe_lst (pa_cons pe_int (pa_cons (pe_op op_sub (pe_un un_neg (pe_kn T.cH)) (pe_xf (LnErr.xf TL) TL.noN hz hf (pv 3))) pa_nil))))))
    (pss_cons (ps_set (i := 4) sc52.nd rfl (.inl rfl) (pe_lst (pa_cons pe_int (pa_cons pe_int pa_nil))))
    (pss_cons (ps_while PassesOwn.never (pt_not (pt_val (pe_meth0 (pv 1) T.clD GEM GE (hr.mono (by decide)) geb .nil pass0)))
      (pss_cons (ps_set (i := 5) sc52.nd rfl (.inl rfl) (pe_call GA hr rfl gag gak gab .nil pass0 (pa_cons (pv 2) (pa_cons (pv 1) pa_nil))))
      (pss_cons (ps_expr (pe_bm PySem.F.plainAttrs_list PySem.F.slot_list_append PySem.F.type_list_append mt_append (pv 4) (pa_cons (pe_callB call_len_seq (by rfl) T.bLen PySem.boot_len (pa_cons (pv 5) pa_nil)) pa_nil)))
      (pss_one (ps_expr (pe_bm PySem.F.plainAttrs_list PySem.F.slot_list_extend PySem.F.type_list_extend mt_extend (pv 4) (pa_cons (pv 5) pa_nil)))))))
    (pss_one (ps_ret (pv 4))))))), ?_⟩)
  · obtain ⟨a, ns, rfl, _⟩ := h
    rfl
  · obtain ⟨a, ns, rfl, hs, hask, hT, k⟩ := h
    obtain ⟨tb, reqs, hns, hbyte, htb, hreq, hres⟩ := asked_is hask
    have hd0 : ns.drop 0 = 0 :: (tb.length : Int) :: (intsOf tb ++ reqs.flatMap Req.flat) := hns
    obtain ⟨hz0, hd1⟩ := drop_cons_get hd0
    obtain ⟨hz1, hd2⟩ := drop_cons_get hd1
    refine ⟨_, rfl, ?_⟩
    intro rd dx nrd ndx ned
    refine ⟨rd, dx, a, rfl, upd_same, rfl, ?_⟩
    rw [upd_upd]
    have s1 : Same H (upd (upd H dx (.own rd)) rd (.ins CD dx (dF a 0))) := by
      intro b o e
      rw [upd_ne (ne_of_none e nrd), upd_ne (ne_of_none e ndx)]
      exact e
    have hrd1 : upd (upd H dx (.own rd)) rd (.ins CD dx (dF a 0)) rd = some (.ins CD dx (dF a 0)) := upd_same
    have hN1 := (SqN.of hs nrd).same s1
    have hT1 := hT.ext s1
    generalize upd (upd H dx (.own rd)) rd (.ins CD dx (dF a 0)) = H1 at s1 hrd1 hN1 hT1
    refine ⟨_, rfl, rd, dx, _, rfl, hrd1, dF_no (by decide +kernel) (by decide +kernel), ?_⟩
    refine ⟨rd, a, dx, 0, ns, 0, rfl, hrd1, hN1.to, hz0, ?_⟩
    have hT2 : LamX.Tabs (tabsL PT) (upd H1 rd (.ins CD dx (dF a (0 + 1)))) := Tabs.rd hT1 hrd1 _
    have hN2 := hN1.put (.ins CD dx (dF a (0 + 1)))
    have hrd2 : upd H1 rd (.ins CD dx (dF a (0 + 1))) rd = some (.ins CD dx (dF a 1)) := upd_same
    generalize upd H1 rd (.ins CD dx (dF a (0 + 1))) = H2 at hT2 hN2 hrd2
    refine ⟨_, rfl, rd, dx, _, rfl, hrd2, dF_no (by decide +kernel) (by decide +kernel), ?_⟩
    refine ⟨rd, a, dx, 1, tb.length, ns, rfl, hrd2, hN2, hz1, fun tl ntl => ?_⟩
    have htake : ((ns.drop (1 + 1)).take tb.length).map V.int = nV tb := by
      rw [hd2, List.take_left' (ints_len tb), nV_ints]
    rw [htake]
    have hT3 : LamX.Tabs (tabsL PT) (upd H2 rd (.ins CD dx (dF a (1 + 1 + tb.length)))) := Tabs.rd hT2 hrd2 _
    have hN3 := hN2.put (.ins CD dx (dF a (1 + 1 + tb.length)))
    have hrd3 : upd H2 rd (.ins CD dx (dF a (1 + 1 + tb.length))) rd = some (.ins CD dx (dF a (1 + 1 + tb.length))) := upd_same
    generalize upd H2 rd (.ins CD dx (dF a (1 + 1 + tb.length))) = H3 at hT3 hN3 hrd3 ntl ⊢
    have s4 := Same.new (o := .lst (nV tb)) ntl
    have htl : NL (upd H3 tl (.lst (nV tb))) tl tb := upd_same
    generalize upd H3 tl (.lst (nV tb)) = H4 at s4 htl
    have two : (2 : Nat) ≤ sizeLine := by decide
    refine ⟨tl, tb, rfl, htl, htb, fun Tb hTb H5 tp s5 TA => ?_, fun n hn H5 d s5 nd hd => ?_⟩
    · rw [hTb] at hres
      obtain ⟨hok, hans⟩ := hres
      have G := read_good hTb
      have s45 := s4.trans s5
      have hT5 := hT3.ext s45
      have hN5 := hN3.same s45
      have hrd5 := s45 _ _ hrd3
      refine ⟨two, fun rs nrs => ?_⟩
      have s6 := Same.new (o := .lst [V.int 1, V.int 0]) nrs
      have hpl : 1 + 1 + tb.length ≤ ns.length := by
        rw [hns, List.length_cons, List.length_cons, List.length_append, ints_len]
        omega
      have hdp : ns.drop (1 + 1 + tb.length) = reqs.flatMap Req.flat := by
        rw [← List.drop_drop, hd2, List.drop_left' (ints_len tb)]
      refine while_to (AnInv rd tp rs a dx H5 CD PT Tb ns reqs) (reqs.length - 0) ⟨0, 1 + 1 + tb.length, none, rfl, Nat.zero_le _, rfl, fun b o e _ _ => s6 _ _ e, hT5.ext s6, s6 _ _ hrd5, upd_same, hpl, hdp⟩ ?_
      rintro m σ H6 ⟨i, p, u, rfl, hi, rfl, f6, t6, hrd6, hrs6, hpn, hd6⟩
      have hrsrd : rs ≠ rd := ne_of hrs6 hrd6 (fun z => nomatch z)
      refine ⟨_, rfl, rd, dx, _, rfl, hrd6, dF_no (by decide +kernel) (by decide +kernel), ?_⟩
      have hN6 := hN5.frame hN5 f6
      refine ⟨rd, a, p, ns, rfl, ⟨dx, hrd6⟩, hN6.to, _, rfl, ?_⟩
      by_cases he : i = reqs.length
      · subst he
        rw [List.drop_length] at hd6
        have hp : p = ns.length := by
          have := List.drop_eq_nil_iff.mp hd6
          omega
        refine if_false_of (by rw [decide_eq_true hp]; rfl) ?_
        rw [List.take_length] at hrs6
        refine ⟨_, rfl, k H6 rs ?_⟩
        rw [hans]
        exact hrs6
      · have hil : i < reqs.length := by omega
        generalize hq : reqs[i] = q
        have hqi : reqs[i]? = some q := by rw [List.getElem?_eq_getElem hil, hq]
        have hR := hok q (List.mem_of_getElem? hqi)
        rw [List.drop_eq_getElem_cons hil, hq, List.flatMap_cons] at hd6
        have hp : p ≠ ns.length := by
          intro e
          rw [e, List.drop_length] at hd6
          have := congrArg List.length hd6
          rw [List.length_append] at this
          have h1 := List.length_pos_iff.mpr (flat_pos q)
          rw [List.length_nil] at this
          omega
        refine if_true_of (by rw [decide_eq_false hp]; rfl) ?_
        refine ⟨fun σ' H7 => ∃ m', m' < reqs.length - i ∧ AnInv rd tp rs a dx H5 CD PT Tb ns reqs m' σ' H7, fun _ _ z => z, ?_⟩
        refine ⟨_, rfl, _, rfl, ?_⟩
        refine ⟨tp, rd, a, dx, p, ns, _, Tb, q, rfl, TA.frame hrd5 f6, G, hrd6, hN6, hR, hd6, t6, fun H7 r f7 t7 hrd7 hr7 hnr => ?_⟩
        have hrs7 := f7 _ _ hrs6 (fun ps z => nomatch z) hrsrd
        have hrr : r ≠ rs := fun e => hnr _ (by rw [e]; exact hrs6)
        have hlen := acc_len (T := Tb) (reqs.take i) fun q hq => hok q (List.mem_of_mem_take hq)
        rw [List.length_take] at hlen
        have hal := ans_len hR
        have hacc : (accOf Tb (reqs.take i)).length ≤ 2 + 4098 * 300 := by
          show ((reqs.take i).flatMap _).length + 1 + 1 ≤ _
          have : 4098 * min i reqs.length ≤ 4098 * 300 := Nat.mul_le_mul_left _ (by omega)
          omega
        refine ⟨_, rfl, .inl ⟨rfl, _, SqL.of hrs7⟩, _, rfl, r, _, rfl, .inl (SqL.of hr7), rs, _, _, rfl, rfl, hrs7, ?_, ?_⟩
        · rw [List.length_map]
          exact Nat.lt_of_le_of_lt hacc (by decide)
        refine ⟨_, rfl, .inl ⟨rfl, _, SqL.of upd_same⟩, _, rfl, rs, r, _, _, rfl, rfl, upd_same, (upd_ne hrr).trans hr7, ?_, ?_⟩
        · rw [List.length_append, List.length_map, List.length_map]
          show _ + 1 + _ ≤ sizeLine
          exact Nat.le_trans (by omega : _ ≤ 2 + 4098 * 300 + 1 + 4097) (by decide)
        rw [upd_upd]
        have etake : reqs.take (i + 1) = reqs.take i ++ [q] := take_of hqi
        have eacc : (accOf Tb (reqs.take i)).map V.int ++ [V.int (((ansOf Tb q).map V.int).length : Nat)] ++ (ansOf Tb q).map V.int = (accOf Tb (reqs.take (i + 1))).map V.int := by
          unfold accOf
          rw [etake, List.flatMap_append]
          simp [answered]
        rw [eacc]
        have frame : ∀ {b : Addr} {o : HO}, b ≠ rs → H7 b = some o → upd H7 rs (.lst ((accOf Tb (reqs.take (i + 1))).map V.int)) b = some o := fun hb e => (upd_ne hb).trans e
        refine ⟨reqs.length - (i + 1), by omega, i + 1, p + q.flat.length, _, rfl, hil, rfl, ?_, Tabs.lst t7 hrs7 _, frame hrsrd.symm hrd7, upd_same, ?_, ?_⟩
        · intro b o e hn hb
          have hbr : b ≠ rs := ne_of_none e nrs
          exact frame hbr (f7 _ _ (f6 _ _ e hn hb) hn hb)
        · have := congrArg List.length hd6
          rw [List.length_drop, List.length_append] at this
          omega
        · rw [← List.drop_drop, hd6, List.drop_left]
    · rw [hn] at hres
      obtain ⟨_, hans⟩ := hres
      refine ⟨true, TL.te, fun _ x nx => ?_, fun z => Bool.noConfusion z⟩
      refine ⟨_, rfl, _, rfl, rfl, rfl, d, _, _, rfl, hd, lk_here, _, _, rfl, rfl, two, fun r nr => ?_⟩
      refine k _ r ?_
      rw [hans]
      exact upd_same
end
end RW
set_option Elab.async false
set_option linter.all false
set_option maxRecDepth 100000
set_option maxHeartbeats 4000000
/-! # The end of a Spec row whose def comes to a def that makes a lambda: one code table -/
namespace RW
open PySem PySem.Spec PyProof.Rows L2
open PySem.W (WData Codec OpenSpec Well WellAll ReadsW ReadsAllW)
/-- only the arguments (known to the object) and the table at PT are tracked -/
def OnlyT (PT : Addr) (H : Hp) : Prop := H PT = some (.tbl #[]) ∧ ∀ b, b ≠ PT → H b = none ∨ ∃ o u, H b = some (.frz o u)
theorem spec_callT {P : Program} {w : World} {K : PySem.W.Frag} {mg mb : Str → Option Value} {k : Nat} {fa c PT : Addr} {fd : FuncData} {ps : List Str} {sp : Sp} {s₁ : Shared} {vals : List Value} {ds : List WData} {R : PySem.W.WRecords} {cl : Str → Option Addr} {d0 : WData}
    (KX : K.In s₁.heap) (hns : s₁.heap.Ns mainGlobals mg) (hb : s₁.heap.Ns builtinsNs mb) (hbb : ∀ x : Str, x ≠ "__name__" → mb x = bootBuiltins x) (hlim : s₁.heap.NoLimit) (hg : s₁.gens = #[])
    (hT : s₁.heap.get? PT = some { cls := .none, data := .fields #[] }) (nT : K.lookup PT = none) (C : PySem.W.CodeHd s₁.heap c PT)
    (hbm : ∃ (bm : Addr) (ob : Obj), mg "__builtins__" = some (.ref bm) ∧ bm ≠ builtinsNs ∧ s₁.heap.get? bm = some ob ∧ ob.cls = .type "module" ∧ ob.dict = some builtinsNs ∧ ob.data = .plain)
    (hwl : WellAll w.params s₁.heap vals ds) (hpl : plWs ds = true) (hwt : ∀ d ∈ ds, d.weight ≤ 1048576) (hr : Room k callerA)
    (F : ∀ base : Heap, K.In base → base.Ns mainGlobals mg → LamX.TabB base mg c PT → FnOk P w K mg base CX0 k fa fd ps sp) (hbind : ∀ (s : Shared) (us : List Value), us.length = ps.length → BindsTo s fd ⟨us, []⟩ (ps.zip us)) (hlen : ds.length = ps.length)
    (hsp : ∀ (H : Hp) (xs : List V), H PT = some (.tbl #[]) → DwAll K H xs ds → sp xs H (fun v H' => Dw K H' v d0) fun _ _ _ => False) :
    codeAny (model P w) callerA (.call (.ref fa) ⟨vals, []⟩) (fun r s' => ∃ u as, r = .ok (.ret u) ∧ ReadsW R cl s'.heap u d0 as ∧ OldK s₁.heap s'.heap ∧ s'.os = s₁.os ∧ AllBare s'.gens) s₁ := by
  obtain ⟨A, ho, ar⟩ := area_all ds vals hwl hpl hwt
  have hV := vals_toV ho
  have aPT : argH K s₁.heap A PT = none := by
    cases q : argH K s₁.heap A PT with
    | none => rfl
    | some u =>
      obtain ⟨_, vs, _, _, ⟨e2, _⟩ | ⟨e2, _⟩⟩ := argH_is ar q
      · rw [hT] at e2
        have z := congrArg Obj.data (Option.some.inj e2)
        have z' : Data.fields #[] = Data.seq vs.toArray _ := z
        cases z'
      · rw [hT] at e2
        have z := congrArg Obj.data (Option.some.inj e2)
        have z' : Data.fields #[] = Data.seq vs.toArray _ := z
        cases z'
  have same : Same (argH K s₁.heap A) (upd (argH K s₁.heap A) PT (.tbl #[])) := Same.new aPT
  have seqS : ∀ {a : Addr} {xs : List V}, SqL K (argH K s₁.heap A) a xs → SqL K (upd (argH K s₁.heap A) PT (.tbl #[])) a xs := fun h => same.seq h
  have seqT : ∀ {a : Addr} {xs : List V}, SqT K (argH K s₁.heap A) a xs → SqT K (upd (argH K s₁.heap A) PT (.tbl #[])) a xs := fun {a xs} h => by
    rcases h with (h | ⟨o, h⟩) | h
    · exact .inl (.inl (same _ _ h))
    · exact .inl (.inr ⟨o, same _ _ h⟩)
    · exact .inr h
  have hS : DwAll K (upd (argH K s₁.heap A) PT (.tbl #[])) (vals.map toV) ds := by
    have h0 := dw_all KX ar ds vals hwl hpl ho
    have one : ∀ {v : V} {d : WData}, Dw K (argH K s₁.heap A) v d → Dw K (upd (argH K s₁.heap A) PT (.tbl #[])) v d := by
      intro v d h
      exact Dw.rec (K := K) (H := argH K s₁.heap A) (motive_1 := fun v d _ => Dw K (upd (argH K s₁.heap A) PT (.tbl #[])) v d) (motive_2 := fun vs ds _ => DwAll K (upd (argH K s₁.heap A) PT (.tbl #[])) vs ds)
        .non (fun b => .bl b) (fun i => .int i) (fun x => .str x) (fun b => .byt b) (fun h1 _ ih => .lst (seqS h1) ih) (fun h1 _ ih => .tup (seqT h1) ih) .nil (fun _ _ ih1 ih2 => .cons ih1 ih2) h
    have all : ∀ {vs : List V} {ds : List WData}, DwAll K (argH K s₁.heap A) vs ds → DwAll K (upd (argH K s₁.heap A) PT (.tbl #[])) vs ds := by
      intro vs ds h
      exact DwAll.rec (K := K) (H := argH K s₁.heap A) (motive_1 := fun v d _ => Dw K (upd (argH K s₁.heap A) PT (.tbl #[])) v d) (motive_2 := fun vs ds _ => DwAll K (upd (argH K s₁.heap A) PT (.tbl #[])) vs ds)
        .non (fun b => .bl b) (fun i => .int i) (fun x => .str x) (fun b => .byt b) (fun h1 _ ih => .lst (seqS h1) ih) (fun h1 _ ih => .tup (seqT h1) ih) .nil (fun _ _ ih1 ih2 => .cons ih1 ih2) h
    exact all h0
  have hO : OnlyT PT (upd (argH K s₁.heap A) PT (.tbl #[])) := ⟨upd_same, fun b hb => by rw [upd_ne hb]; exact argH_only ar b⟩
  have hok0 : HOk P w (argH K s₁.heap A) s₁.heap := argH_ok ar
  have hok : HOk P w (upd (argH K s₁.heap A) PT (.tbl #[])) s₁.heap := fun b u e => by
    by_cases hb : b = PT
    · rw [hb, upd_same] at e
      cases e
      rw [hb]
      exact hT
    · rw [upd_ne hb] at e
      exact (hok0 b u e).stay (fun _ _ _ q => q) (fun d q => same _ _ q) fun d xs q => same _ _ q
  have hK : ∀ b u, upd (argH K s₁.heap A) PT (.tbl #[]) b = some u → K.lookup b = none := fun b u q => by
    by_cases hb : b = PT
    · rw [hb]
      exact nT
    · rw [upd_ne hb] at q
      exact (argH_is ar q).1
  have noD : ∀ {b : Addr} {o : Obj}, s₁.heap.get? b = some o → (∀ vs n, o.data ≠ .seq vs n) → o.data ≠ .fields #[] → upd (argH K s₁.heap A) PT (.tbl #[]) b = none := fun {b o} e h1 h2 => by
    by_cases hb : b = PT
    · rw [hb, hT] at e
      cases e
      exact (h2 rfl).elim
    · rw [upd_ne hb]
      cases q : argH K s₁.heap A b with
      | none => rfl
      | some u =>
        obtain ⟨_, vs, _, _, ⟨e2, _⟩ | ⟨e2, _⟩⟩ := argH_is ar q
        · rw [e2] at e
          cases e
          exact (h1 _ _ rfl).elim
        · rw [e2] at e
          cases e
          exact (h1 _ _ rfl).elim
  generalize upd (argH K s₁.heap A) PT (.tbl #[]) = H at hO hok hS hK noD
  have base_of : ∀ {b : Addr} {o : Obj}, s₁.heap.get? b = some o → H b = none → (hidT s₁.heap H).get? b = some o := fun e n => hidT_get e n
  have noA : ∀ {b : Addr} {o : Obj} {es : Array DictEntry} {ep : Nat}, s₁.heap.get? b = some o → o.data = .dict es ep → H b = none := fun {b o es ep} e d => by
    refine noD e (fun vs n z => ?_) fun z => ?_
    · rw [d] at z
      cases z
    · rw [d] at z
      cases z
  have nsK : ∀ {b : Addr} {m : Str → Option Value}, s₁.heap.Ns b m → (hidT s₁.heap H).Ns b m := fun {b m} ⟨o, es, ep, e, d, r⟩ => ⟨o, es, ep, base_of e (noA e d), d, r⟩
  have hKb : K.In (hidT s₁.heap H) := fun b o e => base_of (KX b o e) (by
    cases q : H b with
    | none => rfl
    | some u =>
      rw [hK b u q] at e
      cases e)
  have hM : L2.Mod K mg (hidT s₁.heap H) := ⟨hKb, nsK hns, ⟨mb, nsK hb, hbb⟩, let ⟨mc, h1, h2⟩ := hlim; ⟨mc, nsK h1, h2⟩⟩
  have TB : LamX.TabB (hidT s₁.heap H) mg c PT := by
    refine ⟨?_, ?_, fun z => ?_⟩
    · obtain ⟨o, us, file, tf, flags, tg, inF, text, tt, e1, r1, r2, r3, r4, r5, r6, r7, r8, hne⟩ := C
      refine ⟨o, us, file, tf, flags, tg, inF, text, tt, base_of e1 (noD e1 (fun vs n z => ?_) fun z => ?_), r1, r2, r3, r4, r5, r6, r7, r8, hne⟩
      · rw [r2] at z
        cases z
      · rw [r2] at z
        cases z
        simp at r3
    · obtain ⟨bm, ob, b1, b2, b3, b4, b5, b6⟩ := hbm
      have nG : bm ≠ mainGlobals := fun q => by
        obtain ⟨o, es, ep, e, hd, _⟩ := hns
        rw [q, e] at b3
        cases b3
        rw [hd] at b6
        cases b6
      have nP : bm ≠ PT := fun q => by
        rw [q, hT] at b3
        cases b3
        cases b6
      refine ⟨bm, ob, b1, b2, nG, nP, base_of b3 (noD b3 (fun vs n z => ?_) fun z => ?_), b4, b5, b6⟩
      · rw [b6] at z
        cases z
      · rw [b6] at z
        cases z
    · obtain ⟨o, es, ep, e, hd, _⟩ := hns
      rw [z, hT] at e
      cases e
      cases hd
  have e0 : Env0 P w K mg (hidT s₁.heap H) callerA [] s₁ H := ⟨rfl, hM, fun b o e => of_hidT e, Nat.le_of_eq (hidT_size _ _), trivial, fun b hb => absurd (show b ∈ ([] : List Addr) from hb) (by simp), hok, .of_eq hg⟩
  have hl : vals.length = ps.length := by rw [wellAll_len hwl]; exact hlen
  refine codeAny_mono ((F _ hKb (nsK hns) TB).run callerA [] s₁ H ⟨vals, []⟩ vals (vals.map toV) _ _ hr e0 (hbind s₁ vals hl) hV (hsp H _ hO.1 hS)) fun r s' x => ?_
  cases r with
  | error e => exact False.elim x
  | ok fl =>
    cases fl with
    | next => exact False.elim x
    | brk => exact False.elim x
    | cont => exact False.elim x
    | ret u =>
      obtain ⟨v, H', os, bare, un, hok', r', q⟩ := x
      have key : ∀ b o, b ≠ PT → s₁.heap.get? b = some o → s'.heap.get? b = some o := fun b o nb e => by
        rcases hO.2 b nb with z | ⟨ob, u3, z⟩
        · exact un.keep b o e z (by intro z; exact absurd (show b ∈ ([] : List Addr) from z) (by simp)) (by simp)
        · have z2 := un.frzs b ob _ z
          obtain ⟨e1, _⟩ := hok b _ z
          obtain ⟨e2, _⟩ := hok' b _ z2
          rw [e] at e1
          cases e1
          exact e2
      obtain ⟨more, z⟩ := un.tbls PT #[] hO.1
      have grown : s'.heap.get? PT = some { cls := .none, data := .fields (#[] ++ more) } := hok' PT _ z
      have KX' : K.In s'.heap := fun b o e => key b o (fun hb => by rw [hb, nT] at e; cases e) (KX b o e)
      obtain ⟨as, hrd⟩ := Dw.reads (R := R) (cl := cl) hok' KX' d0 v u q r'
      refine ⟨u, as, rfl, hrd, ⟨fun b o e => ?_, fun b o e => ?_⟩, os, bare⟩
      · by_cases hb : b = PT
        · rw [hb] at e ⊢
          rw [hT] at e
          cases e
          exact .inr (.inl ⟨(C.tab hT).isCodeTable, rfl, #[], more, rfl, grown⟩)
        · exact .inl (key b o hb e)
      · by_cases hb : b = PT
        · rw [hb]
          exact ⟨_, grown⟩
        · exact ⟨o, key b o hb e⟩
/-- what is known of the row's def at the head's heap -/
def DefAt (r : OpenSpec) (w : World) (K : PySem.W.Frag) (k : Nat) (ps : List Str) (sp : Addr → PySem.W.Frag → Sp) (mg : Str → Option Value) (fa : Addr) (h : Heap) : Prop :=
  ∃ (fd : FuncData) (c PT : Addr), h.get? PT = some { cls := .none, data := .fields #[] } ∧ K.lookup PT = none ∧ PySem.W.CodeHd h c PT ∧ (∀ (s : Shared) (us : List Value), us.length = ps.length → BindsTo s fd ⟨us, []⟩ (ps.zip us)) ∧
    ∀ base : Heap, K.In base → base.Ns mainGlobals mg → LamX.TabB base mg c PT → FnOk r.prog w K mg base CX0 k fa fd ps (sp PT K)
theorem walk_specT {r : OpenSpec} {k : Nat} {q : Program} {loose : List Str} {XP : (Str → Option Value) → Heap → Prop} {YP : World → Heap → Prop} {d : DefRec} {K : Params → PySem.W.Frag} {ps : List Str} {sp : Addr → PySem.W.Frag → Sp}
    (hwell : r.wellSaid = true) (hdf : d.params.defaults = []) (hlen : r.args.length = ps.length) (hr : Room k callerA)
    (hY : ∀ (w : World) (h : Heap), YP w h → (K w.params).In h)
    (F : ∀ (w : World) (mg mb : Str → Option Value) (mean : ExcName → Option Value) (fa : Addr) (h : Heap), YP w h → (K w.params).In h → Top q (PySem.W.looseW q loose) mean mg mb h → mg d.name = some (.ref fa) → DefAt r w (K w.params) k ps sp mg fa h)
    (hsp : ∀ (PT : Addr) (K : PySem.W.Frag) (H : Hp) (xs : List V) (a : Codec.denoteAll r.args), H PT = some (.tbl #[]) → Codec.withinAll r.args a = true → Codec.app r.args r.asked a = true → DwAll K H xs (Codec.encAll r.args a) →
      sp PT K xs H (fun v H' => Dw K H' v (r.ret.enc (Codec.app r.args r.f a))) fun _ _ _ => False) :
    PySem.W.WalkOS q loose XP YP r d [] (fun f vs => PySem.call f vs) := by
  intro w s₀ s₁ mg mb G Y fa o pm cd doc dV kV ho hd hcd hD hmg hg args vals as hpre hlay hrd hwl hlo
  obtain ⟨a, e1, e2⟩ := PySem.W.os_pre_some hpre
  obtain ⟨e3, hwi⟩ := Codec.encAll_of_decAll r.args args a e1
  subst e3
  have KX := hY w _ Y
  obtain ⟨fd, c, PT, t1, t2, t3, hb, hF⟩ := F w mg mb _ fa _ Y KX G.T hmg
  refine PySem.W.enter_call (codeAny_mono (spec_callT (R := []) (cl := classAt s₀.heap) (d0 := r.ret.enc (Codec.app r.args r.f a)) KX G.T.g G.T.b G.T.builtins G.T.nolimit hg t1 t2 t3 G.T.bmain hwl (pl_encAll _ _) (layable_weight hlay) hr hF hb (by rw [encAll_len]; exact hlen)
    (fun H xs hO hS => hsp PT _ H xs a hO hwi e2 hS)) fun r' s' hq => ?_)
  obtain ⟨u, as', rfl, h1, h2, h3, h4⟩ := hq
  exact ⟨.inl ⟨u, _, as', rfl, fun _ => rfl, h1, (OpenSpec.post_iff hwell hwi _ _).mpr rfl, fun z => Bool.noConfusion (show false = true from z)⟩, h2, h3, h4⟩
end RW
set_option Elab.async false
set_option linter.all false
set_option maxRecDepth 100000
set_option maxHeartbeats 4000000
/-! # What the top has written, collected -/
namespace RW
open PySem PySem.Spec PyProof.Rows L2
/-- an error of the class at S is what «except S» names -/
theorem exm_self {K : PySem.W.Frag} {S : Addr} (h1 : PySem.W.subIn K (.ref S) (.type "BaseException") = some true) (h2 : PySem.W.isClsIn K S = true) (h3 : PySem.W.typeIn K (.ref S) = some (.type "type")) (h4 : PySem.W.subIn K (.ref S) (.ref S) = some true) :
    PySem.W.exmOne K (.ref S) (.ref S) = some true := by
  have e1 : (PySem.W.subIn K (.ref S) (.type "BaseException") == some true) = true := by rw [h1] <;> rfl
  have e2 : ((PySem.W.clsIn K S).isSome && PySem.W.typeIn K (.ref S) == some (.type "type")) = true := by
    have h2' : (PySem.W.clsIn K S).isSome = true := h2
    rw [h2', h3] <;> rfl
  show (if (PySem.W.subIn K (.ref S) (.type "BaseException") == some true) = true then (if ((PySem.W.clsIn K S).isSome && PySem.W.typeIn K (.ref S) == some (.type "type")) = true then PySem.W.subIn K (.ref S) (.ref S) else none) else none) = some true
  rw [if_pos e1, if_pos e2]
  exact h4
section
variable {K : PySem.W.Frag} {h : Heap} {mg : Str → Option Value} {x qual : Str} {ps : List Str} {st : Stmt} {f C : Addr} {oc kV dc pm cd ct : Value} {od an : Option Addr} {sl : Array (Option Value)}
theorem raw_fn (X : K.In h) (G : h.Ns mainGlobals mg) (a : PySem.W.nsIn K mainGlobals x = some (some (.ref f))) (l : K.lookup f = some ⟨oc, od, .func (PySem.W.fnOf x x (defArgs st) (defBody st) (defScope st) .none kV dc pm an cd ct), sl⟩) (c : PySem.W.codeIn K cd x = true) (k : PySem.W.keepIn K (.ref f) = true)
    (hb : ∀ (kV doc pm : Value) (an : Option Addr) (cdv ct : Value) (us : List Value), us.length = ps.length → bindArgs (PySem.W.fnOf x x (defArgs st) (defBody st) (defScope st) .none kV doc pm an cdv ct) ⟨us, []⟩ = pure (ps.zip us)) : RawFn K mg x ps st :=
  ⟨f, _, fun_mk l c k, (fun_mk l c k).binds hb, PySem.W.mg_of X G a⟩
theorem raw_meth (a : PySem.W.findIn K (.ref C) x = some (some (.ref f))) (y : PySem.W.isFn K (.ref f) = true) (l : K.lookup f = some ⟨oc, od, .func (PySem.W.fnOf x qual (defArgs st) (defBody st) (defScope st) .none kV dc pm an cd ct), sl⟩) (c : PySem.W.codeIn K cd qual = true) (k : PySem.W.keepIn K (.ref f) = true)
    (hb : ∀ (kV doc pm : Value) (an : Option Addr) (cdv ct : Value) (us : List Value), us.length = ps.length → bindArgs (PySem.W.fnOf x qual (defArgs st) (defBody st) (defScope st) .none kV doc pm an cdv ct) ⟨us, []⟩ = pure (ps.zip us)) : RawMeth K C x qual ps st :=
  ⟨f, _, fun_mk l c k, (fun_mk l c k).binds hb, ⟨a, y, k⟩⟩
theorem raw_init (a : PySem.W.findIn K (.ref C) "__init__" = some (some (.ref f))) (y : PySem.W.isFn K (.ref f) = true) (l : K.lookup f = some ⟨oc, od, .func (PySem.W.fnOf "__init__" qual (defArgs st) (defBody st) (defScope st) .none kV dc pm an cd ct), sl⟩) (c : PySem.W.codeIn K cd qual = true) (k : PySem.W.keepIn K (.ref f) = true)
    (mk : PySem.W.makesIn K C = true) (kc : PySem.W.keepIn K (.ref C) = true)
    (hb : ∀ (kV doc pm : Value) (an : Option Addr) (cdv ct : Value) (us : List Value), us.length = ps.length → bindArgs (PySem.W.fnOf "__init__" qual (defArgs st) (defBody st) (defScope st) .none kV doc pm an cdv ct) ⟨us, []⟩ = pure (ps.zip us)) : RawInit K C qual ps st :=
  ⟨f, _, fun_mk l c k, (fun_mk l c k).binds hb, ⟨mk, a, y, kc⟩⟩
theorem no_table (X : K.In h) {PT : Addr} (hK : PySem.W.noTabs K = true) (hT : h.get? PT = some { cls := .none, data := .fields #[] }) : K.lookup PT = none := by
  cases q : K.lookup PT with
  | none => rfl
  | some o =>
    have e := X _ _ q
    rw [hT] at e
    have h2 := List.all_eq_true.mp hK (PT, o) (PySem.W.mem_of_lookupK q)
    rw [← Option.some.inj e] at h2
    cases h2
end

theorem all_mk {r : PySem.W.OpenSpec} {w : World} {K : PySem.W.Frag} {h : Heap} {mg mb : Str → Option Value} {mean : ExcName → Option Value} {q : Program} {loose : List Str} {fa CF CR CS CT CO CD CL CP f20 f21 f22 f23 f24 f25 f26 f27 f28 f31 f32 f33 f34 f35 f36 f37 f41 f42 f43 f52 f53 f54 fiR fiS fiT fiO fiD fmT1 fmT2 fmT3 fmT4 fmD1 fmD2 fmD3 fxL fxP : Addr} {od20 an20 od21 an21 od22 an22 od23 an23 od24 an24 od25 an25 od26 an26 od27 an27 od28 an28 od31 an31 od32 an32 od33 an33 od34 an34 od35 an35 od36 an36 od37 an37 od41 an41 od42 an42 od43 an43 od52 an52 od53 an53 od54 an54 odiR aniR odiS aniS odiT aniT odiO aniO odiD aniD odmT1 anmT1 odmT2 anmT2 odmT3 anmT3 odmT4 anmT4 odmD1 anmD1 odmD2 anmD2 odmD3 anmD3 odxL anxL odxP anxP : Option Addr} {sl20 sl21 sl22 sl23 sl24 sl25 sl26 sl27 sl28 sl31 sl32 sl33 sl34 sl35 sl36 sl37 sl41 sl42 sl43 sl52 sl53 sl54 sliR sliS sliT sliO sliD slmT1 slmT2 slmT3 slmT4 slmD1 slmD2 slmD3 slxL slxP : Array (Option Value)} {oc20 kV20 dc20 pm20 cd20 ct20 oc21 kV21 dc21 pm21 cd21 ct21 oc22 kV22 dc22 pm22 cd22 ct22 oc23 kV23 dc23 pm23 cd23 ct23 oc24 kV24 dc24 pm24 cd24 ct24 oc25 kV25 dc25 pm25 cd25 ct25 oc26 kV26 dc26 pm26 cd26 ct26 oc27 kV27 dc27 pm27 cd27 ct27 oc28 kV28 dc28 pm28 cd28 ct28 oc31 kV31 dc31 pm31 cd31 ct31 oc32 kV32 dc32 pm32 cd32 ct32 oc33 kV33 dc33 pm33 cd33 ct33 oc34 kV34 dc34 pm34 cd34 ct34 oc35 kV35 dc35 pm35 cd35 ct35 oc36 kV36 dc36 pm36 cd36 ct36 oc37 kV37 dc37 pm37 cd37 ct37 oc41 kV41 dc41 pm41 cd41 ct41 oc42 kV42 dc42 pm42 cd42 ct42 oc43 kV43 dc43 pm43 cd43 ct43 oc52 kV52 dc52 pm52 cd52 ct52 oc53 kV53 dc53 pm53 cd53 ct53 oc54 kV54 dc54 pm54 cd54 ct54 ociR kViR dciR pmiR cdiR ctiR ociS kViS dciS pmiS cdiS ctiS ociT kViT dciT pmiT cdiT ctiT ociO kViO dciO pmiO cdiO ctiO ociD kViD dciD pmiD cdiD ctiD ocmT1 kVmT1 dcmT1 pmmT1 cdmT1 ctmT1 ocmT2 kVmT2 dcmT2 pmmT2 cdmT2 ctmT2 ocmT3 kVmT3 dcmT3 pmmT3 cdmT3 ctmT3 ocmT4 kVmT4 dcmT4 pmmT4 cdmT4 ctmT4 ocmD1 kVmD1 dcmD1 pmmD1 cdmD1 ctmD1 ocmD2 kVmD2 dcmD2 pmmD2 cdmD2 ctmD2 ocmD3 kVmD3 dcmD3 pmmD3 cdmD3 ctmD3 ocxL dcxL pmxL cdxL ctxL ocxP dcxP pmxP cdxP ctxP : Value} {tcAny tcWord tcBeg tcEnd tcPlaces tcSign tcNL tcBlank tcLR tcMC tcLC tcMR tcMS tcLT tcTM tcNA tcNone tcH tcMost tcMRd : Tok} {nmL qL : Str} {NL : Addr} {bsL subL : List Value} {snL : List Str} {abL : Bool} {colL : Option Bool} {ddL : Option Addr} {m0L m1L m2L m3L m5L : Option Value} {nmP qP : Str} {NP : Addr} {bsP subP : List Value} {snP : List Str} {abP : Bool} {colP : Option Bool} {ddP : Option Addr} {m0P m1P m2P m3P m5P : Option Value}
    (X : K.In h) (TT : Top q loose mean mg mb h) (hfa : mg "answers" = some (.ref fa)) (hrec : ((PyProof.Rows.recsOf q).find? (fun e => e.name == ("texts_of" : Str))).isSome = true) (hno : PySem.W.noTabs K = true)
    (ha20 : PySem.W.nsIn K mainGlobals "need" = some (some (.ref f20)))
    (hl20 : K.lookup f20 = some ⟨oc20, od20, .func (PySem.W.fnOf "need" "need" (defArgs (top 20)) (defBody (top 20)) (defScope (top 20)) .none kV20 dc20 pm20 an20 cd20 ct20), sl20⟩)
    (hc20 : PySem.W.codeIn K cd20 "need" = true)
    (hk20 : PySem.W.keepIn K (.ref f20) = true)
    (ha21 : PySem.W.nsIn K mainGlobals "parts_between" = some (some (.ref f21)))
    (hl21 : K.lookup f21 = some ⟨oc21, od21, .func (PySem.W.fnOf "parts_between" "parts_between" (defArgs (top 21)) (defBody (top 21)) (defScope (top 21)) .none kV21 dc21 pm21 an21 cd21 ct21), sl21⟩)
    (hc21 : PySem.W.codeIn K cd21 "parts_between" = true)
    (hk21 : PySem.W.keepIn K (.ref f21) = true)
    (ha22 : PySem.W.nsIn K mainGlobals "read_word" = some (some (.ref f22)))
    (hl22 : K.lookup f22 = some ⟨oc22, od22, .func (PySem.W.fnOf "read_word" "read_word" (defArgs (top 22)) (defBody (top 22)) (defScope (top 22)) .none kV22 dc22 pm22 an22 cd22 ct22), sl22⟩)
    (hc22 : PySem.W.codeIn K cd22 "read_word" = true)
    (hk22 : PySem.W.keepIn K (.ref f22) = true)
    (ha23 : PySem.W.nsIn K mainGlobals "read_each_once" = some (some (.ref f23)))
    (hl23 : K.lookup f23 = some ⟨oc23, od23, .func (PySem.W.fnOf "read_each_once" "read_each_once" (defArgs (top 23)) (defBody (top 23)) (defScope (top 23)) .none kV23 dc23 pm23 an23 cd23 ct23), sl23⟩)
    (hc23 : PySem.W.codeIn K cd23 "read_each_once" = true)
    (hk23 : PySem.W.keepIn K (.ref f23) = true)
    (ha24 : PySem.W.nsIn K mainGlobals "read_cell" = some (some (.ref f24)))
    (hl24 : K.lookup f24 = some ⟨oc24, od24, .func (PySem.W.fnOf "read_cell" "read_cell" (defArgs (top 24)) (defBody (top 24)) (defScope (top 24)) .none kV24 dc24 pm24 an24 cd24 ct24), sl24⟩)
    (hc24 : PySem.W.codeIn K cd24 "read_cell" = true)
    (hk24 : PySem.W.keepIn K (.ref f24) = true)
    (ha25 : PySem.W.nsIn K mainGlobals "read_cells" = some (some (.ref f25)))
    (hl25 : K.lookup f25 = some ⟨oc25, od25, .func (PySem.W.fnOf "read_cells" "read_cells" (defArgs (top 25)) (defBody (top 25)) (defScope (top 25)) .none kV25 dc25 pm25 an25 cd25 ct25), sl25⟩)
    (hc25 : PySem.W.codeIn K cd25 "read_cells" = true)
    (hk25 : PySem.W.keepIn K (.ref f25) = true)
    (ha26 : PySem.W.nsIn K mainGlobals "place_told" = some (some (.ref f26)))
    (hl26 : K.lookup f26 = some ⟨oc26, od26, .func (PySem.W.fnOf "place_told" "place_told" (defArgs (top 26)) (defBody (top 26)) (defScope (top 26)) .none kV26 dc26 pm26 an26 cd26 ct26), sl26⟩)
    (hc26 : PySem.W.codeIn K cd26 "place_told" = true)
    (hk26 : PySem.W.keepIn K (.ref f26) = true)
    (ha27 : PySem.W.nsIn K mainGlobals "read_line" = some (some (.ref f27)))
    (hl27 : K.lookup f27 = some ⟨oc27, od27, .func (PySem.W.fnOf "read_line" "read_line" (defArgs (top 27)) (defBody (top 27)) (defScope (top 27)) .none kV27 dc27 pm27 an27 cd27 ct27), sl27⟩)
    (hc27 : PySem.W.codeIn K cd27 "read_line" = true)
    (hk27 : PySem.W.keepIn K (.ref f27) = true)
    (ha28 : PySem.W.nsIn K mainGlobals "read_table" = some (some (.ref f28)))
    (hl28 : K.lookup f28 = some ⟨oc28, od28, .func (PySem.W.fnOf "read_table" "read_table" (defArgs (top 28)) (defBody (top 28)) (defScope (top 28)) .none kV28 dc28 pm28 an28 cd28 ct28), sl28⟩)
    (hc28 : PySem.W.codeIn K cd28 "read_table" = true)
    (hk28 : PySem.W.keepIn K (.ref f28) = true)
    (ha31 : PySem.W.nsIn K mainGlobals "longest_rule" = some (some (.ref f31)))
    (hl31 : K.lookup f31 = some ⟨oc31, od31, .func (PySem.W.fnOf "longest_rule" "longest_rule" (defArgs (top 31)) (defBody (top 31)) (defScope (top 31)) .none kV31 dc31 pm31 an31 cd31 ct31), sl31⟩)
    (hc31 : PySem.W.codeIn K cd31 "longest_rule" = true)
    (hk31 : PySem.W.keepIn K (.ref f31) = true)
    (ha32 : PySem.W.nsIn K mainGlobals "rules_by_longest" = some (some (.ref f32)))
    (hl32 : K.lookup f32 = some ⟨oc32, od32, .func (PySem.W.fnOf "rules_by_longest" "rules_by_longest" (defArgs (top 32)) (defBody (top 32)) (defScope (top 32)) .none kV32 dc32 pm32 an32 cd32 ct32), sl32⟩)
    (hc32 : PySem.W.codeIn K cd32 "rules_by_longest" = true)
    (hk32 : PySem.W.keepIn K (.ref f32) = true)
    (ha33 : PySem.W.nsIn K mainGlobals "row_cells" = some (some (.ref f33)))
    (hl33 : K.lookup f33 = some ⟨oc33, od33, .func (PySem.W.fnOf "row_cells" "row_cells" (defArgs (top 33)) (defBody (top 33)) (defScope (top 33)) .none kV33 dc33 pm33 an33 cd33 ct33), sl33⟩)
    (hc33 : PySem.W.codeIn K cd33 "row_cells" = true)
    (hk33 : PySem.W.keepIn K (.ref f33) = true)
    (ha34 : PySem.W.nsIn K mainGlobals "fewest_cells_from" = some (some (.ref f34)))
    (hl34 : K.lookup f34 = some ⟨oc34, od34, .func (PySem.W.fnOf "fewest_cells_from" "fewest_cells_from" (defArgs (top 34)) (defBody (top 34)) (defScope (top 34)) .none kV34 dc34 pm34 an34 cd34 ct34), sl34⟩)
    (hc34 : PySem.W.codeIn K cd34 "fewest_cells_from" = true)
    (hk34 : PySem.W.keepIn K (.ref f34) = true)
    (ha35 : PySem.W.nsIn K mainGlobals "cells_with" = some (some (.ref f35)))
    (hl35 : K.lookup f35 = some ⟨oc35, od35, .func (PySem.W.fnOf "cells_with" "cells_with" (defArgs (top 35)) (defBody (top 35)) (defScope (top 35)) .none kV35 dc35 pm35 an35 cd35 ct35), sl35⟩)
    (hc35 : PySem.W.codeIn K cd35 "cells_with" = true)
    (hk35 : PySem.W.keepIn K (.ref f35) = true)
    (ha36 : PySem.W.nsIn K mainGlobals "fewest_at" = some (some (.ref f36)))
    (hl36 : K.lookup f36 = some ⟨oc36, od36, .func (PySem.W.fnOf "fewest_at" "fewest_at" (defArgs (top 36)) (defBody (top 36)) (defScope (top 36)) .none kV36 dc36 pm36 an36 cd36 ct36), sl36⟩)
    (hc36 : PySem.W.codeIn K cd36 "fewest_at" = true)
    (hk36 : PySem.W.keepIn K (.ref f36) = true)
    (ha37 : PySem.W.nsIn K mainGlobals "rules_by_fewest" = some (some (.ref f37)))
    (hl37 : K.lookup f37 = some ⟨oc37, od37, .func (PySem.W.fnOf "rules_by_fewest" "rules_by_fewest" (defArgs (top 37)) (defBody (top 37)) (defScope (top 37)) .none kV37 dc37 pm37 an37 cd37 ct37), sl37⟩)
    (hc37 : PySem.W.codeIn K cd37 "rules_by_fewest" = true)
    (hk37 : PySem.W.keepIn K (.ref f37) = true)
    (ha41 : PySem.W.nsIn K mainGlobals "longer_rows" = some (some (.ref f41)))
    (hl41 : K.lookup f41 = some ⟨oc41, od41, .func (PySem.W.fnOf "longer_rows" "longer_rows" (defArgs (top 41)) (defBody (top 41)) (defScope (top 41)) .none kV41 dc41 pm41 an41 cd41 ct41), sl41⟩)
    (hc41 : PySem.W.codeIn K cd41 "longer_rows" = true)
    (hk41 : PySem.W.keepIn K (.ref f41) = true)
    (ha42 : PySem.W.nsIn K mainGlobals "is_by_longest" = some (some (.ref f42)))
    (hl42 : K.lookup f42 = some ⟨oc42, od42, .func (PySem.W.fnOf "is_by_longest" "is_by_longest" (defArgs (top 42)) (defBody (top 42)) (defScope (top 42)) .none kV42 dc42 pm42 an42 cd42 ct42), sl42⟩)
    (hc42 : PySem.W.codeIn K cd42 "is_by_longest" = true)
    (hk42 : PySem.W.keepIn K (.ref f42) = true)
    (ha43 : PySem.W.nsIn K mainGlobals "texts_of" = some (some (.ref f43)))
    (hl43 : K.lookup f43 = some ⟨oc43, od43, .func (PySem.W.fnOf "texts_of" "texts_of" (defArgs (top 43)) (defBody (top 43)) (defScope (top 43)) .none kV43 dc43 pm43 an43 cd43 ct43), sl43⟩)
    (hc43 : PySem.W.codeIn K cd43 "texts_of" = true)
    (hk43 : PySem.W.keepIn K (.ref f43) = true)
    (ha52 : PySem.W.nsIn K mainGlobals "answers" = some (some (.ref f52)))
    (hl52 : K.lookup f52 = some ⟨oc52, od52, .func (PySem.W.fnOf "answers" "answers" (defArgs (top 52)) (defBody (top 52)) (defScope (top 52)) .none kV52 dc52 pm52 an52 cd52 ct52), sl52⟩)
    (hc52 : PySem.W.codeIn K cd52 "answers" = true)
    (hk52 : PySem.W.keepIn K (.ref f52) = true)
    (ha53 : PySem.W.nsIn K mainGlobals "answer_call" = some (some (.ref f53)))
    (hl53 : K.lookup f53 = some ⟨oc53, od53, .func (PySem.W.fnOf "answer_call" "answer_call" (defArgs (top 53)) (defBody (top 53)) (defScope (top 53)) .none kV53 dc53 pm53 an53 cd53 ct53), sl53⟩)
    (hc53 : PySem.W.codeIn K cd53 "answer_call" = true)
    (hk53 : PySem.W.keepIn K (.ref f53) = true)
    (ha54 : PySem.W.nsIn K mainGlobals "execute_call" = some (some (.ref f54)))
    (hl54 : K.lookup f54 = some ⟨oc54, od54, .func (PySem.W.fnOf "execute_call" "execute_call" (defArgs (top 54)) (defBody (top 54)) (defScope (top 54)) .none kV54 dc54 pm54 an54 cd54 ct54), sl54⟩)
    (hc54 : PySem.W.codeIn K cd54 "execute_call" = true)
    (hk54 : PySem.W.keepIn K (.ref f54) = true)
    (hgR : PySem.W.nsIn K mainGlobals "Rule" = some (some (.ref CR)))
    (hpgR : PySem.W.plainGet K CR Str.empty = true)
    (hhdR : PySem.W.hasDictIn K CR = true)
    (hpoR : PySem.W.plainOver K CR = true)
    (hsaR : PySem.W.findIn K (.ref CR) "__setattr__" = some (some (.builtin "object.__setattr__")))
    (hmkR : PySem.W.makesIn K CR = true)
    (hkcR : PySem.W.keepIn K (.ref CR) = true)
    (haiR : PySem.W.findIn K (.ref CR) "__init__" = some (some (.ref fiR)))
    (hyiR : PySem.W.isFn K (.ref fiR) = true)
    (hliR : K.lookup fiR = some ⟨ociR, odiR, .func (PySem.W.fnOf "__init__" "Rule.__init__" (defArgs (inClass (top 5) 0)) (defBody (inClass (top 5) 0)) (defScope (inClass (top 5) 0)) .none kViR dciR pmiR aniR cdiR ctiR), sliR⟩)
    (hciR : PySem.W.codeIn K cdiR "Rule.__init__" = true)
    (hkiR : PySem.W.keepIn K (.ref fiR) = true)
    (hgS : PySem.W.nsIn K mainGlobals "Sign" = some (some (.ref CS)))
    (hpgS : PySem.W.plainGet K CS Str.empty = true)
    (hhdS : PySem.W.hasDictIn K CS = true)
    (hpoS : PySem.W.plainOver K CS = true)
    (hsaS : PySem.W.findIn K (.ref CS) "__setattr__" = some (some (.builtin "object.__setattr__")))
    (hmkS : PySem.W.makesIn K CS = true)
    (hkcS : PySem.W.keepIn K (.ref CS) = true)
    (haiS : PySem.W.findIn K (.ref CS) "__init__" = some (some (.ref fiS)))
    (hyiS : PySem.W.isFn K (.ref fiS) = true)
    (hliS : K.lookup fiS = some ⟨ociS, odiS, .func (PySem.W.fnOf "__init__" "Sign.__init__" (defArgs (inClass (top 6) 0)) (defBody (inClass (top 6) 0)) (defScope (inClass (top 6) 0)) .none kViS dciS pmiS aniS cdiS ctiS), sliS⟩)
    (hciS : PySem.W.codeIn K cdiS "Sign.__init__" = true)
    (hkiS : PySem.W.keepIn K (.ref fiS) = true)
    (hgT : PySem.W.nsIn K mainGlobals "Table" = some (some (.ref CT)))
    (hpgT : PySem.W.plainGet K CT Str.empty = true)
    (hhdT : PySem.W.hasDictIn K CT = true)
    (hpoT : PySem.W.plainOver K CT = true)
    (hsaT : PySem.W.findIn K (.ref CT) "__setattr__" = some (some (.builtin "object.__setattr__")))
    (hmkT : PySem.W.makesIn K CT = true)
    (hkcT : PySem.W.keepIn K (.ref CT) = true)
    (haiT : PySem.W.findIn K (.ref CT) "__init__" = some (some (.ref fiT)))
    (hyiT : PySem.W.isFn K (.ref fiT) = true)
    (hliT : K.lookup fiT = some ⟨ociT, odiT, .func (PySem.W.fnOf "__init__" "Table.__init__" (defArgs (inClass (top 7) 0)) (defBody (inClass (top 7) 0)) (defScope (inClass (top 7) 0)) .none kViT dciT pmiT aniT cdiT ctiT), sliT⟩)
    (hciT : PySem.W.codeIn K cdiT "Table.__init__" = true)
    (hkiT : PySem.W.keepIn K (.ref fiT) = true)
    (hgO : PySem.W.nsIn K mainGlobals "Row" = some (some (.ref CO)))
    (hpgO : PySem.W.plainGet K CO Str.empty = true)
    (hhdO : PySem.W.hasDictIn K CO = true)
    (hpoO : PySem.W.plainOver K CO = true)
    (hsaO : PySem.W.findIn K (.ref CO) "__setattr__" = some (some (.builtin "object.__setattr__")))
    (hmkO : PySem.W.makesIn K CO = true)
    (hkcO : PySem.W.keepIn K (.ref CO) = true)
    (haiO : PySem.W.findIn K (.ref CO) "__init__" = some (some (.ref fiO)))
    (hyiO : PySem.W.isFn K (.ref fiO) = true)
    (hliO : K.lookup fiO = some ⟨ociO, odiO, .func (PySem.W.fnOf "__init__" "Row.__init__" (defArgs (inClass (top 40) 0)) (defBody (inClass (top 40) 0)) (defScope (inClass (top 40) 0)) .none kViO dciO pmiO aniO cdiO ctiO), sliO⟩)
    (hciO : PySem.W.codeIn K cdiO "Row.__init__" = true)
    (hkiO : PySem.W.keepIn K (.ref fiO) = true)
    (hgD : PySem.W.nsIn K mainGlobals "CallReader" = some (some (.ref CD)))
    (hpgD : PySem.W.plainGet K CD Str.empty = true)
    (hhdD : PySem.W.hasDictIn K CD = true)
    (hpoD : PySem.W.plainOver K CD = true)
    (hsaD : PySem.W.findIn K (.ref CD) "__setattr__" = some (some (.builtin "object.__setattr__")))
    (hmkD : PySem.W.makesIn K CD = true)
    (hkcD : PySem.W.keepIn K (.ref CD) = true)
    (haiD : PySem.W.findIn K (.ref CD) "__init__" = some (some (.ref fiD)))
    (hyiD : PySem.W.isFn K (.ref fiD) = true)
    (hliD : K.lookup fiD = some ⟨ociD, odiD, .func (PySem.W.fnOf "__init__" "CallReader.__init__" (defArgs (inClass (top 51) 0)) (defBody (inClass (top 51) 0)) (defScope (inClass (top 51) 0)) .none kViD dciD pmiD aniD cdiD ctiD), sliD⟩)
    (hciD : PySem.W.codeIn K cdiD "CallReader.__init__" = true)
    (hkiD : PySem.W.keepIn K (.ref fiD) = true)
    (hamT1 : PySem.W.findIn K (.ref CT) "is_letter_at" = some (some (.ref fmT1)))
    (hymT1 : PySem.W.isFn K (.ref fmT1) = true)
    (hlmT1 : K.lookup fmT1 = some ⟨ocmT1, odmT1, .func (PySem.W.fnOf "is_letter_at" "Table.is_letter_at" (defArgs (inClass (top 7) 1)) (defBody (inClass (top 7) 1)) (defScope (inClass (top 7) 1)) .none kVmT1 dcmT1 pmmT1 anmT1 cdmT1 ctmT1), slmT1⟩)
    (hcmT1 : PySem.W.codeIn K cdmT1 "Table.is_letter_at" = true)
    (hkmT1 : PySem.W.keepIn K (.ref fmT1) = true)
    (hamT2 : PySem.W.findIn K (.ref CT) "may_stand" = some (some (.ref fmT2)))
    (hymT2 : PySem.W.isFn K (.ref fmT2) = true)
    (hlmT2 : K.lookup fmT2 = some ⟨ocmT2, odmT2, .func (PySem.W.fnOf "may_stand" "Table.may_stand" (defArgs (inClass (top 7) 2)) (defBody (inClass (top 7) 2)) (defScope (inClass (top 7) 2)) .none kVmT2 dcmT2 pmmT2 anmT2 cdmT2 ctmT2), slmT2⟩)
    (hcmT2 : PySem.W.codeIn K cdmT2 "Table.may_stand" = true)
    (hkmT2 : PySem.W.keepIn K (.ref fmT2) = true)
    (hamT3 : PySem.W.findIn K (.ref CT) "applies" = some (some (.ref fmT3)))
    (hymT3 : PySem.W.isFn K (.ref fmT3) = true)
    (hlmT3 : K.lookup fmT3 = some ⟨ocmT3, odmT3, .func (PySem.W.fnOf "applies" "Table.applies" (defArgs (inClass (top 7) 3)) (defBody (inClass (top 7) 3)) (defScope (inClass (top 7) 3)) .none kVmT3 dcmT3 pmmT3 anmT3 cdmT3 ctmT3), slmT3⟩)
    (hcmT3 : PySem.W.codeIn K cdmT3 "Table.applies" = true)
    (hkmT3 : PySem.W.keepIn K (.ref fmT3) = true)
    (hamT4 : PySem.W.findIn K (.ref CT) "sign_cells" = some (some (.ref fmT4)))
    (hymT4 : PySem.W.isFn K (.ref fmT4) = true)
    (hlmT4 : K.lookup fmT4 = some ⟨ocmT4, odmT4, .func (PySem.W.fnOf "sign_cells" "Table.sign_cells" (defArgs (inClass (top 7) 4)) (defBody (inClass (top 7) 4)) (defScope (inClass (top 7) 4)) .none kVmT4 dcmT4 pmmT4 anmT4 cdmT4 ctmT4), slmT4⟩)
    (hcmT4 : PySem.W.codeIn K cdmT4 "Table.sign_cells" = true)
    (hkmT4 : PySem.W.keepIn K (.ref fmT4) = true)
    (hamD1 : PySem.W.findIn K (.ref CD) "at_end" = some (some (.ref fmD1)))
    (hymD1 : PySem.W.isFn K (.ref fmD1) = true)
    (hlmD1 : K.lookup fmD1 = some ⟨ocmD1, odmD1, .func (PySem.W.fnOf "at_end" "CallReader.at_end" (defArgs (inClass (top 51) 1)) (defBody (inClass (top 51) 1)) (defScope (inClass (top 51) 1)) .none kVmD1 dcmD1 pmmD1 anmD1 cdmD1 ctmD1), slmD1⟩)
    (hcmD1 : PySem.W.codeIn K cdmD1 "CallReader.at_end" = true)
    (hkmD1 : PySem.W.keepIn K (.ref fmD1) = true)
    (hamD2 : PySem.W.findIn K (.ref CD) "take" = some (some (.ref fmD2)))
    (hymD2 : PySem.W.isFn K (.ref fmD2) = true)
    (hlmD2 : K.lookup fmD2 = some ⟨ocmD2, odmD2, .func (PySem.W.fnOf "take" "CallReader.take" (defArgs (inClass (top 51) 2)) (defBody (inClass (top 51) 2)) (defScope (inClass (top 51) 2)) .none kVmD2 dcmD2 pmmD2 anmD2 cdmD2 ctmD2), slmD2⟩)
    (hcmD2 : PySem.W.codeIn K cdmD2 "CallReader.take" = true)
    (hkmD2 : PySem.W.keepIn K (.ref fmD2) = true)
    (hamD3 : PySem.W.findIn K (.ref CD) "take_list" = some (some (.ref fmD3)))
    (hymD3 : PySem.W.isFn K (.ref fmD3) = true)
    (hlmD3 : K.lookup fmD3 = some ⟨ocmD3, odmD3, .func (PySem.W.fnOf "take_list" "CallReader.take_list" (defArgs (inClass (top 51) 3)) (defBody (inClass (top 51) 3)) (defScope (inClass (top 51) 3)) .none kVmD3 dcmD3 pmmD3 anmD3 cdmD3 ctmD3), slmD3⟩)
    (hcmD3 : PySem.W.codeIn K cdmD3 "CallReader.take_list" = true)
    (hkmD3 : PySem.W.keepIn K (.ref fmD3) = true)
    (hnRp : PySem.W.findIn K (.ref CR) "place" = some none)
    (hnRt : PySem.W.findIn K (.ref CR) "text" = some none)
    (hnRc : PySem.W.findIn K (.ref CR) "cells" = some none)
    (hnSo : PySem.W.findIn K (.ref CS) "octets" = some none)
    (hnSc : PySem.W.findIn K (.ref CS) "cells" = some none)
    (hnTl : PySem.W.findIn K (.ref CT) "letters" = some none)
    (hnTr : PySem.W.findIn K (.ref CT) "rules" = some none)
    (hnTs : PySem.W.findIn K (.ref CT) "signs" = some none)
    (hnOn : PySem.W.findIn K (.ref CO) "numbers" = some none)
    (hnOt : PySem.W.findIn K (.ref CO) "text" = some none)
    (hnOc : PySem.W.findIn K (.ref CO) "cell_count" = some none)
    (hnDn : PySem.W.findIn K (.ref CD) "numbers" = some none)
    (hnDp : PySem.W.findIn K (.ref CD) "position" = some none)
    (hcAny : PySem.W.nsIn K mainGlobals "ANYWHERE" = some (some (.str "a" tcAny)))
    (hcWord : PySem.W.nsIn K mainGlobals "WORD" = some (some (.str "w" tcWord)))
    (hcBeg : PySem.W.nsIn K mainGlobals "BEGINNING" = some (some (.str "b" tcBeg)))
    (hcEnd : PySem.W.nsIn K mainGlobals "END" = some (some (.str "e" tcEnd)))
    (hcPlaces : PySem.W.nsIn K mainGlobals "PLACES" = some (some (.str "awbei" tcPlaces)))
    (hcSign : PySem.W.nsIn K mainGlobals "SIGN" = some (some (.str "s" tcSign)))
    (hcNL : PySem.W.nsIn K mainGlobals "NEWLINE" = some (some (.int 10 tcNL)))
    (hcBlank : PySem.W.nsIn K mainGlobals "BLANK" = some (some (.int 32 tcBlank)))
    (hcLR : PySem.W.nsIn K mainGlobals "LONGEST_RULE" = some (some (.int 16 tcLR)))
    (hcMC : PySem.W.nsIn K mainGlobals "MOST_CELLS" = some (some (.int 4 tcMC)))
    (hcLC : PySem.W.nsIn K mainGlobals "LARGEST_CELL" = some (some (.int 63 tcLC)))
    (hcMR : PySem.W.nsIn K mainGlobals "MOST_RULES_reading" = some (some (.int 64 tcMR)))
    (hcMS : PySem.W.nsIn K mainGlobals "MOST_SIGNS" = some (some (.int 4 tcMS)))
    (hcLT : PySem.W.nsIn K mainGlobals "LONGEST_TEXT" = some (some (.int 256 tcLT)))
    (hcTM : PySem.W.nsIn K mainGlobals "TOO_MANY" = some (some (.int (-1) tcTM)))
    (hcNA : PySem.W.nsIn K mainGlobals "NOT_ALLOWED" = some (some (.int (-2) tcNA)))
    (hcNone : PySem.W.nsIn K mainGlobals "NONE" = some (some (.int (-3) tcNone)))
    (hcH : PySem.W.nsIn K mainGlobals "HUNDRED" = some (some (.int 100 tcH)))
    (hcMost : PySem.W.nsIn K mainGlobals "MOST" = some (some (.int 4096 tcMost)))
    (hcMRd : PySem.W.nsIn K mainGlobals "MOST_RULES_desk" = some (some (.int 256 tcMRd)))
    (hbLen : PySem.W.nsIn K mainGlobals "len" = some none)
    (hbAll : PySem.W.nsIn K mainGlobals "all" = some none)
    (hbAny : PySem.W.nsIn K mainGlobals "any" = some none)
    (hbOrd : PySem.W.nsIn K mainGlobals "ord" = some none)
    (hbSet : PySem.W.nsIn K mainGlobals "set" = some none)
    (hbEnum : PySem.W.nsIn K mainGlobals "enumerate" = some none)
    (hbMin : PySem.W.nsIn K mainGlobals "min" = some none)
    (hbSorted : PySem.W.nsIn K mainGlobals "sorted" = some none)
    (hbStr : PySem.W.nsIn K mainGlobals "str" = some none)
    (hbIsi : PySem.W.nsIn K mainGlobals "isinstance" = some none)
    (hbInt : PySem.W.nsIn K mainGlobals "int" = some none)
    (hgF : PySem.W.nsIn K mainGlobals "WordError" = some (some (.ref CF)))
    (hxF : PySem.W.excIn K CF [.type "Exception", .type "BaseException", .type "object"] "Exception.__new__" = true)
    (hkF : PySem.W.keepIn K (.ref CF) = true)
    (hbF : PySem.W.subIn K (.ref CF) (.type "BaseException") = some true)
    (htF : PySem.W.typeIn K (.ref CF) = some (.type "type"))
    (hiF : PySem.W.isClsIn K CF = true)
    (hsF : PySem.W.subIn K (.ref CF) (.ref CF) = some true)
    (hgL : PySem.W.nsIn K mainGlobals "LineError" = some (some (.ref CL)))
    (hxL : K.lookup CL = some (excClassObj nmL qL CL NL bsL [.type "Exception", .type "BaseException", .type "object"] true snL subL abL colL ddL m0L m1L m2L m3L m5L "Exception.__new__"))
    (hsaL : PySem.W.findIn K (.ref CL) "__setattr__" = some (some (.builtin "object.__setattr__")))
    (hgaL : PySem.W.findIn K (.ref CL) "__getattribute__" = some (some (.builtin "BaseException.__getattribute__")))
    (hggL : PySem.W.findIn K (.ref CL) "__getattr__" = some none)
    (hnbL : PySem.W.findIn K (.ref CL) "line" = some none)
    (haxL : PySem.W.findIn K (.ref CL) "__init__" = some (some (.ref fxL)))
    (htxL : PySem.W.typeIn K (.ref fxL) = some (.type "function"))
    (hlxL : K.lookup fxL = some ⟨ocxL, odxL, .func (PySem.W.fnOf "__init__" "LineError.__init__" (defArgs (inClass (top 18) 0)) (defBody (inClass (top 18) 0)) (defScope (inClass (top 18) 0)) .none .none dcxL pmxL anxL cdxL ctxL), slxL⟩)
    (hcxL : PySem.W.codeIn K cdxL "LineError.__init__" = true)
    (hkCL : PySem.W.keepIn K (.ref CL) = true)
    (heCL : PySem.W.subIn K (.ref CL) (.type "BaseException") = some true)
    (htCL : PySem.W.typeIn K (.ref CL) = some (.type "type"))
    (hhCL : PySem.W.hasDictIn K CL = true)
    (hiCL : PySem.W.isClsIn K CL = true)
    (hsCL : PySem.W.subIn K (.ref CL) (.ref CL) = some true)
    (hgP : PySem.W.nsIn K mainGlobals "PlaceError" = some (some (.ref CP)))
    (hxP : K.lookup CP = some (excClassObj nmP qP CP NP bsP [.type "Exception", .type "BaseException", .type "object"] true snP subP abP colP ddP m0P m1P m2P m3P m5P "Exception.__new__"))
    (hsaP : PySem.W.findIn K (.ref CP) "__setattr__" = some (some (.builtin "object.__setattr__")))
    (hgaP : PySem.W.findIn K (.ref CP) "__getattribute__" = some (some (.builtin "BaseException.__getattribute__")))
    (hggP : PySem.W.findIn K (.ref CP) "__getattr__" = some none)
    (hnbP : PySem.W.findIn K (.ref CP) "place" = some none)
    (haxP : PySem.W.findIn K (.ref CP) "__init__" = some (some (.ref fxP)))
    (htxP : PySem.W.typeIn K (.ref fxP) = some (.type "function"))
    (hlxP : K.lookup fxP = some ⟨ocxP, odxP, .func (PySem.W.fnOf "__init__" "PlaceError.__init__" (defArgs (inClass (top 30) 0)) (defBody (inClass (top 30) 0)) (defScope (inClass (top 30) 0)) .none .none dcxP pmxP anxP cdxP ctxP), slxP⟩)
    (hcxP : PySem.W.codeIn K cdxP "PlaceError.__init__" = true)
    (hkCP : PySem.W.keepIn K (.ref CP) = true)
    (heCP : PySem.W.subIn K (.ref CP) (.type "BaseException") = some true)
    (htCP : PySem.W.typeIn K (.ref CP) = some (.type "type"))
    (hhCP : PySem.W.hasDictIn K CP = true)
    (hiCP : PySem.W.isClsIn K CP = true)
    (hsCP : PySem.W.subIn K (.ref CP) (.ref CP) = some true)
    : DefAt r w K 10 ["calls"] (fun PT K => spAns K PT) mg fa h := by
  have G := TT.g
  have e := hfa.symm.trans (PySem.W.mg_of X G ha52)
  cases e
  have T : TX K mg CR CS CT CO CD CF := { clR := ⟨hpgR, hhdR, hpoR, hsaR⟩, gR := PySem.W.mg_of X G hgR, clS := ⟨hpgS, hhdS, hpoS, hsaS⟩, gS := PySem.W.mg_of X G hgS, clT := ⟨hpgT, hhdT, hpoT, hsaT⟩, gT := PySem.W.mg_of X G hgT, clO := ⟨hpgO, hhdO, hpoO, hsaO⟩, gO := PySem.W.mg_of X G hgO, clD := ⟨hpgD, hhdD, hpoD, hsaD⟩, gD := PySem.W.mg_of X G hgD, nRp := hnRp, nRt := hnRt, nRc := hnRc, nSo := hnSo, nSc := hnSc, nTl := hnTl, nTr := hnTr, nTs := hnTs, nOn := hnOn, nOt := hnOt, nOc := hnOc, nDn := hnDn, nDp := hnDp, cAny := ⟨_, PySem.W.mg_of X G hcAny, _, rfl⟩, cWord := ⟨_, PySem.W.mg_of X G hcWord, _, rfl⟩, cBeg := ⟨_, PySem.W.mg_of X G hcBeg, _, rfl⟩, cEnd := ⟨_, PySem.W.mg_of X G hcEnd, _, rfl⟩, cPlaces := ⟨_, PySem.W.mg_of X G hcPlaces, _, rfl⟩, cSign := ⟨_, PySem.W.mg_of X G hcSign, _, rfl⟩, cNL := ⟨_, PySem.W.mg_of X G hcNL, _, rfl⟩, cBlank := ⟨_, PySem.W.mg_of X G hcBlank, _, rfl⟩, cLR := ⟨_, PySem.W.mg_of X G hcLR, _, rfl⟩, cMC := ⟨_, PySem.W.mg_of X G hcMC, _, rfl⟩, cLC := ⟨_, PySem.W.mg_of X G hcLC, _, rfl⟩, cMR := ⟨_, PySem.W.mg_of X G hcMR, _, rfl⟩, cMS := ⟨_, PySem.W.mg_of X G hcMS, _, rfl⟩, cLT := ⟨_, PySem.W.mg_of X G hcLT, _, rfl⟩, cTM := ⟨_, PySem.W.mg_of X G hcTM, _, rfl⟩, cNA := ⟨_, PySem.W.mg_of X G hcNA, _, rfl⟩, cNone := ⟨_, PySem.W.mg_of X G hcNone, _, rfl⟩, cH := ⟨_, PySem.W.mg_of X G hcH, _, rfl⟩, cMost := ⟨_, PySem.W.mg_of X G hcMost, _, rfl⟩, cMRd := ⟨_, PySem.W.mg_of X G hcMRd, _, rfl⟩, bLen := PySem.W.mg_none_of X G hbLen, bAll := PySem.W.mg_none_of X G hbAll, bAny := PySem.W.mg_none_of X G hbAny, bOrd := PySem.W.mg_none_of X G hbOrd, bSet := PySem.W.mg_none_of X G hbSet, bEnum := PySem.W.mg_none_of X G hbEnum, bMin := PySem.W.mg_none_of X G hbMin, bSorted := PySem.W.mg_none_of X G hbSorted, bStr := PySem.W.mg_none_of X G hbStr, bIsi := PySem.W.mg_none_of X G hbIsi, bInt := PySem.W.mg_none_of X G hbInt, gF := PySem.W.mg_of X G hgF, xF := hxF, kF := hkF, bF := hbF, tF := htF, eF := exm_self hbF hiF htF hsF }
  have TL : PySem.LnErr.Txt K mg CL fxL := { gC := PySem.W.mg_of X G hgL, cls := ⟨_, _, _, _, _, _, _, _, _, _, _, _, _, _, hxL⟩, sa := hsaL, ga := hgaL, gg := hggL, noN := hnbL, iC := haxL, tC := htxL, kC := hkCL, exC := heCL, tyC := htCL, hdC := hhCL, te := exm_self heCL hiCL htCL hsCL, fn := ⟨_, _, _, _, _, _, _, _, _, _, _, _, _, _, hlxL, hcxL⟩ }
  have TP : PySem.PlErr.Txt K mg CP fxP := { gC := PySem.W.mg_of X G hgP, cls := ⟨_, _, _, _, _, _, _, _, _, _, _, _, _, _, hxP⟩, sa := hsaP, ga := hgaP, gg := hggP, noN := hnbP, iC := haxP, tC := htxP, kC := hkCP, exC := heCP, tyC := htCP, hdC := hhCP, te := exm_self heCP hiCP htCP hsCP, fn := ⟨_, _, _, _, _, _, _, _, _, _, _, _, _, _, hlxP, hcxP⟩ }
  have R20 : RawFn K mg "need" ["holds"] (top 20) := raw_fn X G ha20 hl20 hc20 hk20 (fun _ _ _ _ _ _ us hl => match us, hl with | [_], _ => rfl)
  have R21 : RawFn K mg "parts_between" ["octets", "separator"] (top 21) := raw_fn X G ha21 hl21 hc21 hk21 (fun _ _ _ _ _ _ us hl => match us, hl with | [_, _], _ => rfl)
  have R22 : RawFn K mg "read_word" ["octets"] (top 22) := raw_fn X G ha22 hl22 hc22 hk22 (fun _ _ _ _ _ _ us hl => match us, hl with | [_], _ => rfl)
  have R23 : RawFn K mg "read_each_once" ["octets"] (top 23) := raw_fn X G ha23 hl23 hc23 hk23 (fun _ _ _ _ _ _ us hl => match us, hl with | [_], _ => rfl)
  have R24 : RawFn K mg "read_cell" ["octets"] (top 24) := raw_fn X G ha24 hl24 hc24 hk24 (fun _ _ _ _ _ _ us hl => match us, hl with | [_], _ => rfl)
  have R25 : RawFn K mg "read_cells" ["octets"] (top 25) := raw_fn X G ha25 hl25 hc25 hk25 (fun _ _ _ _ _ _ us hl => match us, hl with | [_], _ => rfl)
  have R26 : RawFn K mg "place_told" ["octets"] (top 26) := raw_fn X G ha26 hl26 hc26 hk26 (fun _ _ _ _ _ _ us hl => match us, hl with | [_], _ => rfl)
  have R27 : RawFn K mg "read_line" ["table", "octets"] (top 27) := raw_fn X G ha27 hl27 hc27 hk27 (fun _ _ _ _ _ _ us hl => match us, hl with | [_, _], _ => rfl)
  have R28 : RawFn K mg "read_table" ["octets"] (top 28) := raw_fn X G ha28 hl28 hc28 hk28 (fun _ _ _ _ _ _ us hl => match us, hl with | [_], _ => rfl)
  have R31 : RawFn K mg "longest_rule" ["table", "text", "place"] (top 31) := raw_fn X G ha31 hl31 hc31 hk31 (fun _ _ _ _ _ _ us hl => match us, hl with | [_, _, _], _ => rfl)
  have R32 : RawFn K mg "rules_by_longest" ["table", "text"] (top 32) := raw_fn X G ha32 hl32 hc32 hk32 (fun _ _ _ _ _ _ us hl => match us, hl with | [_, _], _ => rfl)
  have R33 : RawFn K mg "row_cells" ["table", "text", "numbers"] (top 33) := raw_fn X G ha33 hl33 hc33 hk33 (fun _ _ _ _ _ _ us hl => match us, hl with | [_, _, _], _ => rfl)
  have R34 : RawFn K mg "fewest_cells_from" ["table", "text"] (top 34) := raw_fn X G ha34 hl34 hc34 hk34 (fun _ _ _ _ _ _ us hl => match us, hl with | [_, _], _ => rfl)
  have R35 : RawFn K mg "cells_with" ["table", "text", "place", "rule", "fewest"] (top 35) := raw_fn X G ha35 hl35 hc35 hk35 (fun _ _ _ _ _ _ us hl => match us, hl with | [_, _, _, _, _], _ => rfl)
  have R36 : RawFn K mg "fewest_at" ["table", "text", "place", "fewest"] (top 36) := raw_fn X G ha36 hl36 hc36 hk36 (fun _ _ _ _ _ _ us hl => match us, hl with | [_, _, _, _], _ => rfl)
  have R37 : RawFn K mg "rules_by_fewest" ["table", "text"] (top 37) := raw_fn X G ha37 hl37 hc37 hk37 (fun _ _ _ _ _ _ us hl => match us, hl with | [_, _], _ => rfl)
  have R41 : RawFn K mg "longer_rows" ["table", "row", "cells"] (top 41) := raw_fn X G ha41 hl41 hc41 hk41 (fun _ _ _ _ _ _ us hl => match us, hl with | [_, _, _], _ => rfl)
  have R42 : RawFn K mg "is_by_longest" ["table", "row"] (top 42) := raw_fn X G ha42 hl42 hc42 hk42 (fun _ _ _ _ _ _ us hl => match us, hl with | [_, _], _ => rfl)
  have R43 : RawFn K mg "texts_of" ["table", "cells"] (top 43) := raw_fn X G ha43 hl43 hc43 hk43 (fun _ _ _ _ _ _ us hl => match us, hl with | [_, _], _ => rfl)
  have R53 : RawFn K mg "answer_call" ["table", "reader"] (top 53) := raw_fn X G ha53 hl53 hc53 hk53 (fun _ _ _ _ _ _ us hl => match us, hl with | [_, _], _ => rfl)
  have R54 : RawFn K mg "execute_call" ["table", "number", "k", "told"] (top 54) := raw_fn X G ha54 hl54 hc54 hk54 (fun _ _ _ _ _ _ us hl => match us, hl with | [_, _, _, _], _ => rfl)
  have RiR : RawInit K CR "Rule.__init__" ["self", "place", "text", "cells"] (inClass (top 5) 0) := raw_init haiR hyiR hliR hciR hkiR hmkR hkcR (fun _ _ _ _ _ _ us hl => match us, hl with | [_, _, _, _], _ => rfl)
  have RiS : RawInit K CS "Sign.__init__" ["self", "octets", "cells"] (inClass (top 6) 0) := raw_init haiS hyiS hliS hciS hkiS hmkS hkcS (fun _ _ _ _ _ _ us hl => match us, hl with | [_, _, _], _ => rfl)
  have RiT : RawInit K CT "Table.__init__" ["self", "letters"] (inClass (top 7) 0) := raw_init haiT hyiT hliT hciT hkiT hmkT hkcT (fun _ _ _ _ _ _ us hl => match us, hl with | [_, _], _ => rfl)
  have RiO : RawInit K CO "Row.__init__" ["self", "numbers", "text", "cell_count"] (inClass (top 40) 0) := raw_init haiO hyiO hliO hciO hkiO hmkO hkcO (fun _ _ _ _ _ _ us hl => match us, hl with | [_, _, _, _], _ => rfl)
  have RiD : RawInit K CD "CallReader.__init__" ["self", "numbers"] (inClass (top 51) 0) := raw_init haiD hyiD hliD hciD hkiD hmkD hkcD (fun _ _ _ _ _ _ us hl => match us, hl with | [_, _], _ => rfl)
  have RmT1 : RawMeth K CT "is_letter_at" "Table.is_letter_at" ["self", "text", "place"] (inClass (top 7) 1) := raw_meth hamT1 hymT1 hlmT1 hcmT1 hkmT1 (fun _ _ _ _ _ _ us hl => match us, hl with | [_, _, _], _ => rfl)
  have RmT2 : RawMeth K CT "may_stand" "Table.may_stand" ["self", "rule", "text", "place"] (inClass (top 7) 2) := raw_meth hamT2 hymT2 hlmT2 hcmT2 hkmT2 (fun _ _ _ _ _ _ us hl => match us, hl with | [_, _, _, _], _ => rfl)
  have RmT3 : RawMeth K CT "applies" "Table.applies" ["self", "rule", "text", "place"] (inClass (top 7) 3) := raw_meth hamT3 hymT3 hlmT3 hcmT3 hkmT3 (fun _ _ _ _ _ _ us hl => match us, hl with | [_, _, _, _], _ => rfl)
  have RmT4 : RawMeth K CT "sign_cells" "Table.sign_cells" ["self", "text", "place"] (inClass (top 7) 4) := raw_meth hamT4 hymT4 hlmT4 hcmT4 hkmT4 (fun _ _ _ _ _ _ us hl => match us, hl with | [_, _, _], _ => rfl)
  have RmD1 : RawMeth K CD "at_end" "CallReader.at_end" ["self"] (inClass (top 51) 1) := raw_meth hamD1 hymD1 hlmD1 hcmD1 hkmD1 (fun _ _ _ _ _ _ us hl => match us, hl with | [_], _ => rfl)
  have RmD2 : RawMeth K CD "take" "CallReader.take" ["self"] (inClass (top 51) 2) := raw_meth hamD2 hymD2 hlmD2 hcmD2 hkmD2 (fun _ _ _ _ _ _ us hl => match us, hl with | [_], _ => rfl)
  have RmD3 : RawMeth K CD "take_list" "CallReader.take_list" ["self"] (inClass (top 51) 3) := raw_meth hamD3 hymD3 hlmD3 hcmD3 hkmD3 (fun _ _ _ _ _ _ us hl => match us, hl with | [_], _ => rfl)
  -- the table of texts_of's code object
  obtain ⟨d, hd⟩ := Option.isSome_iff_exists.mp hrec
  have hdn : d.name = ("texts_of" : Str) := beq_iff_eq.mp (List.find?_some (p := fun e : DefRec => e.name == ("texts_of" : Str)) hd)
  obtain ⟨af, o, fd, c', P', g1, g2, g3, g4, g5, g6⟩ := TT.tab d (List.mem_of_find?_eq_some hd)
  rw [hdn, PySem.W.mg_of X G ha43] at g1
  cases g1
  have g2' := X _ _ hl43
  rw [g2] at g2'
  cases g2'
  have g3 := Data.func.inj g3
  subst g3
  have hcd : cd43 = .ref c' := g4
  have hCH : PySem.W.CodeHd h c' P' := PySem.W.CodeHd.of g5 g6
  obtain ⟨⟨oc, vs, j1, j2, j3, j4⟩, hPT⟩ := g6
  have hPT : h.get? P' = some { cls := .none, data := .fields #[] } := hPT
  have F52 := fun_mk (st := top 52) hl52 hc52 hk52
  refine ⟨PySem.W.fnOf "answers" "answers" (defArgs (top 52)) (defBody (top 52)) (defScope (top 52)) .none kV52 dc52 pm52 an52 cd52 ct52, c', P', hPT, no_table X hno hPT, hCH, fun s us hu => match us, hu with | [_], _ => .of_eq rfl, fun base _ _ TB => ?_⟩
  have F43 := fun_mk (st := top 43) hl43 hc43 hk43
  have RT : RawTexts K mg base P' := ⟨_, _, c', F43, F43.binds (ps := ["table", "cells"]) (fun _ _ _ _ _ _ us hl => match us, hl with | [_, _], _ => rfl), PySem.W.mg_of X G ha43, hcd, TB⟩
  have MR := ok_rule (P := r.prog) (w := w) (base := base) RiR T
  have MS := ok_sign (P := r.prog) (w := w) (base := base) RiS T
  have MT := ok_table (P := r.prog) (w := w) (base := base) RiT T
  have MO := ok_row (P := r.prog) (w := w) (base := base) RiO T
  have MD := ok_reader (P := r.prog) (w := w) (base := base) RiD T
  have GLet := ok_letter (P := r.prog) (w := w) (base := base) RmT1 T
  have GSta := ok_stand (P := r.prog) (w := w) (base := base) RmT2 T GLet
  have GApp := ok_applies (P := r.prog) (w := w) (base := base) RmT3 T GSta
  have GSig := ok_signs (P := r.prog) (w := w) (base := base) RmT4 T
  have GEnd := ok_at_end (P := r.prog) (w := w) (base := base) RmD1 T
  have GTak := ok_take (P := r.prog) (w := w) (base := base) RmD2 T
  have GTaL := ok_take_list (P := r.prog) (w := w) (base := base) RmD3 T GTak
  have GNee := ok_need (P := r.prog) (w := w) (base := base) R20 T
  have GPar := ok_parts (P := r.prog) (w := w) (base := base) R21
  have GWor := ok_read_word (P := r.prog) (w := w) (base := base) R22 T GNee
  have GEac := ok_each_once (P := r.prog) (w := w) (base := base) R23 T GNee GWor
  have GCel := ok_cell (P := r.prog) (w := w) (base := base) R24 T GNee
  have GCes := ok_cells (P := r.prog) (w := w) (base := base) R25 T GNee GPar GCel
  have GPla := ok_place (P := r.prog) (w := w) (base := base) R26 T GNee
  have GLin := ok_line (P := r.prog) (w := w) (base := base) R27 T GNee GPar GPla GEac GWor GCes MR MS
  have GRea := ok_read (P := r.prog) (w := w) (base := base) R28 T TL GPar GEac GLin MT
  have GLon := ok_longest (P := r.prog) (w := w) (base := base) R31 T GApp
  have GByL := ok_by_longest (P := r.prog) (w := w) (base := base) R32 T TP GLon
  have GRow := ok_row_cells (P := r.prog) (w := w) (base := base) R33 T GSig
  have GWit := ok_with (P := r.prog) (w := w) (base := base) R35 T GApp GSig
  have GFAt := ok_fewest_at (P := r.prog) (w := w) (base := base) R36 T GWit
  have GFFr := ok_few_from (P := r.prog) (w := w) (base := base) R34 T GFAt
  have GByF := ok_by_fewest (P := r.prog) (w := w) (base := base) R37 T GFFr GWit
  have GLgr := ok_longer (P := r.prog) (w := w) (base := base) R41 T GSig MO
  have GIsB := ok_is_by (P := r.prog) (w := w) (base := base) R42 T TP GByL
  have GTex := ok_texts (P := r.prog) (w := w) (base := base) RT T MO GIsB GLgr
  have GExe := ok_exec (P := r.prog) (w := w) (base := base) R54 T GRow GByL GByF GTex
  have GAns := ok_answer (P := r.prog) (w := w) (base := base) R53 T TP GTak GTaL GExe
  exact ok_answers F52 T TL MD GEnd GTak GTaL GRea GAns
end RW
set_option Elab.async false
set_option linter.all false
open PySem PySem.W PyProof.Rows
set_option maxRecDepth 100000 in
set_option maxHeartbeats 16000000 in
theorem PySem.Challenge.cw_raisedcells_s01_answers_holds : PySem.Challenge.rw_raisedcells_s01_answers.Holds := by
  w_on; k_headS; (case hw => exact ⟨[.list [.int 0, .int 0]], by decide +kernel, by decide +kernel⟩)
  k_fillS
  refine RW.walk_specT (r := PySem.Challenge.rw_raisedcells_s01_answers) (k := 10) (ps := ["calls"]) (sp := fun PT K => RW.spAns K PT) (by decide +kernel) rfl rfl ⟨rfl, by decide, by decide⟩ (fun w h Y => PySem.W.kIn_of Y) ?F ?S
  case F =>
    intro w mg mb mean fa h Y KX TT hmg
    refine' RW.all_mk KX TT hmg ?hrec ?hno ?ha20 ?hl20 ?hc20 ?hk20 ?ha21 ?hl21 ?hc21 ?hk21 ?ha22 ?hl22 ?hc22 ?hk22 ?ha23 ?hl23 ?hc23 ?hk23 ?ha24 ?hl24 ?hc24 ?hk24 ?ha25 ?hl25 ?hc25 ?hk25 ?ha26 ?hl26 ?hc26 ?hk26 ?ha27 ?hl27 ?hc27 ?hk27 ?ha28 ?hl28 ?hc28 ?hk28 ?ha31 ?hl31 ?hc31 ?hk31 ?ha32 ?hl32 ?hc32 ?hk32 ?ha33 ?hl33 ?hc33 ?hk33 ?ha34 ?hl34 ?hc34 ?hk34 ?ha35 ?hl35 ?hc35 ?hk35 ?ha36 ?hl36 ?hc36 ?hk36 ?ha37 ?hl37 ?hc37 ?hk37 ?ha41 ?hl41 ?hc41 ?hk41 ?ha42 ?hl42 ?hc42 ?hk42 ?ha43 ?hl43 ?hc43 ?hk43 ?ha52 ?hl52 ?hc52 ?hk52 ?ha53 ?hl53 ?hc53 ?hk53 ?ha54 ?hl54 ?hc54 ?hk54 ?hgR ?hpgR ?hhdR ?hpoR ?hsaR ?hmkR ?hkcR ?haiR ?hyiR ?hliR ?hciR ?hkiR ?hgS ?hpgS ?hhdS ?hpoS ?hsaS ?hmkS ?hkcS ?haiS ?hyiS ?hliS ?hciS ?hkiS ?hgT ?hpgT ?hhdT ?hpoT ?hsaT ?hmkT ?hkcT ?haiT ?hyiT ?hliT ?hciT ?hkiT ?hgO ?hpgO ?hhdO ?hpoO ?hsaO ?hmkO ?hkcO ?haiO ?hyiO ?hliO ?hciO ?hkiO ?hgD ?hpgD ?hhdD ?hpoD ?hsaD ?hmkD ?hkcD ?haiD ?hyiD ?hliD ?hciD ?hkiD ?hamT1 ?hymT1 ?hlmT1 ?hcmT1 ?hkmT1 ?hamT2 ?hymT2 ?hlmT2 ?hcmT2 ?hkmT2 ?hamT3 ?hymT3 ?hlmT3 ?hcmT3 ?hkmT3 ?hamT4 ?hymT4 ?hlmT4 ?hcmT4 ?hkmT4 ?hamD1 ?hymD1 ?hlmD1 ?hcmD1 ?hkmD1 ?hamD2 ?hymD2 ?hlmD2 ?hcmD2 ?hkmD2 ?hamD3 ?hymD3 ?hlmD3 ?hcmD3 ?hkmD3 ?hnRp ?hnRt ?hnRc ?hnSo ?hnSc ?hnTl ?hnTr ?hnTs ?hnOn ?hnOt ?hnOc ?hnDn ?hnDp ?hcAny ?hcWord ?hcBeg ?hcEnd ?hcPlaces ?hcSign ?hcNL ?hcBlank ?hcLR ?hcMC ?hcLC ?hcMR ?hcMS ?hcLT ?hcTM ?hcNA ?hcNone ?hcH ?hcMost ?hcMRd ?hbLen ?hbAll ?hbAny ?hbOrd ?hbSet ?hbEnum ?hbMin ?hbSorted ?hbStr ?hbIsi ?hbInt ?hgF ?hxF ?hkF ?hbF ?htF ?hiF ?hsF ?hgL ?hxL ?hsaL ?hgaL ?hggL ?hnbL ?haxL ?htxL ?hlxL ?hcxL ?hkCL ?heCL ?htCL ?hhCL ?hiCL ?hsCL ?hgP ?hxP ?hsaP ?hgaP ?hggP ?hnbP ?haxP ?htxP ?hlxP ?hcxP ?hkCP ?heCP ?htCP ?hhCP ?hiCP ?hsCP
    (case hrec => first | kernel_rfl | rfl | decide +kernel)
    (case hno => first | kernel_rfl | rfl | decide +kernel)
    (case ha20 => k_is); (case hl20 => k_is); (case hc20 => k_is); (case hk20 => k_is); (case ha21 => k_is); (case hl21 => k_is)
    (case hc21 => k_is); (case hk21 => k_is); (case ha22 => k_is); (case hl22 => k_is); (case hc22 => k_is); (case hk22 => k_is)
    (case ha23 => k_is); (case hl23 => k_is); (case hc23 => k_is); (case hk23 => k_is); (case ha24 => k_is); (case hl24 => k_is)
    (case hc24 => k_is); (case hk24 => k_is); (case ha25 => k_is); (case hl25 => k_is); (case hc25 => k_is); (case hk25 => k_is)
    (case ha26 => k_is); (case hl26 => k_is); (case hc26 => k_is); (case hk26 => k_is); (case ha27 => k_is); (case hl27 => k_is)
    (case hc27 => k_is); (case hk27 => k_is); (case ha28 => k_is); (case hl28 => k_is); (case hc28 => k_is); (case hk28 => k_is)
    (case ha31 => k_is); (case hl31 => k_is); (case hc31 => k_is); (case hk31 => k_is); (case ha32 => k_is); (case hl32 => k_is)
    (case hc32 => k_is); (case hk32 => k_is); (case ha33 => k_is); (case hl33 => k_is); (case hc33 => k_is); (case hk33 => k_is)
    (case ha34 => k_is); (case hl34 => k_is); (case hc34 => k_is); (case hk34 => k_is); (case ha35 => k_is); (case hl35 => k_is)
    (case hc35 => k_is); (case hk35 => k_is); (case ha36 => k_is); (case hl36 => k_is); (case hc36 => k_is); (case hk36 => k_is)
    (case ha37 => k_is); (case hl37 => k_is); (case hc37 => k_is); (case hk37 => k_is); (case ha41 => k_is); (case hl41 => k_is)
    (case hc41 => k_is); (case hk41 => k_is); (case ha42 => k_is); (case hl42 => k_is); (case hc42 => k_is); (case hk42 => k_is)
    (case ha43 => k_is); (case hl43 => k_is); (case hc43 => k_is); (case hk43 => k_is); (case ha52 => k_is); (case hl52 => k_is)
    (case hc52 => k_is); (case hk52 => k_is); (case ha53 => k_is); (case hl53 => k_is); (case hc53 => k_is); (case hk53 => k_is)
    (case ha54 => k_is); (case hl54 => k_is); (case hc54 => k_is); (case hk54 => k_is); (case hgR => k_is); (case hpgR => k_is)
    (case hhdR => k_is); (case hpoR => k_is); (case hsaR => k_is); (case hmkR => k_is); (case hkcR => k_is); (case haiR => k_is)
    (case hyiR => k_is); (case hliR => k_is); (case hciR => k_is); (case hkiR => k_is); (case hgS => k_is); (case hpgS => k_is)
    (case hhdS => k_is); (case hpoS => k_is); (case hsaS => k_is); (case hmkS => k_is); (case hkcS => k_is); (case haiS => k_is)
    (case hyiS => k_is); (case hliS => k_is); (case hciS => k_is); (case hkiS => k_is); (case hgT => k_is); (case hpgT => k_is)
    (case hhdT => k_is); (case hpoT => k_is); (case hsaT => k_is); (case hmkT => k_is); (case hkcT => k_is); (case haiT => k_is)
    (case hyiT => k_is); (case hliT => k_is); (case hciT => k_is); (case hkiT => k_is); (case hgO => k_is); (case hpgO => k_is)
    (case hhdO => k_is); (case hpoO => k_is); (case hsaO => k_is); (case hmkO => k_is); (case hkcO => k_is); (case haiO => k_is)
    (case hyiO => k_is); (case hliO => k_is); (case hciO => k_is); (case hkiO => k_is); (case hgD => k_is); (case hpgD => k_is)
    (case hhdD => k_is); (case hpoD => k_is); (case hsaD => k_is); (case hmkD => k_is); (case hkcD => k_is); (case haiD => k_is)
    (case hyiD => k_is); (case hliD => k_is); (case hciD => k_is); (case hkiD => k_is); (case hamT1 => k_is); (case hymT1 => k_is)
    (case hlmT1 => k_is); (case hcmT1 => k_is); (case hkmT1 => k_is); (case hamT2 => k_is); (case hymT2 => k_is); (case hlmT2 => k_is)
    (case hcmT2 => k_is); (case hkmT2 => k_is); (case hamT3 => k_is); (case hymT3 => k_is); (case hlmT3 => k_is); (case hcmT3 => k_is)
    (case hkmT3 => k_is); (case hamT4 => k_is); (case hymT4 => k_is); (case hlmT4 => k_is); (case hcmT4 => k_is); (case hkmT4 => k_is)
    (case hamD1 => k_is); (case hymD1 => k_is); (case hlmD1 => k_is); (case hcmD1 => k_is); (case hkmD1 => k_is); (case hamD2 => k_is)
    (case hymD2 => k_is); (case hlmD2 => k_is); (case hcmD2 => k_is); (case hkmD2 => k_is); (case hamD3 => k_is); (case hymD3 => k_is)
    (case hlmD3 => k_is); (case hcmD3 => k_is); (case hkmD3 => k_is); (case hnRp => k_is); (case hnRt => k_is); (case hnRc => k_is)
    (case hnSo => k_is); (case hnSc => k_is); (case hnTl => k_is); (case hnTr => k_is); (case hnTs => k_is); (case hnOn => k_is)
    (case hnOt => k_is); (case hnOc => k_is); (case hnDn => k_is); (case hnDp => k_is); (case hcAny => k_is); (case hcWord => k_is)
    (case hcBeg => k_is); (case hcEnd => k_is); (case hcPlaces => k_is); (case hcSign => k_is); (case hcNL => k_is); (case hcBlank => k_is)
    (case hcLR => k_is); (case hcMC => k_is); (case hcLC => k_is); (case hcMR => k_is); (case hcMS => k_is); (case hcLT => k_is)
    (case hcTM => k_is); (case hcNA => k_is); (case hcNone => k_is); (case hcH => k_is); (case hcMost => k_is); (case hcMRd => k_is)
    (case hbLen => k_is); (case hbAll => k_is); (case hbAny => k_is); (case hbOrd => k_is); (case hbSet => k_is); (case hbEnum => k_is)
    (case hbMin => k_is); (case hbSorted => k_is); (case hbStr => k_is); (case hbIsi => k_is); (case hbInt => k_is); (case hgF => k_is)
    (case hxF => k_exc); (case hkF => k_is); (case hbF => k_is); (case htF => k_is); (case hiF => k_is); (case hsF => first | rfl | k_is)
    (case hgL => k_is); (case hxL => k_is); (case hsaL => k_is); (case hgaL => k_is); (case hggL => k_is); (case hnbL => k_is)
    (case haxL => k_is); (case htxL => k_is); (case hlxL => k_is); (case hcxL => k_is); (case hkCL => k_is); (case heCL => k_is)
    (case htCL => k_is); (case hhCL => k_is); (case hiCL => k_is); (case hsCL => first | rfl | k_is); (case hgP => k_is); (case hxP => k_is)
    (case hsaP => k_is); (case hgaP => k_is); (case hggP => k_is); (case hnbP => k_is); (case haxP => k_is); (case htxP => k_is)
    (case hlxP => k_is); (case hcxP => k_is); (case hkCP => k_is); (case heCP => k_is); (case htCP => k_is); (case hhCP => k_is)
    (case hiCP => k_is); (case hsCP => first | rfl | k_is)
  case S =>
    intro PT K H xs a hT hwi hask hx
    cases hx with
    | cons h1 h2 =>
      cases h2
      cases h1 with
      | lst hs ha =>
        have e := L2.ints_dw a.1 _ ha
        subst e
        exact ⟨_, a.1, rfl, hs, hask, fun p hp => by rw [List.mem_singleton.mp hp]; exact LamX.TabS.nil hT, fun H' p hp => .lst (L2.SqL.of hp) (L2.dw_ints _)⟩
