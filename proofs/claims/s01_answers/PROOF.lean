import PyProof.Rows.All
import Wide.All
import OpenK.AllK
import Wide.FinOn
import Open.SpecLaws
import KE.OsHead
import KE.OsGo
import KE.OsSetLaws
import HandS.ForSpec
import HandS.Comp
import HandS.Iter
import HandS.Walk
import HandS.Zip
import HandS.Conv
import HandS.NoneIn
import HandS.Codes
import HandS.CallLocal
import HandS.SortRule
import PySem.Challenge.RW_pursebids_s01_answers
set_option Elab.async false
set_option linter.all false
set_option linter.all false
/-! Plain laws about the specification: no program in sight. -/
namespace Pb
open Kh435

/-! ### the winner of a lot -/
/-- the fold that finds the first greatest positive value of g below n -/
def firstTop (g : Nat → Nat) (n : Nat) : Option Nat := (List.range n).foldl (fun best i => match best with
  | none => if 1 ≤ g i then some i else none
  | some k => if g k < g i then some i else best) none
theorem firstTop_succ (g : Nat → Nat) (n : Nat) : firstTop g (n + 1) = match firstTop g n with
  | none => if 1 ≤ g n then some n else none
  | some k => if g k < g n then some n else some k := by
  unfold firstTop
  rw [List.range_succ, List.foldl_append, List.foldl_cons, List.foldl_nil]
  generalize (List.range n).foldl (fun best i => match best with
    | none => if 1 ≤ g i then some i else none
    | some k => if g k < g i then some i else best) none = b
  cases b <;> rfl
structure TopNone (g : Nat → Nat) (n : Nat) : Prop where
  all : ∀ i, i < n → g i = 0
structure TopSome (g : Nat → Nat) (n j : Nat) : Prop where
  lt : j < n
  pos : 1 ≤ g j
  most : ∀ i, i < n → g i ≤ g j
  first : ∀ i, i < j → g i < g j
theorem firstTop_spec (g : Nat → Nat) : ∀ n, (firstTop g n = none ∧ TopNone g n) ∨ ∃ j, firstTop g n = some j ∧ TopSome g n j
  | 0 => .inl ⟨rfl, ⟨fun i h => absurd h (Nat.not_lt_zero i)⟩⟩
  | n + 1 => by
    rw [firstTop_succ]
    rcases firstTop_spec g n with ⟨e, t⟩ | ⟨j, e, t⟩
    · rw [e]
      by_cases h : 1 ≤ g n
      · refine .inr ⟨n, by show (if 1 ≤ g n then some n else none) = some n; rw [if_pos h], ⟨Nat.lt_succ_self n, h, fun i hi => ?_, fun i hi => ?_⟩⟩
        · rcases Nat.lt_succ_iff_lt_or_eq.mp hi with q | q
          · rw [t.all i q]
            exact Nat.zero_le _
          · rw [q]
            exact Nat.le_refl _
        · rw [t.all i hi]
          exact h
      · refine .inl ⟨by show (if 1 ≤ g n then some n else none) = none; rw [if_neg h], ⟨fun i hi => ?_⟩⟩
        rcases Nat.lt_succ_iff_lt_or_eq.mp hi with q | q
        · exact t.all i q
        · rw [q]
          omega
    · rw [e]
      by_cases h : g j < g n
      · refine .inr ⟨n, by show (if g j < g n then some n else some j) = some n; rw [if_pos h], ⟨Nat.lt_succ_self n, by have := t.pos; omega, fun i hi => ?_, fun i hi => ?_⟩⟩
        · rcases Nat.lt_succ_iff_lt_or_eq.mp hi with q | q
          · have := t.most i q
            omega
          · rw [q]
            exact Nat.le_refl _
        · have := t.most i hi
          omega
      · refine .inr ⟨j, by show (if g j < g n then some n else some j) = some j; rw [if_neg h], ⟨Nat.lt_succ_of_lt t.lt, t.pos, fun i hi => ?_, t.first⟩⟩
        rcases Nat.lt_succ_iff_lt_or_eq.mp hi with q | q
        · exact t.most i q
        · rw [q]
          omega
theorem winner_eq (a : Auction) (bs : List Nat) (lot : Nat) : winner a bs lot = firstTop (fun i => Kh435.bid a bs i lot) a.budgets.length := rfl
/-- the bids of all bidders, as the program lists them -/
def bidsFor (ws : List (List Nat)) (bs : List Nat) (lot : Nat) : List Nat := List.zipWith (fun row b => min (row.getD lot 0) b) ws bs
theorem bidsFor_length {ws : List (List Nat)} {bs : List Nat} {lot : Nat} (h : ws.length = bs.length) : (bidsFor ws bs lot).length = bs.length := by
  unfold bidsFor
  rw [List.length_zipWith, h, Nat.min_self]
theorem bidsFor_get {a : Auction} {bs : List Nat} {lot i : Nat} (h : a.values.length = bs.length) (hi : i < bs.length) : (bidsFor a.values bs lot)[i]? = some (Kh435.bid a bs i lot) := by
  unfold bidsFor Kh435.bid valueOf elementAt
  rw [List.getElem?_zipWith, List.getElem?_eq_getElem (by omega : i < a.values.length), List.getElem?_eq_getElem hi]
  show some (min (a.values[i].getD lot 0) bs[i]) = some (min ((a.values.getD i []).getD lot 0) (bs.getD i 0))
  rw [List.getD_eq_getElem?_getD (l := a.values), List.getElem?_eq_getElem (by omega : i < a.values.length), List.getD_eq_getElem?_getD (l := bs), List.getElem?_eq_getElem hi]
  rfl
theorem bidsFor_mem {a : Auction} {bs : List Nat} {lot m : Nat} (h : a.values.length = bs.length) (hm : m ∈ bidsFor a.values bs lot) : ∃ i, i < bs.length ∧ Kh435.bid a bs i lot = m := by
  obtain ⟨i, hi, e⟩ := List.getElem_of_mem hm
  have hi' : i < bs.length := by
    rw [bidsFor_length h] at hi
    exact hi
  have e2 := bidsFor_get (lot := lot) h hi'
  rw [List.getElem?_eq_getElem hi] at e2
  exact ⟨i, hi', (Option.some.inj e2).symm.trans e⟩
theorem bidsFor_in {a : Auction} {bs : List Nat} {lot i : Nat} (h : a.values.length = bs.length) (hi : i < bs.length) : Kh435.bid a bs i lot ∈ bidsFor a.values bs lot := List.mem_of_getElem? (bidsFor_get h hi)
/-- no bid above 0: nobody wins -/
theorem winner_zero {a : Auction} {bs : List Nat} {lot m : Nat} (h : a.values.length = bs.length) (hb : a.budgets.length = bs.length) (hmax : ∀ y ∈ bidsFor a.values bs lot, y ≤ m) (h0 : ¬ 0 < m) : winner a bs lot = none := by
  rw [winner_eq]
  rcases firstTop_spec (fun i => Kh435.bid a bs i lot) a.budgets.length with ⟨e, _⟩ | ⟨j, _, t⟩
  · exact e
  · have h1 := hmax _ (bidsFor_in (lot := lot) h (by rw [← hb]; exact t.lt))
    have h2 : 1 ≤ Kh435.bid a bs j lot := t.pos
    omega
/-- else the first with the greatest bid -/
theorem winner_top {a : Auction} {bs : List Nat} {lot m : Nat} (h : a.values.length = bs.length) (hb : a.budgets.length = bs.length) (hm : m ∈ bidsFor a.values bs lot) (hmax : ∀ y ∈ bidsFor a.values bs lot, y ≤ m) (h0 : 0 < m) :
    ∃ j, winner a bs lot = some j ∧ j < bs.length ∧ Kh435.bid a bs j lot = m ∧ (bidsFor a.values bs lot)[j]? = some m ∧ ∀ k z, k < j → (bidsFor a.values bs lot)[k]? = some z → z ≠ m := by
  obtain ⟨i, hi, ei⟩ := bidsFor_mem h hm
  rcases firstTop_spec (fun i => Kh435.bid a bs i lot) a.budgets.length with ⟨_, t⟩ | ⟨j, e, t⟩
  · have := t.all i (by rw [hb]; exact hi)
    have e2 : Kh435.bid a bs i lot = 0 := this
    omega
  · have hj : j < bs.length := by
      rw [← hb]
      exact t.lt
    have h1 : Kh435.bid a bs i lot ≤ Kh435.bid a bs j lot := t.most i (by rw [hb]; exact hi)
    have h2 := hmax _ (bidsFor_in (lot := lot) h hj)
    have em : Kh435.bid a bs j lot = m := by omega
    refine ⟨j, by rw [winner_eq]; exact e, hj, em, by rw [bidsFor_get h hj, em], fun k z hk hz => ?_⟩
    rw [bidsFor_get h (Nat.lt_trans hk hj)] at hz
    have h3 : Kh435.bid a bs k lot < Kh435.bid a bs j lot := t.first k hk
    have h4 := Option.some.inj hz
    omega
theorem winner_lt {a : Auction} {bs : List Nat} {lot j : Nat} (e : winner a bs lot = some j) : j < a.budgets.length := by
  rw [winner_eq] at e
  rcases firstTop_spec (fun i => Kh435.bid a bs i lot) a.budgets.length with ⟨e2, _⟩ | ⟨j', e2, t⟩
  · rw [e] at e2
    cases e2
  · rw [e] at e2
    have := Option.some.inj e2
    rw [this]
    exact t.lt

/-! ### the highest bid -/
theorem foldl_max (g : Nat → Nat) : ∀ (l : List Nat) (b : Nat), b ≤ l.foldl (fun best i => max best (g i)) b ∧ (∀ i ∈ l, g i ≤ l.foldl (fun best i => max best (g i)) b) ∧ (l.foldl (fun best i => max best (g i)) b = b ∨ ∃ i ∈ l, l.foldl (fun best i => max best (g i)) b = g i)
  | [], b => ⟨Nat.le_refl _, fun i h => absurd h (List.not_mem_nil), .inl rfl⟩
  | x :: r, b => by
    obtain ⟨h1, h2, h3⟩ := foldl_max g r (max b (g x))
    rw [List.foldl_cons]
    refine ⟨Nat.le_trans (Nat.le_max_left _ _) h1, fun i hi => ?_, ?_⟩
    · rcases List.mem_cons.mp hi with q | q
      · rw [q]
        exact Nat.le_trans (Nat.le_max_right _ _) h1
      · exact h2 i q
    · rcases h3 with q | ⟨i, hi, q⟩
      · by_cases c : g x ≤ b
        · rw [Nat.max_eq_left c] at q ⊢
          exact .inl q
        · rw [Nat.max_eq_right (by omega)] at q ⊢
          exact .inr ⟨x, List.mem_cons_self, q⟩
      · exact .inr ⟨i, List.mem_cons_of_mem _ hi, q⟩
theorem highest_eq {a : Auction} {lot m : Nat} (h : a.values.length = a.budgets.length) (hm : m ∈ bidsFor a.values a.budgets lot) (hmax : ∀ y ∈ bidsFor a.values a.budgets lot, y ≤ m) : highestBid a lot = m := by
  unfold highestBid bidders
  obtain ⟨_, h2, h3⟩ := foldl_max (fun i => Kh435.bid a a.budgets i lot) (List.range a.budgets.length) 0
  obtain ⟨i, hi, ei⟩ := bidsFor_mem h hm
  have q1 := h2 i (List.mem_range.mpr hi)
  rcases h3 with q | ⟨j, hj, q⟩
  · have q1' : Kh435.bid a a.budgets i lot ≤ List.foldl (fun best i => max best (Kh435.bid a a.budgets i lot)) 0 (List.range a.budgets.length) := q1
    omega
  · have q2 := hmax _ (bidsFor_in (lot := lot) h (List.mem_range.mp hj))
    have q1' : Kh435.bid a a.budgets i lot ≤ List.foldl (fun best i => max best (Kh435.bid a a.budgets i lot)) 0 (List.range a.budgets.length) := q1
    have q' : List.foldl (fun best i => max best (Kh435.bid a a.budgets i lot)) 0 (List.range a.budgets.length) = Kh435.bid a a.budgets j lot := q
    omega

/-! ### sales in an order -/
/-- the budgets behind the sales of lots -/
def leftOne (a : Auction) (bs : List Nat) (lot : Nat) : List Nat := match winner a bs lot with
  | none => bs
  | some i => bs.set i (elementAt bs i - Kh435.bid a bs i lot)
def left (a : Auction) (bs : List Nat) (lots : List Nat) : List Nat := lots.foldl (leftOne a) bs
def outOne (a : Auction) (bs : List Nat) (lot : Nat) : Option (Nat × Nat) := match winner a bs lot with
  | none => none
  | some i => some (i, Kh435.bid a bs i lot)
theorem leftOne_length (a : Auction) (bs : List Nat) (lot : Nat) : (leftOne a bs lot).length = bs.length := by
  unfold leftOne
  split
  · rfl
  · rw [List.length_set]
theorem left_length (a : Auction) : ∀ (lots bs : List Nat), (left a bs lots).length = bs.length
  | [], _ => rfl
  | x :: r, bs => by
    show (left a (leftOne a bs x) r).length = _
    rw [left_length a r, leftOne_length]
theorem left_snoc (a : Auction) (bs lots : List Nat) (x : Nat) : left a bs (lots ++ [x]) = leftOne a (left a bs lots) x := by
  unfold left
  rw [List.foldl_append]
  rfl
theorem simulate_cons (a : Auction) (bs : List Nat) (x : Nat) (r : List Nat) : simulate a bs (x :: r) = (x, outOne a bs x) :: simulate a (leftOne a bs x) r := by
  rw [simulate]
  unfold outOne leftOne
  split <;> rename_i h <;> rw [h]
theorem simulate_nil (a : Auction) (bs : List Nat) : simulate a bs [] = [] := by rw [simulate]
theorem simulate_append (a : Auction) : ∀ (l bs r : List Nat), simulate a bs (l ++ r) = simulate a bs l ++ simulate a (left a bs l) r
  | [], bs, r => by
    rw [simulate_nil]
    rfl
  | x :: l, bs, r => by
    rw [List.cons_append, simulate_cons, simulate_cons, simulate_append a l]
    rfl
theorem simulate_snoc (a : Auction) (bs l : List Nat) (x : Nat) : simulate a bs (l ++ [x]) = simulate a bs l ++ [(x, outOne a (left a bs l) x)] := by
  rw [simulate_append, simulate_cons, simulate_nil]
theorem simulate_length (a : Auction) : ∀ (l bs : List Nat), (simulate a bs l).length = l.length
  | [], bs => by
    rw [simulate_nil]
    rfl
  | x :: r, bs => by rw [simulate_cons, List.length_cons, List.length_cons, simulate_length a r]
theorem simulate_fst (a : Auction) : ∀ (l bs : List Nat), (simulate a bs l).map (·.1) = l
  | [], bs => by
    rw [simulate_nil]
    rfl
  | x :: r, bs => by rw [simulate_cons, List.map_cons, simulate_fst a r]
/-- who buys exists, and the price is the bid -/
theorem simulate_buyer (a : Auction) : ∀ (l bs : List Nat) (x : Nat × Option (Nat × Nat)) (p : Nat × Nat), x ∈ simulate a bs l → x.2 = some p → p.1 < a.budgets.length
  | [], bs, x, p, h, _ => by
    rw [simulate_nil] at h
    cases h
  | y :: r, bs, x, p, h, e => by
    rw [simulate_cons] at h
    rcases List.mem_cons.mp h with q | q
    · subst q
      have e : outOne a bs y = some p := e
      unfold outOne at e
      split at e
      · cases e
      · rename_i i hi
        have := Option.some.inj e
        rw [← this]
        exact winner_lt hi
    · exact simulate_buyer a r _ x p q e
/-- only values, budgets (how many) matter -/
theorem simulate_congr {a b : Auction} (hv : a.values = b.values) (hb : a.budgets.length = b.budgets.length) : ∀ (l bs : List Nat), simulate a bs l = simulate b bs l
  | [], bs => by rw [simulate_nil, simulate_nil]
  | x :: r, bs => by
    have ebid : ∀ i lot, Kh435.bid a bs i lot = Kh435.bid b bs i lot := fun i lot => by
      unfold Kh435.bid valueOf
      rw [hv]
    have ew : winner a bs x = winner b bs x := by
      rw [winner_eq, winner_eq, hb]
      exact congrArg (fun g => firstTop g b.budgets.length) (funext fun i => ebid i x)
    have e1 : outOne a bs x = outOne b bs x := by
      unfold outOne
      rw [ew]
      split
      · rfl
      · rw [ebid]
    have e2 : leftOne a bs x = leftOne b bs x := by
      unfold leftOne
      rw [ew]
      split
      · rfl
      · rw [ebid]
    rw [simulate_cons, simulate_cons, e1, e2, simulate_congr hv hb r]
theorem revenue_congr {a b : Auction} (hv : a.values = b.values) (hb : a.budgets = b.budgets) (l : List Nat) : revenueOf a l = revenueOf b l := by
  unfold revenueOf
  rw [simulate_congr hv (by rw [hb]), hb]
def price : Option (Nat × Nat) → Nat
  | none => 0
  | some p => p.2
theorem total_eq (S : List (Nat × Option (Nat × Nat))) : totalPrice S = (S.map fun x => price x.2).sum := by
  unfold totalPrice
  congr 1
end Pb
set_option linter.all false
namespace Pb
open Kh435

/-! ### all orders -/
def stepRow (lots row : List Nat) : List (List Nat) := (lots.filter fun l => !row.contains l).map fun l => row ++ [l]
def stepRows (lots : List Nat) (rows : List (List Nat)) : List (List Nat) := rows.flatMap (stepRow lots)
def rowsAt (lots : List Nat) : Nat → List (List Nat) → List (List Nat)
  | 0, rows => rows
  | t + 1, rows => rowsAt lots t (stepRows lots rows)
theorem rowsAt_snoc (lots : List Nat) : ∀ (t : Nat) (rows : List (List Nat)), rowsAt lots (t + 1) rows = stepRows lots (rowsAt lots t rows)
  | 0, _ => rfl
  | t + 1, rows => by
    show rowsAt lots (t + 1) (stepRows lots rows) = _
    rw [rowsAt_snoc lots t]
    rfl
theorem rowsAt_flat (lots : List Nat) : ∀ (t : Nat) (rows : List (List Nat)), rowsAt lots t rows = rows.flatMap fun row => rowsAt lots t [row]
  | 0, rows => by
    show rows = rows.flatMap fun row => [row]
    induction rows with
    | nil => rfl
    | cons x r ih => rw [List.flatMap_cons, ← ih]; rfl
  | t + 1, rows => by
    show rowsAt lots t (stepRows lots rows) = rows.flatMap fun row => rowsAt lots t (stepRows lots [row])
    have e : (fun row => rowsAt lots t (stepRows lots [row])) = fun row => (stepRow lots row).flatMap fun q => rowsAt lots t [q] := by
      funext row
      rw [rowsAt_flat lots t]
      unfold stepRows
      rw [List.flatMap_cons, List.flatMap_nil, List.append_nil]
    rw [e, rowsAt_flat lots t]
    unfold stepRows
    rw [List.flatMap_assoc]
theorem perms_nil (n : Nat) : permutations n [] = [[]] := by
  cases n <;> rw [permutations]
theorem perms_cons (n x : Nat) (r : List Nat) : permutations (n + 1) (x :: r) = (x :: r).flatMap fun y => (permutations n ((x :: r).erase y)).map fun rest => y :: rest := by
  rw [permutations]
  exact fun z => by cases z
theorem perms_succ (n : Nat) (l : List Nat) (h : l ≠ []) : permutations (n + 1) l = l.flatMap fun y => (permutations n (l.erase y)).map fun rest => y :: rest := by
  cases l with
  | nil => exact absurd rfl h
  | cons x r => exact perms_cons n x r
theorem flatMap_congr' {α β : Type} {f g : α → List β} : ∀ {l : List α}, (∀ x ∈ l, f x = g x) → l.flatMap f = l.flatMap g
  | [], _ => rfl
  | x :: r, h => by rw [List.flatMap_cons, List.flatMap_cons, h x List.mem_cons_self, flatMap_congr' fun y hy => h y (List.mem_cons_of_mem _ hy)]
/-- what is left of the lots behind a row -/
def rest (lots row : List Nat) : List Nat := lots.filter fun l => !row.contains l
theorem rest_erase {lots : List Nat} (hn : lots.Nodup) (row : List Nat) (x : Nat) : (rest lots row).erase x = rest lots (row ++ [x]) := by
  unfold rest
  rw [List.Nodup.erase_eq_filter (List.Pairwise.filter _ hn), List.filter_filter]
  refine List.filter_congr fun y _ => ?_
  rw [List.contains_eq_any_beq, List.contains_eq_any_beq, List.any_append]
  by_cases e : y = x
  · subst e
    simp
  · rw [List.any_cons, List.any_nil, Bool.or_false, Bool.not_or, Bool.and_comm]
    rfl
theorem rowsAt_perms {lots : List Nat} (hn : lots.Nodup) : ∀ (t : Nat) (row : List Nat), (rest lots row).length = t → rowsAt lots t [row] = (permutations t (rest lots row)).map fun q => row ++ q
  | 0, row, h => by
    rw [List.eq_nil_of_length_eq_zero h, perms_nil]
    show [row] = [row ++ []]
    rw [List.append_nil]
  | t + 1, row, h => by
    have hne : rest lots row ≠ [] := fun z => by
      rw [z] at h
      cases h
    rw [perms_succ t _ hne, List.map_flatMap]
    show rowsAt lots t (stepRows lots [row]) = _
    rw [rowsAt_flat]
    unfold stepRows
    rw [List.flatMap_cons, List.flatMap_nil, List.append_nil]
    show ((rest lots row).map fun l => row ++ [l]).flatMap _ = _
    rw [List.flatMap_map]
    refine flatMap_congr' fun x hx => ?_
    have hl : (rest lots (row ++ [x])).length = t := by
      rw [← rest_erase hn, List.length_erase_of_mem hx]
      omega
    rw [rowsAt_perms hn t (row ++ [x]) hl, List.map_map, rest_erase hn]
    refine List.map_congr_left fun q _ => ?_
    show row ++ [x] ++ q = row ++ (x :: q)
    rw [List.append_assoc]
    rfl
theorem orders_eq {lots : List Nat} (hn : lots.Nodup) : rowsAt lots lots.length [[]] = permutations lots.length lots := by
  have e : rest lots [] = lots := List.filter_eq_self.mpr fun x _ => rfl
  have h := rowsAt_perms hn lots.length [] (by rw [e])
  rw [h, e]
  exact (List.map_congr_left fun q _ => List.nil_append q).trans (List.map_id'' (fun _ => rfl) _)
theorem perms_perm : ∀ (n : Nat) (l o : List Nat), l.length = n → o ∈ permutations n l → o.Perm l
  | 0, l, o, h, m => by
    rw [List.eq_nil_of_length_eq_zero h, perms_nil] at m
    rw [List.eq_nil_of_length_eq_zero h, List.mem_singleton.mp m]
  | n + 1, l, o, h, m => by
    have hne : l ≠ [] := fun z => by
      rw [z] at h
      cases h
    rw [perms_succ n l hne] at m
    obtain ⟨x, hx, m⟩ := List.mem_flatMap.mp m
    obtain ⟨q, hq, rfl⟩ := List.mem_map.mp m
    have ih := perms_perm n (l.erase x) q (by rw [List.length_erase_of_mem hx]; omega) hq
    exact (List.Perm.cons x ih).trans (List.perm_cons_erase hx).symm
theorem perms_head : ∀ (l : List Nat), ∃ r, permutations l.length l = l :: r
  | [] => ⟨[], perms_nil 0⟩
  | x :: l => by
    obtain ⟨r, e⟩ := perms_head l
    rw [List.length_cons, perms_cons, List.flatMap_cons, List.erase_cons_head, e]
    exact ⟨_, rfl⟩
/-- rows of at most so many -/
theorem stepRow_length (lots row : List Nat) : (stepRow lots row).length ≤ lots.length := by
  unfold stepRow
  rw [List.length_map]
  exact List.length_filter_le _ _
theorem stepRows_length (lots : List Nat) : ∀ rows : List (List Nat), (stepRows lots rows).length ≤ rows.length * lots.length
  | [] => Nat.zero_le _
  | x :: r => by
    show ((x :: r).flatMap (stepRow lots)).length ≤ _
    rw [List.flatMap_cons, List.length_append, List.length_cons, Nat.succ_mul]
    have h1 := stepRow_length lots x
    have h2 : (r.flatMap (stepRow lots)).length ≤ r.length * lots.length := stepRows_length lots r
    omega
theorem rowsAt_length {lots : List Nat} (h : lots.length ≤ 5) : ∀ (t : Nat), (rowsAt lots t [[]]).length ≤ 5 ^ t
  | 0 => Nat.le_refl _
  | t + 1 => by
    rw [rowsAt_snoc]
    have h1 := stepRows_length lots (rowsAt lots t [[]])
    have h2 := rowsAt_length h t
    rw [Nat.pow_succ]
    exact Nat.le_trans h1 (Nat.mul_le_mul h2 h)

theorem rowsAt_row (lots : List Nat) : ∀ (t : Nat) (row : List Nat), row ∈ rowsAt lots t [[]] → row.length ≤ t
  | 0, row, h => by
    rw [List.mem_singleton.mp h]
    exact Nat.le_refl _
  | t + 1, row, h => by
    rw [rowsAt_snoc] at h
    obtain ⟨q, hq, h⟩ := List.mem_flatMap.mp h
    obtain ⟨x, _, rfl⟩ := List.mem_map.mp h
    have := rowsAt_row lots t q hq
    rw [List.length_append, List.length_singleton]
    omega
/-! ### the first best -/
structure Best {α : Type} (g : α → Int) (l : List α) (j : Nat) (b : α) : Prop where
  here : l[j]? = some b
  most : ∀ y ∈ l, g y ≤ g b
  first : ∀ k y, k < j → l[k]? = some y → g y < g b
theorem best_go {α : Type} (g : α → Int) : ∀ (rest pre : List α) (b : α) (j : Nat), Best g pre j b → ∃ j', Best g (pre ++ rest) j' (rest.foldl (fun b o => if g b < g o then o else b) b)
  | [], pre, b, j, h => ⟨j, by rw [List.append_nil]; exact h⟩
  | x :: r, pre, b, j, h => by
    have e : pre ++ x :: r = (pre ++ [x]) ++ r := by rw [List.append_assoc]; rfl
    rw [e, List.foldl_cons]
    have hj : j < pre.length := (List.getElem?_eq_some_iff.mp h.here).1
    by_cases c : g b < g x
    · rw [if_pos c]
      refine best_go g r (pre ++ [x]) x pre.length ⟨?_, fun y hy => ?_, fun k y hk hy => ?_⟩
      · rw [List.getElem?_append_right (Nat.le_refl _), Nat.sub_self]
        rfl
      · rcases List.mem_append.mp hy with q | q
        · have := h.most y q
          omega
        · rw [List.mem_singleton.mp q]
          exact Int.le_refl _
      · rw [List.getElem?_append_left hk] at hy
        have := h.most y (List.mem_of_getElem? hy)
        omega
    · rw [if_neg c]
      refine best_go g r (pre ++ [x]) b j ⟨?_, fun y hy => ?_, fun k y hk hy => ?_⟩
      · rw [List.getElem?_append_left hj]
        exact h.here
      · rcases List.mem_append.mp hy with q | q
        · exact h.most y q
        · rw [List.mem_singleton.mp q]
          omega
      · rw [List.getElem?_append_left (Nat.lt_trans hk hj)] at hy
        exact h.first k y hk hy
theorem best_of {α : Type} (g : α → Int) {l r : List α} {b : α} (e : l = b :: r) : ∃ j, Best g l j (l.foldl (fun b o => if g b < g o then o else b) b) := by
  subst e
  have h0 : Best g [b] 0 b := ⟨rfl, fun y hy => by rw [List.mem_singleton.mp hy]; exact Int.le_refl _, fun k y hk _ => absurd hk (Nat.not_lt_zero k)⟩
  obtain ⟨j, h⟩ := best_go g r [b] b 0 h0
  refine ⟨j, ?_⟩
  rw [List.foldl_cons, if_neg (Int.lt_irrefl _)]
  exact h
theorem max_best (a : Auction) : ∃ j, Best (fun o => ((revenueOf a o : Nat) : Int)) (allOrders a) j (maxRevenueOrder a) := by
  obtain ⟨r, e⟩ := perms_head a.remaining
  obtain ⟨j, h⟩ := best_of (fun o => ((revenueOf a o : Nat) : Int)) (l := allOrders a) e
  refine ⟨j, ?_⟩
  have q : (fun (b o : List Nat) => if ((revenueOf a b : Nat) : Int) < ((revenueOf a o : Nat) : Int) then o else b) = fun best order => if revenueOf a best < revenueOf a order then order else best := by
    funext b o
    by_cases c : revenueOf a b < revenueOf a o
    · rw [if_pos c, if_pos (by omega)]
    · rw [if_neg c, if_neg (by omega)]
  rw [q] at h
  exact h
theorem min_best (a : Auction) : ∃ j, Best (fun o => -((revenueOf a o : Nat) : Int)) (allOrders a) j (minRevenueOrder a) := by
  obtain ⟨r, e⟩ := perms_head a.remaining
  obtain ⟨j, h⟩ := best_of (fun o => -((revenueOf a o : Nat) : Int)) (l := allOrders a) e
  refine ⟨j, ?_⟩
  have q : (fun (b o : List Nat) => if -((revenueOf a b : Nat) : Int) < -((revenueOf a o : Nat) : Int) then o else b) = fun best order => if revenueOf a order < revenueOf a best then order else best := by
    funext b o
    by_cases c : revenueOf a o < revenueOf a b
    · rw [if_pos c, if_pos (by omega)]
    · rw [if_neg c, if_neg (by omega)]
  rw [q] at h
  exact h
theorem max_mem (a : Auction) : maxRevenueOrder a ∈ allOrders a := by
  obtain ⟨j, h⟩ := max_best a
  exact List.mem_of_getElem? h.here
theorem min_mem (a : Auction) : minRevenueOrder a ∈ allOrders a := by
  obtain ⟨j, h⟩ := min_best a
  exact List.mem_of_getElem? h.here
theorem max_perm (a : Auction) : (maxRevenueOrder a).Perm a.remaining := perms_perm _ _ _ rfl (max_mem a)
theorem min_perm (a : Auction) : (minRevenueOrder a).Perm a.remaining := perms_perm _ _ _ rfl (min_mem a)
theorem min_le_max (a : Auction) : revenueOf a (minRevenueOrder a) ≤ revenueOf a (maxRevenueOrder a) := by
  obtain ⟨j, h⟩ := max_best a
  have q : ((revenueOf a (minRevenueOrder a) : Nat) : Int) ≤ ((revenueOf a (maxRevenueOrder a) : Nat) : Int) := h.most _ (min_mem a)
  omega
/-- the greatest of all revenues is the best order's -/
theorem greatest_eq {a : Auction} {m : Nat} (hm : m ∈ (allOrders a).map (revenueOf a)) (hmax : ∀ y ∈ (allOrders a).map (revenueOf a), y ≤ m) : m = revenueOf a (maxRevenueOrder a) := by
  obtain ⟨o, ho, rfl⟩ := List.mem_map.mp hm
  obtain ⟨j, h⟩ := max_best a
  have h1 : ((revenueOf a o : Nat) : Int) ≤ ((revenueOf a (maxRevenueOrder a) : Nat) : Int) := h.most o ho
  have h2 := hmax _ (List.mem_map_of_mem (f := revenueOf a) (max_mem a))
  omega
theorem smallest_eq {a : Auction} {m : Nat} (hm : m ∈ (allOrders a).map (revenueOf a)) (hmin : ∀ y ∈ (allOrders a).map (revenueOf a), m ≤ y) : m = revenueOf a (minRevenueOrder a) := by
  obtain ⟨o, ho, rfl⟩ := List.mem_map.mp hm
  obtain ⟨j, h⟩ := min_best a
  have h1 : -((revenueOf a o : Nat) : Int) ≤ -((revenueOf a (minRevenueOrder a) : Nat) : Int) := h.most o ho
  have h2 := hmin _ (List.mem_map_of_mem (f := revenueOf a) (min_mem a))
  omega
/-- where a revenue stands first, an order with it stands -/
structure FirstAt (l : List Nat) (m j : Nat) : Prop where
  here : l[j]? = some m
  first : ∀ k y, k < j → l[k]? = some y → y ≠ m
theorem max_first (a : Auction) : ∃ j, FirstAt ((allOrders a).map (revenueOf a)) (revenueOf a (maxRevenueOrder a)) j ∧ (allOrders a)[j]? = some (maxRevenueOrder a) := by
  obtain ⟨j, h⟩ := max_best a
  refine ⟨j, ⟨by rw [List.getElem?_map, h.here]; rfl, fun k y hk hy => ?_⟩, h.here⟩
  rw [List.getElem?_map] at hy
  obtain ⟨o, ho, rfl⟩ := Option.map_eq_some_iff.mp hy
  have : ((revenueOf a o : Nat) : Int) < ((revenueOf a (maxRevenueOrder a) : Nat) : Int) := h.first k o hk ho
  omega
theorem min_first (a : Auction) : ∃ j, FirstAt ((allOrders a).map (revenueOf a)) (revenueOf a (minRevenueOrder a)) j ∧ (allOrders a)[j]? = some (minRevenueOrder a) := by
  obtain ⟨j, h⟩ := min_best a
  refine ⟨j, ⟨by rw [List.getElem?_map, h.here]; rfl, fun k y hk hy => ?_⟩, h.here⟩
  rw [List.getElem?_map] at hy
  obtain ⟨o, ho, rfl⟩ := Option.map_eq_some_iff.mp hy
  have : -((revenueOf a o : Nat) : Int) < -((revenueOf a (minRevenueOrder a) : Nat) : Int) := h.first k o hk ho
  omega
theorem allOrders_length {a : Auction} (hn : a.remaining.Nodup) (h : a.remaining.length ≤ 5) : (allOrders a).length ≤ 3125 := by
  unfold allOrders
  rw [← orders_eq hn]
  refine Nat.le_trans (rowsAt_length h _) ?_
  exact Nat.le_trans (Nat.pow_le_pow_right (by decide) h) (by decide)

/-! ### an order or none -/
theorem isOrder_iff (a : Auction) (o : List Nat) : isOrder a o = true ↔ (o.all fun l => a.remaining.contains l) = true ∧ o.Nodup := by
  unfold isOrder
  rw [Bool.and_eq_true, decide_eq_true_eq]
theorem dups_le : ∀ (n : Nat) (l : List Int), l.length ≤ n → l.eraseDups.length ≤ l.length
  | 0, l, h => by
    rw [List.eq_nil_of_length_eq_zero (Nat.le_zero.mp h)]
    exact Nat.le_refl _
  | n + 1, [], _ => Nat.le_refl _
  | n + 1, x :: r, h => by
    rw [List.eraseDups_cons, List.length_cons, List.length_cons]
    have h1 := List.length_filter_le (fun b => !b == x) r
    rw [List.length_cons] at h
    have h2 := dups_le n (r.filter fun b => !b == x) (by omega)
    omega
theorem dups_nodup : ∀ (n : Nat) (l : List Int), l.length ≤ n → (l.eraseDups.length = l.length ↔ l.Nodup)
  | 0, l, h => by
    rw [List.eq_nil_of_length_eq_zero (Nat.le_zero.mp h)]
    exact ⟨fun _ => List.nodup_nil, fun _ => rfl⟩
  | n + 1, [], _ => ⟨fun _ => List.nodup_nil, fun _ => rfl⟩
  | n + 1, x :: r, h => by
    rw [List.eraseDups_cons, List.length_cons, List.length_cons, List.nodup_cons]
    rw [List.length_cons] at h
    have h1 := List.length_filter_le (fun b => !b == x) r
    have h2 := dups_le n (r.filter fun b => !b == x) (by omega)
    have ih := dups_nodup n (r.filter fun b => !b == x) (by omega)
    constructor
    · intro e
      have e2 : (r.filter fun b => !b == x).length = r.length := by omega
      have e3 := List.length_filter_eq_length_iff.mp e2
      have e4 : (r.filter fun b => !b == x) = r := List.filter_eq_self.mpr e3
      refine ⟨fun m => ?_, ?_⟩
      · have := e3 x m
        simp at this
      · rw [e4] at ih
        exact ih.mp (by rw [e4] at e; omega)
    · rintro ⟨m, hn⟩
      have e4 : (r.filter fun b => !b == x) = r := List.filter_eq_self.mpr fun b hb => by
        have : b ≠ x := fun z => m (z ▸ hb)
        simp [this]
      rw [e4] at ih ⊢
      rw [ih.mpr hn]
theorem nodup_cast {l : List Nat} : (l.map fun n : Nat => (n : Int)).Nodup ↔ l.Nodup := by
  unfold List.Nodup
  rw [List.pairwise_map]
  constructor
  · intro h
    exact h.imp fun q z => q (by rw [z])
  · intro h
    exact h.imp fun q z => q (by omega)
end Pb
set_option linter.all false
namespace Pb
open Kh435

/-! ### the highest bid first -/
def leK (p q : Int × Int) : Prop := p.1 < q.1 ∨ (p.1 = q.1 ∧ p.2 ≤ q.2)
theorem leK_anti {p q : Int × Int} (h1 : leK p q) (h2 : leK q p) : p = q := by
  unfold leK at h1 h2
  exact Prod.ext (by omega) (by omega)
theorem sorted_uniq : ∀ {l m : List (Int × Int)}, l.Perm m → l.Pairwise leK → m.Pairwise leK → l = m
  | [], m, h, _, _ => (List.Perm.eq_nil h.symm).symm
  | x :: l, [], h, _, _ => absurd h.length_eq (by simp)
  | x :: l, y :: m, h, hl, hm => by
    obtain ⟨hl1, hl2⟩ := List.pairwise_cons.mp hl
    obtain ⟨hm1, hm2⟩ := List.pairwise_cons.mp hm
    have e : x = y := by
      rcases List.mem_cons.mp (h.mem_iff.mp (List.mem_cons_self (a := x) (l := l))) with e | hx
      · exact e
      · rcases List.mem_cons.mp (h.mem_iff.mpr (List.mem_cons_self (a := y) (l := m))) with e | hy
        · exact e.symm
        · exact leK_anti (hl1 y hy) (hm1 x hx)
    subst e
    rw [sorted_uniq h.cons_inv hl2 hm2]
def keyOf (a : Auction) (l : Nat) : Int × Int := (-((highestBid a l : Nat) : Int), (l : Int))
theorem ins_perm (a : Auction) (x : Nat) : ∀ l, (insertByBid a x l).Perm (x :: l)
  | [] => by
    rw [insertByBid]
  | y :: r => by
    rw [insertByBid]
    split
    · exact List.Perm.refl _
    · exact (List.Perm.cons y (ins_perm a x r)).trans (List.Perm.swap x y r)
theorem ins_sorted (a : Auction) (x : Nat) : ∀ l, l.Pairwise (fun p q => leK (keyOf a p) (keyOf a q)) → (insertByBid a x l).Pairwise (fun p q => leK (keyOf a p) (keyOf a q))
  | [], _ => by
    rw [insertByBid]
    exact List.pairwise_singleton _ _
  | y :: r, h => by
    obtain ⟨h1, h2⟩ := List.pairwise_cons.mp h
    rw [insertByBid]
    split
    · rename_i c
      have q : leK (keyOf a x) (keyOf a y) := by
        unfold leK keyOf
        show -((highestBid a x : Nat) : Int) < -((highestBid a y : Nat) : Int) ∨ (-((highestBid a x : Nat) : Int) = -((highestBid a y : Nat) : Int) ∧ (x : Int) ≤ (y : Int))
        omega
      refine List.pairwise_cons.mpr ⟨fun z hz => ?_, h⟩
      rcases List.mem_cons.mp hz with e | hz
      · rw [e]
        exact q
      · have q2 := h1 z hz
        unfold leK at q q2 ⊢
        omega
    · rename_i c
      refine List.pairwise_cons.mpr ⟨fun z hz => ?_, ins_sorted a x r h2⟩
      rcases List.mem_cons.mp ((ins_perm a x r).mem_iff.mp hz) with e | hz
      · rw [e]
        unfold leK keyOf
        show -((highestBid a y : Nat) : Int) < -((highestBid a x : Nat) : Int) ∨ (-((highestBid a y : Nat) : Int) = -((highestBid a x : Nat) : Int) ∧ (y : Int) ≤ (x : Int))
        omega
      · exact h1 z hz
theorem hbf_perm (a : Auction) : (highestBidFirst a).Perm a.remaining := by
  unfold highestBidFirst
  generalize a.remaining = l
  induction l with
  | nil => exact List.Perm.refl _
  | cons x r ih =>
    rw [List.foldr_cons]
    exact (ins_perm a x _).trans (List.Perm.cons x ih)
theorem hbf_sorted (a : Auction) : (highestBidFirst a).Pairwise (fun p q => leK (keyOf a p) (keyOf a q)) := by
  unfold highestBidFirst
  generalize a.remaining = l
  induction l with
  | nil => exact List.Pairwise.nil
  | cons x r ih =>
    rw [List.foldr_cons]
    exact ins_sorted a x _ ih
/-- any sorted arrangement of the keys tells the specification's list -/
theorem hbf_eq (a : Auction) {zs : List (Int × Int)} (hp : zs.Perm (a.remaining.map (keyOf a))) (hs : zs.Pairwise leK) : zs = (highestBidFirst a).map (keyOf a) := by
  refine sorted_uniq (hp.trans ((hbf_perm a).map (keyOf a)).symm) hs ?_
  rw [List.pairwise_map]
  exact hbf_sorted a

/-! ### what always holds of an auction -/
structure WF (a : Auction) : Prop where
  nb : 1 ≤ a.budgets.length
  nb4 : a.budgets.length ≤ 4
  vb : a.values.length = a.budgets.length
  l1 : 1 ≤ a.lotCount
  l5 : a.lotCount ≤ 5
  rows : ∀ r ∈ a.values, r.length = a.lotCount
  nd : a.remaining.Nodup
  lt : ∀ l ∈ a.remaining, l < a.lotCount
  few : a.remaining.length + a.sales.length + a.withdrawn.length ≤ 5
def fresh (lots bidders : Nat) : Auction := ⟨lots, List.replicate bidders (List.replicate lots 0), List.replicate bidders 0, List.range lots, [], []⟩
theorem WF.fresh {lots bidders : Nat} (h1 : 1 ≤ lots) (h5 : lots ≤ 5) (b1 : 1 ≤ bidders) (b4 : bidders ≤ 4) : WF (Pb.fresh lots bidders) := by
  refine ⟨?_, ?_, ?_, h1, h5, fun r hr => ?_, List.nodup_range, fun l hl => List.mem_range.mp hl, ?_⟩
  · show 1 ≤ (List.replicate bidders 0).length
    rw [List.length_replicate]
    exact b1
  · show (List.replicate bidders 0).length ≤ 4
    rw [List.length_replicate]
    exact b4
  · show (List.replicate bidders (List.replicate lots 0)).length = (List.replicate bidders 0).length
    rw [List.length_replicate, List.length_replicate]
  · have := List.eq_of_mem_replicate hr
    rw [this, List.length_replicate]
    rfl
  · show (List.range lots).length + 0 + 0 ≤ 5
    rw [List.length_range]
    exact h5
theorem WF.row {a : Auction} (w : WF a) {i : Nat} {r : List Nat} (h : a.values[i]? = some r) : r.length = a.lotCount := w.rows r (List.mem_of_getElem? h)
theorem WF.few_rem {a : Auction} (w : WF a) : a.remaining.length ≤ 5 := by
  have := w.few
  omega
theorem mem_set {α : Type} {l : List α} {i : Nat} {x y : α} (h : y ∈ l.set i x) : y ∈ l ∨ y = x := List.mem_or_eq_of_mem_set h
theorem WF.setValue {a : Auction} (w : WF a) (i j v : Nat) (hi : i < a.budgets.length) : WF (withValue a i j v) := by
  refine ⟨w.nb, w.nb4, ?_, w.l1, w.l5, fun r hr => ?_, w.nd, w.lt, w.few⟩
  · show (a.values.set i _).length = _
    rw [List.length_set]
    exact w.vb
  · rcases mem_set (show r ∈ a.values.set i ((a.values.getD i []).set j v) from hr) with h | h
    · exact w.rows r h
    · rw [h, List.length_set, List.getD_eq_getElem?_getD, List.getElem?_eq_getElem (by rw [w.vb]; exact hi)]
      exact w.rows _ (List.getElem_mem _)
theorem WF.setBudget {a : Auction} (w : WF a) (i v : Nat) : WF (withBudget a i v) := by
  refine ⟨?_, ?_, ?_, w.l1, w.l5, w.rows, w.nd, w.lt, w.few⟩
  · show 1 ≤ (a.budgets.set i v).length
    rw [List.length_set]
    exact w.nb
  · show (a.budgets.set i v).length ≤ 4
    rw [List.length_set]
    exact w.nb4
  · show a.values.length = (a.budgets.set i v).length
    rw [List.length_set]
    exact w.vb
theorem erase_filter {l : List Nat} (hn : l.Nodup) (x : Nat) : l.erase x = l.filter fun y => !decide (y = x) := by
  rw [List.Nodup.erase_eq_filter hn]
  refine List.filter_congr fun y _ => ?_
  by_cases e : y = x
  · rw [e]
    simp
  · rw [decide_eq_false e]
    simp [e]
/-- a lot taken from the remaining ones, put to the withdrawn ones -/
def withdrawn (a : Auction) (lot : Nat) : Auction := { a with remaining := a.remaining.erase lot, withdrawn := a.withdrawn ++ [lot] }
def sold (a : Auction) (lot i p : Nat) : Auction := { a with remaining := a.remaining.erase lot, budgets := a.budgets.set i (elementAt a.budgets i - p), sales := a.sales ++ [(lot, i, p)] }
theorem after_none {a : Auction} {lot : Nat} (h : winner a a.budgets lot = none) : afterSale a lot = withdrawn a lot := by
  unfold afterSale
  rw [h]
  rfl
theorem after_some {a : Auction} {lot i : Nat} (h : winner a a.budgets lot = some i) : afterSale a lot = sold a lot i (Kh435.bid a a.budgets i lot) := by
  unfold afterSale
  rw [h]
  rfl
theorem WF.withdrawn {a : Auction} (w : WF a) {lot : Nat} (h : lot ∈ a.remaining) : WF (Pb.withdrawn a lot) := by
  refine ⟨w.nb, w.nb4, w.vb, w.l1, w.l5, w.rows, w.nd.erase _, fun l hl => w.lt l (List.mem_of_mem_erase hl), ?_⟩
  show (a.remaining.erase lot).length + a.sales.length + (a.withdrawn ++ [lot]).length ≤ 5
  have h0 : 0 < a.remaining.length := List.length_pos_of_mem h
  rw [List.length_erase_of_mem h, List.length_append, List.length_singleton]
  have := w.few
  omega
theorem WF.sold {a : Auction} (w : WF a) {lot : Nat} (i p : Nat) (h : lot ∈ a.remaining) : WF (Pb.sold a lot i p) := by
  refine ⟨?_, ?_, ?_, w.l1, w.l5, w.rows, w.nd.erase _, fun l hl => w.lt l (List.mem_of_mem_erase hl), ?_⟩
  · show 1 ≤ (a.budgets.set i _).length
    rw [List.length_set]
    exact w.nb
  · show (a.budgets.set i _).length ≤ 4
    rw [List.length_set]
    exact w.nb4
  · show a.values.length = (a.budgets.set i _).length
    rw [List.length_set]
    exact w.vb
  show (a.remaining.erase lot).length + (a.sales ++ [(lot, i, p)]).length + a.withdrawn.length ≤ 5
  have h0 : 0 < a.remaining.length := List.length_pos_of_mem h
  rw [List.length_erase_of_mem h, List.length_append, List.length_singleton]
  have := w.few
  omega
theorem WF.afterSale {a : Auction} (w : WF a) {lot : Nat} (h : lot ∈ a.remaining) : WF (Kh435.afterSale a lot) := by
  cases e : winner a a.budgets lot with
  | none =>
    rw [after_none e]
    exact w.withdrawn h
  | some i =>
    rw [after_some e]
    exact w.sold _ _ h
theorem after_remaining (a : Auction) (lot : Nat) : (Kh435.afterSale a lot).remaining = a.remaining.erase lot := by
  cases e : winner a a.budgets lot with
  | none =>
    rw [after_none e]
    rfl
  | some i =>
    rw [after_some e]
    rfl
/-- the lots of an order sold one by one -/
theorem sell_row : ∀ (pre post : List Nat) (a : Auction), WF a → (pre ++ post).Perm a.remaining → WF (pre.foldl Kh435.afterSale a) ∧ post.Perm (pre.foldl Kh435.afterSale a).remaining
  | [], post, a, w, h => ⟨w, h⟩
  | x :: pre, post, a, w, h => by
    have hx : x ∈ a.remaining := h.mem_iff.mp (List.mem_append_left _ List.mem_cons_self)
    rw [List.foldl_cons]
    refine sell_row pre post _ (w.afterSale hx) ?_
    rw [after_remaining]
    have h1 : (x :: (pre ++ post)).Perm a.remaining := h
    have h2 := h1.erase x
    rw [List.erase_cons_head] at h2
    exact h2
theorem sell_all {a : Auction} {o : List Nat} (w : WF a) (h : o.Perm a.remaining) {i x : Nat} (hx : o[i]? = some x) : WF ((o.take i).foldl Kh435.afterSale a) ∧ x ∈ ((o.take i).foldl Kh435.afterSale a).remaining := by
  have e : o.take i ++ o.drop i = o := List.take_append_drop i o
  obtain ⟨w1, p⟩ := sell_row (o.take i) (o.drop i) a w (by rw [e]; exact h)
  refine ⟨w1, p.mem_iff.mp ?_⟩
  obtain ⟨hl, rfl⟩ := List.getElem?_eq_some_iff.mp hx
  rw [List.drop_eq_getElem_cons hl]
  exact List.mem_cons_self
theorem take_snoc {α : Type} {l : List α} {i : Nat} {x : α} (h : l[i]? = some x) : l.take (i + 1) = l.take i ++ [x] := by
  rw [List.take_add_one, h]
  rfl
end Pb
set_option Elab.async false
set_option linter.all false
set_option maxRecDepth 100000
set_option maxHeartbeats 4000000
namespace Pb
open PySem PySem.Spec PyProof.Rows L2
/-! ### the text by its places -/
def topS (i : Nat) : Stmt := List.getD PySem.Challenge.pw_pursebids_s01_answers.main.body i (Stmt.Pass ⟨0, 0, 0, 0⟩)
/-! ### numbers and lists as values -/
abbrev nV (n : Nat) : V := .int (n : Int)
def nI (l : List Nat) : List Int := l.map fun n : Nat => (n : Int)
def nL (l : List Nat) : List V := l.map nV
theorem nL_int (l : List Nat) : nL l = (nI l).map V.int := by
  unfold nL nI
  rw [List.map_map]
  rfl
theorem nL_length (l : List Nat) : (nL l).length = l.length := List.length_map _
theorem nI_length (l : List Nat) : (nI l).length = l.length := List.length_map _
theorem nL_get {l : List Nat} {i n : Nat} (h : l[i]? = some n) : (nL l)[i]? = some (nV n) := by
  unfold nL
  rw [List.getElem?_map, h]
  rfl
theorem nL_of {l : List Nat} {i : Nat} {x : V} (h : (nL l)[i]? = some x) : ∃ n, l[i]? = some n ∧ x = nV n := by
  unfold nL at h
  rw [List.getElem?_map] at h
  obtain ⟨n, e, e2⟩ := Option.map_eq_some_iff.mp h
  exact ⟨n, e, e2.symm⟩
theorem nL_append (l m : List Nat) : nL (l ++ m) = nL l ++ nL m := List.map_append
theorem nL_cons (x : Nat) (l : List Nat) : nL (x :: l) = nV x :: nL l := rfl
theorem nL_flat (l : List Nat) : (nL l).all flatV = true := by
  rw [List.all_eq_true]
  intro x hx
  obtain ⟨n, _, rfl⟩ := List.mem_map.mp hx
  rfl
theorem nI_mem {l : List Nat} {m : Int} (h : m ∈ nI l) : ∃ n, n ∈ l ∧ m = (n : Int) := by
  obtain ⟨n, hn, rfl⟩ := List.mem_map.mp h
  exact ⟨n, hn, rfl⟩
theorem nI_sum : ∀ l : List Nat, (nI l).sum = ((l.sum : Nat) : Int)
  | [] => rfl
  | x :: r => by
    show ((x : Int) :: nI r).sum = _
    rw [List.sum_cons, List.sum_cons, nI_sum r, Int.natCast_add]
theorem nI_get {l : List Nat} {i n : Nat} (h : l[i]? = some n) : (nI l)[i]? = some (n : Int) := by
  unfold nI
  rw [List.getElem?_map, h]
  rfl
theorem inV_nat (n : Nat) : ∀ l : List Nat, inV (nV n) (nL l) = l.contains n
  | [] => rfl
  | x :: r => by
    have ih := inV_nat n r
    unfold inV at ih ⊢
    rw [nL_cons, List.any_cons, ih, List.contains_cons]
    have e : eqV (nV x) (nV n) = (n == x) := by
      show (((x : Nat) : Int) == ((n : Nat) : Int)) = (n == x)
      by_cases c : n = x
      · subst c
        rw [beq_self_eq_true, beq_self_eq_true]
      · rw [beq_eq_false_iff_ne.mpr c, beq_eq_false_iff_ne.mpr (by omega)]
    rw [e]
theorem small (n : Nat) (h : n ≤ 100000) : n ≤ sizeLine := Nat.le_trans h (by decide)
theorem small' (n : Nat) (h : n ≤ 100000) : n < sizeLine := Nat.lt_of_le_of_lt h (by decide)
/-! ### heaps -/
theorem same_upd {H : Hp} {p : Addr} {o : HO} (h : H p = none) : Same H (upd H p o) := fun b x e => by
  rw [upd_ne (ne_of_none e h)]
  exact e
/-- the new list of a comprehension or a loop grows: all else as ahead of it -/
theorem same_grow {H H4 : Hp} {D : Addr} {o : HO} (h : H D = none) (s : Same H H4) : Same H (upd H4 D o) := fun b x e => by
  rw [upd_ne (ne_of_none e h)]
  exact s b x e
/-- lists of values, each list an object of its own -/
structure Rows (H : Hp) (rs : List Addr) (ws : List (List Nat)) : Prop where
  len : rs.length = ws.length
  at_ : ∀ (i : Nat) (r : Addr), rs[i]? = some r → ∃ w, ws[i]? = some w ∧ H r = some (.lst (nL w))
theorem Rows.same {H H' : Hp} {rs : List Addr} {ws : List (List Nat)} (h : Rows H rs ws) (s : Same H H') : Rows H' rs ws := ⟨h.len, fun i r hr => by
  obtain ⟨w, e, q⟩ := h.at_ i r hr
  exact ⟨w, e, s _ _ q⟩⟩
theorem Rows.snoc {H : Hp} {rs : List Addr} {ws : List (List Nat)} {r : Addr} {w : List Nat} (h : Rows H rs ws) (q : H r = some (.lst (nL w))) : Rows H (rs ++ [r]) (ws ++ [w]) := by
  refine ⟨by rw [List.length_append, List.length_append, h.len]; rfl, fun i x hx => ?_⟩
  by_cases c : i < rs.length
  · rw [List.getElem?_append_left c] at hx
    rw [List.getElem?_append_left (by rw [← h.len]; exact c)]
    exact h.at_ i x hx
  · rw [List.getElem?_append_right (by omega)] at hx
    have hi : i = rs.length := by
      have := (List.getElem?_eq_some_iff.mp hx).1
      rw [List.length_singleton] at this
      omega
    subst hi
    rw [Nat.sub_self] at hx
    have e : r = x := Option.some.inj hx
    subst e
    refine ⟨w, ?_, q⟩
    rw [h.len, List.getElem?_append_right (Nat.le_refl _), Nat.sub_self]
    rfl
theorem Rows.nil (H : Hp) : Rows H [] [] := ⟨rfl, fun i r hr => by simp at hr⟩
theorem Rows.get {H : Hp} {rs : List Addr} {ws : List (List Nat)} (h : Rows H rs ws) {i : Nat} {w : List Nat} (e : ws[i]? = some w) : ∃ r, rs[i]? = some r ∧ H r = some (.lst (nL w)) := by
  have hl : i < rs.length := by
    rw [h.len]
    exact (List.getElem?_eq_some_iff.mp e).1
  obtain ⟨w', e', q⟩ := h.at_ i _ (List.getElem?_eq_getElem hl)
  rw [e] at e'
  cases e'
  exact ⟨_, List.getElem?_eq_getElem hl, q⟩
theorem Rows.set {H : Hp} {rs : List Addr} {ws : List (List Nat)} (h : Rows H rs ws) {i : Nat} {r : Addr} {w : List Nat} (q : H r = some (.lst (nL w))) : Rows H (rs.set i r) (ws.set i w) := by
  refine ⟨by rw [List.length_set, List.length_set, h.len], fun j x hx => ?_⟩
  by_cases c : i = j
  · subst c
    have hl : i < rs.length := by
      have := (List.getElem?_eq_some_iff.mp hx).1
      rw [List.length_set] at this
      exact this
    rw [List.getElem?_set_self hl] at hx
    have e : r = x := Option.some.inj hx
    subst e
    exact ⟨w, List.getElem?_set_self (by rw [← h.len]; exact hl), q⟩
  · rw [List.getElem?_set_ne c] at hx
    rw [List.getElem?_set_ne c]
    exact h.at_ j x hx
/-- the values and the budgets -/
structure Grid (H : Hp) (wl bl : Addr) (ws : List (List Nat)) (bs : List Nat) (lots : Nat) : Prop where
  wl : ∃ rs : List Addr, H wl = some (.lst (rs.map V.ref)) ∧ Rows H rs ws
  bl : H bl = some (.lst (nL bs))
  len : ws.length = bs.length
  n1 : 1 ≤ bs.length
  n4 : bs.length ≤ 4
  rows : ∀ r ∈ ws, r.length = lots
theorem Grid.same {H H' : Hp} {wl bl : Addr} {ws : List (List Nat)} {bs : List Nat} {lots : Nat} (g : Grid H wl bl ws bs lots) (s : Same H H') : Grid H' wl bl ws bs lots := by
  obtain ⟨rs, h1, h2⟩ := g.wl
  exact ⟨⟨rs, s _ _ h1, h2.same s⟩, s _ _ g.bl, g.len, g.n1, g.n4, g.rows⟩
/-- an outcome as the program's pair -/
def oV : Option (Nat × Nat) → List V
  | none => [.int (-1), .int 0]
  | some p => [nV p.1, nV p.2]
structure Outs (H : Hp) (ts : List Addr) (os : List (Option (Nat × Nat))) : Prop where
  len : ts.length = os.length
  at_ : ∀ (i : Nat) (t : Addr), ts[i]? = some t → ∃ o, os[i]? = some o ∧ H t = some (.tup (oV o))
theorem Outs.same {H H' : Hp} {ts : List Addr} {os : List (Option (Nat × Nat))} (h : Outs H ts os) (s : Same H H') : Outs H' ts os := ⟨h.len, fun i r hr => by
  obtain ⟨w, e, q⟩ := h.at_ i r hr
  exact ⟨w, e, s _ _ q⟩⟩
theorem Outs.nil (H : Hp) : Outs H [] [] := ⟨rfl, fun i r hr => by simp at hr⟩
theorem Outs.snoc {H : Hp} {rs : List Addr} {ws : List (Option (Nat × Nat))} {r : Addr} {w : Option (Nat × Nat)} (h : Outs H rs ws) (q : H r = some (.tup (oV w))) : Outs H (rs ++ [r]) (ws ++ [w]) := by
  refine ⟨by rw [List.length_append, List.length_append, h.len]; rfl, fun i x hx => ?_⟩
  by_cases c : i < rs.length
  · rw [List.getElem?_append_left c] at hx
    rw [List.getElem?_append_left (by rw [← h.len]; exact c)]
    exact h.at_ i x hx
  · rw [List.getElem?_append_right (by omega)] at hx
    have hi : i = rs.length := by
      have := (List.getElem?_eq_some_iff.mp hx).1
      rw [List.length_singleton] at this
      omega
    subst hi
    rw [Nat.sub_self] at hx
    have e : r = x := Option.some.inj hx
    subst e
    refine ⟨w, ?_, q⟩
    rw [h.len, List.getElem?_append_right (Nat.le_refl _), Nat.sub_self]
    rfl
theorem refs_of {rs : List Addr} {i : Nat} {x : V} (h : (rs.map V.ref)[i]? = some x) : ∃ r, rs[i]? = some r ∧ x = .ref r := by
  rw [List.getElem?_map] at h
  obtain ⟨r, e, e2⟩ := Option.map_eq_some_iff.mp h
  exact ⟨r, e, e2.symm⟩
theorem refs_get {rs : List Addr} {i : Nat} {r : Addr} (h : rs[i]? = some r) : (rs.map V.ref)[i]? = some (.ref r) := by
  rw [List.getElem?_map, h]
  rfl
end Pb
set_option Elab.async false
set_option linter.all false
set_option maxRecDepth 100000
set_option maxHeartbeats 4000000
namespace Pb
open PySem PySem.Spec PyProof.Rows L2
/-! ### defs: where they stand, that they may be called -/
structure DefAt (K : PySem.W.Frag) (mg : Str → Option Value) (x : Str) (st : Stmt) (ps : List Str) : Prop where
  ex : ∃ (f : Addr) (fd : FuncData), L2.Fun K x x st f fd ∧ mg x = some (.ref f) ∧ Binds K fd ps []
structure Callee (P : Program) (w : World) (K : PySem.W.Frag) (mg : Str → Option Value) (base : Heap) (k : Nat) (x : Str) (sp : Sp) : Prop where
  ex : ∃ (f : Addr) (fd : FuncData) (ps : List Str), FnOk P w K mg base CX0 k f fd ps sp ∧ mg x = some (.ref f) ∧ PySem.W.keepIn K (.ref f) = true ∧ Binds K fd ps []
section
variable {P : Program} {w : World} {K : PySem.W.Frag} {mg : Str → Option Value} {base : Heap}
theorem DefAt.callee {x : Str} {st : Stmt} {N ps : List Str} {k : Nat} {sp : Sp} (D : DefAt K mg x st ps) (S : FnScope N ps (defScope st)) (hlen : ∀ vs H Q E, sp vs H Q E → vs.length = ps.length)
    (body : ∀ (f : Addr) (cdv : Value) (A : Around) (outer : List Env) (s : Shared) (H : Hp) (vs : List V) (Q : VK) (E : XK), Room k (A.deeper (envOfC x (defScope st) s.heap.objs.size f cdv)) → sp vs H Q E →
      ∃ t, PSs (cxOf CX0 P w K mg base N x (defScope st) f cdv A outer s H E).nox (defBody st) t ∧ t { nx := fun _ H' => Q .non H', rt := Q } (start N vs) H) : Callee P w K mg base (k + 1) x sp := by
  obtain ⟨f, fd, F, m, b⟩ := D.ex
  exact ⟨f, fd, ps, F.ok S hlen (fun cdv A outer s H vs Q E => body f cdv A outer s H vs Q E), m, F.kp, b⟩
end
theorem pc {X : Cx} {k j : Nat} {x : Str} {sp : Sp} {p pos : Pos} {e : Expr} {es : List Expr} {t : TA} (c : Callee X.prog X.w X.K X.mg X.base k x sp) (hr : Room j X.A) (hk : k ≤ j) (hg : Gl X x) (ha : PA X (e :: es) t)
    (h1 : (x == ("__debug__" : Str)) = false := by decide) (h2 : starEach (e :: es) X.env = (false, eval e X.env) :: starEach es X.env := by rfl) (h3 : (backTo pos (starEach es X.env)).any (·.1) = false := by rfl) :
    PE X (.Call (.Name x p) (e :: es) [] pos) (tCall sp [] E0 t) := by
  obtain ⟨f, fd, ps, F, m, kp, b⟩ := c.ex
  exact pe_call F (hr.mono hk) hg m kp b .nil pass0 ha h1 h2 h3
theorem ixl {X : Cx} {K : PySem.W.Frag} (h : X.K = K := by rfl) : IxR X (rIxL K) := by
  subst h
  exact ix_list
theorem ixt {X : Cx} {K : PySem.W.Frag} (h : X.K = K := by rfl) : IxR X (rIxT K) := by
  subst h
  exact ix_tup
theorem opIn {X : Cx} {K : PySem.W.Frag} (h : X.K = K := by rfl) : OpR X (compareOp .In) (rIn K false) := by
  subst h
  exact op_in_seq
theorem opNotIn {X : Cx} {K : PySem.W.Frag} (h : X.K = K := by rfl) : OpR X (compareOp .NotIn) (rIn K true) := by
  subst h
  exact op_notIn_seq
/-- the built-in names that the program uses are no names of its own -/
structure Bi (mg : Str → Option Value) : Prop where
  len : mg "len" = none
  zip : mg "zip" = none
  min : mg "min" = none
  max : mg "max" = none
  sum : mg "sum" = none
  list : mg "list" = none
  range : mg "range" = none
  all : mg "all" = none
  set : mg "set" = none
  sorted : mg "sorted" = none
/-! ### bids_for -/
abbrev s_bids_for : Stmt := topS 6
theorem sc_bids_for : FnScope ["worths", "budgets", "lot", "row", "budget"] ["worths", "budgets", "lot"] (defScope s_bids_for) := ⟨rfl, rfl, rfl, by decide +kernel, rfl, by decide +kernel, by decide +kernel⟩
def spBids : Sp := fun vs H Q _ => ∃ (wl bl : Addr) (ws : List (List Nat)) (bs : List Nat) (lot lots : Nat), vs = [.ref wl, .ref bl, nV lot] ∧ Grid H wl bl ws bs lots ∧ lot < lots ∧
  ∀ H' p, Same H H' → H p = none → H' p = some (.lst (nL (bidsFor ws bs lot))) → Q (.ref p) H'
section
variable {P : Program} {w : World} {K : PySem.W.Frag} {mg : Str → Option Value} {base : Heap}
theorem min_is (x b : Nat) : (if ((b : Nat) : Int) < ((x : Nat) : Int) then ((b : Nat) : Int) else ((x : Nat) : Int)) = ((min x b : Nat) : Int) := by
  by_cases c : b < x
  · rw [if_pos (by omega), Nat.min_eq_right (by omega)]
  · rw [if_neg (by omega), Nat.min_eq_left (by omega)]
theorem bids_at {ws : List (List Nat)} {bs : List Nat} {lot i x b : Nat} {r : List Nat} (h1 : ws[i]? = some r) (h2 : r[lot]? = some x) (h3 : bs[i]? = some b) : (bidsFor ws bs lot)[i]? = some (min x b) := by
  unfold bidsFor
  rw [List.getElem?_zipWith, h1, h3]
  show some (min (r.getD lot 0) b) = some (min x b)
  rw [List.getD_eq_getElem?_getD, h2]
  rfl
theorem c_bids (D : DefAt K mg "bids_for" s_bids_for ["worths", "budgets", "lot"]) (B : Bi mg) : Callee P w K mg base 1 "bids_for" spBids := by
  refine D.callee sc_bids_for (fun vs H Q E h => ?_) (fun f cdv A outer s H vs Q E hr h => ?_)
  · obtain ⟨_, _, _, _, _, _, rfl, _⟩ := h
    rfl
  · obtain ⟨wl, bl, ws, bs, lot, lots, rfl, g, hlot, k⟩ := h
    have nd := sc_bids_for.nd
    refine ⟨_, pss_one (ps_ret (pe_lc (own := [("row", 3), ("budget", 4)]) (g := gTup K 2 (gCons (gName 3) (gCons (gName 4) gNil))) (tt := tYes) (by rfl) nd (pi_zip (by rfl) B.zip (pa_cons (pv 0) (pa_cons (pv 1) pa_nil)))
      (blkOk_by (own := [("row", 3), ("budget", 4)]) (N := ["worths", "budgets", "lot", "row", "budget"]) (sc := defScope s_bids_for) (by decide +kernel))
      (fun _ _ _ _ _ => pg_tup rfl (pgs_cons (pg_name (i := 3) nd rfl (Or.inl rfl)) (pgs_cons (pg_name (i := 4) nd rfl (Or.inl rfl)) pgs_nil)))
      (fun _ _ _ _ _ => pts_nil)
      (fun _ _ _ _ _ => pe_callB (call_min2 rfl) (by rfl) B.min (by decide +kernel) (pa_cons (pe_ix (ixl (K := K)) (pv 3) (pv 2) (fun _ _ => rfl)) (pa_cons (pv 4) pa_nil))))), ?_⟩
    obtain ⟨rs, h1, h2⟩ := g.wl
    have hn : bs.length = min (rs.map V.ref).length (nL bs).length := by
      rw [List.length_map, nL_length, h2.len, g.len, Nat.min_self]
    refine ⟨.ref wl, rfl, .ref bl, rfl, wl, bl, rs.map V.ref, nL bs, rfl, SqL.of h1, SqL.of g.bl, fun D nD => ?_⟩
    refine lc_it (walk_zip (xs := rs.map V.ref) (ys := nL bs) hn) (fun i H' => Same H H' ∧ H' D = some (.lst (nL ((bidsFor ws bs lot).take i))))
      ⟨same_upd nD, upd_same⟩ (fun i H' _ ⟨s, _⟩ => ⟨SqL.of (s _ _ h1), SqL.of (s _ _ g.bl)⟩) ?_ ?_
    · rintro i y H2 H2' hi ⟨s, hD⟩ ⟨T, u, v, rfl, nT, rfl, hu, hv⟩
      obtain ⟨r, hr1, rfl⟩ := refs_of hu
      obtain ⟨b, hb, rfl⟩ := nL_of hv
      obtain ⟨row, hrow, hr2⟩ := h2.at_ i r hr1
      have hl : lot < row.length := by
        rw [g.rows row (List.mem_of_getElem? hrow)]
        exact hlot
      have s2 : Same H2 (upd H2 T (.tup [.ref r, nV b])) := same_upd nT
      refine ⟨T, [.ref r, nV b], rfl, SqT.of upd_same, rfl, .ref r, [nV b], rfl, nV b, [], rfl, rfl, rfl, ?_⟩
      refine ⟨.ref r, rfl, nV lot, rfl, r, nL row, (lot : Int), nV row[lot], rfl, rfl, SqL.of (s2 _ _ (s _ _ hr2)), atI_nat (nL_get (List.getElem?_eq_getElem hl)), nV b, rfl, _, _, rfl, _, s2 _ _ hD, ?_, ?_, ?_⟩
      · rw [nL_length, List.length_take]
        refine small' _ ?_
        have := g.n4
        omega
      · exact same_grow nD (s.trans s2)
      · rw [upd_same, min_is, take_snoc (bids_at hrow (List.getElem?_eq_getElem hl) hb), nL_append]
        rfl
    · rintro H2 ⟨s, hD⟩
      refine k H2 D s nD ?_
      rw [hD, List.take_of_length_le (by rw [bidsFor_length g.len]; exact Nat.le_refl _)]
end
end Pb
set_option Elab.async false
set_option linter.all false
set_option maxRecDepth 100000
set_option maxHeartbeats 4000000
namespace Pb
open PySem PySem.Spec PyProof.Rows L2
/-! ### outcome_of -/
abbrev s_outcome_of : Stmt := topS 7
theorem sc_outcome_of : FnScope ["worths", "budgets", "lot", "bids", "price"] ["worths", "budgets", "lot"] (defScope s_outcome_of) := ⟨rfl, rfl, rfl, by decide +kernel, rfl, by decide +kernel, by decide +kernel⟩
def spOut : Sp := fun vs H Q _ => ∃ (wl bl : Addr) (a : Kh435.Auction) (bs : List Nat) (lot lots : Nat), vs = [.ref wl, .ref bl, nV lot] ∧ Grid H wl bl a.values bs lots ∧ a.budgets.length = bs.length ∧ lot < lots ∧
  ∀ H' t, Same H H' → H t = none → H' t = some (.tup (oV (outOne a bs lot))) → Q (.ref t) H'
section
variable {P : Program} {w : World} {K : PySem.W.Frag} {mg : Str → Option Value} {base : Heap}
theorem eqV_nat_self (n : Nat) : eqV (nV n) (nV n) = true := beq_self_eq_true (n : Int)
theorem eqV_nat_ne {m n : Nat} (h : m ≠ n) : eqV (nV m) (nV n) = false := by
  show (((m : Nat) : Int) == ((n : Nat) : Int)) = false
  exact beq_eq_false_iff_ne.mpr (by omega)
theorem c_outcome (D : DefAt K mg "outcome_of" s_outcome_of ["worths", "budgets", "lot"]) (B : Bi mg) (cb : Callee P w K mg base 1 "bids_for" spBids) : Callee P w K mg base 2 "outcome_of" spOut := by
  refine D.callee sc_outcome_of (fun vs H Q E h => ?_) (fun f cdv A outer s H vs Q E hr h => ?_)
  · obtain ⟨_, _, _, _, _, _, rfl, _⟩ := h
    rfl
  · obtain ⟨wl, bl, a, bs, lot, lots, rfl, g, hb, hlot, k⟩ := h
    have nd := sc_outcome_of.nd
    refine ⟨_, pss_cons (ps_set (i := 3) nd rfl (Or.inl rfl) (pc cb hr (by decide) (by rfl) (pa_cons (pv 0) (pa_cons (pv 1) (pa_cons (pv 2) pa_nil)))))
      (pss_cons (ps_set (i := 4) nd rfl (Or.inl rfl) (pe_callB (cr_max rfl) (by rfl) B.max (by decide +kernel) (pa_cons (pv 3) pa_nil)))
      (pss_one (ps_ret (pe_ifExp (pt_cmpR op_gt (pv 4) pe_int (nomark _))
        (pe_tup (pa_cons (pe_bm PySem.F.plainAttrs_list PySem.F.slot_list_index PySem.F.type_list_index mt_index (pv 3) (pa_cons (pv 4) pa_nil)) (pa_cons (pv 4) pa_nil)))
        (pe_tup (pa_cons (pe_un un_neg pe_int) (pa_cons pe_int pa_nil))))))), ?_⟩
    refine ⟨.ref wl, rfl, .ref bl, rfl, nV lot, rfl, wl, bl, a.values, bs, lot, lots, rfl, g, hlot, fun H1 p1 s1 n1 e1 => ?_⟩
    have hlen := bidsFor_length (lot := lot) g.len
    refine ⟨.ref p1, rfl, p1, nI (bidsFor a.values bs lot), rfl, SqL.of (by rw [e1, nL_int]), by rw [nI_length, hlen]; exact g.n1, fun m hm hmax => ?_⟩
    obtain ⟨n, hn, rfl⟩ := nI_mem hm
    have hmost : ∀ y ∈ bidsFor a.values bs lot, y ≤ n := fun y hy => by
      have := hmax (y : Int) (List.mem_map.mpr ⟨y, hy, rfl⟩)
      omega
    refine ⟨nV n, rfl, _, _, rfl, rfl, _, rfl, ite2 (fun c => ?_) (fun c => ?_)⟩
    · have c0 : 0 < n := by
        have := of_decide_eq_true c
        omega
      obtain ⟨j, ew, hj, eb, hat, hfirst⟩ := winner_top g.len hb hn hmost c0
      refine ⟨.ref p1, rfl, .inl ⟨rfl, _, SqL.of e1⟩, nV n, rfl, p1, nL (bidsFor a.values bs lot), nV n, j, nV n, rfl, rfl, SqL.of e1, rfl, nL_flat _, nL_get hat, eqV_nat_self n, fun m z hm hz => ?_, nV n, rfl, (by show 2 ≤ sizeLine; decide), fun t nt => ?_⟩
      · obtain ⟨y, hy, rfl⟩ := nL_of hz
        exact eqV_nat_ne (hfirst m y hm hy)
      · refine k _ t (s1.trans (same_upd nt)) (s1.free nt) ?_
        have eo : outOne a bs lot = some (j, n) := by
          unfold outOne
          rw [ew]
          show some (j, Kh435.bid a bs j lot) = some (j, n)
          rw [eb]
        rw [upd_same, eo]
        rfl
    · have c0 : ¬ 0 < n := fun z => c (decide_eq_true (by omega))
      have ew := winner_zero g.len hb hmost c0
      refine ⟨1, rfl, (by show 2 ≤ sizeLine; decide), fun t nt => ?_⟩
      refine k _ t (s1.trans (same_upd nt)) (s1.free nt) ?_
      rw [upd_same]
      unfold outOne
      rw [ew]
      rfl
end
/-! ### outcomes_of -/
abbrev s_outcomes_of : Stmt := topS 8
theorem sc_outcomes_of : FnScope ["worths", "budgets", "order", "left", "found", "lot", "buyer", "price"] ["worths", "budgets", "order"] (defScope s_outcomes_of) := ⟨rfl, rfl, rfl, by decide +kernel, rfl, by decide +kernel, by decide +kernel⟩
def spOuts : Sp := fun vs H Q _ => ∃ (wl bl ol : Addr) (a : Kh435.Auction) (bs o : List Nat) (lots : Nat), vs = [.ref wl, .ref bl, .ref ol] ∧ Grid H wl bl a.values bs lots ∧ a.budgets.length = bs.length ∧ H ol = some (.lst (nL o)) ∧ (∀ x ∈ o, x < lots) ∧ o.length ≤ 5 ∧
  ∀ H' p ts, Same H H' → H p = none → H' p = some (.lst (ts.map V.ref)) → Outs H' ts ((Kh435.simulate a bs o).map (·.2)) → Q (.ref p) H'
section
variable {P : Program} {w : World} {K : PySem.W.Frag} {mg : Str → Option Value} {base : Heap}
theorem atI_nV {l : List Nat} {i x : Nat} (h : l[i]? = some x) : atI (nL l) (i : Int) = some (nV x) := atI_nat (nL_get h)
theorem ixN_nat {n i : Nat} (h : i < n) : ixN n (i : Int) = some i := by
  unfold ixN
  rw [if_pos (by omega), if_pos (by omega)]
  rfl
theorem nL_set (l : List Nat) (i x : Nat) : (nL l).set i (nV x) = nL (l.set i x) := by
  unfold nL
  rw [List.map_set]
theorem bid_le (a : Kh435.Auction) (bs : List Nat) (i lot : Nat) : Kh435.bid a bs i lot ≤ Kh435.elementAt bs i := Nat.min_le_right _ _
theorem c_outcomes (D : DefAt K mg "outcomes_of" s_outcomes_of ["worths", "budgets", "order"]) (B : Bi mg) (co : Callee P w K mg base 2 "outcome_of" spOut) : Callee P w K mg base 3 "outcomes_of" spOuts := by
  refine D.callee sc_outcomes_of (fun vs H Q E h => ?_) (fun f cdv A outer s H vs Q E hr h => ?_)
  · obtain ⟨_, _, _, _, _, _, _, rfl, _⟩ := h
    rfl
  · obtain ⟨wl, bl, ol, a, bs, o, lots, rfl, g, hb, ho, hin, hol, k⟩ := h
    have nd := sc_outcomes_of.nd
    refine ⟨_, pss_cons (ps_set (i := 3) nd rfl (Or.inl rfl) (pe_callTy call_list_of (by rfl) B.list (by decide +kernel) (pa_cons (pv 1) pa_nil)))
      (pss_cons (ps_set (i := 4) nd rfl (Or.inl rfl) (pe_lst pa_nil))
      (pss_cons (ps_for PassesOwn.never rfl (pi_list (pv 2)) (pg_name (i := 5) nd rfl (Or.inl rfl))
        (pss_cons (ps_asg (pc co hr (by decide) (by rfl) (pa_cons (pv 0) (pa_cons (pv 3) (pa_cons (pv 5) pa_nil)))) (pg_tup rfl (pgs_cons (pg_name (i := 6) nd rfl (Or.inl rfl)) (pgs_cons (pg_name (i := 7) nd rfl (Or.inl rfl)) pgs_nil))))
        (pss_cons (ps_if (pt_cmpR op_ge (pv 6) pe_int (nomark _))
          (pss_one (ps_asg (pe_op op_sub (pe_ix ix_list (pv 3) (pv 6) (fun _ _ => rfl)) (pv 7)) (pg_sub (pv 3) (pv 6) set_list))) pss_nil)
        (pss_one (ps_expr (pe_bm PySem.F.plainAttrs_list PySem.F.slot_list_append PySem.F.type_list_append mt_append (pv 4) (pa_cons (pe_tup (pa_cons (pv 6) (pa_cons (pv 7) pa_nil))) pa_nil)))))))
      (pss_one (ps_ret (pv 4))))), ?_⟩
    -- a copy of the budgets
    refine ⟨.ref bl, rfl, bl, nL bs, rfl, .inl (SqL.of g.bl), fun l nl => ?_⟩
    have s1 : Same H (upd H l (.lst (nL bs))) := same_upd nl
    -- the answers so far, none
    refine ⟨Nat.zero_le _, fun p np => ?_⟩
    have s2 : Same (upd H l (.lst (nL bs))) (upd (upd H l (.lst (nL bs))) p (.lst [])) := same_upd np
    have hnp : H p = none := s1.free np
    have lp : l ≠ p := ne_of_none upd_same np
    have s3 := s1.trans s2
    refine ⟨.ref ol, rfl, ol, rfl, ⟨_, SqL.of (s3 _ _ ho)⟩, for_list (K := K) (a := ol) (xs := nL o)
      (fun i σ H' => ∃ y5 y6 y7, σ = [some (.ref wl), some (.ref bl), some (.ref ol), some (.ref l), some (.ref p), y5, y6, y7] ∧ Same H H' ∧ H' l = some (.lst (nL (left a bs (o.take i)))) ∧ ∃ ts : List Addr, H' p = some (.lst (ts.map V.ref)) ∧ Outs H' ts ((Kh435.simulate a bs (o.take i)).map (·.2)))
      ⟨none, none, none, rfl, s3, by rw [upd_ne lp, upd_same]; rfl, [], upd_same, by rw [List.take_zero, simulate_nil]; exact Outs.nil _⟩ (fun i σ H' _ ⟨_, _, _, _, sm, _⟩ => SqL.of (sm _ _ ho)) ?_ ?_⟩
    · rintro i y σ H2 hi ⟨y5, y6, y7, rfl, sm, el, ts, ep, ot⟩
      obtain ⟨x, hx, rfl⟩ := nL_of hi
      have hxm : x ∈ o := List.mem_of_getElem? hx
      have hll : (left a bs (o.take i)).length = bs.length := left_length a _ _
      have tk := take_snoc hx
      -- one sale
      have g2 : Grid H2 wl l a.values (left a bs (o.take i)) lots := by
        obtain ⟨rs, h1, h2⟩ := g.wl
        exact ⟨⟨rs, sm _ _ h1, h2.same sm⟩, el, by rw [hll]; exact g.len, by rw [hll]; exact g.n1, by rw [hll]; exact g.n4, g.rows⟩
      refine ⟨.ref wl, rfl, .ref l, rfl, nV x, rfl, wl, l, a, left a bs (o.take i), x, lots, rfl, g2, by rw [hll]; exact hb, hin x hxm, fun H3 t s4 nt et => ?_⟩
      have hll2 : i < o.length := (List.getElem?_eq_some_iff.mp hx).1
      have hts : ts.length ≤ 5 := by
        rw [ot.len, List.length_map, simulate_length, List.length_take]
        omega
      have snoc : (Kh435.simulate a bs (o.take (i + 1))).map (·.2) = (Kh435.simulate a bs (o.take i)).map (·.2) ++ [outOne a (left a bs (o.take i)) x] := by
        rw [tk, simulate_snoc, List.map_append]
        rfl
      have lsn : left a bs (o.take (i + 1)) = leftOne a (left a bs (o.take i)) x := by rw [tk, left_snoc]
      cases ew : Kh435.winner a (left a bs (o.take i)) x with
      | none =>
        have eo : outOne a (left a bs (o.take i)) x = none := by
          unfold outOne
          rw [ew]
        have elo : leftOne a (left a bs (o.take i)) x = left a bs (o.take i) := by
          unfold leftOne
          rw [ew]
        rw [eo] at et snoc
        refine ⟨t, [.int (-1), .int 0], rfl, SqT.of et, rfl, .int (-1), [.int 0], rfl, .int 0, [], rfl, rfl, ?_⟩
        refine ⟨.int (-1), rfl, _, _, rfl, rfl, _, rfl, iteF ?_⟩
        refine ⟨.ref p, rfl, .inl ⟨rfl, _, SqL.of (s4 _ _ ep)⟩, .int (-1), rfl, .int 0, rfl, (by show 2 ≤ sizeLine; decide), fun T nT => ?_⟩
        have s5 : Same H3 (upd H3 T (.tup [.int (-1), .int 0])) := same_upd nT
        refine ⟨p, ts.map V.ref, .ref T, rfl, rfl, s5 _ _ (s4 _ _ ep), by rw [List.length_map]; exact small' _ (by omega), ?_⟩
        have pT : p ≠ T := ne_of_none (s4 _ _ ep) nT
        refine ⟨_, _, _, rfl, same_grow hnp ((sm.trans s4).trans s5), ?_, ts ++ [T], ?_, ?_⟩
        · rw [upd_ne lp, lsn, elo]
          exact s5 _ _ (s4 _ _ el)
        · rw [upd_same, List.map_append]
          rfl
        · rw [snoc]
          have ot2 : Outs (upd (upd H3 T (.tup [.int (-1), .int 0])) p (.lst (ts.map V.ref ++ [.ref T]))) ts ((Kh435.simulate a bs (o.take i)).map (·.2)) := ⟨ot.len, fun j r hr => by
            obtain ⟨w, e, q⟩ := ot.at_ j r hr
            exact ⟨w, e, by rw [upd_ne (ne_of q ep (by intro z; cases z))]; exact s5 _ _ (s4 _ _ q)⟩⟩
          refine ot2.snoc ?_
          rw [upd_ne pT.symm, upd_same]
          rfl
      | some j =>
        have eo : outOne a (left a bs (o.take i)) x = some (j, Kh435.bid a (left a bs (o.take i)) j x) := by
          unfold outOne
          rw [ew]
        have elo : leftOne a (left a bs (o.take i)) x = (left a bs (o.take i)).set j (Kh435.elementAt (left a bs (o.take i)) j - Kh435.bid a (left a bs (o.take i)) j x) := by
          unfold leftOne
          rw [ew]
        have hj : j < (left a bs (o.take i)).length := by
          rw [hll, ← hb]
          exact winner_lt ew
        have ble := bid_le a (left a bs (o.take i)) j x
        have hat : (left a bs (o.take i))[j]? = some (Kh435.elementAt (left a bs (o.take i)) j) := by
          unfold Kh435.elementAt
          rw [List.getD_eq_getElem?_getD, List.getElem?_eq_getElem hj]
          rfl
        rw [eo] at et snoc
        rw [elo] at lsn
        generalize hP : Kh435.bid a (left a bs (o.take i)) j x = pr at et snoc lsn ble
        generalize hL : left a bs (o.take i) = lf at el hj hat ble lsn snoc hll
        generalize hE : Kh435.elementAt lf j = ej at hat ble lsn
        refine ⟨t, [nV j, nV pr], rfl, SqT.of et, rfl, nV j, [nV pr], rfl, nV pr, [], rfl, rfl, ?_⟩
        refine ⟨nV j, rfl, _, _, rfl, rfl, _, rfl, ite2 (fun _ => ?_) (fun c => absurd (decide_eq_true (show (0 : Int) ≤ (j : Int) by omega)) c)⟩
        -- the buyer pays
        refine ⟨.ref l, rfl, nV j, rfl, l, nL lf, (j : Int), nV ej, rfl, rfl, SqL.of (s4 _ _ el), atI_nV hat, nV pr, rfl, _, _, rfl, rfl, ?_⟩
        refine ⟨.ref l, rfl, nV j, rfl, l, nL lf, (j : Int), j, rfl, rfl, s4 _ _ el, ixN_nat (by rw [nL_length]; exact hj), ?_⟩
        have hsub : V.int ((ej : Int) - (pr : Int)) = nV (ej - pr) := by
          show V.int ((ej : Int) - (pr : Int)) = V.int ((ej - pr : Nat) : Int)
          congr 1
          omega
        have hset : (nL lf).set j (.int ((ej : Int) - (pr : Int))) = nL (left a bs (o.take (i + 1))) := by
          rw [hsub, nL_set, lsn]
        have pl : p ≠ l := lp.symm
        have ep2 : (upd H3 l (.lst ((nL lf).set j (.int ((ej : Int) - (pr : Int)))))) p = some (.lst (ts.map V.ref)) := by
          rw [upd_ne pl]
          exact s4 _ _ ep
        refine ⟨.ref p, rfl, .inl ⟨rfl, _, SqL.of ep2⟩, nV j, rfl, nV pr, rfl, (by show 2 ≤ sizeLine; decide), fun T nT => ?_⟩
        have s5 : Same (upd H3 l (.lst ((nL lf).set j (.int ((ej : Int) - (pr : Int)))))) (upd (upd H3 l (.lst ((nL lf).set j (.int ((ej : Int) - (pr : Int)))))) T (.tup [nV j, nV pr])) := same_upd nT
        have sl : Same H (upd H3 l (.lst ((nL lf).set j (.int ((ej : Int) - (pr : Int)))))) := same_grow nl (sm.trans s4)
        refine ⟨p, ts.map V.ref, .ref T, rfl, rfl, s5 _ _ ep2, by rw [List.length_map]; exact small' _ (by omega), ?_⟩
        have pT : p ≠ T := ne_of_none ep2 nT
        refine ⟨_, _, _, rfl, same_grow hnp (sl.trans s5), ?_, ts ++ [T], ?_, ?_⟩
        · rw [upd_ne lp, ← hset]
          exact s5 _ _ upd_same
        · rw [upd_same, List.map_append]
          rfl
        · rw [snoc]
          have ot2 : Outs (upd (upd (upd H3 l (.lst ((nL lf).set j (.int ((ej : Int) - (pr : Int)))))) T (.tup [nV j, nV pr])) p (.lst (ts.map V.ref ++ [.ref T]))) ts ((Kh435.simulate a bs (o.take i)).map (·.2)) := ⟨ot.len, fun j r hr => by
            obtain ⟨w, e, q⟩ := ot.at_ j r hr
            refine ⟨w, e, ?_⟩
            rw [upd_ne (ne_of q ep (by intro z; cases z))]
            refine s5 _ _ ?_
            rw [upd_ne (ne_of q el (by intro z; cases z))]
            exact s4 _ _ q⟩
          refine ot2.snoc ?_
          rw [upd_ne pT.symm, upd_same]
          rfl
    · rintro σ H2 ⟨y5, y6, y7, rfl, sm, el, ts, ep, ot⟩
      rw [nL_length, List.take_length] at ot
      exact ⟨.ref p, rfl, k H2 p ts sm hnp ep ot⟩
end
end Pb
set_option Elab.async false
set_option linter.all false
set_option maxRecDepth 100000
set_option maxHeartbeats 4000000
namespace Pb
open PySem PySem.Spec PyProof.Rows L2
/-! ### revenue_of -/
abbrev s_revenue_of : Stmt := topS 9
theorem sc_revenue_of : FnScope ["worths", "budgets", "order", "buyer", "price"] ["worths", "budgets", "order"] (defScope s_revenue_of) := ⟨rfl, rfl, rfl, by decide +kernel, rfl, by decide +kernel, by decide +kernel⟩
def spRev : Sp := fun vs H Q _ => ∃ (wl bl ol : Addr) (a : Kh435.Auction) (bs o : List Nat) (lots : Nat), vs = [.ref wl, .ref bl, .ref ol] ∧ Grid H wl bl a.values bs lots ∧ a.budgets.length = bs.length ∧ H ol = some (.lst (nL o)) ∧ (∀ x ∈ o, x < lots) ∧ o.length ≤ 5 ∧
  ∀ H', Same H H' → Q (nV (Kh435.totalPrice (Kh435.simulate a bs o))) H'
theorem oV_two (o : Option (Nat × Nat)) : ∃ x, oV o = [x, nV (price o)] := by
  cases o with
  | none => exact ⟨_, rfl⟩
  | some p => exact ⟨_, rfl⟩
section
variable {P : Program} {w : World} {K : PySem.W.Frag} {mg : Str → Option Value} {base : Heap}
theorem c_revenue (D : DefAt K mg "revenue_of" s_revenue_of ["worths", "budgets", "order"]) (B : Bi mg) (co : Callee P w K mg base 3 "outcomes_of" spOuts) : Callee P w K mg base 4 "revenue_of" spRev := by
  refine D.callee sc_revenue_of (fun vs H Q E h => ?_) (fun f cdv A outer s H vs Q E hr h => ?_)
  · obtain ⟨_, _, _, _, _, _, _, rfl, _⟩ := h
    rfl
  · obtain ⟨wl, bl, ol, a, bs, o, lots, rfl, g, hb, ho, hin, hol, k⟩ := h
    have nd := sc_revenue_of.nd
    refine ⟨_, pss_one (ps_ret (pe_callB (cr_sum rfl) (by rfl) B.sum (by decide +kernel) (pa_cons (pe_lc (own := [("buyer", 3), ("price", 4)]) (g := gTup K 2 (gCons (gName 3) (gCons (gName 4) gNil))) (tt := tYes) (by rfl) nd
      (pi_list (pc co hr (by decide) (by rfl) (pa_cons (pv 0) (pa_cons (pv 1) (pa_cons (pv 2) pa_nil)))))
      (blkOk_by (own := [("buyer", 3), ("price", 4)]) (N := ["worths", "budgets", "order", "buyer", "price"]) (sc := defScope s_revenue_of) (by decide +kernel))
      (fun _ _ _ _ _ => pg_tup rfl (pgs_cons (pg_name (i := 3) nd rfl (Or.inl rfl)) (pgs_cons (pg_name (i := 4) nd rfl (Or.inl rfl)) pgs_nil)))
      (fun _ _ _ _ _ => pts_nil) (fun _ _ _ _ _ => pv 4)) pa_nil))), ?_⟩
    refine ⟨.ref wl, rfl, .ref bl, rfl, .ref ol, rfl, wl, bl, ol, a, bs, o, lots, rfl, g, hb, ho, hin, hol, fun H1 p ts s1 n1 e1 ot => ?_⟩
    refine ⟨p, rfl, ⟨_, SqL.of e1⟩, fun D nD => ?_⟩
    have hlen : ((Kh435.simulate a bs o).map (·.2)).length = o.length := by rw [List.length_map, simulate_length]
    refine lc_list (K := K) (a := p) (xs := ts.map V.ref) (fun i H' => Same H1 H' ∧ H' D = some (.lst (nL ((((Kh435.simulate a bs o).map (·.2)).map price).take i))))
      ⟨same_upd nD, upd_same⟩ (fun i H' _ ⟨s, _⟩ => SqL.of (s _ _ e1)) ?_ ?_
    · rintro i y H2 hi ⟨s2, eD⟩
      obtain ⟨t, ht, rfl⟩ := refs_of hi
      obtain ⟨oc, hoc, et⟩ := ot.at_ i t ht
      obtain ⟨x0, ex⟩ := oV_two oc
      rw [ex] at et
      refine ⟨t, [x0, nV (price oc)], rfl, SqT.of (s2 _ _ et), rfl, x0, [nV (price oc)], rfl, nV (price oc), [], rfl, rfl, rfl, ?_⟩
      refine ⟨nV (price oc), rfl, _, eD, ?_, same_grow nD s2, ?_⟩
      · rw [nL_length, List.length_take, List.length_map, hlen]
        exact small' _ (by omega)
      · rw [upd_same, take_snoc (l := ((Kh435.simulate a bs o).map (·.2)).map price) (x := price oc) (by rw [List.getElem?_map, hoc]; rfl), nL_append]
        rfl
    · rintro H2 ⟨s2, eD⟩
      rw [List.length_map, ot.len, List.take_of_length_le (by rw [List.length_map]; exact Nat.le_refl _)] at eD
      refine ⟨D, nI (((Kh435.simulate a bs o).map (·.2)).map price), rfl, SqL.of (by rw [eD, nL_int]), ?_⟩
      have e : V.int (nI (((Kh435.simulate a bs o).map (·.2)).map price)).sum = nV (Kh435.totalPrice (Kh435.simulate a bs o)) := by
        rw [nI_sum, total_eq, List.map_map]
        rfl
      rw [e]
      exact k H2 (s1.trans s2)
end
/-! ### an auction in the heap -/
structure Loc where
  dx : Addr
  wl : Addr
  bl : Addr
  rl : Addr
  sl : Addr
  wd : Addr
  rows : List Addr
  sas : List Addr
def aF (lots : Nat) (wl bl rl sl wd : Addr) : List (Str × V) := [("lots", nV lots), ("worths", .ref wl), ("budgets", .ref bl), ("remaining", .ref rl), ("sales", .ref sl), ("withdrawn", .ref wd)]
/-- the tuples of sales -/
def sV (x : Nat × Nat × Nat) : List V := [nV x.1, nV x.2.1, nV x.2.2]
structure Sales (H : Hp) (ts : List Addr) (ss : List (Nat × Nat × Nat)) : Prop where
  len : ts.length = ss.length
  at_ : ∀ (i : Nat) (t : Addr), ts[i]? = some t → ∃ o, ss[i]? = some o ∧ H t = some (.tup (sV o))
theorem Sales.same {H H' : Hp} {ts : List Addr} {ss : List (Nat × Nat × Nat)} (h : Sales H ts ss) (s : Same H H') : Sales H' ts ss := ⟨h.len, fun i r hr => by
  obtain ⟨w, e, q⟩ := h.at_ i r hr
  exact ⟨w, e, s _ _ q⟩⟩
structure AucL (C : Addr) (H : Hp) (x : Addr) (L : Loc) (a : Kh435.Auction) : Prop where
  ob : H x = some (.ins C L.dx (aF a.lotCount L.wl L.bl L.rl L.sl L.wd))
  wl : H L.wl = some (.lst (L.rows.map V.ref))
  rows : Rows H L.rows a.values
  bl : H L.bl = some (.lst (nL a.budgets))
  rl : H L.rl = some (.lst (nL a.remaining))
  sl : H L.sl = some (.lst (L.sas.map V.ref))
  sas : Sales H L.sas a.sales
  wd : H L.wd = some (.lst (nL a.withdrawn))
  nd : (L.wl :: L.rl :: L.bl :: L.sl :: L.wd :: L.rows).Nodup
  wf : WF a
theorem AucL.same {C : Addr} {H H' : Hp} {x : Addr} {L : Loc} {a : Kh435.Auction} (h : AucL C H x L a) (s : Same H H') : AucL C H' x L a :=
  ⟨s _ _ h.ob, s _ _ h.wl, h.rows.same s, s _ _ h.bl, s _ _ h.rl, s _ _ h.sl, h.sas.same s, s _ _ h.wd, h.nd, h.wf⟩
theorem AucL.grid {C : Addr} {H : Hp} {x : Addr} {L : Loc} {a : Kh435.Auction} (h : AucL C H x L a) : Grid H L.wl L.bl a.values a.budgets a.lotCount :=
  ⟨⟨L.rows, h.wl, h.rows⟩, h.bl, h.wf.vb, h.wf.nb, h.wf.nb4, h.wf.rows⟩
theorem lk_here {k : Str} {v : V} {r : List (Str × V)} : List.lookup k ((k, v) :: r) = some v := by
  have e : (k == k) = true := beq_self_eq_true k
  simp only [List.lookup, e]
theorem lk_past {k g : Str} {v x : V} {r : List (Str × V)} (h : (k == g) = false) (q : List.lookup k r = some x) : List.lookup k ((g, v) :: r) = some x := by
  simp only [List.lookup, h]
  exact q
section
variable {n : Nat} {wl bl rl sl wd : Addr}
theorem aF_lots : (aF n wl bl rl sl wd).lookup ("lots" : Str) = some (nV n) := lk_here
theorem aF_worths : (aF n wl bl rl sl wd).lookup ("worths" : Str) = some (.ref wl) := lk_past (by decide +kernel) lk_here
theorem aF_budgets : (aF n wl bl rl sl wd).lookup ("budgets" : Str) = some (.ref bl) := lk_past (by decide +kernel) (lk_past (by decide +kernel) lk_here)
theorem aF_remaining : (aF n wl bl rl sl wd).lookup ("remaining" : Str) = some (.ref rl) := lk_past (by decide +kernel) (lk_past (by decide +kernel) (lk_past (by decide +kernel) lk_here))
theorem aF_sales : (aF n wl bl rl sl wd).lookup ("sales" : Str) = some (.ref sl) := lk_past (by decide +kernel) (lk_past (by decide +kernel) (lk_past (by decide +kernel) (lk_past (by decide +kernel) lk_here)))
theorem aF_withdrawn : (aF n wl bl rl sl wd).lookup ("withdrawn" : Str) = some (.ref wd) := lk_past (by decide +kernel) (lk_past (by decide +kernel) (lk_past (by decide +kernel) (lk_past (by decide +kernel) (lk_past (by decide +kernel) lk_here))))
theorem put_at {f : Str} {v x : V} {r : List (Str × V)} : putF f v ((f, x) :: r) = (f, v) :: r := if_pos rfl
theorem put_past {f g : Str} {v x : V} {r : List (Str × V)} (h : ¬ g = f) : putF f v ((g, x) :: r) = (g, x) :: putF f v r := if_neg h
theorem aF_put (y : Addr) : putF "remaining" (.ref y) (aF n wl bl rl sl wd) = aF n wl bl y sl wd := by
  unfold aF
  rw [put_past (by decide +kernel), put_past (by decide +kernel), put_past (by decide +kernel), put_at]
end
/-- of the class: its attributes are the instances' own -/
structure ClsA (K : PySem.W.Frag) (C : Addr) : Prop where
  cl : Cls K C
  n1 : NoAttr K C "lots"
  n2 : NoAttr K C "worths"
  n3 : NoAttr K C "budgets"
  n4 : NoAttr K C "remaining"
  n5 : NoAttr K C "sales"
  n6 : NoAttr K C "withdrawn"
/-! ### outcomes_now, revenue_now -/
abbrev s_outcomes_now : Stmt := topS 10
theorem sc_outcomes_now : FnScope ["auction", "order"] ["auction", "order"] (defScope s_outcomes_now) := ⟨rfl, rfl, rfl, by decide +kernel, rfl, by decide +kernel, by decide +kernel⟩
abbrev s_revenue_now : Stmt := topS 11
theorem sc_revenue_now : FnScope ["auction", "order"] ["auction", "order"] (defScope s_revenue_now) := ⟨rfl, rfl, rfl, by decide +kernel, rfl, by decide +kernel, by decide +kernel⟩
def spOutsNow (C : Addr) : Sp := fun vs H Q _ => ∃ (x ol : Addr) (L : Loc) (a : Kh435.Auction) (o : List Nat), vs = [.ref x, .ref ol] ∧ AucL C H x L a ∧ H ol = some (.lst (nL o)) ∧ (∀ x ∈ o, x < a.lotCount) ∧ o.length ≤ 5 ∧
  ∀ H' p ts, Same H H' → H p = none → H' p = some (.lst (ts.map V.ref)) → Outs H' ts ((Kh435.simulate a a.budgets o).map (·.2)) → Q (.ref p) H'
def spRevNow (C : Addr) : Sp := fun vs H Q _ => ∃ (x ol : Addr) (L : Loc) (a : Kh435.Auction) (o : List Nat), vs = [.ref x, .ref ol] ∧ AucL C H x L a ∧ H ol = some (.lst (nL o)) ∧ (∀ x ∈ o, x < a.lotCount) ∧ o.length ≤ 5 ∧
  ∀ H', Same H H' → Q (nV (Kh435.revenueOf a o)) H'
section
variable {P : Program} {w : World} {K : PySem.W.Frag} {mg : Str → Option Value} {base : Heap} {C : Addr}
theorem c_outcomes_now (D : DefAt K mg "outcomes_now" s_outcomes_now ["auction", "order"]) (T : ClsA K C) (co : Callee P w K mg base 3 "outcomes_of" spOuts) : Callee P w K mg base 4 "outcomes_now" (spOutsNow C) := by
  refine D.callee sc_outcomes_now (fun vs H Q E h => ?_) (fun f cdv A outer s H vs Q E hr h => ?_)
  · obtain ⟨_, _, _, _, _, rfl, _⟩ := h
    rfl
  · obtain ⟨x, ol, L, a, o, rfl, hA, ho, hin, hol, k⟩ := h
    refine ⟨_, pss_one (ps_ret (pc co hr (by decide) (by rfl) (pa_cons (pe_fld (pv 0) rfl) (pa_cons (pe_fld (pv 0) rfl) (pa_cons (pv 1) pa_nil))))), ?_⟩
    exact ⟨.ref x, rfl, x, C, L.dx, _, .ref L.wl, rfl, hA.ob, T.cl, T.n2, aF_worths, .ref x, rfl, x, C, L.dx, _, .ref L.bl, rfl, hA.ob, T.cl, T.n3, aF_budgets, .ref ol, rfl,
      L.wl, L.bl, ol, a, a.budgets, o, a.lotCount, rfl, hA.grid, rfl, ho, hin, hol, k⟩
theorem c_revenue_now (D : DefAt K mg "revenue_now" s_revenue_now ["auction", "order"]) (T : ClsA K C) (co : Callee P w K mg base 4 "revenue_of" spRev) : Callee P w K mg base 5 "revenue_now" (spRevNow C) := by
  refine D.callee sc_revenue_now (fun vs H Q E h => ?_) (fun f cdv A outer s H vs Q E hr h => ?_)
  · obtain ⟨_, _, _, _, _, rfl, _⟩ := h
    rfl
  · obtain ⟨x, ol, L, a, o, rfl, hA, ho, hin, hol, k⟩ := h
    refine ⟨_, pss_one (ps_ret (pc co hr (by decide) (by rfl) (pa_cons (pe_fld (pv 0) rfl) (pa_cons (pe_fld (pv 0) rfl) (pa_cons (pv 1) pa_nil))))), ?_⟩
    exact ⟨.ref x, rfl, x, C, L.dx, _, .ref L.wl, rfl, hA.ob, T.cl, T.n2, aF_worths, .ref x, rfl, x, C, L.dx, _, .ref L.bl, rfl, hA.ob, T.cl, T.n3, aF_budgets, .ref ol, rfl,
      L.wl, L.bl, ol, a, a.budgets, o, a.lotCount, rfl, hA.grid, rfl, ho, hin, hol, k⟩
end
end Pb
set_option Elab.async false
set_option linter.all false
set_option maxRecDepth 100000
set_option maxHeartbeats 4000000
namespace Pb
open PySem PySem.Spec PyProof.Rows L2
/-! ### orders_of -/
theorem Rows.put {H : Hp} {rs : List Addr} {ws : List (List Nat)} {D : Addr} {o : HO} (h : Rows H rs ws) (hD : ∀ q ∈ rs, q ≠ D) : Rows (upd H D o) rs ws := ⟨h.len, fun i r hr => by
  obtain ⟨w, e, q⟩ := h.at_ i r hr
  exact ⟨w, e, by rw [upd_ne (hD r (List.mem_of_getElem? hr))]; exact q⟩⟩
theorem Rows.app {H : Hp} {rs qs : List Addr} {ws vs : List (List Nat)} (h : Rows H rs ws) (g : Rows H qs vs) : Rows H (rs ++ qs) (ws ++ vs) := by
  refine ⟨by rw [List.length_append, List.length_append, h.len, g.len], fun i x hx => ?_⟩
  by_cases c : i < rs.length
  · rw [List.getElem?_append_left c] at hx
    rw [List.getElem?_append_left (by rw [← h.len]; exact c)]
    exact h.at_ i x hx
  · rw [List.getElem?_append_right (by omega)] at hx
    rw [List.getElem?_append_right (by rw [← h.len]; omega), ← h.len]
    exact g.at_ _ x hx
theorem stepRows_snoc {lots : List Nat} {rows : List (List Nat)} {i : Nat} {row : List Nat} (h : rows[i]? = some row) : stepRows lots (rows.take (i + 1)) = stepRows lots (rows.take i) ++ stepRow lots row := by
  unfold stepRows
  rw [take_snoc h, List.flatMap_append, List.flatMap_cons, List.flatMap_nil, List.append_nil]
abbrev s_orders_of : Stmt := topS 15
theorem sc_orders_of : FnScope ["lots", "rows", "turn", "longer", "row", "lot"] ["lots"] (defScope s_orders_of) := ⟨rfl, rfl, rfl, by decide +kernel, rfl, by decide +kernel, by decide +kernel⟩
def spOrders : Sp := fun vs H Q _ => ∃ (ll : Addr) (lots : List Nat), vs = [.ref ll] ∧ H ll = some (.lst (nL lots)) ∧ lots.length ≤ 5 ∧ lots.Nodup ∧
  ∀ H' p rs, Same H H' → H p = none → H' p = some (.lst (rs.map V.ref)) → Rows H' rs (Kh435.permutations lots.length lots) → (∀ r ∈ rs, H r = none) → Q (.ref p) H'
/-- the step of one row over the first lots -/
def stepTo (lots row : List Nat) (i : Nat) : List (List Nat) := stepRow (lots.take i) row
theorem stepTo_yes {lots row : List Nat} {i x : Nat} (h : lots[i]? = some x) (c : row.contains x = false) : stepTo lots row (i + 1) = stepTo lots row i ++ [row ++ [x]] := by
  unfold stepTo stepRow
  rw [take_snoc h, List.filter_append, List.map_append, List.filter_cons, if_pos (by rw [c]; rfl)]
  rfl
theorem stepTo_no {lots row : List Nat} {i x : Nat} (h : lots[i]? = some x) (c : row.contains x = true) : stepTo lots row (i + 1) = stepTo lots row i := by
  unfold stepTo stepRow
  rw [take_snoc h, List.filter_append, List.map_append, List.filter_cons, if_neg (by rw [c]; decide)]
  exact List.append_nil _
theorem stepTo_length (lots row : List Nat) (i : Nat) : (stepTo lots row i).length ≤ lots.length := by
  unfold stepTo
  refine Nat.le_trans (stepRow_length _ _) ?_
  rw [List.length_take]
  exact Nat.min_le_right _ _
section
variable {P : Program} {w : World} {K : PySem.W.Frag} {mg : Str → Option Value} {base : Heap}
theorem c_orders (D : DefAt K mg "orders_of" s_orders_of ["lots"]) (B : Bi mg) : Callee P w K mg base 1 "orders_of" spOrders := by
  refine D.callee sc_orders_of (fun vs H Q E h => ?_) (fun f cdv A outer s H vs Q E hr h => ?_)
  · obtain ⟨_, _, rfl, _⟩ := h
    rfl
  · obtain ⟨ll, lots, rfl, hll, h5, hnd, k⟩ := h
    have nd := sc_orders_of.nd
    refine ⟨_, pss_cons (ps_set (i := 1) nd rfl (Or.inl rfl) (pe_lst (pa_cons (pe_lst pa_nil) pa_nil)))
      (pss_cons (ps_for PassesOwn.never rfl (pi_range1 (by rfl) B.range (pa_cons (pe_callB call_len_seq (by rfl) B.len PySem.boot_len (pa_cons (pv 0) pa_nil)) pa_nil)) (pg_name (i := 2) nd rfl (Or.inl rfl))
        (pss_cons (ps_set (i := 3) nd rfl (Or.inl rfl) (pe_lst pa_nil))
        (pss_cons (ps_for PassesOwn.never rfl (pi_list (pv 1)) (pg_name (i := 4) nd rfl (Or.inr rfl))
          (pss_one (ps_expr (pe_bm PySem.F.plainAttrs_list PySem.F.slot_list_extend PySem.F.type_list_extend mt_extend (pv 3) (pa_cons
            (pe_lc (own := [("lot", 5)]) (g := gName 5) (tt := tTest (tOp (rIn K true) (tVar 5) (tVar 4))) (by rfl) nd (pi_list (pv 0))
              (blkOk_by (own := [("lot", 5)]) (N := ["lots", "rows", "turn", "longer", "row", "lot"]) (sc := defScope s_orders_of) (by decide +kernel))
              (fun _ _ _ _ _ => pg_name (i := 5) nd rfl (Or.inl rfl))
              (fun _ _ _ _ _ => pts_one (pt_cmpR (opNotIn (K := K)) (pv 5) (pv 4) rfl))
              (fun _ _ _ _ _ => pe_op op_cat (pv 4) (pe_lst (pa_cons (pv 5) pa_nil)))) pa_nil)))))
        (pss_one (ps_set (i := 1) nd rfl (Or.inl rfl) (pv 3))))))
      (pss_one (ps_ret (pv 1)))), ?_⟩
    -- one empty row
    refine ⟨Nat.zero_le _, fun e ne => ⟨(by show 1 ≤ sizeLine; decide), fun rp nrp => ?_⟩⟩
    have s1 : Same H (upd H e (.lst [])) := same_upd ne
    have s2 : Same (upd H e (.lst [])) (upd (upd H e (.lst [])) rp (.lst [.ref e])) := same_upd nrp
    have erp : e ≠ rp := ne_of_none upd_same nrp
    -- one turn a lot
    refine ⟨.ref ll, rfl, ll, nL lots, rfl, .inl (SqL.of ((s1.trans s2) _ _ hll)), _, rfl, (by rw [nL_length]; omega), (by rw [nL_length]; omega), for_range (lo := 0) (n := (nL lots).length)
      (fun t σ H' => ∃ (y2 y3 y4 : Option V) (rp : Addr) (rs : List Addr), σ = [some (.ref ll), some (.ref rp), y2, y3, y4, none] ∧ Same H H' ∧ H rp = none ∧ H' rp = some (.lst (rs.map V.ref)) ∧ Rows H' rs (rowsAt lots t [[]]) ∧ ∀ r ∈ rs, H r = none)
      ⟨none, none, none, rp, [e], rfl, s1.trans s2, s1.free nrp, upd_same, ?_, fun r hr => by rw [List.mem_singleton.mp hr]; exact ne⟩ ?_ ?_⟩
    · have r0 : Rows (upd (upd H e (.lst [])) rp (.lst [.ref e])) ([] ++ [e]) ([] ++ [[]]) := (Rows.nil _).snoc (by rw [upd_ne erp, upd_same]; rfl)
      exact r0
    · rintro t σ H2 ht ⟨y2, y3, y4, rp2, rs, rfl, sm, nrp2, erp2, rw2, _⟩
      rw [nL_length] at ht
      -- the longer rows, none yet
      refine ⟨Nat.zero_le _, fun lg nlg => ?_⟩
      have s3 : Same H2 (upd H2 lg (.lst [])) := same_upd nlg
      have hrl : (rowsAt lots t [[]]).length ≤ 3125 := Nat.le_trans (rowsAt_length h5 t) (Nat.le_trans (Nat.pow_le_pow_right (by decide) (by omega : t ≤ 5)) (by decide))
      refine ⟨.ref rp2, rfl, rp2, rfl, ⟨_, SqL.of (s3 _ _ erp2)⟩, for_list (K := K) (a := rp2) (xs := rs.map V.ref)
        (fun i σ H' => ∃ (y4 : Option V) (qs : List Addr), σ = [some (.ref ll), some (.ref rp2), some (.int (0 + (t : Int))), some (.ref lg), y4, none] ∧ Same H2 H' ∧ H' lg = some (.lst (qs.map V.ref)) ∧ Rows H' qs (stepRows lots ((rowsAt lots t [[]]).take i)) ∧ ∀ q ∈ qs, q ≠ lg ∧ H q = none)
        ⟨_, [], rfl, s3, upd_same, Rows.nil _, fun q hq => absurd hq (List.not_mem_nil)⟩ (fun i σ H' _ ⟨_, _, _, s4, _⟩ => SqL.of (s4 _ _ erp2)) ?_ ?_⟩
      · rintro i y σ H3 hi ⟨y4', qs, rfl, s4, elg, rq, nql⟩
        obtain ⟨r, hr1, rfl⟩ := refs_of hi
        obtain ⟨row, hrow, er⟩ := rw2.at_ i r hr1
        have hil : i < (rowsAt lots t [[]]).length := (List.getElem?_eq_some_iff.mp hrow).1
        have er3 : H3 r = some (.lst (nL row)) := s4 _ _ er
        have hll3 : H3 ll = some (.lst (nL lots)) := s4 _ _ (sm _ _ hll)
        refine ⟨.ref lg, rfl, .inl ⟨rfl, _, SqL.of elg⟩, .ref ll, rfl, ll, rfl, ⟨_, SqL.of hll3⟩, fun D nD => ?_⟩
        refine lc_list (K := K) (a := ll) (xs := nL lots)
          (fun j H' => Same H3 H' ∧ ∃ ps : List Addr, H' D = some (.lst (ps.map V.ref)) ∧ Rows H' ps (stepTo lots row j) ∧ ∀ q ∈ ps, q ≠ D ∧ H3 q = none)
          ⟨same_upd nD, [], upd_same, by rw [show stepTo lots row 0 = [] from rfl]; exact Rows.nil _, fun q hq => absurd hq (List.not_mem_nil)⟩ (fun j H' _ ⟨s5, _⟩ => SqL.of (s5 _ _ hll3)) ?_ ?_
        · rintro j y H4 hj ⟨s5, ps, eD, rps, nps⟩
          obtain ⟨x, hx, rfl⟩ := nL_of hj
          refine ⟨rfl, nV x, rfl, .ref r, rfl, r, nL row, rfl, .inl (SqL.of (s5 _ _ er3)), rfl, nL_flat _, _, rfl, ?_⟩
          rw [inV_nat]
          cases c : row.contains x with
          | true =>
            refine ⟨s5, ps, eD, ?_, nps⟩
            rw [stepTo_no hx c]
            exact rps
          | false =>
            refine ⟨.ref r, rfl, nV x, rfl, (by show 1 ≤ sizeLine; decide), fun b nb => ?_⟩
            have s6 : Same H4 (upd H4 b (.lst [nV x])) := same_upd nb
            have hrl5 : row.length ≤ 100000 - 1 := by
              have h1 : H4 r = some (.lst (nL row)) := s5 _ _ er3
              have h2 : row.length ≤ t := rowsAt_row lots t row (List.mem_of_getElem? hrow)
              omega
            refine ⟨r, b, nL row, [nV x], rfl, rfl, s6 _ _ (s5 _ _ er3), upd_same, small _ (by rw [nL_length]; show row.length + 1 ≤ 100000; omega), fun q nq => ?_⟩
            have s7 : Same (upd H4 b (.lst [nV x])) (upd (upd H4 b (.lst [nV x])) q (.lst (nL row ++ [nV x]))) := same_upd nq
            have s8 := (s5.trans s6).trans s7
            have hpl := stepTo_length lots row j
            have qD : q ≠ D := (ne_of_none (s6 _ _ eD) nq).symm
            refine ⟨_, s7 _ _ (s6 _ _ eD), by rw [List.length_map, rps.len]; exact small' _ (by omega), same_grow nD s8, ps ++ [q], ?_, ?_, ?_⟩
            · rw [upd_same, List.map_append]
              rfl
            · rw [stepTo_yes hx c]
              have r1 : Rows (upd (upd (upd H4 b (.lst [nV x])) q (.lst (nL row ++ [nV x]))) D (.lst (ps.map V.ref ++ [.ref q]))) ps (stepTo lots row j) := ((rps.same s6).same s7).put fun z hz => (nps z hz).1
              refine r1.snoc ?_
              rw [upd_ne qD, upd_same, nL_append]
              rfl
            · intro z hz
              rcases List.mem_append.mp hz with hz | hz
              · exact nps z hz
              · rw [List.mem_singleton.mp hz]
                exact ⟨qD, (s5.trans s6).free nq⟩
        · rintro H4 ⟨s5, ps, eD, rps, nps⟩
          rw [nL_length] at rps
          have eT : stepTo lots row lots.length = stepRow lots row := by
            unfold stepTo
            rw [List.take_length]
          have hpl := stepTo_length lots row lots.length
          have hql := stepRows_length lots ((rowsAt lots t [[]]).take i)
          have hqm : ((rowsAt lots t [[]]).take i).length * lots.length ≤ 3125 * 5 := Nat.mul_le_mul (by rw [List.length_take]; omega) h5
          refine ⟨lg, D, qs.map V.ref, ps.map V.ref, rfl, rfl, s5 _ _ elg, eD, small _ (by rw [List.length_map, List.length_map, rq.len, rps.len]; omega), ?_⟩
          refine ⟨_, qs ++ ps, rfl, same_grow nlg (s4.trans s5), ?_, ?_, ?_⟩
          · rw [upd_same, List.map_append]
          · rw [stepRows_snoc hrow]
            rw [eT] at rps
            exact ((rq.same s5).put fun z hz => (nql z hz).1).app (rps.put fun z hz => (ne_of_none elg (nps z hz).2).symm)
          · intro z hz
            rcases List.mem_append.mp hz with hz | hz
            · exact nql z hz
            · exact ⟨(ne_of_none elg (nps z hz).2).symm, (sm.trans s4).free (nps z hz).2⟩
      · rintro σ H3 ⟨y4', qs, rfl, s4, elg, rq, nql⟩
        rw [List.length_map, rw2.len, List.take_length] at rq
        refine ⟨.ref lg, rfl, _, _, _, lg, qs, rfl, sm.trans s4, sm.free nlg, elg, ?_, fun r hr => (nql r hr).2⟩
        rw [rowsAt_snoc]
        exact rq
    · rintro σ H2 ⟨y2, y3, y4, rp2, rs, rfl, sm, nrp2, erp2, rw2, nrs⟩
      rw [nL_length, orders_eq hnd] at rw2
      exact ⟨.ref rp2, rfl, k H2 rp2 rs sm nrp2 erp2 rw2 nrs⟩
end
end Pb
set_option Elab.async false
set_option linter.all false
set_option maxRecDepth 100000
set_option maxHeartbeats 4000000
namespace Pb
open PySem PySem.Spec PyProof.Rows L2
/-! ### revenues, greatest, smallest, first_with -/
abbrev s_revenues : Stmt := topS 16
theorem sc_revenues : FnScope ["auction", "order"] ["auction"] (defScope s_revenues) := ⟨rfl, rfl, rfl, by decide +kernel, rfl, by decide +kernel, by decide +kernel⟩
abbrev s_first_with : Stmt := topS 17
theorem sc_first_with : FnScope ["auction", "revenue", "orders"] ["auction", "revenue"] (defScope s_first_with) := ⟨rfl, rfl, rfl, by decide +kernel, rfl, by decide +kernel, by decide +kernel⟩
abbrev s_greatest : Stmt := topS 18
theorem sc_greatest : FnScope ["auction"] ["auction"] (defScope s_greatest) := ⟨rfl, rfl, rfl, by decide +kernel, rfl, by decide +kernel, by decide +kernel⟩
abbrev s_smallest : Stmt := topS 19
theorem sc_smallest : FnScope ["auction"] ["auction"] (defScope s_smallest) := ⟨rfl, rfl, rfl, by decide +kernel, rfl, by decide +kernel, by decide +kernel⟩
abbrev s_best_order : Stmt := topS 20
theorem sc_best_order : FnScope ["auction"] ["auction"] (defScope s_best_order) := ⟨rfl, rfl, rfl, by decide +kernel, rfl, by decide +kernel, by decide +kernel⟩
abbrev s_worst_order : Stmt := topS 21
theorem sc_worst_order : FnScope ["auction"] ["auction"] (defScope s_worst_order) := ⟨rfl, rfl, rfl, by decide +kernel, rfl, by decide +kernel, by decide +kernel⟩
abbrev s_greatest_with : Stmt := topS 22
theorem sc_greatest_with : FnScope ["worths", "budgets", "lots", "order"] ["worths", "budgets", "lots"] (defScope s_greatest_with) := ⟨rfl, rfl, rfl, by decide +kernel, rfl, by decide +kernel, by decide +kernel⟩
abbrev s_highest_bid : Stmt := topS 23
theorem sc_highest_bid : FnScope ["auction", "lot"] ["auction", "lot"] (defScope s_highest_bid) := ⟨rfl, rfl, rfl, by decide +kernel, rfl, by decide +kernel, by decide +kernel⟩
def revs (a : Kh435.Auction) : List Nat := (Kh435.allOrders a).map (Kh435.revenueOf a)
def spRevs (C : Addr) : Sp := fun vs H Q _ => ∃ (x : Addr) (L : Loc) (a : Kh435.Auction), vs = [.ref x] ∧ AucL C H x L a ∧ ∀ H' p, Same H H' → H p = none → H' p = some (.lst (nL (revs a))) → Q (.ref p) H'
def spGreat (C : Addr) : Sp := fun vs H Q _ => ∃ (x : Addr) (L : Loc) (a : Kh435.Auction), vs = [.ref x] ∧ AucL C H x L a ∧ ∀ H', Same H H' → Q (nV (Kh435.revenueOf a (Kh435.maxRevenueOrder a))) H'
def spSmall (C : Addr) : Sp := fun vs H Q _ => ∃ (x : Addr) (L : Loc) (a : Kh435.Auction), vs = [.ref x] ∧ AucL C H x L a ∧ ∀ H', Same H H' → Q (nV (Kh435.revenueOf a (Kh435.minRevenueOrder a))) H'
def spFirst (C : Addr) : Sp := fun vs H Q _ => ∃ (x : Addr) (L : Loc) (a : Kh435.Auction) (m j : Nat) (o : List Nat), vs = [.ref x, nV m] ∧ AucL C H x L a ∧ FirstAt (revs a) m j ∧ (Kh435.allOrders a)[j]? = some o ∧
  ∀ H' p, Same H H' → H p = none → H' p = some (.lst (nL o)) → Q (.ref p) H'
def spBest (C : Addr) : Sp := fun vs H Q _ => ∃ (x : Addr) (L : Loc) (a : Kh435.Auction), vs = [.ref x] ∧ AucL C H x L a ∧ ∀ H' p, Same H H' → H p = none → H' p = some (.lst (nL (Kh435.maxRevenueOrder a))) → Q (.ref p) H'
def spWorst (C : Addr) : Sp := fun vs H Q _ => ∃ (x : Addr) (L : Loc) (a : Kh435.Auction), vs = [.ref x] ∧ AucL C H x L a ∧ ∀ H' p, Same H H' → H p = none → H' p = some (.lst (nL (Kh435.minRevenueOrder a))) → Q (.ref p) H'
def spGreatW : Sp := fun vs H Q _ => ∃ (wl bl ll : Addr) (a : Kh435.Auction) (lots : Nat), vs = [.ref wl, .ref bl, .ref ll] ∧ Grid H wl bl a.values a.budgets lots ∧ H ll = some (.lst (nL a.remaining)) ∧ a.remaining.Nodup ∧ (∀ x ∈ a.remaining, x < lots) ∧ a.remaining.length ≤ 5 ∧
  ∀ H', Same H H' → Q (nV (Kh435.revenueOf a (Kh435.maxRevenueOrder a))) H'
def spHigh (C : Addr) : Sp := fun vs H Q _ => ∃ (x : Addr) (L : Loc) (a : Kh435.Auction) (lot : Nat), vs = [.ref x, nV lot] ∧ AucL C H x L a ∧ lot < a.lotCount ∧ ∀ H', Same H H' → Q (nV (Kh435.highestBid a lot)) H'
/-- an order is made of the remaining lots -/
theorem order_lt {a : Kh435.Auction} {lots : Nat} (h : ∀ x ∈ a.remaining, x < lots) {o : List Nat} (ho : o ∈ Kh435.allOrders a) : (∀ x ∈ o, x < lots) ∧ o.length = a.remaining.length := by
  have p := perms_perm _ _ _ rfl ho
  exact ⟨fun x hx => h x (p.mem_iff.mp hx), p.length_eq⟩
theorem revs_length {a : Kh435.Auction} (hn : a.remaining.Nodup) (h : a.remaining.length ≤ 5) : (revs a).length ≤ 3125 := by
  unfold revs
  rw [List.length_map]
  exact allOrders_length hn h
theorem revs_pos (a : Kh435.Auction) : 0 < (revs a).length := by
  unfold revs
  rw [List.length_map]
  exact List.length_pos_of_mem (max_mem a)
section
variable {P : Program} {w : World} {K : PySem.W.Frag} {mg : Str → Option Value} {base : Heap} {C : Addr}
theorem c_revenues (D : DefAt K mg "revenues" s_revenues ["auction"]) (T : ClsA K C) (co : Callee P w K mg base 1 "orders_of" spOrders) (cr : Callee P w K mg base 5 "revenue_now" (spRevNow C)) : Callee P w K mg base 6 "revenues" (spRevs C) := by
  refine D.callee sc_revenues (fun vs H Q E h => ?_) (fun f cdv A outer s H vs Q E hr h => ?_)
  · obtain ⟨_, _, _, rfl, _⟩ := h
    rfl
  · obtain ⟨x, L, a, rfl, hA, k⟩ := h
    have nd := sc_revenues.nd
    refine ⟨_, pss_one (ps_ret (pe_lc (own := [("order", 1)]) (g := gName 1) (tt := tYes) (by rfl) nd (pi_list (pc co hr (by decide) (by rfl) (pa_cons (pe_fld (pv 0) rfl) pa_nil)))
      (blkOk_by (own := [("order", 1)]) (N := ["auction", "order"]) (sc := defScope s_revenues) (by decide +kernel))
      (fun _ _ _ _ _ => pg_name (i := 1) nd rfl (Or.inl rfl)) (fun _ _ _ _ _ => pts_nil)
      (fun _ _ _ _ _ => pc cr hr (by decide) (by rfl) (pa_cons (pv 0) (pa_cons (pv 1) pa_nil))))), ?_⟩
    refine ⟨.ref x, rfl, x, C, L.dx, _, .ref L.rl, rfl, hA.ob, T.cl, T.n4, aF_remaining, L.rl, a.remaining, rfl, hA.rl, hA.wf.few_rem, hA.wf.nd, fun H1 p rs s1 n1 e1 r1 _ => ⟨p, rfl, ⟨_, SqL.of e1⟩, fun D nD => ?_⟩⟩
    refine lc_list (K := K) (a := p) (xs := rs.map V.ref) (fun i H' => Same H1 H' ∧ H' D = some (.lst (nL ((revs a).take i)))) ⟨same_upd nD, upd_same⟩ (fun i H' _ ⟨s2, _⟩ => SqL.of (s2 _ _ e1)) ?_ ?_
    · rintro i y H2 hi ⟨s2, eD⟩
      obtain ⟨r, hr1, rfl⟩ := refs_of hi
      obtain ⟨o, ho, er⟩ := r1.at_ i r hr1
      have hom : o ∈ Kh435.allOrders a := List.mem_of_getElem? ho
      obtain ⟨q1, q2⟩ := order_lt hA.wf.lt hom
      refine ⟨rfl, .ref x, rfl, .ref r, rfl, x, r, L, a, o, rfl, (hA.same s1).same s2, s2 _ _ er, q1, by rw [q2]; exact hA.wf.few_rem, fun H3 s3 => ?_⟩
      have hl := revs_length hA.wf.nd hA.wf.few_rem
      refine ⟨_, s3 _ _ eD, by rw [nL_length, List.length_take]; exact small' _ (by omega), same_grow nD (s2.trans s3), ?_⟩
      rw [upd_same, take_snoc (l := revs a) (x := Kh435.revenueOf a o) (by unfold revs; rw [List.getElem?_map]; exact congrArg (Option.map _) ho), nL_append]
      rfl
    · rintro H2 ⟨s2, eD⟩
      rw [List.length_map, r1.len] at eD
      have e : (revs a).take (Kh435.permutations a.remaining.length a.remaining).length = revs a := List.take_of_length_le (by unfold revs; rw [List.length_map]; exact Nat.le_refl _)
      rw [e] at eD
      exact k H2 D (s1.trans s2) (s1.free nD) eD
theorem c_greatest (D : DefAt K mg "greatest" s_greatest ["auction"]) (B : Bi mg) (cr : Callee P w K mg base 6 "revenues" (spRevs C)) : Callee P w K mg base 7 "greatest" (spGreat C) := by
  refine D.callee sc_greatest (fun vs H Q E h => ?_) (fun f cdv A outer s H vs Q E hr h => ?_)
  · obtain ⟨_, _, _, rfl, _⟩ := h
    rfl
  · obtain ⟨x, L, a, rfl, hA, k⟩ := h
    refine ⟨_, pss_one (ps_ret (pe_callB (cr_max rfl) (by rfl) B.max (by decide +kernel) (pa_cons (pc cr hr (by decide) (by rfl) (pa_cons (pv 0) pa_nil)) pa_nil))), ?_⟩
    refine ⟨.ref x, rfl, x, L, a, rfl, hA, fun H1 p s1 n1 e1 => ⟨p, nI (revs a), rfl, SqL.of (by rw [e1, nL_int]), by rw [nI_length]; exact revs_pos a, fun m hm hmax => ?_⟩⟩
    obtain ⟨n, hn, rfl⟩ := nI_mem hm
    have e := greatest_eq (a := a) hn fun y hy => by
      have := hmax (y : Int) (List.mem_map.mpr ⟨y, hy, rfl⟩)
      omega
    rw [e]
    exact k H1 s1
theorem c_smallest (D : DefAt K mg "smallest" s_smallest ["auction"]) (B : Bi mg) (cr : Callee P w K mg base 6 "revenues" (spRevs C)) : Callee P w K mg base 7 "smallest" (spSmall C) := by
  refine D.callee sc_smallest (fun vs H Q E h => ?_) (fun f cdv A outer s H vs Q E hr h => ?_)
  · obtain ⟨_, _, _, rfl, _⟩ := h
    rfl
  · obtain ⟨x, L, a, rfl, hA, k⟩ := h
    refine ⟨_, pss_one (ps_ret (pe_callB (cr_min rfl) (by rfl) B.min (by decide +kernel) (pa_cons (pc cr hr (by decide) (by rfl) (pa_cons (pv 0) pa_nil)) pa_nil))), ?_⟩
    refine ⟨.ref x, rfl, x, L, a, rfl, hA, fun H1 p s1 n1 e1 => ⟨p, nI (revs a), rfl, SqL.of (by rw [e1, nL_int]), by rw [nI_length]; exact revs_pos a, fun m hm hmin => ?_⟩⟩
    obtain ⟨n, hn, rfl⟩ := nI_mem hm
    have e := smallest_eq (a := a) hn fun y hy => by
      have := hmin (y : Int) (List.mem_map.mpr ⟨y, hy, rfl⟩)
      omega
    rw [e]
    exact k H1 s1
theorem c_first (D : DefAt K mg "first_with" s_first_with ["auction", "revenue"]) (T : ClsA K C) (co : Callee P w K mg base 1 "orders_of" spOrders) (cr : Callee P w K mg base 6 "revenues" (spRevs C)) : Callee P w K mg base 7 "first_with" (spFirst C) := by
  refine D.callee sc_first_with (fun vs H Q E h => ?_) (fun f cdv A outer s H vs Q E hr h => ?_)
  · obtain ⟨_, _, _, _, _, _, rfl, _⟩ := h
    rfl
  · obtain ⟨x, L, a, m, j, o, rfl, hA, hF, ho, k⟩ := h
    have nd := sc_first_with.nd
    refine ⟨_, pss_cons (ps_set (i := 2) nd rfl (Or.inl rfl) (pc co hr (by decide) (by rfl) (pa_cons (pe_fld (pv 0) rfl) pa_nil)))
      (pss_one (ps_ret (pe_ix ix_list (pv 2) (pe_bm PySem.F.plainAttrs_list PySem.F.slot_list_index PySem.F.type_list_index mt_index (pc cr hr (by decide) (by rfl) (pa_cons (pv 0) pa_nil)) (pa_cons (pv 1) pa_nil)) (fun _ _ => rfl)))), ?_⟩
    refine ⟨.ref x, rfl, x, C, L.dx, _, .ref L.rl, rfl, hA.ob, T.cl, T.n4, aF_remaining, L.rl, a.remaining, rfl, hA.rl, hA.wf.few_rem, hA.wf.nd, fun H1 p rs s1 n1 e1 r1 fr => ?_⟩
    refine ⟨.ref p, rfl, .ref x, rfl, x, L, a, rfl, hA.same s1, fun H2 q s2 n2 e2 => ⟨.inl ⟨rfl, _, SqL.of e2⟩, nV m, rfl, q, nL (revs a), nV m, j, nV m, rfl, rfl, SqL.of e2, rfl, nL_flat _, nL_get hF.here, eqV_nat_self m, fun i z hi hz => ?_, ?_⟩⟩
    · obtain ⟨y, hy, rfl⟩ := nL_of hz
      exact eqV_nat_ne (hF.first i y hi hy)
    · obtain ⟨r, hr1, er⟩ := r1.get ho
      refine ⟨p, rs.map V.ref, (j : Int), .ref r, rfl, rfl, SqL.of (s2 _ _ e1), atI_nat (refs_get hr1), ?_⟩
      exact k H2 r (s1.trans s2) (fr r (List.mem_of_getElem? hr1)) (s2 _ _ er)
theorem c_best (D : DefAt K mg "best_order" s_best_order ["auction"]) (cf : Callee P w K mg base 7 "first_with" (spFirst C)) (cg : Callee P w K mg base 7 "greatest" (spGreat C)) : Callee P w K mg base 8 "best_order" (spBest C) := by
  refine D.callee sc_best_order (fun vs H Q E h => ?_) (fun f cdv A outer s H vs Q E hr h => ?_)
  · obtain ⟨_, _, _, rfl, _⟩ := h
    rfl
  · obtain ⟨x, L, a, rfl, hA, k⟩ := h
    refine ⟨_, pss_one (ps_ret (pc cf hr (by decide) (by rfl) (pa_cons (pv 0) (pa_cons (pc cg hr (by decide) (by rfl) (pa_cons (pv 0) pa_nil)) pa_nil)))), ?_⟩
    obtain ⟨j, hF, ho⟩ := max_first a
    exact ⟨.ref x, rfl, .ref x, rfl, x, L, a, rfl, hA, fun H1 s1 => ⟨x, L, a, _, j, _, rfl, hA.same s1, hF, ho, fun H2 p s2 n2 e2 => k H2 p (s1.trans s2) (s1.free n2) e2⟩⟩
theorem c_worst (D : DefAt K mg "worst_order" s_worst_order ["auction"]) (cf : Callee P w K mg base 7 "first_with" (spFirst C)) (cg : Callee P w K mg base 7 "smallest" (spSmall C)) : Callee P w K mg base 8 "worst_order" (spWorst C) := by
  refine D.callee sc_worst_order (fun vs H Q E h => ?_) (fun f cdv A outer s H vs Q E hr h => ?_)
  · obtain ⟨_, _, _, rfl, _⟩ := h
    rfl
  · obtain ⟨x, L, a, rfl, hA, k⟩ := h
    refine ⟨_, pss_one (ps_ret (pc cf hr (by decide) (by rfl) (pa_cons (pv 0) (pa_cons (pc cg hr (by decide) (by rfl) (pa_cons (pv 0) pa_nil)) pa_nil)))), ?_⟩
    obtain ⟨j, hF, ho⟩ := min_first a
    exact ⟨.ref x, rfl, .ref x, rfl, x, L, a, rfl, hA, fun H1 s1 => ⟨x, L, a, _, j, _, rfl, hA.same s1, hF, ho, fun H2 p s2 n2 e2 => k H2 p (s1.trans s2) (s1.free n2) e2⟩⟩
theorem c_greatest_with (D : DefAt K mg "greatest_with" s_greatest_with ["worths", "budgets", "lots"]) (B : Bi mg) (co : Callee P w K mg base 1 "orders_of" spOrders) (cr : Callee P w K mg base 4 "revenue_of" spRev) : Callee P w K mg base 5 "greatest_with" spGreatW := by
  refine D.callee sc_greatest_with (fun vs H Q E h => ?_) (fun f cdv A outer s H vs Q E hr h => ?_)
  · obtain ⟨_, _, _, _, _, rfl, _⟩ := h
    rfl
  · obtain ⟨wl, bl, ll, a, lots, rfl, g, hll, hnd, hlt, h5, k⟩ := h
    have nd := sc_greatest_with.nd
    refine ⟨_, pss_one (ps_ret (pe_callB (cr_max rfl) (by rfl) B.max (by decide +kernel) (pa_cons (pe_lc (own := [("order", 3)]) (g := gName 3) (tt := tYes) (by rfl) nd (pi_list (pc co hr (by decide) (by rfl) (pa_cons (pv 2) pa_nil)))
      (blkOk_by (own := [("order", 3)]) (N := ["worths", "budgets", "lots", "order"]) (sc := defScope s_greatest_with) (by decide +kernel))
      (fun _ _ _ _ _ => pg_name (i := 3) nd rfl (Or.inl rfl)) (fun _ _ _ _ _ => pts_nil)
      (fun _ _ _ _ _ => pc cr hr (by decide) (by rfl) (pa_cons (pv 0) (pa_cons (pv 1) (pa_cons (pv 3) pa_nil))))) pa_nil))), ?_⟩
    refine ⟨.ref ll, rfl, ll, a.remaining, rfl, hll, h5, hnd, fun H1 p rs s1 n1 e1 r1 _ => ⟨p, rfl, ⟨_, SqL.of e1⟩, fun D nD => ?_⟩⟩
    refine lc_list (K := K) (a := p) (xs := rs.map V.ref) (fun i H' => Same H1 H' ∧ H' D = some (.lst (nL ((revs a).take i)))) ⟨same_upd nD, upd_same⟩ (fun i H' _ ⟨s2, _⟩ => SqL.of (s2 _ _ e1)) ?_ ?_
    · rintro i y H2 hi ⟨s2, eD⟩
      obtain ⟨r, hr1, rfl⟩ := refs_of hi
      obtain ⟨o, ho, er⟩ := r1.at_ i r hr1
      have hom : o ∈ Kh435.allOrders a := List.mem_of_getElem? ho
      obtain ⟨q1, q2⟩ := order_lt hlt hom
      refine ⟨rfl, .ref wl, rfl, .ref bl, rfl, .ref r, rfl, wl, bl, r, a, a.budgets, o, lots, rfl, (g.same s1).same s2, rfl, s2 _ _ er, q1, by rw [q2]; exact h5, fun H3 s3 => ?_⟩
      have hl := revs_length hnd h5
      refine ⟨_, s3 _ _ eD, by rw [nL_length, List.length_take]; exact small' _ (by omega), same_grow nD (s2.trans s3), ?_⟩
      rw [upd_same, take_snoc (l := revs a) (x := Kh435.revenueOf a o) (by unfold revs; rw [List.getElem?_map]; exact congrArg (Option.map _) ho), nL_append]
      rfl
    · rintro H2 ⟨s2, eD⟩
      rw [List.length_map, r1.len] at eD
      have e : (revs a).take (Kh435.permutations a.remaining.length a.remaining).length = revs a := List.take_of_length_le (by unfold revs; rw [List.length_map]; exact Nat.le_refl _)
      rw [e] at eD
      refine ⟨D, nI (revs a), rfl, SqL.of (by rw [eD, nL_int]), by rw [nI_length]; exact revs_pos a, fun m hm hmax => ?_⟩
      obtain ⟨n, hn, rfl⟩ := nI_mem hm
      have e := greatest_eq (a := a) hn fun y hy => by
        have := hmax (y : Int) (List.mem_map.mpr ⟨y, hy, rfl⟩)
        omega
      rw [e]
      exact k H2 (s1.trans s2)
theorem c_highest (D : DefAt K mg "highest_bid" s_highest_bid ["auction", "lot"]) (B : Bi mg) (T : ClsA K C) (cb : Callee P w K mg base 1 "bids_for" spBids) : Callee P w K mg base 2 "highest_bid" (spHigh C) := by
  refine D.callee sc_highest_bid (fun vs H Q E h => ?_) (fun f cdv A outer s H vs Q E hr h => ?_)
  · obtain ⟨_, _, _, _, rfl, _⟩ := h
    rfl
  · obtain ⟨x, L, a, lot, rfl, hA, hlot, k⟩ := h
    refine ⟨_, pss_one (ps_ret (pe_callB (cr_max rfl) (by rfl) B.max (by decide +kernel) (pa_cons (pc cb hr (by decide) (by rfl) (pa_cons (pe_fld (pv 0) rfl) (pa_cons (pe_fld (pv 0) rfl) (pa_cons (pv 1) pa_nil)))) pa_nil))), ?_⟩
    refine ⟨.ref x, rfl, x, C, L.dx, _, .ref L.wl, rfl, hA.ob, T.cl, T.n2, aF_worths, .ref x, rfl, x, C, L.dx, _, .ref L.bl, rfl, hA.ob, T.cl, T.n3, aF_budgets, nV lot, rfl,
      L.wl, L.bl, a.values, a.budgets, lot, a.lotCount, rfl, hA.grid, hlot, fun H1 p s1 n1 e1 => ⟨p, nI (bidsFor a.values a.budgets lot), rfl, SqL.of (by rw [e1, nL_int]), by rw [nI_length, bidsFor_length hA.wf.vb]; exact hA.wf.nb, fun m hm hmax => ?_⟩⟩
    obtain ⟨n, hn, rfl⟩ := nI_mem hm
    have e := highest_eq hA.wf.vb hn fun y hy => by
      have := hmax (y : Int) (List.mem_map.mpr ⟨y, hy, rfl⟩)
      omega
    rw [← e]
    exact k H1 s1
end
end Pb
set_option Elab.async false
set_option linter.all false
set_option maxRecDepth 100000
set_option maxHeartbeats 4000000
namespace Pb
open PySem PySem.Spec PyProof.Rows L2
/-! ### has_bidder, has_lot, is_remaining, told, order_answer, replaced -/
abbrev s_has_bidder : Stmt := topS 2
theorem sc_has_bidder : FnScope ["auction", "number"] ["auction", "number"] (defScope s_has_bidder) := ⟨rfl, rfl, rfl, by decide +kernel, rfl, by decide +kernel, by decide +kernel⟩
abbrev s_has_lot : Stmt := topS 3
theorem sc_has_lot : FnScope ["auction", "number"] ["auction", "number"] (defScope s_has_lot) := ⟨rfl, rfl, rfl, by decide +kernel, rfl, by decide +kernel, by decide +kernel⟩
abbrev s_replaced : Stmt := topS 4
theorem sc_replaced : FnScope ["row", "at", "number"] ["row", "at", "number"] (defScope s_replaced) := ⟨rfl, rfl, rfl, by decide +kernel, rfl, by decide +kernel, by decide +kernel⟩
abbrev s_is_remaining : Stmt := topS 28
theorem sc_is_remaining : FnScope ["auction", "lot"] ["auction", "lot"] (defScope s_is_remaining) := ⟨rfl, rfl, rfl, by decide +kernel, rfl, by decide +kernel, by decide +kernel⟩
abbrev s_told : Stmt := topS 29
theorem sc_told : FnScope ["outcome"] ["outcome"] (defScope s_told) := ⟨rfl, rfl, rfl, by decide +kernel, rfl, by decide +kernel, by decide +kernel⟩
abbrev s_order_answer : Stmt := topS 30
theorem sc_order_answer : FnScope ["auction", "order"] ["auction", "order"] (defScope s_order_answer) := ⟨rfl, rfl, rfl, by decide +kernel, rfl, by decide +kernel, by decide +kernel⟩
def spHasB (C : Addr) : Sp := fun vs H Q _ => ∃ (x : Addr) (L : Loc) (a : Kh435.Auction) (i : Nat), vs = [.ref x, nV i] ∧ AucL C H x L a ∧ Q (.bl (Kh435.isBidder a i)) H
def spHasL (C : Addr) : Sp := fun vs H Q _ => ∃ (x : Addr) (L : Loc) (a : Kh435.Auction) (i : Nat), vs = [.ref x, nV i] ∧ AucL C H x L a ∧ Q (.bl (Kh435.isLot a i)) H
def spIsRem (C : Addr) : Sp := fun vs H Q _ => ∃ (x : Addr) (L : Loc) (a : Kh435.Auction) (i : Nat), vs = [.ref x, nV i] ∧ AucL C H x L a ∧ Q (.bl (a.remaining.contains i)) H
/-- an outcome, told -/
def oT : Option (Nat × Nat) → List Nat
  | none => [0, 0]
  | some p => [p.1 + 1, p.2]
def spTold : Sp := fun vs H Q _ => ∃ (t : Addr) (o : Option (Nat × Nat)), vs = [.ref t] ∧ H t = some (.tup (oV o)) ∧ ∀ H' p, Same H H' → H p = none → H' p = some (.lst (nL (oT o))) → Q (.ref p) H'
def spOrdAns (C : Addr) : Sp := fun vs H Q _ => ∃ (x ol : Addr) (L : Loc) (a : Kh435.Auction) (o : List Nat), vs = [.ref x, .ref ol] ∧ AucL C H x L a ∧ H ol = some (.lst (nL o)) ∧ (∀ x ∈ o, x < a.lotCount) ∧ o.length ≤ 5 ∧
  ∀ H' p, Same H H' → H p = none → H' p = some (.lst (nL (Kh435.revenueOf a o :: o))) → Q (.ref p) H'
def spRepl : Sp := fun vs H Q _ => ∃ (rl : Addr) (xs : List V) (i : Nat) (v : V), vs = [.ref rl, nV i, v] ∧ H rl = some (.lst xs) ∧ i < xs.length ∧ xs.length ≤ 100 ∧ ∀ H' p, Same H H' → H p = none → H' p = some (.lst (xs.set i v)) → Q (.ref p) H'
theorem cut_to (xs : List V) {i : Nat} (h : i ≤ xs.length) : cutV xs none (some (i : Int)) = xs.take i := by
  unfold cutV
  rw [HT.sIx_none, HT.sIx_nat, Nat.min_eq_left h]
  rfl
theorem cut_from (xs : List V) {i : Nat} (h : i ≤ xs.length) : cutV xs (some (i : Int)) none = xs.drop i := by
  unfold cutV
  rw [HT.sIx_none, HT.sIx_nat, Nat.min_eq_left h]
  exact List.take_of_length_le (by rw [List.length_drop]; exact Nat.le_refl _)
section
variable {P : Program} {w : World} {K : PySem.W.Frag} {mg : Str → Option Value} {base : Heap} {C : Addr}
theorem c_hasB (D : DefAt K mg "has_bidder" s_has_bidder ["auction", "number"]) (B : Bi mg) (T : ClsA K C) : Callee P w K mg base 1 "has_bidder" (spHasB C) := by
  refine D.callee sc_has_bidder (fun vs H Q E h => ?_) (fun f cdv A outer s H vs Q E hr h => ?_)
  · obtain ⟨_, _, _, _, rfl, _⟩ := h
    rfl
  · obtain ⟨x, L, a, i, rfl, hA, k⟩ := h
    refine ⟨_, pss_one (ps_ret (pe_cmpR op_lt (pv 1) (pe_callB call_len_seq (by rfl) B.len PySem.boot_len (pa_cons (pe_fld (pv 0) rfl) pa_nil)) (nomark _))), ?_⟩
    refine ⟨nV i, rfl, .ref x, rfl, x, C, L.dx, _, .ref L.bl, rfl, hA.ob, T.cl, T.n3, aF_budgets, L.bl, nL a.budgets, rfl, .inl (SqL.of hA.bl), _, _, rfl, rfl, ?_⟩
    have e : decide ((i : Int) < ((nL a.budgets).length : Int)) = Kh435.isBidder a i := by
      unfold Kh435.isBidder
      rw [nL_length]
      exact decide_eq_decide.mpr (by omega)
    exact (show Q (.bl (decide ((i : Int) < ((nL a.budgets).length : Int)))) H from by rw [e]; exact k)
theorem c_hasL (D : DefAt K mg "has_lot" s_has_lot ["auction", "number"]) (T : ClsA K C) : Callee P w K mg base 1 "has_lot" (spHasL C) := by
  refine D.callee sc_has_lot (fun vs H Q E h => ?_) (fun f cdv A outer s H vs Q E hr h => ?_)
  · obtain ⟨_, _, _, _, rfl, _⟩ := h
    rfl
  · obtain ⟨x, L, a, i, rfl, hA, k⟩ := h
    refine ⟨_, pss_one (ps_ret (pe_cmpR op_lt (pv 1) (pe_fld (pv 0) rfl) (nomark _))), ?_⟩
    refine ⟨nV i, rfl, .ref x, rfl, x, C, L.dx, _, nV a.lotCount, rfl, hA.ob, T.cl, T.n1, aF_lots, _, _, rfl, rfl, ?_⟩
    have e : decide ((i : Int) < ((a.lotCount : Nat) : Int)) = Kh435.isLot a i := by
      unfold Kh435.isLot
      exact decide_eq_decide.mpr (by omega)
    exact (show Q (.bl (decide ((i : Int) < ((a.lotCount : Nat) : Int)))) H from by rw [e]; exact k)
theorem c_isRem (D : DefAt K mg "is_remaining" s_is_remaining ["auction", "lot"]) (T : ClsA K C) : Callee P w K mg base 1 "is_remaining" (spIsRem C) := by
  refine D.callee sc_is_remaining (fun vs H Q E h => ?_) (fun f cdv A outer s H vs Q E hr h => ?_)
  · obtain ⟨_, _, _, _, rfl, _⟩ := h
    rfl
  · obtain ⟨x, L, a, i, rfl, hA, k⟩ := h
    refine ⟨_, pss_one (ps_ret (pe_cmpR op_in_seq (pv 1) (pe_fld (pv 0) rfl) rfl)), ?_⟩
    refine ⟨nV i, rfl, .ref x, rfl, x, C, L.dx, _, .ref L.rl, rfl, hA.ob, T.cl, T.n4, aF_remaining, L.rl, nL a.remaining, rfl, .inl (SqL.of hA.rl), rfl, nL_flat _, ?_⟩
    rw [inV_nat]
    exact k
theorem c_told (D : DefAt K mg "told" s_told ["outcome"]) : Callee P w K mg base 1 "told" spTold := by
  refine D.callee sc_told (fun vs H Q E h => ?_) (fun f cdv A outer s H vs Q E hr h => ?_)
  · obtain ⟨_, _, rfl, _⟩ := h
    rfl
  · obtain ⟨t, o, rfl, ht, k⟩ := h
    refine ⟨_, pss_one (ps_ret (pe_lst (pa_cons (pe_op op_add (pe_ix ix_tup (pv 0) pe_int (fun _ _ => rfl)) pe_int) (pa_cons (pe_ix ix_tup (pv 0) pe_int (fun _ _ => rfl)) pa_nil)))), ?_⟩
    cases o with
    | none =>
      refine ⟨.ref t, rfl, t, _, 0, .int (-1), rfl, rfl, SqT.of ht, atI_nat (j := 0) rfl, _, _, rfl, rfl, .ref t, rfl, t, _, 1, .int 0, rfl, rfl, SqT.of ht, atI_nat (j := 1) rfl, (by show 2 ≤ sizeLine; decide), fun p np => ?_⟩
      exact k _ p (same_upd np) np upd_same
    | some o =>
      refine ⟨.ref t, rfl, t, _, 0, nV o.1, rfl, rfl, SqT.of ht, atI_nat (j := 0) rfl, _, _, rfl, rfl, .ref t, rfl, t, _, 1, nV o.2, rfl, rfl, SqT.of ht, atI_nat (j := 1) rfl, (by show 2 ≤ sizeLine; decide), fun p np => ?_⟩
      exact k _ p (same_upd np) np upd_same
theorem c_ordAns (D : DefAt K mg "order_answer" s_order_answer ["auction", "order"]) (cr : Callee P w K mg base 5 "revenue_now" (spRevNow C)) : Callee P w K mg base 6 "order_answer" (spOrdAns C) := by
  refine D.callee sc_order_answer (fun vs H Q E h => ?_) (fun f cdv A outer s H vs Q E hr h => ?_)
  · obtain ⟨_, _, _, _, _, rfl, _⟩ := h
    rfl
  · obtain ⟨x, ol, L, a, o, rfl, hA, ho, hin, hol, k⟩ := h
    refine ⟨_, pss_one (ps_ret (pe_op op_cat (pe_lst (pa_cons (pc cr hr (by decide) (by rfl) (pa_cons (pv 0) (pa_cons (pv 1) pa_nil))) pa_nil)) (pv 1))), ?_⟩
    refine ⟨.ref x, rfl, .ref ol, rfl, x, ol, L, a, o, rfl, hA, ho, hin, hol, fun H1 s1 => ⟨(by show 1 ≤ sizeLine; decide), fun e ne => ?_⟩⟩
    have s2 : Same H1 (upd H1 e (.lst [nV (Kh435.revenueOf a o)])) := same_upd ne
    refine ⟨.ref ol, rfl, e, ol, [nV (Kh435.revenueOf a o)], nL o, rfl, rfl, upd_same, s2 _ _ (s1 _ _ ho), small _ (by rw [nL_length]; show 1 + o.length ≤ 100000; omega), fun p np => ?_⟩
    exact k _ p ((s1.trans s2).trans (same_upd np)) ((s1.trans s2).free np) upd_same
theorem c_repl (D : DefAt K mg "replaced" s_replaced ["row", "at", "number"]) : Callee P w K mg base 1 "replaced" spRepl := by
  refine D.callee sc_replaced (fun vs H Q E h => ?_) (fun f cdv A outer s H vs Q E hr h => ?_)
  · obtain ⟨_, _, _, _, rfl, _⟩ := h
    rfl
  · obtain ⟨rl, xs, i, v, rfl, hx, hi, hl, k⟩ := h
    refine ⟨_, pss_one (ps_ret (pe_op op_cat (pe_op op_cat (pe_slice sl_list (pv 0) po_none (po_some (pv 1))) (pe_lst (pa_cons (pv 2) pa_nil))) (pe_slice sl_list (pv 0) (po_some (pe_op op_add (pv 1) pe_int)) po_none))), ?_⟩
    refine ⟨.ref rl, rfl, nV i, rfl, (i : Int), rfl, rl, xs, rfl, SqL.of hx, fun p1 n1 => ?_⟩
    rw [cut_to xs (Nat.le_of_lt hi)]
    have s1 : Same H (upd H p1 (.lst (xs.take i))) := same_upd n1
    refine ⟨v, rfl, (by show 1 ≤ sizeLine; decide), fun p2 n2 => ?_⟩
    have s2 : Same (upd H p1 (.lst (xs.take i))) (upd (upd H p1 (.lst (xs.take i))) p2 (.lst [v])) := same_upd n2
    refine ⟨p1, p2, xs.take i, [v], rfl, rfl, s2 _ _ upd_same, upd_same, small _ (by rw [List.length_take]; show min i xs.length + 1 ≤ 100000; omega), fun p3 n3 => ?_⟩
    have s3 : Same (upd (upd H p1 (.lst (xs.take i))) p2 (.lst [v])) (upd (upd (upd H p1 (.lst (xs.take i))) p2 (.lst [v])) p3 (.lst (xs.take i ++ [v]))) := same_upd n3
    refine ⟨.ref rl, rfl, nV i, rfl, _, _, rfl, rfl, (i : Int) + 1, rfl, rl, xs, rfl, SqL.of (s3 _ _ (s2 _ _ (s1 _ _ hx))), fun p4 n4 => ?_⟩
    rw [show (i : Int) + 1 = ((i + 1 : Nat) : Int) from rfl, cut_from xs hi]
    have s4 : Same (upd (upd (upd H p1 (.lst (xs.take i))) p2 (.lst [v])) p3 (.lst (xs.take i ++ [v]))) (upd (upd (upd (upd H p1 (.lst (xs.take i))) p2 (.lst [v])) p3 (.lst (xs.take i ++ [v]))) p4 (.lst (xs.drop (i + 1)))) := same_upd n4
    refine ⟨p3, p4, xs.take i ++ [v], xs.drop (i + 1), rfl, rfl, s4 _ _ upd_same, upd_same, small _ (by rw [List.length_append, List.length_take, List.length_drop, List.length_singleton]; omega), fun p5 n5 => ?_⟩
    have s14 := ((s1.trans s2).trans s3).trans s4
    refine k _ p5 (s14.trans (same_upd n5)) (s14.free n5) ?_
    rw [upd_same, List.set_eq_take_append_cons_drop, if_pos hi, List.append_assoc]
    rfl
end
/-! ### is_order -/
abbrev s_is_order : Stmt := topS 5
theorem sc_is_order : FnScope ["auction", "order", "lot"] ["auction", "order"] (defScope s_is_order) := ⟨rfl, rfl, rfl, by decide +kernel, rfl, by decide +kernel, by decide +kernel⟩
/-- how many different numbers a list has -/
def tDiff (K : PySem.W.Frag) (ta : TE) : TE := fun σ H Q => ta σ H fun x H1 =>
  ∃ (l : Addr) (ns : List Int), x = .ref l ∧ SqL K H1 l (ns.map V.int) ∧ ns.length ≤ 4000 ∧ Q (.int (ns.eraseDups.length : Nat)) H1
theorem pe_diff {X : Cx} {e : Expr} {te : TE} {p1 p2 p3 p4 : Pos}
    (g1 : Gl X "len") (m1 : X.mg "len" = none) (g2 : Gl X "set") (m2 : X.mg "set" = none) (he : PE X e te)
    (calm : X.calm = true := by rfl) (st : starEach [e] X.env = (false, eval e X.env) :: starEach [] X.env := by rfl) :
    PE X (.Call (.Name "len" p1) [.Call (.Name "set" p2) [e] [] p3] [] p4) (tDiff X.K te) := by
  refine ⟨fun pins s σ H Q I hw => ?_⟩
  refine PyProof.Rows.Call_ (ld_blt I g1 m1 boot_len ?_)
  refine PyProof.Rows.callWith_builtin1 (PyProof.Rows.args_cons ?_ rfl) rfl rfl
  refine PyProof.Rows.Call_ (ld_blt I g2 m2 boot_set ?_)
  refine PyProof.Rows.callWith_type1 (PyProof.Rows.args_cons
    (thn (he.run pins s σ H _ I hw) fun v s1 ⟨x, H1, I1, r1, q1⟩ => PyProof.Rows.args_nil ?_) st) st rfl
  obtain ⟨l, ns, rfl, hq, hz, q1⟩ := q1
  cases r1
  obtain ⟨its, rv, pl, _⟩ := I1.list hq
  have el : its.toArray.size = ns.length := by
    rw [List.size_toArray, ← rv.length, List.length_map]
  refine call_set_list (I1.ok.hd calm) pl.isList (by simpa using RZ.intsAre_vals rv)
    (by rw [el]; unfold scanBound; omega) fun h' tk hS keep => ?_
  refine PyProof.Rows.args_nil ?_
  rw [el, PySem.W.oss_met, PySem.W.oss_dups] at hS
  obtain ⟨ob, es, ep, tb, h1, h2, h3, _, _, _, h4, h5⟩ := hS
  have I2 : Inv X pins σ H1 { s1 with heap := h', toks := tk } := I1.kept fun b z ez => keep b z (Heap.lt_size ez) ez
  have dl : ns.eraseDups.length ≤ ns.length := dups_le ns.length ns (Nat.le_refl _)
  exact call_len_set h1 h2 h3 h4 (by rw [h5] <;> omega) ⟨.int (ns.eraseDups.length : Nat), H1, I2.tok _, ⟨_, by rw [h5]⟩, q1⟩
def spIsOrd (C : Addr) : Sp := fun vs H Q _ => ∃ (x ol : Addr) (L : Loc) (a : Kh435.Auction) (o : List Nat), vs = [.ref x, .ref ol] ∧ AucL C H x L a ∧ H ol = some (.lst (nL o)) ∧ o.length ≤ 5 ∧ ∀ H', Same H H' → Q (.bl (Kh435.isOrder a o)) H'
section
variable {P : Program} {w : World} {K : PySem.W.Frag} {mg : Str → Option Value} {base : Heap} {C : Addr}
theorem c_isOrd (D : DefAt K mg "is_order" s_is_order ["auction", "order"]) (B : Bi mg) (T : ClsA K C) : Callee P w K mg base 1 "is_order" (spIsOrd C) := by
  refine D.callee sc_is_order (fun vs H Q E h => ?_) (fun f cdv A outer s H vs Q E hr h => ?_)
  · obtain ⟨_, _, _, _, _, rfl, _⟩ := h
    rfl
  · obtain ⟨x, ol, L, a, o, rfl, hA, ho, hol, k⟩ := h
    have nd := sc_is_order.nd
    refine ⟨_, pss_cons (ps_if (pt_not (pt_val (pe_callB (cr_all rfl) (by rfl) B.all (by decide +kernel) (pa_cons
        (pe_lc (own := [("lot", 2)]) (g := gName 2) (tt := tYes) (te := tOp (rIn K false) (tVar 2) (tFld K (tVar 0) "remaining")) (by rfl) nd (pi_list (pv 1))
          (blkOk_by (own := [("lot", 2)]) (N := ["auction", "order", "lot"]) (sc := defScope s_is_order) (by decide +kernel))
          (fun _ _ _ _ _ => pg_name (i := 2) nd rfl (Or.inl rfl)) (fun _ _ _ _ _ => pts_nil)
          (fun _ _ _ _ _ => pe_cmpR opIn (pv 2) (pe_fld (pv 0) rfl) rfl)) pa_nil)))) (pss_one (ps_ret pe_bl)) pss_nil)
      (pss_one (ps_ret (pe_cmpR op_eq (pe_diff (by rfl) B.len (by rfl) B.set (pv 1)) (pe_callB call_len_seq (by rfl) B.len PySem.boot_len (pa_cons (pv 1) pa_nil)) (nomark _)))), ?_⟩
    refine ⟨.ref ol, rfl, ol, rfl, ⟨_, SqL.of ho⟩, fun D nD => ?_⟩
    refine lc_list (K := K) (a := ol) (xs := nL o) (fun i H' => Same H H' ∧ H' D = some (.lst (((o.map fun l => a.remaining.contains l).take i).map V.bl))) ⟨same_upd nD, upd_same⟩ (fun i H' _ ⟨s2, _⟩ => SqL.of (s2 _ _ ho)) ?_ ?_
    · rintro i y H2 hi ⟨s2, eD⟩
      obtain ⟨l, hl, rfl⟩ := nL_of hi
      refine ⟨rfl, nV l, rfl, .ref x, rfl, x, C, L.dx, _, .ref L.rl, rfl, s2 _ _ hA.ob, T.cl, T.n4, aF_remaining, L.rl, nL a.remaining, rfl, .inl (SqL.of (s2 _ _ hA.rl)), rfl, nL_flat _, ?_⟩
      rw [inV_nat]
      refine ⟨_, eD, by rw [List.length_map, List.length_take, List.length_map]; exact small' _ (by omega), same_grow nD s2, ?_⟩
      rw [upd_same, take_snoc (l := o.map fun l => a.remaining.contains l) (x := a.remaining.contains l) (by rw [List.getElem?_map, hl]; rfl), List.map_append]
      rfl
    · rintro H2 ⟨s2, eD⟩
      rw [nL_length, List.take_of_length_le (by rw [List.length_map]; exact Nat.le_refl _)] at eD
      refine ⟨D, _, rfl, SqL.of eD, _, rfl, ?_⟩
      have e1 : ((o.map fun l => a.remaining.contains l).all id) = o.all fun l => a.remaining.contains l := by
        rw [List.all_map]
        rfl
      rw [e1]
      cases c : o.all fun l => a.remaining.contains l with
      | false =>
        have e2 : Kh435.isOrder a o = false := by
          cases e : Kh435.isOrder a o with
          | false => rfl
          | true =>
            have := ((isOrder_iff a o).mp e).1
            rw [c] at this
            cases this
        show (fun v H' => Q v H') (V.bl false) H2
        rw [← e2]
        exact k H2 s2
      | true =>
        refine ⟨.ref ol, rfl, ol, nI o, rfl, SqL.of (by rw [s2 _ _ ho, nL_int]), by rw [nI_length]; omega, .ref ol, rfl, ol, nL o, rfl, .inl (SqL.of (s2 _ _ ho)), rfl, ?_⟩
        have e2 : decide (V.int (((nI o).eraseDups.length : Nat) : Int) = V.int ((nL o).length : Nat)) = Kh435.isOrder a o := by
          rw [nL_length]
          have q := dups_nodup (nI o).length (nI o) (Nat.le_refl _)
          rw [nI_length] at q
          have q2 : (nI o).Nodup ↔ o.Nodup := nodup_cast
          rw [Bool.eq_iff_iff, decide_eq_true_eq, isOrder_iff, ← q2, ← q]
          constructor
          · intro z
            have := V.int.inj z
            exact ⟨c, by omega⟩
          · intro z
            rw [z.2]
        rw [e2]
        exact k H2 s2
end
end Pb
set_option Elab.async false
set_option linter.all false
set_option maxRecDepth 100000
set_option maxHeartbeats 4000000
namespace Pb
open PySem PySem.Spec PyProof.Rows L2
/-! ### by_highest_bid -/
abbrev s_by_highest_bid : Stmt := topS 24
theorem sc_by_highest_bid : FnScope ["auction", "rows", "lot", "bid"] ["auction"] (defScope s_by_highest_bid) := ⟨rfl, rfl, rfl, by decide +kernel, rfl, by decide +kernel, by decide +kernel⟩
def spByHigh (C : Addr) : Sp := fun vs H Q _ => ∃ (x : Addr) (L : Loc) (a : Kh435.Auction), vs = [.ref x] ∧ AucL C H x L a ∧ ∀ H' p, Same H H' → H p = none → H' p = some (.lst (nL (Kh435.highestBidFirst a))) → Q (.ref p) H'
/-- pairs of numbers in the heap -/
def kOf (H : Hp) : V → Int × Int
  | .ref t => match H t with
    | some (.tup [.int i, .int j]) => (i, j)
    | _ => (0, 0)
  | _ => (0, 0)
theorem kOf_at {H : Hp} {t : Addr} {i j : Int} (h : H t = some (.tup [.int i, .int j])) : kOf H (.ref t) = (i, j) := by
  show (match H t with
    | some (.tup [.int i, .int j]) => (i, j)
    | _ => (0, 0)) = (i, j)
  rw [h]
structure Keys (H : Hp) (ts : List Addr) (ks : List (Int × Int)) : Prop where
  len : ts.length = ks.length
  at_ : ∀ (i : Nat) (t : Addr), ts[i]? = some t → ∃ k, ks[i]? = some k ∧ H t = some (.tup [.int k.1, .int k.2])
theorem Keys.nil (H : Hp) : Keys H [] [] := ⟨rfl, fun i r hr => by simp at hr⟩
theorem Keys.snoc {H H' : Hp} {ts : List Addr} {ks : List (Int × Int)} {t : Addr} {k : Int × Int} (h : Keys H ts ks) (s : ∀ b xs, H b = some (.tup xs) → H' b = some (.tup xs)) (q : H' t = some (.tup [.int k.1, .int k.2])) : Keys H' (ts ++ [t]) (ks ++ [k]) := by
  refine ⟨by rw [List.length_append, List.length_append, h.len]; rfl, fun i x hx => ?_⟩
  by_cases c : i < ts.length
  · rw [List.getElem?_append_left c] at hx
    rw [List.getElem?_append_left (by rw [← h.len]; exact c)]
    obtain ⟨k', e, q'⟩ := h.at_ i x hx
    exact ⟨k', e, s _ _ q'⟩
  · rw [List.getElem?_append_right (by omega)] at hx
    have hi : i = ts.length := by
      have := (List.getElem?_eq_some_iff.mp hx).1
      rw [List.length_singleton] at this
      omega
    subst hi
    rw [Nat.sub_self] at hx
    have e : t = x := Option.some.inj hx
    subst e
    refine ⟨k, ?_, q⟩
    rw [h.len, List.getElem?_append_right (Nat.le_refl _), Nat.sub_self]
    rfl
theorem Keys.map {H : Hp} {ts : List Addr} {ks : List (Int × Int)} (h : Keys H ts ks) : (ts.map V.ref).map (kOf H) = ks := by
  apply List.ext_getElem?
  intro i
  rw [List.getElem?_map, List.getElem?_map]
  by_cases c : i < ts.length
  · obtain ⟨k, e, q⟩ := h.at_ i _ (List.getElem?_eq_getElem c)
    rw [e, List.getElem?_eq_getElem c]
    exact congrArg some (kOf_at q)
  · rw [List.getElem?_eq_none (by omega), List.getElem?_eq_none (by rw [← h.len]; omega)]
    rfl
section
variable {P : Program} {w : World} {K : PySem.W.Frag} {mg : Str → Option Value} {base : Heap} {C : Addr}
theorem c_byHigh (D : DefAt K mg "by_highest_bid" s_by_highest_bid ["auction"]) (B : Bi mg) (T : ClsA K C) (ch : Callee P w K mg base 2 "highest_bid" (spHigh C)) : Callee P w K mg base 3 "by_highest_bid" (spByHigh C) := by
  refine D.callee sc_by_highest_bid (fun vs H Q E h => ?_) (fun f cdv A outer s H vs Q E hr h => ?_)
  · obtain ⟨_, _, _, rfl, _⟩ := h
    rfl
  · obtain ⟨x, L, a, rfl, hA, k⟩ := h
    have nd := sc_by_highest_bid.nd
    refine ⟨_, pss_cons (ps_set (i := 1) nd rfl (Or.inl rfl) (pe_callB cr_sortedPO (by rfl) B.sorted (by decide +kernel) (pa_cons
        (pe_lc (own := [("lot", 2)]) (g := gName 2) (tt := tYes) (by rfl) nd (pi_list (pe_fld (pv 0) rfl))
          (blkOk_by (own := [("lot", 2)]) (N := ["auction", "rows", "lot", "bid"]) (sc := defScope s_by_highest_bid) (by decide +kernel))
          (fun _ _ _ _ _ => pg_name (i := 2) nd rfl (Or.inl rfl)) (fun _ _ _ _ _ => pts_nil)
          (fun _ _ _ _ _ => pe_tup (pa_cons (pe_un un_neg (pc ch hr (by decide) (by rfl) (pa_cons (pv 0) (pa_cons (pv 2) pa_nil)))) (pa_cons (pv 2) pa_nil)))) pa_nil)))
      (pss_one (ps_ret (pe_lc (own := [("bid", 3), ("lot", 2)]) (g := gTup K 2 (gCons (gName 3) (gCons (gName 2) gNil))) (tt := tYes) (by rfl) nd (pi_list (pv 1))
          (blkOk_by (own := [("bid", 3), ("lot", 2)]) (N := ["auction", "rows", "lot", "bid"]) (sc := defScope s_by_highest_bid) (by decide +kernel))
          (fun _ _ _ _ _ => pg_tup rfl (pgs_cons (pg_name (i := 3) nd rfl (Or.inl rfl)) (pgs_cons (pg_name (i := 2) nd rfl (Or.inl rfl)) pgs_nil)))
          (fun _ _ _ _ _ => pts_nil) (fun _ _ _ _ _ => pv 2)))), ?_⟩
    refine ⟨.ref x, rfl, x, C, L.dx, _, .ref L.rl, rfl, hA.ob, T.cl, T.n4, aF_remaining, L.rl, rfl, ⟨_, SqL.of hA.rl⟩, fun D nD => ?_⟩
    have h5 := hA.wf.few_rem
    refine lc_list (K := K) (a := L.rl) (xs := nL a.remaining) (fun i H' => Same H H' ∧ ∃ ts : List Addr, H' D = some (.lst (ts.map V.ref)) ∧ Keys H' ts ((a.remaining.map (keyOf a)).take i)) ⟨same_upd nD, [], upd_same, Keys.nil _⟩ (fun i H' _ ⟨s2, _⟩ => SqL.of (s2 _ _ hA.rl)) ?_ ?_
    · rintro i y H2 hi ⟨s2, ts, eD, ky⟩
      obtain ⟨l, hl, rfl⟩ := nL_of hi
      refine ⟨rfl, .ref x, rfl, nV l, rfl, x, L, a, l, rfl, hA.same s2, hA.wf.lt l (List.mem_of_getElem? hl), fun H3 s3 => ?_⟩
      refine ⟨_, rfl, nV l, rfl, (by show 2 ≤ sizeLine; decide), fun t nt => ?_⟩
      have s4 : Same H3 (upd H3 t (.tup [.int (-((Kh435.highestBid a l : Nat) : Int)), nV l])) := same_upd nt
      have tD : t ≠ D := (ne_of_none (s3 _ _ eD) nt).symm
      refine ⟨_, s4 _ _ (s3 _ _ eD), by rw [List.length_map, ky.len, List.length_take, List.length_map]; exact small' _ (by omega), same_grow nD ((s2.trans s3).trans s4), ts ++ [t], ?_, ?_⟩
      · rw [upd_same, List.map_append]
        rfl
      · rw [take_snoc (l := a.remaining.map (keyOf a)) (x := keyOf a l) (by rw [List.getElem?_map, hl]; rfl)]
        refine ky.snoc (fun b xs e => ?_) ?_
        · rw [upd_ne (ne_of e eD (by intro z; cases z))]
          exact s4 _ _ (s3 _ _ e)
        · rw [upd_ne tD, upd_same]
          rfl
    · rintro H2 ⟨s2, ts, eD, ky⟩
      rw [nL_length, List.take_of_length_le (by rw [List.length_map]; exact Nat.le_refl _)] at ky
      -- the sorting
      refine ⟨D, ts.map V.ref, kOf H2, rfl, SqL.of eD, fun y hy => ?_, fun ys p hs hst np => ?_⟩
      · obtain ⟨t, ht, rfl⟩ := List.mem_map.mp hy
        obtain ⟨i, hi, e⟩ := List.getElem_of_mem ht
        obtain ⟨kk, _, q⟩ := ky.at_ i t (by rw [List.getElem?_eq_getElem hi, e])
        exact ⟨t, rfl, by rw [kOf_at q]; exact q⟩
      have s3 : Same H2 (upd H2 p (.lst ys)) := same_upd np
      have zs : ys.map (kOf H2) = (Kh435.highestBidFirst a).map (keyOf a) := by
        refine hbf_eq a ?_ ?_
        · rw [← ky.map]
          exact hst.perm.map (kOf H2)
        · rw [List.pairwise_map]
          refine hs.imp fun {u v} q => ?_
          have := SrtO.lexB_no.mp q
          unfold leK
          omega
      have hyl : ys.length ≤ 5 := by
        rw [hst.perm.length_eq, List.length_map, ky.len, List.length_map]
        exact h5
      have hbl : ys.length = (Kh435.highestBidFirst a).length := by
        have := congrArg List.length zs
        rw [List.length_map, List.length_map] at this
        exact this
      refine ⟨.ref p, rfl, p, rfl, ⟨_, SqL.of upd_same⟩, fun D2 nD2 => ?_⟩
      refine lc_list (K := K) (a := p) (xs := ys) (fun i H' => Same (upd H2 p (.lst ys)) H' ∧ H' D2 = some (.lst (nL ((Kh435.highestBidFirst a).take i)))) ⟨same_upd nD2, upd_same⟩ (fun i H' _ ⟨s4, _⟩ => SqL.of (s4 _ _ upd_same)) ?_ ?_
      · rintro i y H4 hi ⟨s4, eD2⟩
        have hy : y ∈ ts.map V.ref := hst.perm.mem_iff.mp (List.mem_of_getElem? hi)
        obtain ⟨t, ht, rfl⟩ := List.mem_map.mp hy
        obtain ⟨j, hj, e⟩ := List.getElem_of_mem ht
        obtain ⟨kk, _, q⟩ := ky.at_ j t (by rw [List.getElem?_eq_getElem hj, e])
        obtain ⟨l, hl, el⟩ : ∃ l, (Kh435.highestBidFirst a)[i]? = some l ∧ keyOf a l = kk := by
          have e1 : (ys.map (kOf H2))[i]? = some kk := by
            rw [List.getElem?_map, hi]
            exact congrArg some (kOf_at q)
          rw [zs, List.getElem?_map] at e1
          exact Option.map_eq_some_iff.mp e1
        have ek : kk.2 = (l : Int) := by
          rw [← el]
          rfl
        rw [ek] at q
        refine ⟨t, _, rfl, SqT.of (s4 _ _ (s3 _ _ q)), rfl, .int kk.1, [nV l], rfl, nV l, [], rfl, rfl, rfl, nV l, rfl, _, eD2, by rw [nL_length, List.length_take]; exact small' _ (by omega), same_grow nD2 s4, ?_⟩
        rw [upd_same, take_snoc hl, nL_append]
        rfl
      · rintro H4 ⟨s4, eD2⟩
        rw [hbl, List.take_length] at eD2
        exact k H4 D2 ((s2.trans s3).trans s4) ((s2.trans s3).free nD2) eD2
end
end Pb
set_option Elab.async false
set_option linter.all false
set_option maxRecDepth 100000
set_option maxHeartbeats 4000000
namespace Pb
open PySem PySem.Spec PyProof.Rows L2
/-! ### what changes an auction -/
section
variable {C : Addr} {H : Hp} {x : Addr} {L : Loc} {a : Kh435.Auction}
theorem AucL.apart (h : AucL C H x L a) : (L.wl ≠ L.bl ∧ L.wl ≠ L.sl ∧ L.wl ≠ L.wd ∧ L.wl ∉ L.rows) ∧ (L.rl ≠ L.bl ∧ L.rl ≠ L.sl ∧ L.rl ≠ L.wd ∧ L.rl ∉ L.rows) ∧ (L.bl ≠ L.sl ∧ L.bl ≠ L.wd ∧ L.bl ∉ L.rows) ∧ (L.sl ≠ L.wd ∧ L.sl ∉ L.rows) ∧ L.wd ∉ L.rows ∧ L.rows.Nodup := by
  have nd := h.nd
  simp only [List.nodup_cons, List.mem_cons, not_or] at nd
  obtain ⟨⟨_, a1, a2, a3, a4⟩, ⟨b1, b2, b3, b4⟩, ⟨c1, c2, c3⟩, ⟨d1, d2⟩, e1, e2⟩ := nd
  exact ⟨⟨a1, a2, a3, a4⟩, ⟨b1, b2, b3, b4⟩, ⟨c1, c2, c3⟩, ⟨d1, d2⟩, e1, e2⟩
theorem Sales.put {ts : List Addr} {ss : List (Nat × Nat × Nat)} {D : Addr} {u o : HO} (h : Sales H ts ss) (hD : H D = some u) (k : ∀ xs, HO.tup xs ≠ u) : Sales (upd H D o) ts ss := ⟨h.len, fun i t ht => by
  obtain ⟨q, e, et⟩ := h.at_ i t ht
  exact ⟨q, e, by rw [upd_ne (ne_of et hD (k _))]; exact et⟩⟩
theorem Sales.snoc {ts : List Addr} {ss : List (Nat × Nat × Nat)} {t : Addr} {s : Nat × Nat × Nat} (h : Sales H ts ss) (q : H t = some (.tup (sV s))) : Sales H (ts ++ [t]) (ss ++ [s]) := by
  refine ⟨by rw [List.length_append, List.length_append, h.len]; rfl, fun i y hy => ?_⟩
  by_cases c : i < ts.length
  · rw [List.getElem?_append_left c] at hy
    rw [List.getElem?_append_left (by rw [← h.len]; exact c)]
    exact h.at_ i y hy
  · rw [List.getElem?_append_right (by omega)] at hy
    have hi : i = ts.length := by
      have := (List.getElem?_eq_some_iff.mp hy).1
      rw [List.length_singleton] at this
      omega
    subst hi
    rw [Nat.sub_self] at hy
    have e : t = y := Option.some.inj hy
    subst e
    refine ⟨s, ?_, q⟩
    rw [h.len, List.getElem?_append_right (Nat.le_refl _), Nat.sub_self]
    rfl
theorem AucL.rem (h : AucL C H x L a) {D : Addr} {r : List Nat} (eD : H D = some (.lst (nL r))) (nD : D ∉ L.wl :: L.bl :: L.sl :: L.wd :: L.rows) (w : WF { a with remaining := r }) :
    AucL C (upd H x (.ins C L.dx (putF "remaining" (.ref D) (aF a.lotCount L.wl L.bl L.rl L.sl L.wd)))) x { L with rl := D } { a with remaining := r } := by
  have k : ∀ b xs, H b = some (.lst xs) → (upd H x (.ins C L.dx (putF "remaining" (.ref D) (aF a.lotCount L.wl L.bl L.rl L.sl L.wd)))) b = some (.lst xs) := fun b xs e => by
    rw [upd_ne (ne_of e h.ob (by intro z; cases z))]
    exact e
  obtain ⟨⟨a1, a2, a3, a4⟩, _, ⟨c1, c2, c3⟩, ⟨d1, d2⟩, e1, e2⟩ := h.apart
  simp only [List.mem_cons, not_or] at nD
  obtain ⟨n1, n2, n3, n4, n5⟩ := nD
  refine ⟨by rw [upd_same, aF_put], k _ _ h.wl, ⟨h.rows.len, fun i r hr => ?_⟩, k _ _ h.bl, k _ _ eD, k _ _ h.sl, h.sas.put h.ob (by intro xs z; cases z), k _ _ h.wd, ?_, w⟩
  · obtain ⟨q, e, er⟩ := h.rows.at_ i r hr
    exact ⟨q, e, k _ _ er⟩
  · simp only [List.nodup_cons, List.mem_cons, not_or]
    exact ⟨⟨fun z => n1 z.symm, a1, a2, a3, a4⟩, ⟨n2, n3, n4, n5⟩, ⟨c1, c2, c3⟩, ⟨d1, d2⟩, e1, e2⟩
theorem AucL.bud (h : AucL C H x L a) {i v : Nat} : AucL C (upd H L.bl (.lst (nL (a.budgets.set i v)))) x L (Kh435.withBudget a i v) := by
  obtain ⟨⟨a1, a2, a3, a4⟩, ⟨b1, b2, b3, b4⟩, ⟨c1, c2, c3⟩, ⟨d1, d2⟩, e1, e2⟩ := h.apart
  refine ⟨?_, ?_, h.rows.put fun q hq z => c3 (z ▸ hq), upd_same, ?_, ?_, h.sas.put h.bl (by intro xs z; cases z), ?_, h.nd, h.wf.setBudget i v⟩
  · rw [upd_ne (ne_of h.ob h.bl (by intro z; cases z))]
    exact h.ob
  · rw [upd_ne a1]
    exact h.wl
  · rw [upd_ne b1]
    exact h.rl
  · rw [upd_ne (fun z => c1 z.symm)]
    exact h.sl
  · rw [upd_ne (fun z => c2 z.symm)]
    exact h.wd
theorem AucL.sale (h : AucL C H x L a) {t : Addr} {s : Nat × Nat × Nat} (et : H t = some (.tup (sV s))) (w : WF { a with sales := a.sales ++ [s] }) : AucL C (upd H L.sl (.lst (L.sas.map V.ref ++ [.ref t]))) x { L with sas := L.sas ++ [t] } { a with sales := a.sales ++ [s] } := by
  obtain ⟨⟨a1, a2, a3, a4⟩, ⟨b1, b2, b3, b4⟩, ⟨c1, c2, c3⟩, ⟨d1, d2⟩, e1, e2⟩ := h.apart
  refine ⟨?_, ?_, h.rows.put fun q hq z => d2 (z ▸ hq), ?_, ?_, ?_, (h.sas.snoc et).put h.sl (by intro xs z; cases z), ?_, h.nd, w⟩
  · rw [upd_ne (ne_of h.ob h.sl (by intro z; cases z))]
    exact h.ob
  · rw [upd_ne a2]
    exact h.wl
  · rw [upd_ne c1]
    exact h.bl
  · rw [upd_ne b2]
    exact h.rl
  · rw [upd_same, List.map_append]
    rfl
  · rw [upd_ne (fun z => d1 z.symm)]
    exact h.wd
theorem AucL.wdr (h : AucL C H x L a) {l : Nat} (w : WF { a with withdrawn := a.withdrawn ++ [l] }) : AucL C (upd H L.wd (.lst (nL a.withdrawn ++ [nV l]))) x L { a with withdrawn := a.withdrawn ++ [l] } := by
  obtain ⟨⟨a1, a2, a3, a4⟩, ⟨b1, b2, b3, b4⟩, ⟨c1, c2, c3⟩, ⟨d1, d2⟩, e1, e2⟩ := h.apart
  refine ⟨?_, ?_, h.rows.put fun q hq z => e1 (z ▸ hq), ?_, ?_, ?_, h.sas.put h.wd (by intro xs z; cases z), ?_, h.nd, w⟩
  · rw [upd_ne (ne_of h.ob h.wd (by intro z; cases z))]
    exact h.ob
  · rw [upd_ne a3]
    exact h.wl
  · rw [upd_ne c2]
    exact h.bl
  · rw [upd_ne b3]
    exact h.rl
  · rw [upd_ne d1]
    exact h.sl
  · rw [upd_same, nL_append]
    rfl
theorem AucL.val (h : AucL C H x L a) {i j v : Nat} {r : Addr} {row : List Nat} (hr : L.rows[i]? = some r) (hrow : a.values[i]? = some row) : AucL C (upd H r (.lst (nL (row.set j v)))) x L (Kh435.withValue a i j v) := by
  obtain ⟨⟨a1, a2, a3, a4⟩, ⟨b1, b2, b3, b4⟩, ⟨c1, c2, c3⟩, ⟨d1, d2⟩, e1, e2⟩ := h.apart
  have hm : r ∈ L.rows := List.mem_of_getElem? hr
  obtain ⟨_, _, er⟩ := h.rows.at_ i r hr
  have hi : i < a.budgets.length := by
    rw [← h.wf.vb]
    exact (List.getElem?_eq_some_iff.mp hrow).1
  refine ⟨?_, ?_, ?_, ?_, ?_, ?_, h.sas.put er (by intro xs z; cases z), ?_, h.nd, h.wf.setValue i j v hi⟩
  · rw [upd_ne (ne_of h.ob er (by intro z; cases z))]
    exact h.ob
  · rw [upd_ne (show L.wl ≠ r from fun z => a4 (z ▸ hm))]
    exact h.wl
  · have eg : a.values.getD i [] = row := by
      rw [List.getD_eq_getElem?_getD, hrow]
      rfl
    refine ⟨by show L.rows.length = (a.values.set i _).length; rw [List.length_set]; exact h.rows.len, fun k q hq => ?_⟩
    by_cases c : k = i
    · subst c
      have e : r = q := Option.some.inj (hr.symm.trans hq)
      subst e
      refine ⟨row.set j v, ?_, upd_same⟩
      show (a.values.set k ((a.values.getD k []).set j v))[k]? = some (row.set j v)
      rw [eg, List.getElem?_set_self (List.getElem?_eq_some_iff.mp hrow).1]
    · obtain ⟨q', e, eq⟩ := h.rows.at_ k q hq
      refine ⟨q', ?_, ?_⟩
      · show (a.values.set i ((a.values.getD i []).set j v))[k]? = some q'
        rw [List.getElem?_set_ne (fun z => c z.symm)]
        exact e
      · rw [upd_ne (fun z => c (nd_ix e2 (by rw [z] at hq; exact hq) hr))]
        exact eq
  · rw [upd_ne (show L.bl ≠ r from fun z => c3 (z ▸ hm))]
    exact h.bl
  · rw [upd_ne (show L.rl ≠ r from fun z => b4 (z ▸ hm))]
    exact h.rl
  · rw [upd_ne (show L.sl ≠ r from fun z => d2 (z ▸ hm))]
    exact h.sl
  · rw [upd_ne (show L.wd ≠ r from fun z => e1 (z ▸ hm))]
    exact h.wd
end
/-! ### what a caller keeps: Z, the places that an operation must leave -/
structure Off (Z : Addr → Prop) (x : Addr) (L : Loc) : Prop where
  x : ¬ Z x
  bl : ¬ Z L.bl
  sl : ¬ Z L.sl
  wd : ¬ Z L.wd
  rows : ∀ r ∈ L.rows, ¬ Z r
  wl : ¬ Z L.wl
  rl : ¬ Z L.rl
def AucZ (C : Addr) (Z : Addr → Prop) (H : Hp) (x : Addr) (a : Kh435.Auction) : Prop := ∃ L : Loc, AucL C H x L a ∧ Off Z x L
def Held' (Z : Addr → Prop) (H : Hp) : Prop := ∀ b, Z b → ∃ o, H b = some o
def Kept (Z : Addr → Prop) (H H' : Hp) : Prop := ∀ b o, Z b → H b = some o → H' b = some o
theorem Kept.same {Z : Addr → Prop} {H H' : Hp} (s : Same H H') : Kept Z H H' := fun b o _ e => s b o e
theorem Kept.trans {Z : Addr → Prop} {H H1 H2 : Hp} (a : Kept Z H H1) (b : Kept Z H1 H2) : Kept Z H H2 := fun c o z e => b c o z (a c o z e)
theorem Kept.put {Z : Addr → Prop} {H : Hp} {D : Addr} {o : HO} (h : ¬ Z D) : Kept Z H (upd H D o) := fun b u z e => by
  rw [upd_ne (show b ≠ D from fun q => h (q ▸ z))]
  exact e
theorem Held'.kept {Z : Addr → Prop} {H H' : Hp} (h : Held' Z H) (k : Kept Z H H') : Held' Z H' := fun b z => by
  obtain ⟨o, e⟩ := h b z
  exact ⟨o, k b o z e⟩
theorem AucZ.same {C : Addr} {Z : Addr → Prop} {H H' : Hp} {x : Addr} {a : Kh435.Auction} (h : AucZ C Z H x a) (s : Same H H') : AucZ C Z H' x a := by
  obtain ⟨L, hA, o⟩ := h
  exact ⟨L, hA.same s, o⟩
/-! ### withdraw, sell -/
abbrev s_sell : Stmt := topS 12
theorem sc_sell : FnScope ["auction", "lot", "buyer", "price", "other"] ["auction", "lot"] (defScope s_sell) := ⟨rfl, rfl, rfl, by decide +kernel, rfl, by decide +kernel, by decide +kernel⟩
abbrev s_withdraw : Stmt := topS 13
theorem sc_withdraw : FnScope ["auction", "lot", "other"] ["auction", "lot"] (defScope s_withdraw) := ⟨rfl, rfl, rfl, by decide +kernel, rfl, by decide +kernel, by decide +kernel⟩
def spWithdraw (C : Addr) : Sp := fun vs H Q _ => ∃ (x : Addr) (a : Kh435.Auction) (lot : Nat) (Z : Addr → Prop), vs = [.ref x, nV lot] ∧ AucZ C Z H x a ∧ Held' Z H ∧ lot ∈ a.remaining ∧
  ∀ H', AucZ C Z H' x (withdrawn a lot) → Kept Z H H' → Q .non H'
def spSell (C : Addr) : Sp := fun vs H Q _ => ∃ (x : Addr) (a : Kh435.Auction) (lot : Nat) (Z : Addr → Prop), vs = [.ref x, nV lot] ∧ AucZ C Z H x a ∧ Held' Z H ∧ lot ∈ a.remaining ∧
  ∀ H' t, AucZ C Z H' x (Kh435.afterSale a lot) → Kept Z H H' → H' t = some (.tup (oV (outOne a a.budgets lot))) → Q (.ref t) H'
theorem nV_dec (m n : Nat) : decide (nV m = nV n) = decide (m = n) := decide_eq_decide.mpr ⟨fun z => by have := V.int.inj z; omega, fun z => by rw [z]⟩
theorem filter_take {l : List Nat} {p : Nat → Bool} {i y : Nat} (h : l[i]? = some y) : (l.take (i + 1)).filter p = (l.take i).filter p ++ (if p y = true then [y] else []) := by
  rw [take_snoc h, List.filter_append, List.filter_cons, List.filter_nil]
theorem WF.less {a : Kh435.Auction} (w : WF a) {r : List Nat} (h : r.Sublist a.remaining) : WF { a with remaining := r } := by
  refine ⟨w.nb, w.nb4, w.vb, w.l1, w.l5, w.rows, w.nd.sublist h, fun l hl => w.lt l (h.mem hl), ?_⟩
  have h1 := h.length_le
  have h2 := w.few
  show r.length + a.sales.length + a.withdrawn.length ≤ 5
  omega
section
variable {P : Program} {w : World} {K : PySem.W.Frag} {mg : Str → Option Value} {base : Heap} {C : Addr}
theorem c_withdraw (D : DefAt K mg "withdraw" s_withdraw ["auction", "lot"]) (T : ClsA K C) : Callee P w K mg base 1 "withdraw" (spWithdraw C) := by
  refine D.callee sc_withdraw (fun vs H Q E h => ?_) (fun f cdv A outer s H vs Q E hr h => ?_)
  · obtain ⟨_, _, _, _, rfl, _⟩ := h
    rfl
  · obtain ⟨x, a, lot, Z, rfl, ⟨L, hA, hO⟩, hH, hlot, k⟩ := h
    have nd := sc_withdraw.nd
    refine ⟨_, pss_cons (ps_fld (pv 0) (pe_lc (own := [("other", 2)]) (g := gName 2) (tt := tTest (tOp rNe (tVar 2) (tVar 1))) (by rfl) nd (pi_list (pe_fld (pv 0) rfl))
          (blkOk_by (own := [("other", 2)]) (N := ["auction", "lot", "other"]) (sc := defScope s_withdraw) (by decide +kernel))
          (fun _ _ _ _ _ => pg_name (i := 2) nd rfl (Or.inl rfl)) (fun _ _ _ _ _ => pts_one (pt_cmpR op_ne (pv 2) (pv 1) (nomark _))) (fun _ _ _ _ _ => pv 2)) rfl)
      (pss_one (ps_expr (pe_bm PySem.F.plainAttrs_list PySem.F.slot_list_append PySem.F.type_list_append mt_append (pe_fld (pv 0) rfl) (pa_cons (pv 1) pa_nil)))), ?_⟩
    refine ⟨.ref x, rfl, x, C, L.dx, _, .ref L.rl, rfl, hA.ob, T.cl, T.n4, aF_remaining, L.rl, rfl, ⟨_, SqL.of hA.rl⟩, fun D nD => ?_⟩
    refine lc_list (K := K) (a := L.rl) (xs := nL a.remaining) (fun i H' => Same H H' ∧ H' D = some (.lst (nL ((a.remaining.take i).filter fun y => !decide (y = lot))))) ⟨same_upd nD, upd_same⟩ (fun i H' _ ⟨s2, _⟩ => SqL.of (s2 _ _ hA.rl)) ?_ ?_
    · rintro i y H2 hi ⟨s2, eD⟩
      obtain ⟨l, hl, rfl⟩ := nL_of hi
      refine ⟨rfl, nV l, rfl, nV lot, rfl, rfl, _, rfl, ?_⟩
      rw [nV_dec, filter_take hl]
      cases c : decide (l = lot) with
      | true => exact ⟨s2, by rw [eD]; simp⟩
      | false =>
        refine ⟨nV l, rfl, _, eD, ?_, same_grow nD s2, ?_⟩
        · rw [nL_length]
          refine small' _ ?_
          have h1 := List.length_filter_le (fun y => !decide (y = lot)) (a.remaining.take i)
          rw [List.length_take] at h1
          have h2 := hA.wf.few_rem
          omega
        · rw [upd_same, nL_append]
          rfl
    · rintro H2 ⟨s2, eD⟩
      rw [nL_length, List.take_length, ← erase_filter hA.wf.nd] at eD
      have hA2 := hA.same s2
      have zD : ¬ Z D := fun z => by
        obtain ⟨o, eo⟩ := hH D z
        rw [nD] at eo
        cases eo
      have nDl : D ∉ L.wl :: L.bl :: L.sl :: L.wd :: L.rows := by
        simp only [List.mem_cons, not_or]
        exact ⟨(ne_of_none hA.wl nD).symm, (ne_of_none hA.bl nD).symm, (ne_of_none hA.sl nD).symm, (ne_of_none hA.wd nD).symm, fun z => by
          obtain ⟨i, hi, e⟩ := List.getElem_of_mem z
          obtain ⟨_, _, q⟩ := hA.rows.at_ i D (by rw [List.getElem?_eq_getElem hi, e])
          rw [nD] at q
          cases q⟩
      have hA3 := hA2.rem eD nDl (hA.wf.less List.erase_sublist)
      refine ⟨.ref x, rfl, x, C, L.dx, _, rfl, hA2.ob, T.cl, T.n4, (by show 6 < 1000; decide), ?_⟩
      have hwl := hA.wf.few
      have ob3 := hA3.ob
      refine ⟨.ref x, rfl, x, C, L.dx, _, .ref L.wd, rfl, ob3, T.cl, T.n6, aF_withdrawn, .inl ⟨rfl, _, SqL.of hA3.wd⟩, nV lot, rfl, L.wd, nL a.withdrawn, nV lot, rfl, rfl, hA3.wd, by rw [nL_length]; exact small' _ (by omega), ?_⟩
      refine k _ ⟨_, hA3.wdr (l := lot) (hA.wf.withdrawn hlot), ⟨hO.x, hO.bl, hO.sl, hO.wd, hO.rows, hO.wl, zD⟩⟩ ?_
      exact ((Kept.same s2).trans (Kept.put hO.x)).trans (Kept.put hO.wd)
theorem c_sell (D : DefAt K mg "sell" s_sell ["auction", "lot"]) (T : ClsA K C) (co : Callee P w K mg base 2 "outcome_of" spOut) : Callee P w K mg base 3 "sell" (spSell C) := by
  refine D.callee sc_sell (fun vs H Q E h => ?_) (fun f cdv A outer s H vs Q E hr h => ?_)
  · obtain ⟨_, _, _, _, rfl, _⟩ := h
    rfl
  · obtain ⟨x, a, lot, Z, rfl, ⟨L, hA, hO⟩, hH, hlot, k⟩ := h
    have nd := sc_sell.nd
    refine ⟨_, pss_cons (ps_asg (pc co hr (by decide) (by rfl) (pa_cons (pe_fld (pv 0) rfl) (pa_cons (pe_fld (pv 0) rfl) (pa_cons (pv 1) pa_nil)))) (pg_tup rfl (pgs_cons (pg_name (i := 2) nd rfl (Or.inl rfl)) (pgs_cons (pg_name (i := 3) nd rfl (Or.inl rfl)) pgs_nil))))
      (pss_cons (ps_fld (pv 0) (pe_lc (own := [("other", 4)]) (g := gName 4) (tt := tTest (tOp rNe (tVar 4) (tVar 1))) (by rfl) nd (pi_list (pe_fld (pv 0) rfl))
          (blkOk_by (own := [("other", 4)]) (N := ["auction", "lot", "buyer", "price", "other"]) (sc := defScope s_sell) (by decide +kernel))
          (fun _ _ _ _ _ => pg_name (i := 4) nd rfl (Or.inl rfl)) (fun _ _ _ _ _ => pts_one (pt_cmpR op_ne (pv 4) (pv 1) (nomark _))) (fun _ _ _ _ _ => pv 4)) rfl)
      (pss_cons (ps_if (pt_cmpR op_ge (pv 2) pe_int (nomark _))
        (pss_cons (ps_asg (pe_op op_sub (pe_ix ix_list (pe_fld (pv 0) rfl) (pv 2) (fun _ _ => rfl)) (pv 3)) (pg_sub (pe_fld (pv 0) rfl) (pv 2) set_list))
          (pss_one (ps_expr (pe_bm PySem.F.plainAttrs_list PySem.F.slot_list_append PySem.F.type_list_append mt_append (pe_fld (pv 0) rfl) (pa_cons (pe_tup (pa_cons (pv 1) (pa_cons (pv 2) (pa_cons (pv 3) pa_nil)))) pa_nil)))))
        (pss_one (ps_expr (pe_bm PySem.F.plainAttrs_list PySem.F.slot_list_append PySem.F.type_list_append mt_append (pe_fld (pv 0) rfl) (pa_cons (pv 1) pa_nil)))))
      (pss_one (ps_ret (pe_tup (pa_cons (pv 2) (pa_cons (pv 3) pa_nil))))))), ?_⟩
    have hlt := hA.wf.lt lot hlot
    refine ⟨.ref x, rfl, x, C, L.dx, _, .ref L.wl, rfl, hA.ob, T.cl, T.n2, aF_worths, .ref x, rfl, x, C, L.dx, _, .ref L.bl, rfl, hA.ob, T.cl, T.n3, aF_budgets, nV lot, rfl,
      L.wl, L.bl, a, a.budgets, lot, a.lotCount, rfl, hA.grid, rfl, hlt, fun H1 t s1 nt et => ?_⟩
    have hA1 := hA.same s1
    have fewl := hA.wf.few
    -- the pair, then the comprehension, alike for both outcomes
    obtain ⟨o1, o2, eo⟩ : ∃ o1 o2, oV (outOne a a.budgets lot) = [o1, o2] := by
      cases outOne a a.budgets lot with
      | none => exact ⟨_, _, rfl⟩
      | some p => exact ⟨_, _, rfl⟩
    rw [eo] at et
    refine ⟨t, [o1, o2], rfl, SqT.of et, rfl, o1, [o2], rfl, o2, [], rfl, rfl, ?_⟩
    refine ⟨.ref x, rfl, x, C, L.dx, _, .ref L.rl, rfl, hA1.ob, T.cl, T.n4, aF_remaining, L.rl, rfl, ⟨_, SqL.of hA1.rl⟩, fun D nD => ?_⟩
    refine lc_list (K := K) (a := L.rl) (xs := nL a.remaining) (fun i H' => Same H1 H' ∧ H' D = some (.lst (nL ((a.remaining.take i).filter fun y => !decide (y = lot))))) ⟨same_upd nD, upd_same⟩ (fun i H' _ ⟨s2, _⟩ => SqL.of (s2 _ _ hA1.rl)) ?_ ?_
    · rintro i y H2 hi ⟨s2, eD⟩
      obtain ⟨l, hl, rfl⟩ := nL_of hi
      refine ⟨rfl, nV l, rfl, nV lot, rfl, rfl, _, rfl, ?_⟩
      rw [nV_dec, filter_take hl]
      cases c : decide (l = lot) with
      | true => exact ⟨s2, by rw [eD]; simp⟩
      | false =>
        refine ⟨nV l, rfl, _, eD, ?_, same_grow nD s2, ?_⟩
        · rw [nL_length]
          refine small' _ ?_
          have h1 := List.length_filter_le (fun y => !decide (y = lot)) (a.remaining.take i)
          rw [List.length_take] at h1
          have h2 := hA.wf.few_rem
          omega
        · rw [upd_same, nL_append]
          rfl
    · rintro H2 ⟨s2, eD⟩
      rw [nL_length, List.take_length, ← erase_filter hA.wf.nd] at eD
      have hA2 := hA1.same s2
      have zD : ¬ Z D := fun z => by
        obtain ⟨o, eo⟩ := hH D z
        rw [s1.free nD] at eo
        cases eo
      have nDl : D ∉ L.wl :: L.bl :: L.sl :: L.wd :: L.rows := by
        simp only [List.mem_cons, not_or]
        exact ⟨(ne_of_none hA1.wl nD).symm, (ne_of_none hA1.bl nD).symm, (ne_of_none hA1.sl nD).symm, (ne_of_none hA1.wd nD).symm, fun z => by
          obtain ⟨i, hi, e⟩ := List.getElem_of_mem z
          obtain ⟨_, _, q⟩ := hA1.rows.at_ i D (by rw [List.getElem?_eq_getElem hi, e])
          rw [nD] at q
          cases q⟩
      have hA3 := hA2.rem eD nDl (hA.wf.less List.erase_sublist)
      refine ⟨.ref x, rfl, x, C, L.dx, _, rfl, hA2.ob, T.cl, T.n4, (by show 6 < 1000; decide), ?_⟩
      have ob3 := hA3.ob
      have kp3 : Kept Z H _ := (Kept.same (s1.trans s2)).trans (Kept.put (H := H2) (D := x) (o := .ins C L.dx (putF "remaining" (.ref D) (aF a.lotCount L.wl L.bl L.rl L.sl L.wd))) hO.x)
      generalize hH3 : upd H2 x (.ins C L.dx (putF "remaining" (.ref D) (aF a.lotCount L.wl L.bl L.rl L.sl L.wd))) = H3 at hA3 ob3 kp3
      cases ew : Kh435.winner a a.budgets lot with
      | none =>
        have eo2 : outOne a a.budgets lot = none := by
          unfold outOne
          rw [ew]
        rw [eo2] at eo
        obtain ⟨rfl, rfl⟩ : V.int (-1) = o1 ∧ V.int 0 = o2 := ⟨(List.cons.inj eo).1, (List.cons.inj (List.cons.inj eo).2).1⟩
        refine ⟨.int (-1), rfl, _, _, rfl, rfl, _, rfl, iteF ?_⟩
        refine ⟨.ref x, rfl, x, C, L.dx, _, .ref L.wd, rfl, ob3, T.cl, T.n6, aF_withdrawn, .inl ⟨rfl, _, SqL.of hA3.wd⟩, nV lot, rfl, L.wd, nL a.withdrawn, nV lot, rfl, rfl, hA3.wd, by rw [nL_length]; exact small' _ (by omega), ?_⟩
        refine ⟨.int (-1), rfl, .int 0, rfl, (by show 2 ≤ sizeLine; decide), fun q nq => ?_⟩
        refine k _ q ?_ ?_ ?_
        · rw [after_none ew]
          exact AucZ.same ⟨_, hA3.wdr (l := lot) (hA.wf.withdrawn hlot), ⟨hO.x, hO.bl, hO.sl, hO.wd, hO.rows, hO.wl, zD⟩⟩ (same_upd nq)
        · exact (kp3.trans (Kept.put hO.wd)).trans (Kept.same (same_upd nq))
        · rw [upd_same, eo2]
          rfl
      | some j =>
        have eo2 : outOne a a.budgets lot = some (j, Kh435.bid a a.budgets j lot) := by
          unfold outOne
          rw [ew]
        rw [eo2] at eo
        have hj := winner_lt ew
        have ble := bid_le a a.budgets j lot
        have hws := hA.wf.sold j (Kh435.bid a a.budgets j lot) hlot
        have eaf := after_some ew
        have hat : a.budgets[j]? = some (Kh435.elementAt a.budgets j) := by
          unfold Kh435.elementAt
          rw [List.getD_eq_getElem?_getD, List.getElem?_eq_getElem hj]
          rfl
        generalize Kh435.bid a a.budgets j lot = pr at eo eo2 ble hws eaf
        obtain ⟨rfl, rfl⟩ : nV j = o1 ∧ nV pr = o2 := ⟨(List.cons.inj eo).1, (List.cons.inj (List.cons.inj eo).2).1⟩
        refine ⟨nV j, rfl, _, _, rfl, rfl, _, rfl, ite2 (fun _ => ?_) (fun c => absurd (decide_eq_true (show (0 : Int) ≤ (j : Int) by omega)) c)⟩
        -- the buyer pays
        refine ⟨.ref x, rfl, x, C, L.dx, _, .ref L.bl, rfl, ob3, T.cl, T.n3, aF_budgets, nV j, rfl, L.bl, nL a.budgets, (j : Int), nV (Kh435.elementAt a.budgets j), rfl, rfl, SqL.of hA3.bl, atI_nV hat, nV pr, rfl, _, _, rfl, rfl, ?_⟩
        refine ⟨.ref x, rfl, x, C, L.dx, _, .ref L.bl, rfl, ob3, T.cl, T.n3, aF_budgets, nV j, rfl, L.bl, nL a.budgets, (j : Int), j, rfl, rfl, hA3.bl, ixN_nat (by rw [nL_length]; exact hj), ?_⟩
        have hset : (nL a.budgets).set j (.int ((Kh435.elementAt a.budgets j : Int) - (pr : Int))) = nL (a.budgets.set j (Kh435.elementAt a.budgets j - pr)) := by
          rw [← nL_set]
          congr 1
          show V.int ((Kh435.elementAt a.budgets j : Int) - (pr : Int)) = V.int ((Kh435.elementAt a.budgets j - pr : Nat) : Int)
          congr 1
          omega
        have hA4 := hA3.bud (i := j) (v := Kh435.elementAt a.budgets j - pr)
        have kp4 : Kept Z H (upd H3 L.bl (.lst ((nL a.budgets).set j (.int ((Kh435.elementAt a.budgets j : Int) - (pr : Int)))))) := kp3.trans (Kept.put hO.bl)
        have hH4 : upd H3 L.bl (.lst (nL (a.budgets.set j (Kh435.elementAt a.budgets j - pr)))) = upd H3 L.bl (.lst ((nL a.budgets).set j (.int ((Kh435.elementAt a.budgets j : Int) - (pr : Int))))) := by rw [hset]
        have hA5 : AucL C (upd H3 L.bl (.lst ((nL a.budgets).set j (.int ((Kh435.elementAt a.budgets j : Int) - (pr : Int)))))) x { L with rl := D } (Kh435.withBudget { a with remaining := a.remaining.erase lot } j (Kh435.elementAt a.budgets j - pr)) := by
          rw [← hH4]
          exact hA4
        have eb5 := hA5.ob
        have es5 := hA5.sl
        generalize hH5 : upd H3 L.bl (.lst ((nL a.budgets).set j (.int ((Kh435.elementAt a.budgets j : Int) - (pr : Int))))) = H5 at hA5 kp4 eb5 es5
        refine ⟨.ref x, rfl, x, C, L.dx, _, .ref L.sl, rfl, eb5, T.cl, T.n5, aF_sales, .inl ⟨rfl, _, SqL.of es5⟩, nV lot, rfl, nV j, rfl, nV pr, rfl, (by show 3 ≤ sizeLine; decide), fun T2 nT2 => ?_⟩
        have s6 : Same H5 (upd H5 T2 (.tup [nV lot, nV j, nV pr])) := same_upd nT2
        have hA6 := hA5.same s6
        have lsas : L.sas.length = a.sales.length := hA.sas.len
        refine ⟨L.sl, L.sas.map V.ref, .ref T2, rfl, rfl, s6 _ _ es5, by rw [List.length_map]; exact small' _ (by omega), ?_⟩
        have hA7 := hA6.sale (t := T2) (s := (lot, j, pr)) upd_same hws
        refine ⟨nV j, rfl, nV pr, rfl, (by show 2 ≤ sizeLine; decide), fun q nq => ?_⟩
        refine k _ q ?_ ?_ ?_
        · rw [eaf]
          exact AucZ.same ⟨_, hA7, ⟨hO.x, hO.bl, hO.sl, hO.wd, hO.rows, hO.wl, zD⟩⟩ (same_upd nq)
        · exact ((kp4.trans (Kept.same s6)).trans (Kept.put hO.sl)).trans (Kept.same (same_upd nq))
        · rw [upd_same, eo2]
          rfl
end
end Pb
set_option Elab.async false
set_option linter.all false
set_option maxRecDepth 100000
set_option maxHeartbeats 4000000
namespace Pb
open PySem PySem.Spec PyProof.Rows L2
/-! ### Auction.__init__ -/
abbrev s_init : Stmt := inClass (topS 1) 0
theorem sc_init : FnScope ["self", "lots", "bidders", "number"] ["self", "lots", "bidders"] (defScope s_init) := ⟨rfl, rfl, rfl, by decide +kernel, rfl, by decide +kernel, by decide +kernel⟩
def spInit (C : Addr) : Sp := fun vs H Q _ => ∃ (p dx : Addr) (lots bidders : Nat), vs = [.ref p, nV lots, nV bidders] ∧ H p = some (.ins C dx []) ∧ 1 ≤ lots ∧ lots ≤ 5 ∧ 1 ≤ bidders ∧ bidders ≤ 4 ∧
  ∀ (H' : Hp) (L : Loc), AucL C H' p L (fresh lots bidders) → Kept (fun b => b ≠ p) H H' → H L.wl = none → H L.rl = none → H L.bl = none → H L.sl = none → H L.wd = none → (∀ r ∈ L.rows, H r = none) → Q .non H'
theorem rep_flat : ∀ n : Nat, (List.replicate n [V.int 0]).flatten = nL (List.replicate n 0)
  | 0 => rfl
  | n + 1 => by
    rw [List.replicate_succ, List.replicate_succ, List.flatten_cons, rep_flat n]
    rfl
theorem rg_is (n : Nat) : rgV 0 (n : Int) = nL (List.range n) := by
  unfold rgV nL
  rw [show ((n : Int) - 0).toNat = n by omega]
  refine List.map_congr_left fun i _ => ?_
  show V.int (0 + (i : Int)) = V.int (i : Int)
  rw [Int.zero_add]
section
variable {v1 v2 v3 v4 v5 v6 : V}
theorem put1 : putF "lots" v1 ([] : List (Str × V)) = ([("lots", v1)] : List (Str × V)) := rfl
theorem put2 : putF "worths" v2 ([("lots", v1)] : List (Str × V)) = ([("lots", v1), ("worths", v2)] : List (Str × V)) := by
  rw [put_past (by decide +kernel)]
  rfl
theorem put3 : putF "budgets" v3 ([("lots", v1), ("worths", v2)] : List (Str × V)) = ([("lots", v1), ("worths", v2), ("budgets", v3)] : List (Str × V)) := by
  rw [put_past (by decide +kernel), put_past (by decide +kernel)]
  rfl
theorem put4 : putF "remaining" v4 ([("lots", v1), ("worths", v2), ("budgets", v3)] : List (Str × V)) = ([("lots", v1), ("worths", v2), ("budgets", v3), ("remaining", v4)] : List (Str × V)) := by
  rw [put_past (by decide +kernel), put_past (by decide +kernel), put_past (by decide +kernel)]
  rfl
theorem put5 : putF "sales" v5 ([("lots", v1), ("worths", v2), ("budgets", v3), ("remaining", v4)] : List (Str × V)) = ([("lots", v1), ("worths", v2), ("budgets", v3), ("remaining", v4), ("sales", v5)] : List (Str × V)) := by
  rw [put_past (by decide +kernel), put_past (by decide +kernel), put_past (by decide +kernel), put_past (by decide +kernel)]
  rfl
theorem put6 : putF "withdrawn" v6 ([("lots", v1), ("worths", v2), ("budgets", v3), ("remaining", v4), ("sales", v5)] : List (Str × V)) = ([("lots", v1), ("worths", v2), ("budgets", v3), ("remaining", v4), ("sales", v5), ("withdrawn", v6)] : List (Str × V)) := by
  rw [put_past (by decide +kernel), put_past (by decide +kernel), put_past (by decide +kernel), put_past (by decide +kernel), put_past (by decide +kernel)]
  rfl
end
theorem Kept.upd {Z : Addr → Prop} {H H1 : Hp} {D : Addr} {o : HO} (a : Kept Z H H1) (h : ¬ Z D) : Kept Z H (upd H1 D o) := a.trans (Kept.put h)
theorem Kept.new {Z : Addr → Prop} {H H1 : Hp} {D : Addr} {o : HO} (a : Kept Z H H1) (h : H1 D = none) : Kept Z H (L2.upd H1 D o) := a.trans (Kept.same (same_upd h))
/-- what is new now was free ahead, but for the place that changes -/
theorem Kept.free {p : Addr} {H H1 : Hp} {D : Addr} {o : HO} (a : Kept (fun b => b ≠ p) H H1) (ep : H1 p = some o) (h : H1 D = none) : H D = none := by
  cases q : H D with
  | none => rfl
  | some u =>
    have hD : D ≠ p := fun z => by
      rw [z, ep] at h
      cases h
    rw [a D u hD q] at h
    cases h
section
variable {P : Program} {w : World} {K : PySem.W.Frag} {mg : Str → Option Value} {base : Heap} {C : Addr}
theorem ok_init {f : Addr} {fd : FuncData} (F : L2.Fun K "__init__" "Auction.__init__" s_init f fd) (B : Bi mg) (T : ClsA K C) : FnOk P w K mg base CX0 1 f fd ["self", "lots", "bidders"] (spInit C) := by
  refine F.ok sc_init (fun vs H Q E h => ?_) (fun cdv A outer s H vs Q E hr h => ?_)
  · obtain ⟨_, _, _, _, rfl, _⟩ := h
    rfl
  · obtain ⟨p, dx, lots, bidders, rfl, hp, l1, l5, b1, b4, k⟩ := h
    have nd := sc_init.nd
    refine ⟨_, pss_cons (ps_fld (pv 0) (pv 1) rfl)
      (pss_cons (ps_fld (pv 0) (pe_lc (own := [("number", 3)]) (g := gName 3) (tt := tYes) (by rfl) nd (pi_range1 (by rfl) B.range (pa_cons (pv 2) pa_nil))
          (blkOk_by (own := [("number", 3)]) (N := ["self", "lots", "bidders", "number"]) (sc := defScope s_init) (by decide +kernel))
          (fun _ _ _ _ _ => pg_name (i := 3) nd rfl (Or.inl rfl)) (fun _ _ _ _ _ => pts_nil) (fun _ _ _ _ _ => pe_op op_rep (pe_lst (pa_cons pe_int pa_nil)) (pv 1))) rfl)
      (pss_cons (ps_fld (pv 0) (pe_op op_rep (pe_lst (pa_cons pe_int pa_nil)) (pv 2)) rfl)
      (pss_cons (ps_fld (pv 0) (pe_listRg rfl (by rfl) B.list (prg_1 (by rfl) B.range (pv 1))) rfl)
      (pss_cons (ps_fld (pv 0) (pe_lst pa_nil) rfl)
      (pss_one (ps_fld (pv 0) (pe_lst pa_nil) rfl)))))), ?_⟩
    -- the number of lots
    refine ⟨nV lots, rfl, .ref p, rfl, p, C, dx, [], rfl, hp, T.cl, T.n1, (by show 0 < 1000; decide), ?_⟩
    have ea : (upd H p (.ins C dx (putF "lots" (nV lots) []))) p = some (.ins C dx [("lots", nV lots)]) := by rw [upd_same, put1]
    have ka : Kept (fun b => b ≠ p) H (upd H p (.ins C dx (putF "lots" (nV lots) []))) := Kept.put fun z => z rfl
    generalize upd H p (.ins C dx (putF "lots" (nV lots) [])) = Ha at ea ka ⊢
    -- the values
    refine ⟨nV bidders, rfl, (bidders : Int), rfl, (by omega), (by omega), fun D nD => ?_⟩
    refine lc_range (lo := 0) (n := bidders) (fun i H' => Same Ha H' ∧ ∃ rs : List Addr, H' D = some (.lst (rs.map V.ref)) ∧ Rows H' rs (List.replicate i (List.replicate lots 0)) ∧ (∀ q ∈ rs, q ≠ D ∧ Ha q = none) ∧ rs.Nodup)
      ⟨same_upd nD, [], upd_same, Rows.nil _, fun q hq => absurd hq (List.not_mem_nil), List.nodup_nil⟩ ?_ ?_
    · rintro i H2 hi ⟨s2, rs, eD, rr, fr, rn⟩
      refine ⟨rfl, (by show 1 ≤ sizeLine; decide), fun e ne => ⟨nV lots, rfl, e, (lots : Int), [.int 0], rfl, rfl, upd_same, (by omega), (by omega), small _ (by show 1 * (lots : Int).toNat ≤ 100000; omega), fun q nq => ?_⟩⟩
      have s3 : Same H2 (upd H2 e (.lst [.int 0])) := same_upd ne
      have s4 : Same (upd H2 e (.lst [.int 0])) (upd (upd H2 e (.lst [.int 0])) q (.lst (List.replicate (lots : Int).toNat [V.int 0]).flatten)) := same_upd nq
      have qD : q ≠ D := (ne_of_none (s3 _ _ eD) nq).symm
      refine ⟨_, s4 _ _ (s3 _ _ eD), by rw [List.length_map, rr.len, List.length_replicate]; exact small' _ (by omega), same_grow nD ((s2.trans s3).trans s4), rs ++ [q], ?_, ?_, ?_, ?_⟩
      · rw [upd_same, List.map_append]
        rfl
      · rw [List.replicate_succ']
        refine (((rr.same s3).same s4).put fun z hz => (fr z hz).1).snoc ?_
        rw [upd_ne qD, upd_same]
        exact congrArg (fun l => some (HO.lst l)) (rep_flat lots)
      · intro z hz
        rcases List.mem_append.mp hz with hz | hz
        · exact fr z hz
        · rw [List.mem_singleton.mp hz]
          exact ⟨qD, (s2.trans s3).free nq⟩
      · refine List.nodup_append.mpr ⟨rn, List.nodup_cons.mpr ⟨List.not_mem_nil, List.nodup_nil⟩, fun u hu v hv => ?_⟩
        rw [List.mem_singleton.mp hv]
        obtain ⟨j, hj, e1⟩ := List.getElem_of_mem hu
        obtain ⟨_, _, q1⟩ := rr.at_ j u (by rw [List.getElem?_eq_getElem hj, e1])
        exact ne_of_none (s3 _ _ q1) nq
    rintro H2 ⟨s2, rs, eD, rr, fr, rn⟩
    refine ⟨.ref p, rfl, p, C, dx, _, rfl, s2 _ _ ea, T.cl, T.n2, (by show 1 < 1000; decide), ?_⟩
    have pD : D ≠ p := (ne_of_none ea nD).symm
    have hrp : ∀ q ∈ rs, q ≠ p := fun q hq z => by
      have := (fr q hq).2
      rw [z, ea] at this
      cases this
    have eb : (upd H2 p (.ins C dx (putF "worths" (.ref D) [("lots", nV lots)]))) p = some (.ins C dx [("lots", nV lots), ("worths", .ref D)]) := by rw [upd_same, put2]
    have kb : Kept (fun b => b ≠ p) H (upd H2 p (.ins C dx (putF "worths" (.ref D) [("lots", nV lots)]))) := (ka.trans (Kept.same s2)).upd fun z => z rfl
    have eD2 : (upd H2 p (.ins C dx (putF "worths" (.ref D) [("lots", nV lots)]))) D = some (.lst (rs.map V.ref)) := by
      rw [upd_ne pD]
      exact eD
    have rr2 : Rows (upd H2 p (.ins C dx (putF "worths" (.ref D) [("lots", nV lots)]))) rs (List.replicate bidders (List.replicate lots 0)) := rr.put hrp
    have hDn : H D = none := ka.free ea nD
    have hrn : ∀ q ∈ rs, H q = none := fun q hq => ka.free ea (fr q hq).2
    generalize upd H2 p (.ins C dx (putF "worths" (.ref D) [("lots", nV lots)])) = Hb at eb kb eD2 rr2 ⊢
    -- the budgets
    refine ⟨(by show 1 ≤ sizeLine; decide), fun e ne => ⟨nV bidders, rfl, e, (bidders : Int), [.int 0], rfl, rfl, upd_same, (by omega), (by omega), small _ (by show 1 * (bidders : Int).toNat ≤ 100000; omega), fun q2 nq2 => ?_⟩⟩
    have s3 : Same Hb (upd Hb e (.lst [.int 0])) := same_upd ne
    have s4 : Same (upd Hb e (.lst [.int 0])) (upd (upd Hb e (.lst [.int 0])) q2 (.lst (List.replicate (bidders : Int).toNat [V.int 0]).flatten)) := same_upd nq2
    have s34 := s3.trans s4
    have hq2n : H q2 = none := kb.free eb (s3.free nq2)
    have dq2 : D ≠ q2 := ne_of_none (s3 _ _ eD2) nq2
    have rq2 : ∀ r ∈ rs, r ≠ q2 := fun r hr => by
      obtain ⟨j, hj, e1⟩ := List.getElem_of_mem hr
      obtain ⟨_, _, q1⟩ := rr2.at_ j r (by rw [List.getElem?_eq_getElem hj, e1])
      exact ne_of_none (s3 _ _ q1) nq2
    have e2 : (upd (upd Hb e (.lst [.int 0])) q2 (.lst (List.replicate (bidders : Int).toNat [V.int 0]).flatten)) q2 = some (.lst (nL (List.replicate bidders 0))) := by
      rw [upd_same]
      exact congrArg (fun l => some (HO.lst l)) (rep_flat bidders)
    refine ⟨.ref p, rfl, p, C, dx, _, rfl, s34 _ _ eb, T.cl, T.n3, (by show 2 < 1000; decide), ?_⟩
    have p2 : q2 ≠ p := (ne_of_none (s3 _ _ eb) nq2).symm
    have kc0 := kb.trans (Kept.same (Z := fun b => b ≠ p) s34)
    have eD3 := s34 _ _ eD2
    have rr3 := rr2.same s34
    generalize upd (upd Hb e (.lst [.int 0])) q2 (.lst (List.replicate (bidders : Int).toNat [V.int 0]).flatten) = Hc0 at e2 kc0 eD3 rr3 ⊢
    have ec : (upd Hc0 p (.ins C dx (putF "budgets" (.ref q2) [("lots", nV lots), ("worths", .ref D)]))) p = some (.ins C dx [("lots", nV lots), ("worths", .ref D), ("budgets", .ref q2)]) := by rw [upd_same, put3]
    have kc : Kept (fun b => b ≠ p) Hc0 (upd Hc0 p (.ins C dx (putF "budgets" (.ref q2) [("lots", nV lots), ("worths", .ref D)]))) := Kept.put fun z => z rfl
    generalize upd Hc0 p (.ins C dx (putF "budgets" (.ref q2) [("lots", nV lots), ("worths", .ref D)])) = Hc at ec kc ⊢
    -- the remaining lots
    refine ⟨nV lots, rfl, (lots : Int), rfl, RgOk.of_le (by omega) (by omega) (by omega) (by omega), fun q3 nq3 => ?_⟩
    rw [rg_is]
    have s5 : Same Hc (upd Hc q3 (.lst (nL (List.range lots)))) := same_upd nq3
    have p3 : q3 ≠ p := (ne_of_none ec nq3).symm
    refine ⟨.ref p, rfl, p, C, dx, _, rfl, s5 _ _ ec, T.cl, T.n4, (by show 3 < 1000; decide), ?_⟩
    have ed : (upd (upd Hc q3 (.lst (nL (List.range lots)))) p (.ins C dx (putF "remaining" (.ref q3) [("lots", nV lots), ("worths", .ref D), ("budgets", .ref q2)]))) p = some (.ins C dx [("lots", nV lots), ("worths", .ref D), ("budgets", .ref q2), ("remaining", .ref q3)]) := by rw [upd_same, put4]
    have kd : Kept (fun b => b ≠ p) Hc (upd (upd Hc q3 (.lst (nL (List.range lots)))) p (.ins C dx (putF "remaining" (.ref q3) [("lots", nV lots), ("worths", .ref D), ("budgets", .ref q2)]))) := (Kept.same s5).upd fun z => z rfl
    have e3 : (upd (upd Hc q3 (.lst (nL (List.range lots)))) p (.ins C dx (putF "remaining" (.ref q3) [("lots", nV lots), ("worths", .ref D), ("budgets", .ref q2)]))) q3 = some (.lst (nL (List.range lots))) := by rw [upd_ne p3, upd_same]
    generalize upd (upd Hc q3 (.lst (nL (List.range lots)))) p (.ins C dx (putF "remaining" (.ref q3) [("lots", nV lots), ("worths", .ref D), ("budgets", .ref q2)])) = Hd at ed kd e3 ⊢
    -- the sales
    refine ⟨Nat.zero_le _, fun q4 nq4 => ?_⟩
    have s6 : Same Hd (upd Hd q4 (.lst [])) := same_upd nq4
    have p4 : q4 ≠ p := (ne_of_none ed nq4).symm
    refine ⟨.ref p, rfl, p, C, dx, _, rfl, s6 _ _ ed, T.cl, T.n5, (by show 4 < 1000; decide), ?_⟩
    have ee : (upd (upd Hd q4 (.lst [])) p (.ins C dx (putF "sales" (.ref q4) [("lots", nV lots), ("worths", .ref D), ("budgets", .ref q2), ("remaining", .ref q3)]))) p = some (.ins C dx [("lots", nV lots), ("worths", .ref D), ("budgets", .ref q2), ("remaining", .ref q3), ("sales", .ref q4)]) := by rw [upd_same, put5]
    have ke : Kept (fun b => b ≠ p) Hd (upd (upd Hd q4 (.lst [])) p (.ins C dx (putF "sales" (.ref q4) [("lots", nV lots), ("worths", .ref D), ("budgets", .ref q2), ("remaining", .ref q3)]))) := (Kept.same s6).upd fun z => z rfl
    have e4 : (upd (upd Hd q4 (.lst [])) p (.ins C dx (putF "sales" (.ref q4) [("lots", nV lots), ("worths", .ref D), ("budgets", .ref q2), ("remaining", .ref q3)]))) q4 = some (.lst []) := by rw [upd_ne p4, upd_same]
    generalize upd (upd Hd q4 (.lst [])) p (.ins C dx (putF "sales" (.ref q4) [("lots", nV lots), ("worths", .ref D), ("budgets", .ref q2), ("remaining", .ref q3)])) = He at ee ke e4 ⊢
    -- the withdrawn lots
    refine ⟨Nat.zero_le _, fun q5 nq5 => ?_⟩
    have s7 : Same He (upd He q5 (.lst [])) := same_upd nq5
    have p5 : q5 ≠ p := (ne_of_none ee nq5).symm
    refine ⟨.ref p, rfl, p, C, dx, _, rfl, s7 _ _ ee, T.cl, T.n6, (by show 5 < 1000; decide), ?_⟩
    have ef : (upd (upd He q5 (.lst [])) p (.ins C dx (putF "withdrawn" (.ref q5) [("lots", nV lots), ("worths", .ref D), ("budgets", .ref q2), ("remaining", .ref q3), ("sales", .ref q4)]))) p = some (.ins C dx (aF lots D q2 q3 q4 q5)) := by
      rw [upd_same, put6]
      rfl
    have kf : Kept (fun b => b ≠ p) He (upd (upd He q5 (.lst [])) p (.ins C dx (putF "withdrawn" (.ref q5) [("lots", nV lots), ("worths", .ref D), ("budgets", .ref q2), ("remaining", .ref q3), ("sales", .ref q4)]))) := (Kept.same s7).upd fun z => z rfl
    have e5 : (upd (upd He q5 (.lst [])) p (.ins C dx (putF "withdrawn" (.ref q5) [("lots", nV lots), ("worths", .ref D), ("budgets", .ref q2), ("remaining", .ref q3), ("sales", .ref q4)]))) q5 = some (.lst []) := by rw [upd_ne p5, upd_same]
    generalize upd (upd He q5 (.lst [])) p (.ins C dx (putF "withdrawn" (.ref q5) [("lots", nV lots), ("worths", .ref D), ("budgets", .ref q2), ("remaining", .ref q3), ("sales", .ref q4)])) = Hf at ef kf e5 ⊢
    have kce := kd.trans ke
    have kcf := kce.trans kf
    have k0f := kc.trans kcf
    have rat : ∀ r ∈ rs, ∃ o, Hc0 r = some o := fun r hr => by
      obtain ⟨j, hj, e1⟩ := List.getElem_of_mem hr
      obtain ⟨_, _, q1⟩ := rr3.at_ j r (by rw [List.getElem?_eq_getElem hj, e1])
      exact ⟨_, q1⟩
    have eDc := kc D _ pD eD3
    have e2c := kc q2 _ p2 e2
    have d3 : D ≠ q3 := ne_of_none eDc nq3
    have x23 : q2 ≠ q3 := ne_of_none e2c nq3
    have eDd := kd D _ pD eDc
    have e2d := kd q2 _ p2 e2c
    have d4 : D ≠ q4 := ne_of_none eDd nq4
    have x24 : q2 ≠ q4 := ne_of_none e2d nq4
    have x34 : q3 ≠ q4 := ne_of_none e3 nq4
    have eDe := ke D _ pD eDd
    have e2e := ke q2 _ p2 e2d
    have e3e := ke q3 _ p3 e3
    have d5 : D ≠ q5 := ne_of_none eDe nq5
    have x25 : q2 ≠ q5 := ne_of_none e2e nq5
    have x35 : q3 ≠ q5 := ne_of_none e3e nq5
    have x45 : q4 ≠ q5 := ne_of_none e4 nq5
    have hk0 : Kept (fun b => b ≠ p) H Hc := kc0.trans kc
    have hk1 := hk0.trans kd
    have hk2 := hk1.trans ke
    have hq4n : H q4 = none := hk1.free ed nq4
    have hq5n : H q5 = none := hk2.free ee nq5
    refine k Hf ⟨dx, D, q2, q3, q4, q5, rs, []⟩ ⟨ef, kf D _ pD eDe, ?_, kf q2 _ p2 e2e, kf q3 _ p3 e3e, kf q4 _ p4 e4, ⟨rfl, fun i r hr => by simp at hr⟩, e5, ?_, WF.fresh l1 l5 b1 b4⟩ (hk2.trans kf) hDn (hk0.free ec nq3) hq2n hq4n hq5n hrn
    · exact ⟨rr3.len, fun i r hr => by
        obtain ⟨q, e6, e7⟩ := rr3.at_ i r hr
        exact ⟨q, e6, k0f r _ (hrp r (List.mem_of_getElem? hr)) e7⟩⟩
    · have nin : ∀ {q : Addr} {Hx : Hp}, Kept (fun b => b ≠ p) Hc0 Hx → Hx q = none → q ∉ rs := fun kx hn hm => by
        obtain ⟨o, eo⟩ := rat _ hm
        rw [kx _ o (hrp _ hm) eo] at hn
        cases hn
      simp only [List.nodup_cons, List.mem_cons, not_or]
      exact ⟨⟨d3, dq2, d4, d5, fun hm => (fr D hm).1 rfl⟩, ⟨x23.symm, x34, x35, nin kc nq3⟩, ⟨x24, x25, fun hm => rq2 q2 hm rfl⟩, ⟨x45, nin (kc.trans kd) nq4⟩, nin (kc.trans kce) nq5, rn⟩
end
end Pb
set_option Elab.async false
set_option linter.all false
set_option maxRecDepth 100000
set_option maxHeartbeats 4000000
namespace Pb
open PySem PySem.Spec PyProof.Rows L2
/-! ### what every deed promises -/
def numOf (k : Nat) : Nat := ([2, 3, 2, 1, 1, 0, 1, 2, 0, 0, 0, 0, 0, 0, 0, 2, 3, 1, 1, 0, 0, 1, 0, 0, 0] : List Nat).getD k 0
/-- the call of the specification, by its number, its numbers and its list -/
def callOf : Nat → List Nat → List Nat → Kh435.Call
  | 0, [l, b], _ => .create l b
  | 1, [i, j, v], _ => .setValue i j v
  | 2, [i, b], _ => .setBudget i b
  | 3, [j], _ => .sellLot j
  | 4, [j], _ => .withdrawLot j
  | 5, [], _ => .sellAllBest
  | 6, [j], _ => .winner j
  | 7, [i, j], _ => .bid i j
  | 8, [], o => .simulateOrder o
  | 9, [], o => .revenueOf o
  | 10, [], _ => .maxRevenueOrder
  | 11, [], _ => .minRevenueOrder
  | 12, [], _ => .highestBidFirst
  | 13, [], _ => .countBestOrders
  | 14, [], _ => .revenueSpread
  | 15, [i, b], _ => .maxRevenueIfBudget i b
  | 16, [i, j, v], _ => .maxRevenueIfValue i j v
  | 17, [i], _ => .maxRevenueWithoutBidder i
  | 18, [j], _ => .maxRevenueIfWithdrawn j
  | 19, [], _ => .upperBounds
  | 20, [], o => .welfareOf o
  | 21, [i], o => .purchasesOf i o
  | 22, [], _ => .listSales
  | 23, [], _ => .listRemaining
  | _, _, _ => .status
def ans (r : Kh435.Result) : List Int := r.status :: r.values
def iL (l : List Int) : List V := l.map V.int
def Says (C : Addr) (Z : Addr → Prop) (H : Hp) (x : Addr) (r : Kh435.Auction × Kh435.Result) (Q : VK) : Prop :=
  ∀ H' p, AucZ C Z H' x r.1 → Kept Z H H' → ¬ Z p → H' p = some (.lst (iL (ans r.2))) → Q (.ref p) H'
def spDeed (C : Addr) (k : Nat) : Sp := fun vs H Q _ => ∃ (x nl ol : Addr) (a : Kh435.Auction) (ns ord : List Nat) (Z : Addr → Prop), vs = [.ref x, .ref nl, .ref ol] ∧ AucZ C Z H x a ∧ Held' Z H ∧
  H nl = some (.lst (nL ns)) ∧ H ol = some (.lst (nL ord)) ∧ ns.length = numOf k ∧ ord.length ≤ 5 ∧ Says C Z H x (Kh435.apply a (callOf k ns ord)) Q
theorem iL_values (n : Nat) (l : List Nat) : iL (ans (Kh435.withValues n l)) = nL (n :: l) := by
  show V.int (n : Int) :: (l.map Int.ofNat).map V.int = nV n :: nL l
  rw [List.map_map]
  rfl
section
variable {C : Addr} {Z : Addr → Prop} {H H1 : Hp} {x p : Addr} {a b : Kh435.Auction} {r : Kh435.Auction × Kh435.Result} {Q : VK}
/-- what was free behind what keeps Z is none of Z -/
theorem new_off (hH : Held' Z H) (kp : Kept Z H H1) (np : H1 p = none) : ¬ Z p := fun z => by
  obtain ⟨o, e⟩ := hH p z
  rw [kp p o z e] at np
  cases np
theorem Says.one (s : Says C Z H x r Q) (hH : Held' Z H) {n : Int} (e : r = (a, Kh435.single n)) (hA : AucZ C Z H1 x a) (kp : Kept Z H H1) (np : H1 p = none) : Q (.ref p) (upd H1 p (.lst [.int n])) := by
  subst e
  exact s _ p (hA.same (same_upd np)) (kp.trans (Kept.same (same_upd np))) (new_off hH kp np) upd_same
theorem Says.list (s : Says C Z H x r Q) (nz : ¬ Z p) {n : Nat} {l : List Nat} (e : r = (a, Kh435.withValues n l)) (hA : AucZ C Z H1 x a) (kp : Kept Z H H1) (hp : H1 p = some (.lst (nL (n :: l)))) : Q (.ref p) H1 := by
  subst e
  exact s _ p hA kp nz (by rw [hp, iL_values])
theorem Says.new (s : Says C Z H x r Q) (hH : Held' Z H) {n : Nat} {l : List Nat} (e : r = (a, Kh435.withValues n l)) (hA : AucZ C Z H1 x a) (kp : Kept Z H H1) (np : H1 p = none) : Q (.ref p) (upd H1 p (.lst (nL (n :: l)))) :=
  s.list (new_off hH kp np) e (hA.same (same_upd np)) (kp.trans (Kept.same (same_upd np))) upd_same
end
theorem len1 {l : List Nat} (h : l.length = 1) : ∃ x, l = [x] := by
  match l, h with
  | [x], _ => exact ⟨x, rfl⟩
theorem len2 {l : List Nat} (h : l.length = 2) : ∃ x y, l = [x, y] := by
  match l, h with
  | [x, y], _ => exact ⟨x, y, rfl⟩
theorem len3 {l : List Nat} (h : l.length = 3) : ∃ x y z, l = [x, y, z] := by
  match l, h with
  | [x, y, z], _ => exact ⟨x, y, z, rfl⟩
theorem len0 {l : List Nat} (h : l.length = 0) : l = [] := List.eq_nil_of_length_eq_zero h
/-- the bounds of values and budgets -/
structure Most (mg : Str → Option Value) : Prop where
  v : ∃ t, mg "MOST_VALUE" = some (.int 99 t)
  b : ∃ t, mg "MOST_BUDGET" = some (.int 500 t)
theorem lt_of_bidder {a : Kh435.Auction} {i : Nat} (h : Kh435.isBidder a i = true) : i < a.budgets.length := of_decide_eq_true h
theorem lt_of_lot {a : Kh435.Auction} {i : Nat} (h : Kh435.isLot a i = true) : i < a.lotCount := of_decide_eq_true h
theorem mem_of_rem {a : Kh435.Auction} {j : Nat} (h : a.remaining.contains j = true) : j ∈ a.remaining := List.contains_iff_mem.mp h
abbrev s_set_value : Stmt := topS 31
theorem sc_set_value : FnScope ["auction", "numbers", "order", "bidder", "lot", "value", "previous"] ["auction", "numbers", "order"] (defScope s_set_value) := ⟨rfl, rfl, rfl, by decide +kernel, rfl, by decide +kernel, by decide +kernel⟩
abbrev s_set_budget : Stmt := topS 32
theorem sc_set_budget : FnScope ["auction", "numbers", "order", "bidder", "budget", "previous"] ["auction", "numbers", "order"] (defScope s_set_budget) := ⟨rfl, rfl, rfl, by decide +kernel, rfl, by decide +kernel, by decide +kernel⟩
abbrev s_sell_lot : Stmt := topS 33
theorem sc_sell_lot : FnScope ["auction", "numbers", "order"] ["auction", "numbers", "order"] (defScope s_sell_lot) := ⟨rfl, rfl, rfl, by decide +kernel, rfl, by decide +kernel, by decide +kernel⟩
abbrev s_withdraw_lot : Stmt := topS 34
theorem sc_withdraw_lot : FnScope ["auction", "numbers", "order"] ["auction", "numbers", "order"] (defScope s_withdraw_lot) := ⟨rfl, rfl, rfl, by decide +kernel, rfl, by decide +kernel, by decide +kernel⟩
abbrev s_winner : Stmt := topS 36
theorem sc_winner : FnScope ["auction", "numbers", "order"] ["auction", "numbers", "order"] (defScope s_winner) := ⟨rfl, rfl, rfl, by decide +kernel, rfl, by decide +kernel, by decide +kernel⟩
abbrev s_bid : Stmt := topS 37
theorem sc_bid : FnScope ["auction", "numbers", "order", "bidder", "lot"] ["auction", "numbers", "order"] (defScope s_bid) := ⟨rfl, rfl, rfl, by decide +kernel, rfl, by decide +kernel, by decide +kernel⟩
section
variable {P : Program} {w : World} {K : PySem.W.Frag} {mg : Str → Option Value} {base : Heap} {C : Addr}
theorem d_set_value (D : DefAt K mg "set_value" s_set_value ["auction", "numbers", "order"]) (T : ClsA K C) (M : Most mg) (cb : Callee P w K mg base 1 "has_bidder" (spHasB C)) (cl : Callee P w K mg base 1 "has_lot" (spHasL C)) : Callee P w K mg base 9 "set_value" (spDeed C 1) := by
  refine D.callee sc_set_value (fun vs H Q E h => ?_) (fun f cdv A outer s H vs Q E hr h => ?_)
  · obtain ⟨_, _, _, _, _, _, _, rfl, _⟩ := h
    rfl
  · obtain ⟨x, nl, ol, a, ns, ord, Z, rfl, ⟨L, hA, hO⟩, hH, hn, ho, hln, h5, k⟩ := h
    obtain ⟨i, j, v, rfl⟩ := len3 hln
    have nd := sc_set_value.nd
    obtain ⟨tv, mv⟩ := M.v
    refine ⟨_, pss_cons (ps_asg (pv 1) (pg_unl rfl (pgs_cons (pg_name (i := 3) nd rfl (Or.inl rfl)) (pgs_cons (pg_name (i := 4) nd rfl (Or.inl rfl)) (pgs_cons (pg_name (i := 5) nd rfl (Or.inl rfl)) pgs_nil)))))
      (pss_cons (ps_if (PW.pt (pw_or (pt_not (pt_val (pc cb hr (by decide) (by rfl) (pa_cons (pv 0) (pa_cons (pv 3) pa_nil))))) (pw_or1 (pt_not (pt_val (pc cl hr (by decide) (by rfl) (pa_cons (pv 0) (pa_cons (pv 4) pa_nil)))))))) (pss_one (ps_ret (pe_lst (pa_cons (pe_un un_neg pe_int) pa_nil)))) pss_nil)
      (pss_cons (ps_if (pt_cmpR op_gt (pv 5) (pe_glob (v := .int 99) (by rfl) mv ⟨_, rfl⟩) (nomark _)) (pss_one (ps_ret (pe_lst (pa_cons (pe_un un_neg pe_int) pa_nil)))) pss_nil)
      (pss_cons (ps_set (i := 6) nd rfl (Or.inl rfl) (pe_ix ix_list (pe_ix ix_list (pe_fld (pv 0) rfl) (pv 3) (fun _ _ => rfl)) (pv 4) (fun _ _ => rfl)))
      (pss_cons (ps_asg (pv 5) (pg_sub (pe_ix ix_list (pe_fld (pv 0) rfl) (pv 3) (fun _ _ => rfl)) (pv 4) set_list))
      (pss_one (ps_ret (pe_lst (pa_cons (pv 6) pa_nil)))))))), ?_⟩
    refine ⟨.ref nl, rfl, nl, nL [i, j, v], rfl, SqL.of hn, rfl, nV i, [nV j, nV v], rfl, nV j, [nV v], rfl, nV v, [], rfl, rfl, ?_⟩
    refine ⟨.ref x, rfl, nV i, rfl, x, L, a, i, rfl, hA, _, rfl, ?_⟩
    cases hb : Kh435.isBidder a i with
    | false =>
      refine ⟨2, rfl, (by show 1 ≤ sizeLine; decide), fun p np => ?_⟩
      exact k.one hH (a := a) (by
        show (if Kh435.isBidder a i = false ∨ Kh435.isLot a j = false then (a, Kh435.single (-2)) else if 99 < v then (a, Kh435.single (-22)) else (Kh435.withValue a i j v, Kh435.single (Kh435.valueOf a i j))) = _
        rw [if_pos (.inl hb)]) ⟨L, hA, hO⟩ (Kept.same (Same.refl _)) np
    | true =>
      refine ⟨.ref x, rfl, nV j, rfl, x, L, a, j, rfl, hA, _, rfl, ?_⟩
      cases hl : Kh435.isLot a j with
      | false =>
        refine ⟨2, rfl, (by show 1 ≤ sizeLine; decide), fun p np => ?_⟩
        exact k.one hH (a := a) (by
          show (if Kh435.isBidder a i = false ∨ Kh435.isLot a j = false then (a, Kh435.single (-2)) else if 99 < v then (a, Kh435.single (-22)) else (Kh435.withValue a i j v, Kh435.single (Kh435.valueOf a i j))) = _
          rw [if_pos (.inr hl)]) ⟨L, hA, hO⟩ (Kept.same (Same.refl _)) np
      | true =>
        have no : ¬ (Kh435.isBidder a i = false ∨ Kh435.isLot a j = false) := by
          rw [hb, hl]
          simp
        refine ⟨nV v, rfl, _, _, rfl, rfl, _, rfl, ite2 (fun c => ?_) (fun c => ?_)⟩
        · have c1 : 99 < v := by
            have := of_decide_eq_true c
            omega
          refine ⟨22, rfl, (by show 1 ≤ sizeLine; decide), fun p np => ?_⟩
          exact k.one hH (a := a) (by
            show (if Kh435.isBidder a i = false ∨ Kh435.isLot a j = false then (a, Kh435.single (-2)) else if 99 < v then (a, Kh435.single (-22)) else (Kh435.withValue a i j v, Kh435.single (Kh435.valueOf a i j))) = _
            rw [if_neg no, if_pos c1]) ⟨L, hA, hO⟩ (Kept.same (Same.refl _)) np
        · have c1 : ¬ 99 < v := fun z => c (decide_eq_true (by omega))
          have hi := lt_of_bidder hb
          have hj := lt_of_lot hl
          have hiv : i < a.values.length := by
            rw [hA.wf.vb]
            exact hi
          obtain ⟨r, hr1, er⟩ := hA.rows.get (List.getElem?_eq_getElem hiv)
          have hrl : a.values[i].length = a.lotCount := hA.wf.rows _ (List.getElem_mem hiv)
          generalize hrow : a.values[i] = row at er hrl
          have hrow? : a.values[i]? = some row := by rw [List.getElem?_eq_getElem hiv, hrow]
          have hjr : j < row.length := by omega
          refine ⟨.ref x, rfl, x, C, L.dx, _, .ref L.wl, rfl, hA.ob, T.cl, T.n2, aF_worths, nV i, rfl, L.wl, L.rows.map V.ref, (i : Int), .ref r, rfl, rfl, SqL.of hA.wl, atI_nat (refs_get hr1), nV j, rfl, r, nL row, (j : Int), nV row[j], rfl, rfl, SqL.of er, atI_nV (List.getElem?_eq_getElem hjr), ?_⟩
          refine ⟨nV v, rfl, .ref x, rfl, x, C, L.dx, _, .ref L.wl, rfl, hA.ob, T.cl, T.n2, aF_worths, nV i, rfl, L.wl, L.rows.map V.ref, (i : Int), .ref r, rfl, rfl, SqL.of hA.wl, atI_nat (refs_get hr1), nV j, rfl, r, nL row, (j : Int), j, rfl, rfl, er, ixN_nat (by rw [nL_length]; exact hjr), ?_⟩
          rw [nL_set]
          refine ⟨nV row[j], rfl, (by show 1 ≤ sizeLine; decide), fun p np => ?_⟩
          exact k.one hH (a := Kh435.withValue a i j v) (n := (row[j] : Int)) (by
            show (if Kh435.isBidder a i = false ∨ Kh435.isLot a j = false then (a, Kh435.single (-2)) else if 99 < v then (a, Kh435.single (-22)) else (Kh435.withValue a i j v, Kh435.single (Kh435.valueOf a i j))) = _
            rw [if_neg no, if_neg c1]
            unfold Kh435.valueOf Kh435.elementAt
            rw [List.getD_eq_getElem?_getD (l := a.values), hrow?, List.getD_eq_getElem?_getD]
            show (_, Kh435.single (((row[j]?.getD 0 : Nat)) : Int)) = _
            rw [List.getElem?_eq_getElem hjr]
            rfl) ⟨L, hA.val hr1 hrow?, hO⟩ (Kept.put (hO.rows r (List.mem_of_getElem? hr1))) np
theorem d_set_budget (D : DefAt K mg "set_budget" s_set_budget ["auction", "numbers", "order"]) (T : ClsA K C) (M : Most mg) (cb : Callee P w K mg base 1 "has_bidder" (spHasB C)) : Callee P w K mg base 9 "set_budget" (spDeed C 2) := by
  refine D.callee sc_set_budget (fun vs H Q E h => ?_) (fun f cdv A outer s H vs Q E hr h => ?_)
  · obtain ⟨_, _, _, _, _, _, _, rfl, _⟩ := h
    rfl
  · obtain ⟨x, nl, ol, a, ns, ord, Z, rfl, ⟨L, hA, hO⟩, hH, hn, ho, hln, h5, k⟩ := h
    obtain ⟨i, v, rfl⟩ := len2 hln
    have nd := sc_set_budget.nd
    obtain ⟨tv, mv⟩ := M.b
    refine ⟨_, pss_cons (ps_asg (pv 1) (pg_unl rfl (pgs_cons (pg_name (i := 3) nd rfl (Or.inl rfl)) (pgs_cons (pg_name (i := 4) nd rfl (Or.inl rfl)) pgs_nil))))
      (pss_cons (ps_if (pt_not (pt_val (pc cb hr (by decide) (by rfl) (pa_cons (pv 0) (pa_cons (pv 3) pa_nil))))) (pss_one (ps_ret (pe_lst (pa_cons (pe_un un_neg pe_int) pa_nil)))) pss_nil)
      (pss_cons (ps_if (pt_cmpR op_gt (pv 4) (pe_glob (v := .int 500) (by rfl) mv ⟨_, rfl⟩) (nomark _)) (pss_one (ps_ret (pe_lst (pa_cons (pe_un un_neg pe_int) pa_nil)))) pss_nil)
      (pss_cons (ps_set (i := 5) nd rfl (Or.inl rfl) (pe_ix ix_list (pe_fld (pv 0) rfl) (pv 3) (fun _ _ => rfl)))
      (pss_cons (ps_asg (pv 4) (pg_sub (pe_fld (pv 0) rfl) (pv 3) set_list))
      (pss_one (ps_ret (pe_lst (pa_cons (pv 5) pa_nil)))))))), ?_⟩
    refine ⟨.ref nl, rfl, nl, nL [i, v], rfl, SqL.of hn, rfl, nV i, [nV v], rfl, nV v, [], rfl, rfl, ?_⟩
    refine ⟨.ref x, rfl, nV i, rfl, x, L, a, i, rfl, hA, _, rfl, ?_⟩
    cases hb : Kh435.isBidder a i with
    | false =>
      refine ⟨2, rfl, (by show 1 ≤ sizeLine; decide), fun p np => ?_⟩
      exact k.one hH (a := a) (by
        show (if Kh435.isBidder a i = false then (a, Kh435.single (-2)) else if 500 < v then (a, Kh435.single (-22)) else (Kh435.withBudget a i v, Kh435.single (Kh435.elementAt a.budgets i))) = _
        rw [if_pos hb]) ⟨L, hA, hO⟩ (Kept.same (Same.refl _)) np
    | true =>
      have no : ¬ (Kh435.isBidder a i = false) := by
        rw [hb]
        simp
      refine ⟨nV v, rfl, _, _, rfl, rfl, _, rfl, ite2 (fun c => ?_) (fun c => ?_)⟩
      · have c1 : 500 < v := by
          have := of_decide_eq_true c
          omega
        refine ⟨22, rfl, (by show 1 ≤ sizeLine; decide), fun p np => ?_⟩
        exact k.one hH (a := a) (by
          show (if Kh435.isBidder a i = false then (a, Kh435.single (-2)) else if 500 < v then (a, Kh435.single (-22)) else (Kh435.withBudget a i v, Kh435.single (Kh435.elementAt a.budgets i))) = _
          rw [if_neg no, if_pos c1]) ⟨L, hA, hO⟩ (Kept.same (Same.refl _)) np
      · have c1 : ¬ 500 < v := fun z => c (decide_eq_true (by omega))
        have hi := lt_of_bidder hb
        refine ⟨.ref x, rfl, x, C, L.dx, _, .ref L.bl, rfl, hA.ob, T.cl, T.n3, aF_budgets, nV i, rfl, L.bl, nL a.budgets, (i : Int), nV a.budgets[i], rfl, rfl, SqL.of hA.bl, atI_nV (List.getElem?_eq_getElem hi), ?_⟩
        refine ⟨nV v, rfl, .ref x, rfl, x, C, L.dx, _, .ref L.bl, rfl, hA.ob, T.cl, T.n3, aF_budgets, nV i, rfl, L.bl, nL a.budgets, (i : Int), i, rfl, rfl, hA.bl, ixN_nat (by rw [nL_length]; exact hi), ?_⟩
        rw [nL_set]
        refine ⟨nV a.budgets[i], rfl, (by show 1 ≤ sizeLine; decide), fun p np => ?_⟩
        exact k.one hH (a := Kh435.withBudget a i v) (n := (a.budgets[i] : Int)) (by
          show (if Kh435.isBidder a i = false then (a, Kh435.single (-2)) else if 500 < v then (a, Kh435.single (-22)) else (Kh435.withBudget a i v, Kh435.single (Kh435.elementAt a.budgets i))) = _
          rw [if_neg no, if_neg c1]
          unfold Kh435.elementAt
          rw [List.getD_eq_getElem?_getD, List.getElem?_eq_getElem hi]
          rfl) ⟨L, hA.bud, hO⟩ (Kept.put hO.bl) np
theorem winnerResult_is (a : Kh435.Auction) (j : Nat) : ∃ n l, Kh435.winnerResult a j = Kh435.withValues n l ∧ oT (outOne a a.budgets j) = n :: l := by
  unfold Kh435.winnerResult outOne
  cases Kh435.winner a a.budgets j with
  | none => exact ⟨_, _, rfl, rfl⟩
  | some i => exact ⟨_, _, rfl, rfl⟩
theorem d_sell_lot (D : DefAt K mg "sell_lot" s_sell_lot ["auction", "numbers", "order"]) (ci : Callee P w K mg base 1 "is_remaining" (spIsRem C)) (ct : Callee P w K mg base 1 "told" spTold) (cs : Callee P w K mg base 3 "sell" (spSell C)) : Callee P w K mg base 9 "sell_lot" (spDeed C 3) := by
  refine D.callee sc_sell_lot (fun vs H Q E h => ?_) (fun f cdv A outer s H vs Q E hr h => ?_)
  · obtain ⟨_, _, _, _, _, _, _, rfl, _⟩ := h
    rfl
  · obtain ⟨x, nl, ol, a, ns, ord, Z, rfl, ⟨L, hA, hO⟩, hH, hn, ho, hln, h5, k⟩ := h
    obtain ⟨j, rfl⟩ := len1 hln
    refine ⟨_, pss_one (ps_ret (pe_ifExp (pt_val (pc ci hr (by decide) (by rfl) (pa_cons (pv 0) (pa_cons (pe_ix ix_list (pv 1) pe_int (fun _ _ => rfl)) pa_nil))))
      (pc ct hr (by decide) (by rfl) (pa_cons (pc cs hr (by decide) (by rfl) (pa_cons (pv 0) (pa_cons (pe_ix ix_list (pv 1) pe_int (fun _ _ => rfl)) pa_nil))) pa_nil)) (pe_lst (pa_cons (pe_un un_neg pe_int) pa_nil)))), ?_⟩
    refine ⟨.ref x, rfl, .ref nl, rfl, nl, nL [j], 0, nV j, rfl, rfl, SqL.of hn, atI_nat (j := 0) rfl, x, L, a, j, rfl, hA, _, rfl, ?_⟩
    have ap : Kh435.apply a (callOf 3 [j] ord) = if a.remaining.contains j = false then (a, Kh435.single (-2)) else (Kh435.afterSale a j, Kh435.winnerResult a j) := rfl
    cases hc : a.remaining.contains j with
    | false =>
      refine ⟨2, rfl, (by show 1 ≤ sizeLine; decide), fun p np => ?_⟩
      exact k.one hH (a := a) (by rw [ap, if_pos hc]) ⟨L, hA, hO⟩ (Kept.same (Same.refl _)) np
    | true =>
      refine ⟨.ref x, rfl, .ref nl, rfl, nl, nL [j], 0, nV j, rfl, rfl, SqL.of hn, atI_nat (j := 0) rfl, x, a, j, Z, rfl, ⟨L, hA, hO⟩, hH, mem_of_rem hc, fun H1 t hZ1 kp1 et => ?_⟩
      refine ⟨t, _, rfl, et, fun H2 p s2 n2 e2 => ?_⟩
      obtain ⟨n, l, w1, w2⟩ := winnerResult_is a j
      rw [w2] at e2
      exact k.list (new_off hH kp1 n2) (a := Kh435.afterSale a j) (by rw [ap, if_neg (by rw [hc]; simp), w1]) (hZ1.same s2) (kp1.trans (Kept.same s2)) e2
theorem d_withdraw_lot (D : DefAt K mg "withdraw_lot" s_withdraw_lot ["auction", "numbers", "order"]) (B : Bi mg) (T : ClsA K C) (ci : Callee P w K mg base 1 "is_remaining" (spIsRem C)) (cs : Callee P w K mg base 1 "withdraw" (spWithdraw C)) : Callee P w K mg base 9 "withdraw_lot" (spDeed C 4) := by
  refine D.callee sc_withdraw_lot (fun vs H Q E h => ?_) (fun f cdv A outer s H vs Q E hr h => ?_)
  · obtain ⟨_, _, _, _, _, _, _, rfl, _⟩ := h
    rfl
  · obtain ⟨x, nl, ol, a, ns, ord, Z, rfl, ⟨L, hA, hO⟩, hH, hn, ho, hln, h5, k⟩ := h
    obtain ⟨j, rfl⟩ := len1 hln
    refine ⟨_, pss_cons (ps_if (pt_not (pt_val (pc ci hr (by decide) (by rfl) (pa_cons (pv 0) (pa_cons (pe_ix ix_list (pv 1) pe_int (fun _ _ => rfl)) pa_nil))))) (pss_one (ps_ret (pe_lst (pa_cons (pe_un un_neg pe_int) pa_nil)))) pss_nil)
      (pss_cons (ps_expr (pc cs hr (by decide) (by rfl) (pa_cons (pv 0) (pa_cons (pe_ix ix_list (pv 1) pe_int (fun _ _ => rfl)) pa_nil))))
      (pss_one (ps_ret (pe_lst (pa_cons (pe_callB call_len_seq (by rfl) B.len PySem.boot_len (pa_cons (pe_fld (pv 0) rfl) pa_nil)) pa_nil))))), ?_⟩
    refine ⟨.ref x, rfl, .ref nl, rfl, nl, nL [j], 0, nV j, rfl, rfl, SqL.of hn, atI_nat (j := 0) rfl, x, L, a, j, rfl, hA, _, rfl, ?_⟩
    have ap : Kh435.apply a (callOf 4 [j] ord) = if a.remaining.contains j = false then (a, Kh435.single (-2)) else (withdrawn a j, Kh435.single (a.remaining.length - 1 : Nat)) := rfl
    cases hc : a.remaining.contains j with
    | false =>
      refine ⟨2, rfl, (by show 1 ≤ sizeLine; decide), fun p np => ?_⟩
      exact k.one hH (a := a) (by rw [ap, if_pos hc]) ⟨L, hA, hO⟩ (Kept.same (Same.refl _)) np
    | true =>
      have hm := mem_of_rem hc
      refine ⟨.ref x, rfl, .ref nl, rfl, nl, nL [j], 0, nV j, rfl, rfl, SqL.of hn, atI_nat (j := 0) rfl, x, a, j, Z, rfl, ⟨L, hA, hO⟩, hH, hm, fun H1 hZ1 kp1 => ?_⟩
      obtain ⟨L1, hA1, hO1⟩ := hZ1
      refine ⟨.ref x, rfl, x, C, L1.dx, _, .ref L1.rl, rfl, hA1.ob, T.cl, T.n4, aF_remaining, L1.rl, nL (a.remaining.erase j), rfl, .inl (SqL.of hA1.rl), (by show 1 ≤ sizeLine; decide), fun p np => ?_⟩
      have e : ((nL (a.remaining.erase j)).length : Int) = ((a.remaining.length - 1 : Nat) : Int) := by rw [nL_length, List.length_erase_of_mem hm]
      rw [e] at *
      exact k.one hH (a := withdrawn a j) (by rw [ap, if_neg (by rw [hc]; simp)]) ⟨L1, hA1, hO1⟩ kp1 np
theorem d_winner (D : DefAt K mg "winner" s_winner ["auction", "numbers", "order"]) (T : ClsA K C) (ci : Callee P w K mg base 1 "is_remaining" (spIsRem C)) (ct : Callee P w K mg base 1 "told" spTold) (co : Callee P w K mg base 2 "outcome_of" spOut) : Callee P w K mg base 9 "winner" (spDeed C 6) := by
  refine D.callee sc_winner (fun vs H Q E h => ?_) (fun f cdv A outer s H vs Q E hr h => ?_)
  · obtain ⟨_, _, _, _, _, _, _, rfl, _⟩ := h
    rfl
  · obtain ⟨x, nl, ol, a, ns, ord, Z, rfl, ⟨L, hA, hO⟩, hH, hn, ho, hln, h5, k⟩ := h
    obtain ⟨j, rfl⟩ := len1 hln
    refine ⟨_, pss_cons (ps_if (pt_not (pt_val (pc ci hr (by decide) (by rfl) (pa_cons (pv 0) (pa_cons (pe_ix ix_list (pv 1) pe_int (fun _ _ => rfl)) pa_nil))))) (pss_one (ps_ret (pe_lst (pa_cons (pe_un un_neg pe_int) pa_nil)))) pss_nil)
      (pss_one (ps_ret (pc ct hr (by decide) (by rfl) (pa_cons (pc co hr (by decide) (by rfl) (pa_cons (pe_fld (pv 0) rfl) (pa_cons (pe_fld (pv 0) rfl) (pa_cons (pe_ix ix_list (pv 1) pe_int (fun _ _ => rfl)) pa_nil)))) pa_nil)))), ?_⟩
    refine ⟨.ref x, rfl, .ref nl, rfl, nl, nL [j], 0, nV j, rfl, rfl, SqL.of hn, atI_nat (j := 0) rfl, x, L, a, j, rfl, hA, _, rfl, ?_⟩
    have ap : Kh435.apply a (callOf 6 [j] ord) = (a, if a.remaining.contains j = false then Kh435.single (-2) else Kh435.winnerResult a j) := rfl
    cases hc : a.remaining.contains j with
    | false =>
      refine ⟨2, rfl, (by show 1 ≤ sizeLine; decide), fun p np => ?_⟩
      exact k.one hH (a := a) (by rw [ap, if_pos hc]) ⟨L, hA, hO⟩ (Kept.same (Same.refl _)) np
    | true =>
      have hlt := hA.wf.lt j (mem_of_rem hc)
      refine ⟨.ref x, rfl, x, C, L.dx, _, .ref L.wl, rfl, hA.ob, T.cl, T.n2, aF_worths, .ref x, rfl, x, C, L.dx, _, .ref L.bl, rfl, hA.ob, T.cl, T.n3, aF_budgets, .ref nl, rfl, nl, nL [j], 0, nV j, rfl, rfl, SqL.of hn, atI_nat (j := 0) rfl,
        L.wl, L.bl, a, a.budgets, j, a.lotCount, rfl, hA.grid, rfl, hlt, fun H1 t s1 n1 et => ?_⟩
      refine ⟨t, _, rfl, et, fun H2 p s2 n2 e2 => ?_⟩
      obtain ⟨n, l, w1, w2⟩ := winnerResult_is a j
      rw [w2] at e2
      exact k.list (new_off hH (Kept.same s1) n2) (a := a) (by rw [ap, if_neg (by rw [hc]; simp), w1]) ⟨L, (hA.same s1).same s2, hO⟩ (Kept.same (s1.trans s2)) e2
theorem d_bid (D : DefAt K mg "bid" s_bid ["auction", "numbers", "order"]) (T : ClsA K C) (cb : Callee P w K mg base 1 "has_bidder" (spHasB C)) (cl : Callee P w K mg base 1 "has_lot" (spHasL C)) (cf : Callee P w K mg base 1 "bids_for" spBids) : Callee P w K mg base 9 "bid" (spDeed C 7) := by
  refine D.callee sc_bid (fun vs H Q E h => ?_) (fun f cdv A outer s H vs Q E hr h => ?_)
  · obtain ⟨_, _, _, _, _, _, _, rfl, _⟩ := h
    rfl
  · obtain ⟨x, nl, ol, a, ns, ord, Z, rfl, ⟨L, hA, hO⟩, hH, hn, ho, hln, h5, k⟩ := h
    obtain ⟨i, j, rfl⟩ := len2 hln
    have nd := sc_bid.nd
    refine ⟨_, pss_cons (ps_asg (pv 1) (pg_unl rfl (pgs_cons (pg_name (i := 3) nd rfl (Or.inl rfl)) (pgs_cons (pg_name (i := 4) nd rfl (Or.inl rfl)) pgs_nil))))
      (pss_cons (ps_if (PW.pt (pw_or (pt_not (pt_val (pc cb hr (by decide) (by rfl) (pa_cons (pv 0) (pa_cons (pv 3) pa_nil))))) (pw_or1 (pt_not (pt_val (pc cl hr (by decide) (by rfl) (pa_cons (pv 0) (pa_cons (pv 4) pa_nil)))))))) (pss_one (ps_ret (pe_lst (pa_cons (pe_un un_neg pe_int) pa_nil)))) pss_nil)
      (pss_one (ps_ret (pe_lst (pa_cons (pe_ix ix_list (pc cf hr (by decide) (by rfl) (pa_cons (pe_fld (pv 0) rfl) (pa_cons (pe_fld (pv 0) rfl) (pa_cons (pv 4) pa_nil)))) (pv 3) (fun _ _ => rfl)) pa_nil))))), ?_⟩
    refine ⟨.ref nl, rfl, nl, nL [i, j], rfl, SqL.of hn, rfl, nV i, [nV j], rfl, nV j, [], rfl, rfl, ?_⟩
    refine ⟨.ref x, rfl, nV i, rfl, x, L, a, i, rfl, hA, _, rfl, ?_⟩
    have ap : Kh435.apply a (callOf 7 [i, j] ord) = (a, if Kh435.isBidder a i = false ∨ Kh435.isLot a j = false then Kh435.single (-2) else Kh435.single (Kh435.bid a a.budgets i j)) := rfl
    cases hb : Kh435.isBidder a i with
    | false =>
      refine ⟨2, rfl, (by show 1 ≤ sizeLine; decide), fun p np => ?_⟩
      exact k.one hH (a := a) (by rw [ap, if_pos (.inl hb)]) ⟨L, hA, hO⟩ (Kept.same (Same.refl _)) np
    | true =>
      refine ⟨.ref x, rfl, nV j, rfl, x, L, a, j, rfl, hA, _, rfl, ?_⟩
      cases hl : Kh435.isLot a j with
      | false =>
        refine ⟨2, rfl, (by show 1 ≤ sizeLine; decide), fun p np => ?_⟩
        exact k.one hH (a := a) (by rw [ap, if_pos (.inr hl)]) ⟨L, hA, hO⟩ (Kept.same (Same.refl _)) np
      | true =>
        have no : ¬ (Kh435.isBidder a i = false ∨ Kh435.isLot a j = false) := by
          rw [hb, hl]
          simp
        refine ⟨.ref x, rfl, x, C, L.dx, _, .ref L.wl, rfl, hA.ob, T.cl, T.n2, aF_worths, .ref x, rfl, x, C, L.dx, _, .ref L.bl, rfl, hA.ob, T.cl, T.n3, aF_budgets, nV j, rfl,
          L.wl, L.bl, a.values, a.budgets, j, a.lotCount, rfl, hA.grid, lt_of_lot hl, fun H1 q s1 n1 e1 => ?_⟩
        refine ⟨nV i, rfl, q, nL (bidsFor a.values a.budgets j), (i : Int), nV (Kh435.bid a a.budgets i j), rfl, rfl, SqL.of e1, atI_nV (bidsFor_get hA.wf.vb (lt_of_bidder hb)), (by show 1 ≤ sizeLine; decide), fun p np => ?_⟩
        exact k.one hH (a := a) (by rw [ap, if_neg no]) ⟨L, hA.same s1, hO⟩ (Kept.same s1) np
end
end Pb
set_option Elab.async false
set_option linter.all false
set_option maxRecDepth 100000
set_option maxHeartbeats 4000000
namespace Pb
open PySem PySem.Spec PyProof.Rows L2
abbrev s_sell_all_best : Stmt := topS 35
theorem sc_sell_all_best : FnScope ["auction", "numbers", "order", "best", "found", "lot"] ["auction", "numbers", "order"] (defScope s_sell_all_best) := ⟨rfl, rfl, rfl, by decide +kernel, rfl, by decide +kernel, by decide +kernel⟩
abbrev s_simulate_order : Stmt := topS 38
theorem sc_simulate_order : FnScope ["auction", "numbers", "order", "found", "outcome"] ["auction", "numbers", "order"] (defScope s_simulate_order) := ⟨rfl, rfl, rfl, by decide +kernel, rfl, by decide +kernel, by decide +kernel⟩
abbrev s_tell_revenue : Stmt := topS 39
theorem sc_tell_revenue : FnScope ["auction", "numbers", "order"] ["auction", "numbers", "order"] (defScope s_tell_revenue) := ⟨rfl, rfl, rfl, by decide +kernel, rfl, by decide +kernel, by decide +kernel⟩
abbrev s_max_revenue_order : Stmt := topS 40
theorem sc_max_revenue_order : FnScope ["auction", "numbers", "order"] ["auction", "numbers", "order"] (defScope s_max_revenue_order) := ⟨rfl, rfl, rfl, by decide +kernel, rfl, by decide +kernel, by decide +kernel⟩
abbrev s_min_revenue_order : Stmt := topS 41
theorem sc_min_revenue_order : FnScope ["auction", "numbers", "order"] ["auction", "numbers", "order"] (defScope s_min_revenue_order) := ⟨rfl, rfl, rfl, by decide +kernel, rfl, by decide +kernel, by decide +kernel⟩
abbrev s_highest_bid_first : Stmt := topS 42
theorem sc_highest_bid_first : FnScope ["auction", "numbers", "order"] ["auction", "numbers", "order"] (defScope s_highest_bid_first) := ⟨rfl, rfl, rfl, by decide +kernel, rfl, by decide +kernel, by decide +kernel⟩
abbrev s_count_best_orders : Stmt := topS 43
theorem sc_count_best_orders : FnScope ["auction", "numbers", "order", "most", "revenue"] ["auction", "numbers", "order"] (defScope s_count_best_orders) := ⟨rfl, rfl, rfl, by decide +kernel, rfl, by decide +kernel, by decide +kernel⟩
abbrev s_revenue_spread : Stmt := topS 44
theorem sc_revenue_spread : FnScope ["auction", "numbers", "order"] ["auction", "numbers", "order"] (defScope s_revenue_spread) := ⟨rfl, rfl, rfl, by decide +kernel, rfl, by decide +kernel, by decide +kernel⟩
abbrev s_max_revenue_if_budget : Stmt := topS 45
theorem sc_max_revenue_if_budget : FnScope ["auction", "numbers", "order", "bidder", "budget", "budgets"] ["auction", "numbers", "order"] (defScope s_max_revenue_if_budget) := ⟨rfl, rfl, rfl, by decide +kernel, rfl, by decide +kernel, by decide +kernel⟩
abbrev s_max_revenue_if_value : Stmt := topS 46
theorem sc_max_revenue_if_value : FnScope ["auction", "numbers", "order", "bidder", "lot", "value", "worths"] ["auction", "numbers", "order"] (defScope s_max_revenue_if_value) := ⟨rfl, rfl, rfl, by decide +kernel, rfl, by decide +kernel, by decide +kernel⟩
abbrev s_max_revenue_without_bidder : Stmt := topS 47
theorem sc_max_revenue_without_bidder : FnScope ["auction", "numbers", "order", "budgets"] ["auction", "numbers", "order"] (defScope s_max_revenue_without_bidder) := ⟨rfl, rfl, rfl, by decide +kernel, rfl, by decide +kernel, by decide +kernel⟩
abbrev s_max_revenue_if_withdrawn : Stmt := topS 48
theorem sc_max_revenue_if_withdrawn : FnScope ["auction", "numbers", "order", "lots", "lot"] ["auction", "numbers", "order"] (defScope s_max_revenue_if_withdrawn) := ⟨rfl, rfl, rfl, by decide +kernel, rfl, by decide +kernel, by decide +kernel⟩
theorem Off.mono {Z Z' : Addr → Prop} {x : Addr} {L : Loc} (o : Off Z x L) (h : ∀ b, Z' b → Z b) : Off Z' x L :=
  ⟨fun z => o.x (h _ z), fun z => o.bl (h _ z), fun z => o.sl (h _ z), fun z => o.wd (h _ z), fun r hr z => o.rows r hr (h _ z), fun z => o.wl (h _ z), fun z => o.rl (h _ z)⟩
theorem Kept.mono {Z Z' : Addr → Prop} {H H' : Hp} (k : Kept Z H H') (h : ∀ b, Z' b → Z b) : Kept Z' H H' := fun b o z e => k b o (h b z) e
theorem AucZ.mono {C : Addr} {Z Z' : Addr → Prop} {H : Hp} {x : Addr} {a : Kh435.Auction} (k : AucZ C Z H x a) (h : ∀ b, Z' b → Z b) : AucZ C Z' H x a := by
  obtain ⟨L, hA, hO⟩ := k
  exact ⟨L, hA, hO.mono h⟩
/-- places that are new are none of the auction's -/
theorem Off.more {C : Addr} {Z : Addr → Prop} {H : Hp} {x : Addr} {L : Loc} {a : Kh435.Auction} (hA : AucL C H x L a) (o : Off Z x L) {q : Addr} (h : H q = none) : Off (fun b => Z b ∨ b = q) x L := by
  refine ⟨fun z => ?_, fun z => ?_, fun z => ?_, fun z => ?_, fun r hr z => ?_, fun z => ?_, fun z => ?_⟩
  · rcases z with z | z
    · exact o.x z
    · exact ne_of_none hA.ob h z
  · rcases z with z | z
    · exact o.bl z
    · exact ne_of_none hA.bl h z
  · rcases z with z | z
    · exact o.sl z
    · exact ne_of_none hA.sl h z
  · rcases z with z | z
    · exact o.wd z
    · exact ne_of_none hA.wd h z
  · rcases z with z | z
    · exact o.rows r hr z
    · obtain ⟨i, hi, e⟩ := List.getElem_of_mem hr
      obtain ⟨_, _, q1⟩ := hA.rows.at_ i r (by rw [List.getElem?_eq_getElem hi, e])
      exact ne_of_none q1 h z
  · rcases z with z | z
    · exact o.wl z
    · exact ne_of_none hA.wl h z
  · rcases z with z | z
    · exact o.rl z
    · exact ne_of_none hA.rl h z
theorem order_in {a : Kh435.Auction} (w : WF a) {o : List Nat} (h : Kh435.isOrder a o = true) : ∀ x ∈ o, x < a.lotCount := fun x hx =>
  w.lt x (mem_of_rem (List.all_eq_true.mp ((isOrder_iff a o).mp h).1 x hx))
theorem perm_in {a : Kh435.Auction} (w : WF a) {o : List Nat} (h : o.Perm a.remaining) : (∀ x ∈ o, x < a.lotCount) ∧ o.length ≤ 5 := ⟨fun x hx => w.lt x (h.mem_iff.mp hx), by rw [h.length_eq]; exact w.few_rem⟩
section
variable {P : Program} {w : World} {K : PySem.W.Frag} {mg : Str → Option Value} {base : Heap} {C : Addr}
theorem d_sell_all (D : DefAt K mg "sell_all_best" s_sell_all_best ["auction", "numbers", "order"]) (B : Bi mg) (T : ClsA K C) (cb : Callee P w K mg base 8 "best_order" (spBest C)) (co : Callee P w K mg base 6 "order_answer" (spOrdAns C)) (cs : Callee P w K mg base 3 "sell" (spSell C)) : Callee P w K mg base 9 "sell_all_best" (spDeed C 5) := by
  refine D.callee sc_sell_all_best (fun vs H Q E h => ?_) (fun f cdv A outer s H vs Q E hr h => ?_)
  · obtain ⟨_, _, _, _, _, _, _, rfl, _⟩ := h
    rfl
  · obtain ⟨x, nl, ol, a, ns, ord, Z, rfl, ⟨L, hA, hO⟩, hH, hn, ho, hln, h5, k⟩ := h
    obtain rfl := len0 hln
    have nd := sc_sell_all_best.nd
    refine ⟨_, pss_cons (ps_if (pt_cmpR op_eq (pe_callB call_len_seq (by rfl) B.len PySem.boot_len (pa_cons (pe_fld (pv 0) rfl) pa_nil)) pe_int (nomark _)) (pss_one (ps_ret (pe_lst (pa_cons (pe_un un_neg pe_int) pa_nil)))) pss_nil)
      (pss_cons (ps_set (i := 3) nd rfl (Or.inl rfl) (pc cb hr (by decide) (by rfl) (pa_cons (pv 0) pa_nil)))
      (pss_cons (ps_set (i := 4) nd rfl (Or.inl rfl) (pc co hr (by decide) (by rfl) (pa_cons (pv 0) (pa_cons (pv 3) pa_nil))))
      (pss_cons (ps_for PassesOwn.never rfl (pi_list (pv 3)) (pg_name (i := 5) nd rfl (Or.inl rfl)) (pss_one (ps_expr (pc cs hr (by decide) (by rfl) (pa_cons (pv 0) (pa_cons (pv 5) pa_nil))))))
      (pss_one (ps_ret (pv 4)))))), ?_⟩
    have ap : Kh435.apply a (callOf 5 [] ord) = if a.remaining = [] then (a, Kh435.single (-6)) else ((Kh435.maxRevenueOrder a).foldl Kh435.afterSale a, Kh435.withValues (Kh435.revenueOf a (Kh435.maxRevenueOrder a)) (Kh435.maxRevenueOrder a)) := rfl
    refine ⟨.ref x, rfl, x, C, L.dx, _, .ref L.rl, rfl, hA.ob, T.cl, T.n4, aF_remaining, L.rl, nL a.remaining, rfl, .inl (SqL.of hA.rl), rfl, _, rfl, ite2 (fun c => ?_) (fun c => ?_)⟩
    · have c1 : a.remaining = [] := by
        have := V.int.inj (of_decide_eq_true c)
        rw [nL_length] at this
        exact List.eq_nil_of_length_eq_zero (by omega)
      refine ⟨6, rfl, (by show 1 ≤ sizeLine; decide), fun p np => ?_⟩
      exact k.one hH (a := a) (by rw [ap, if_pos c1]) ⟨L, hA, hO⟩ (Kept.same (Same.refl _)) np
    · have c1 : ¬ a.remaining = [] := fun z => c (decide_eq_true (by rw [z]; rfl))
      obtain ⟨q1, q2⟩ := perm_in hA.wf (max_perm a)
      refine ⟨.ref x, rfl, x, L, a, rfl, hA, fun H1 bo s1 n1 e1 => ?_⟩
      refine ⟨.ref x, rfl, .ref bo, rfl, x, bo, L, a, _, rfl, hA.same s1, e1, q1, q2, fun H2 fo s2 n2 e2 => ?_⟩
      have hA2 := (hA.same s1).same s2
      have hO2 : Off (fun b => Z b ∨ (b = bo ∨ b = fo)) x L := ((hO.more hA n1).more (hA.same s1) n2).mono fun b z => by
        rcases z with z | z | z
        · exact .inl (.inl z)
        · exact .inl (.inr z)
        · exact .inr z
      have e1b := s2 _ _ e1
      have hH2 : Held' (fun b => Z b ∨ (b = bo ∨ b = fo)) H2 := fun b z => by
        rcases z with z | rfl | rfl
        · obtain ⟨o, e⟩ := hH b z
          exact ⟨o, s2 _ _ (s1 _ _ e)⟩
        · exact ⟨_, e1b⟩
        · exact ⟨_, e2⟩
      refine ⟨.ref bo, rfl, bo, rfl, ⟨_, SqL.of e1b⟩, for_list (K := K) (a := bo) (xs := nL (Kh435.maxRevenueOrder a))
        (fun i σ H' => ∃ y5 : Option V, σ = [some (.ref x), some (.ref nl), some (.ref ol), some (.ref bo), some (.ref fo), y5] ∧ AucZ C (fun b => Z b ∨ (b = bo ∨ b = fo)) H' x (((Kh435.maxRevenueOrder a).take i).foldl Kh435.afterSale a) ∧ Kept (fun b => Z b ∨ (b = bo ∨ b = fo)) H2 H')
        ⟨none, rfl, ⟨L, hA2, hO2⟩, Kept.same (Same.refl _)⟩ (fun i σ H' _ ⟨_, _, _, kp⟩ => SqL.of (kp bo _ (.inr (.inl rfl)) e1b)) ?_ ?_⟩
      · rintro i y σ H3 hi ⟨y5, rfl, hZ, kp⟩
        obtain ⟨l, hl, rfl⟩ := nL_of hi
        obtain ⟨_, hm⟩ := sell_all hA.wf (max_perm a) hl
        refine ⟨.ref x, rfl, nV l, rfl, x, _, l, _, rfl, hZ, hH2.kept kp, hm, fun H4 t hZ4 kp4 _ => ⟨_, rfl, ?_, kp.trans kp4⟩⟩
        rw [take_snoc hl, List.foldl_append]
        exact hZ4
      · rintro σ H3 ⟨y5, rfl, hZ, kp⟩
        rw [nL_length, List.take_length] at hZ
        refine ⟨.ref fo, rfl, ?_⟩
        exact k.list (new_off hH (Kept.same s1) n2) (by rw [ap, if_neg c1]) (hZ.mono fun b z => .inl z) ((Kept.same (s1.trans s2)).trans (kp.mono fun b z => .inl z)) (kp fo _ (.inr (.inr rfl)) e2)
theorem d_simulate (D : DefAt K mg "simulate_order" s_simulate_order ["auction", "numbers", "order"]) (ci : Callee P w K mg base 1 "is_order" (spIsOrd C)) (cr : Callee P w K mg base 5 "revenue_now" (spRevNow C)) (co : Callee P w K mg base 4 "outcomes_now" (spOutsNow C)) (ct : Callee P w K mg base 1 "told" spTold) : Callee P w K mg base 9 "simulate_order" (spDeed C 8) := by
  refine D.callee sc_simulate_order (fun vs H Q E h => ?_) (fun f cdv A outer s H vs Q E hr h => ?_)
  · obtain ⟨_, _, _, _, _, _, _, rfl, _⟩ := h
    rfl
  · obtain ⟨x, nl, ol, a, ns, ord, Z, rfl, ⟨L, hA, hO⟩, hH, hn, ho, hln, h5, k⟩ := h
    obtain rfl := len0 hln
    have nd := sc_simulate_order.nd
    refine ⟨_, pss_cons (ps_if (pt_not (pt_val (pc ci hr (by decide) (by rfl) (pa_cons (pv 0) (pa_cons (pv 2) pa_nil))))) (pss_one (ps_ret (pe_lst (pa_cons (pe_un un_neg pe_int) pa_nil)))) pss_nil)
      (pss_cons (ps_set (i := 3) nd rfl (Or.inl rfl) (pe_lst (pa_cons (pc cr hr (by decide) (by rfl) (pa_cons (pv 0) (pa_cons (pv 2) pa_nil))) pa_nil)))
      (pss_cons (ps_for PassesOwn.never rfl (pi_list (pc co hr (by decide) (by rfl) (pa_cons (pv 0) (pa_cons (pv 2) pa_nil)))) (pg_name (i := 4) nd rfl (Or.inl rfl))
        (pss_one (ps_expr (pe_bm PySem.F.plainAttrs_list PySem.F.slot_list_extend PySem.F.type_list_extend mt_extend (pv 3) (pa_cons (pc ct hr (by decide) (by rfl) (pa_cons (pv 4) pa_nil)) pa_nil)))))
      (pss_one (ps_ret (pv 3))))), ?_⟩
    have ap : Kh435.apply a (callOf 8 [] ord) = (a, if Kh435.isOrder a ord = false then Kh435.single (-22) else Kh435.withValues (Kh435.revenueOf a ord) ((Kh435.simulate a a.budgets ord).flatMap fun x => match x.2 with
      | none => [0, 0]
      | some p => [p.1 + 1, p.2])) := rfl
    refine ⟨.ref x, rfl, .ref ol, rfl, x, ol, L, a, ord, rfl, hA, ho, h5, fun H1 s1 => ⟨_, rfl, ?_⟩⟩
    have hA1 := hA.same s1
    cases hc : Kh435.isOrder a ord with
    | false =>
      refine ⟨22, rfl, (by show 1 ≤ sizeLine; decide), fun p np => ?_⟩
      exact k.one hH (a := a) (by rw [ap, if_pos hc]) ⟨L, hA1, hO⟩ (Kept.same s1) np
    | true =>
      have hin := order_in hA.wf hc
      refine ⟨.ref x, rfl, .ref ol, rfl, x, ol, L, a, ord, rfl, hA1, s1 _ _ ho, hin, h5, fun H2 s2 => ⟨(by show 1 ≤ sizeLine; decide), fun fo nfo => ?_⟩⟩
      have s3 : Same H2 (upd H2 fo (.lst [nV (Kh435.revenueOf a ord)])) := same_upd nfo
      have s13 := (s1.trans s2).trans s3
      refine ⟨.ref x, rfl, .ref ol, rfl, x, ol, L, a, ord, rfl, hA.same s13, s13 _ _ ho, hin, h5, fun H4 p ts s4 n4 e4 ot => ?_⟩
      have hfo4 : H4 fo = some (.lst [nV (Kh435.revenueOf a ord)]) := s4 _ _ upd_same
      have pfo : fo ≠ p := ne_of_none upd_same n4
      have hos : ((Kh435.simulate a a.budgets ord).map (·.2)).length = ord.length := by rw [List.length_map, simulate_length]
      refine ⟨p, rfl, ⟨_, SqL.of e4⟩, for_list (K := K) (a := p) (xs := ts.map V.ref)
        (fun i σ H' => ∃ y4 : Option V, σ = [some (.ref x), some (.ref nl), some (.ref ol), some (.ref fo), y4] ∧ Kept (fun b => b ≠ fo) H4 H' ∧ H' fo = some (.lst (nL (Kh435.revenueOf a ord :: (((Kh435.simulate a a.budgets ord).map (·.2)).take i).flatMap oT))))
        ⟨none, rfl, Kept.same (Same.refl _), hfo4⟩ (fun i σ H' _ ⟨_, _, kp, _⟩ => SqL.of (kp p _ pfo.symm e4)) ?_ ?_⟩
      · rintro i y σ H5 hi ⟨y4, rfl, kp, efo⟩
        obtain ⟨t, ht, rfl⟩ := refs_of hi
        obtain ⟨oc, hoc, et⟩ := ot.at_ i t ht
        have tfo : t ≠ fo := ne_of et hfo4 (by intro z; cases z)
        have hil : i < ord.length := by
          rw [← hos]
          exact (List.getElem?_eq_some_iff.mp hoc).1
        refine ⟨.ref fo, rfl, .inl ⟨rfl, _, SqL.of efo⟩, .ref t, rfl, t, oc, rfl, kp t _ tfo et, fun H6 q s6 n6 e6 => ?_⟩
        have efo6 := s6 _ _ efo
        have bound : ((((Kh435.simulate a a.budgets ord).map (·.2)).take i).flatMap oT).length ≤ 2 * i := by
          have gen : ∀ l : List (Option (Nat × Nat)), (l.flatMap oT).length ≤ 2 * l.length := fun l => by
            induction l with
            | nil => exact Nat.zero_le _
            | cons z r ih =>
              rw [List.flatMap_cons, List.length_append, List.length_cons]
              have : (oT z).length = 2 := by cases z <;> rfl
              omega
          refine Nat.le_trans (gen _) ?_
          rw [List.length_take]
          omega
        have two : (oT oc).length = 2 := by cases oc <;> rfl
        refine ⟨fo, q, _, _, rfl, rfl, efo6, e6, small _ (by rw [nL_length, nL_length, List.length_cons]; omega), ?_⟩
        refine ⟨_, rfl, (kp.trans (Kept.same s6)).upd (fun z => z rfl), ?_⟩
        rw [upd_same, take_snoc hoc, List.flatMap_append, ← nL_append]
        show some (HO.lst (nL (Kh435.revenueOf a ord :: ((((Kh435.simulate a a.budgets ord).map (·.2)).take i).flatMap oT ++ oT oc)))) = some (HO.lst (nL (Kh435.revenueOf a ord :: ((((Kh435.simulate a a.budgets ord).map (·.2)).take i).flatMap oT ++ [oc].flatMap oT))))
        rw [List.flatMap_cons, List.flatMap_nil, List.append_nil]
      · rintro σ H5 ⟨y4, rfl, kp, efo⟩
        rw [List.length_map, ot.len, List.take_length] at efo
        refine ⟨.ref fo, rfl, ?_⟩
        have hfo0 : H fo = none := (s1.trans s2).free nfo
        have hOo := hO.more hA hfo0
        have e : ((Kh435.simulate a a.budgets ord).map (·.2)).flatMap oT = (Kh435.simulate a a.budgets ord).flatMap fun x => match x.2 with
            | none => [0, 0]
            | some p => [p.1 + 1, p.2] := by
          rw [List.flatMap_map]
          refine flatMap_congr' fun z _ => ?_
          obtain ⟨z1, z2⟩ := z
          cases z2 <;> rfl
        rw [e] at efo
        have kpH : ∀ b o, H b = some o → H5 b = some o := fun b o eb => kp b o (ne_of_none eb hfo0) (s4 _ _ (s13 _ _ eb))
        exact k.list (new_off hH (Kept.same (Same.refl _)) hfo0) (a := a) (by rw [ap, if_neg (by rw [hc]; simp)]) ⟨L, hA.same kpH, hO⟩ (Kept.same kpH) efo
theorem d_tell (D : DefAt K mg "tell_revenue" s_tell_revenue ["auction", "numbers", "order"]) (ci : Callee P w K mg base 1 "is_order" (spIsOrd C)) (cr : Callee P w K mg base 5 "revenue_now" (spRevNow C)) : Callee P w K mg base 9 "tell_revenue" (spDeed C 9) := by
  refine D.callee sc_tell_revenue (fun vs H Q E h => ?_) (fun f cdv A outer s H vs Q E hr h => ?_)
  · obtain ⟨_, _, _, _, _, _, _, rfl, _⟩ := h
    rfl
  · obtain ⟨x, nl, ol, a, ns, ord, Z, rfl, ⟨L, hA, hO⟩, hH, hn, ho, hln, h5, k⟩ := h
    obtain rfl := len0 hln
    refine ⟨_, pss_one (ps_ret (pe_ifExp (pt_val (pc ci hr (by decide) (by rfl) (pa_cons (pv 0) (pa_cons (pv 2) pa_nil)))) (pe_lst (pa_cons (pc cr hr (by decide) (by rfl) (pa_cons (pv 0) (pa_cons (pv 2) pa_nil))) pa_nil)) (pe_lst (pa_cons (pe_un un_neg pe_int) pa_nil)))), ?_⟩
    have ap : Kh435.apply a (callOf 9 [] ord) = (a, if Kh435.isOrder a ord = false then Kh435.single (-22) else Kh435.single (Kh435.revenueOf a ord)) := rfl
    refine ⟨.ref x, rfl, .ref ol, rfl, x, ol, L, a, ord, rfl, hA, ho, h5, fun H1 s1 => ⟨_, rfl, ?_⟩⟩
    have hA1 := hA.same s1
    cases hc : Kh435.isOrder a ord with
    | false =>
      refine ⟨22, rfl, (by show 1 ≤ sizeLine; decide), fun p np => ?_⟩
      exact k.one hH (a := a) (by rw [ap, if_pos hc]) ⟨L, hA1, hO⟩ (Kept.same s1) np
    | true =>
      refine ⟨.ref x, rfl, .ref ol, rfl, x, ol, L, a, ord, rfl, hA1, s1 _ _ ho, order_in hA.wf hc, h5, fun H2 s2 => ⟨(by show 1 ≤ sizeLine; decide), fun p np => ?_⟩⟩
      exact k.one hH (a := a) (by rw [ap, if_neg (by rw [hc]; simp)]) ⟨L, hA1.same s2, hO⟩ (Kept.same (s1.trans s2)) np
theorem d_max_order (D : DefAt K mg "max_revenue_order" s_max_revenue_order ["auction", "numbers", "order"]) (cb : Callee P w K mg base 8 "best_order" (spBest C)) (co : Callee P w K mg base 6 "order_answer" (spOrdAns C)) : Callee P w K mg base 9 "max_revenue_order" (spDeed C 10) := by
  refine D.callee sc_max_revenue_order (fun vs H Q E h => ?_) (fun f cdv A outer s H vs Q E hr h => ?_)
  · obtain ⟨_, _, _, _, _, _, _, rfl, _⟩ := h
    rfl
  · obtain ⟨x, nl, ol, a, ns, ord, Z, rfl, ⟨L, hA, hO⟩, hH, hn, ho, hln, h5, k⟩ := h
    obtain rfl := len0 hln
    refine ⟨_, pss_one (ps_ret (pc co hr (by decide) (by rfl) (pa_cons (pv 0) (pa_cons (pc cb hr (by decide) (by rfl) (pa_cons (pv 0) pa_nil)) pa_nil)))), ?_⟩
    obtain ⟨q1, q2⟩ := perm_in hA.wf (max_perm a)
    refine ⟨.ref x, rfl, .ref x, rfl, x, L, a, rfl, hA, fun H1 bo s1 n1 e1 => ⟨x, bo, L, a, _, rfl, hA.same s1, e1, q1, q2, fun H2 p s2 n2 e2 => ?_⟩⟩
    exact k.list (new_off hH (Kept.same s1) n2) (a := a) rfl ⟨L, (hA.same s1).same s2, hO⟩ (Kept.same (s1.trans s2)) e2
theorem d_min_order (D : DefAt K mg "min_revenue_order" s_min_revenue_order ["auction", "numbers", "order"]) (cb : Callee P w K mg base 8 "worst_order" (spWorst C)) (co : Callee P w K mg base 6 "order_answer" (spOrdAns C)) : Callee P w K mg base 9 "min_revenue_order" (spDeed C 11) := by
  refine D.callee sc_min_revenue_order (fun vs H Q E h => ?_) (fun f cdv A outer s H vs Q E hr h => ?_)
  · obtain ⟨_, _, _, _, _, _, _, rfl, _⟩ := h
    rfl
  · obtain ⟨x, nl, ol, a, ns, ord, Z, rfl, ⟨L, hA, hO⟩, hH, hn, ho, hln, h5, k⟩ := h
    obtain rfl := len0 hln
    refine ⟨_, pss_one (ps_ret (pc co hr (by decide) (by rfl) (pa_cons (pv 0) (pa_cons (pc cb hr (by decide) (by rfl) (pa_cons (pv 0) pa_nil)) pa_nil)))), ?_⟩
    obtain ⟨q1, q2⟩ := perm_in hA.wf (min_perm a)
    refine ⟨.ref x, rfl, .ref x, rfl, x, L, a, rfl, hA, fun H1 bo s1 n1 e1 => ⟨x, bo, L, a, _, rfl, hA.same s1, e1, q1, q2, fun H2 p s2 n2 e2 => ?_⟩⟩
    exact k.list (new_off hH (Kept.same s1) n2) (a := a) rfl ⟨L, (hA.same s1).same s2, hO⟩ (Kept.same (s1.trans s2)) e2
theorem d_high_first (D : DefAt K mg "highest_bid_first" s_highest_bid_first ["auction", "numbers", "order"]) (cb : Callee P w K mg base 3 "by_highest_bid" (spByHigh C)) (co : Callee P w K mg base 6 "order_answer" (spOrdAns C)) : Callee P w K mg base 9 "highest_bid_first" (spDeed C 12) := by
  refine D.callee sc_highest_bid_first (fun vs H Q E h => ?_) (fun f cdv A outer s H vs Q E hr h => ?_)
  · obtain ⟨_, _, _, _, _, _, _, rfl, _⟩ := h
    rfl
  · obtain ⟨x, nl, ol, a, ns, ord, Z, rfl, ⟨L, hA, hO⟩, hH, hn, ho, hln, h5, k⟩ := h
    obtain rfl := len0 hln
    refine ⟨_, pss_one (ps_ret (pc co hr (by decide) (by rfl) (pa_cons (pv 0) (pa_cons (pc cb hr (by decide) (by rfl) (pa_cons (pv 0) pa_nil)) pa_nil)))), ?_⟩
    obtain ⟨q1, q2⟩ := perm_in hA.wf (hbf_perm a)
    refine ⟨.ref x, rfl, .ref x, rfl, x, L, a, rfl, hA, fun H1 bo s1 n1 e1 => ⟨x, bo, L, a, _, rfl, hA.same s1, e1, q1, q2, fun H2 p s2 n2 e2 => ?_⟩⟩
    exact k.list (new_off hH (Kept.same s1) n2) (a := a) rfl ⟨L, (hA.same s1).same s2, hO⟩ (Kept.same (s1.trans s2)) e2
theorem d_count (D : DefAt K mg "count_best_orders" s_count_best_orders ["auction", "numbers", "order"]) (B : Bi mg) (cg : Callee P w K mg base 7 "greatest" (spGreat C)) (cr : Callee P w K mg base 6 "revenues" (spRevs C)) : Callee P w K mg base 9 "count_best_orders" (spDeed C 13) := by
  refine D.callee sc_count_best_orders (fun vs H Q E h => ?_) (fun f cdv A outer s H vs Q E hr h => ?_)
  · obtain ⟨_, _, _, _, _, _, _, rfl, _⟩ := h
    rfl
  · obtain ⟨x, nl, ol, a, ns, ord, Z, rfl, ⟨L, hA, hO⟩, hH, hn, ho, hln, h5, k⟩ := h
    obtain rfl := len0 hln
    have nd := sc_count_best_orders.nd
    refine ⟨_, pss_cons (ps_set (i := 3) nd rfl (Or.inr rfl) (pc cg hr (by decide) (by rfl) (pa_cons (pv 0) pa_nil)))
      (pss_one (ps_ret (pe_lst (pa_cons (pe_callB call_len_seq (by rfl) B.len PySem.boot_len (pa_cons
        (pe_lc (own := [("revenue", 4)]) (g := gName 4) (tt := tTest (tOp rEq (tVar 4) (tVar 3))) (by rfl) nd (pi_list (pc cr hr (by decide) (by rfl) (pa_cons (pv 0) pa_nil)))
          (blkOk_by (own := [("revenue", 4)]) (N := ["auction", "numbers", "order", "most", "revenue"]) (sc := defScope s_count_best_orders) (by decide +kernel))
          (fun _ _ _ _ _ => pg_name (i := 4) nd rfl (Or.inl rfl)) (fun _ _ _ _ _ => pts_one (pt_cmpR op_eq (pv 4) (pv 3) (nomark _))) (fun _ _ _ _ _ => pv 4)) pa_nil)) pa_nil)))), ?_⟩
    refine ⟨.ref x, rfl, x, L, a, rfl, hA, fun H1 s1 => ?_⟩
    have hA1 := hA.same s1
    refine ⟨.ref x, rfl, x, L, a, rfl, hA1, fun H2 p s2 n2 e2 => ⟨p, rfl, ⟨_, SqL.of e2⟩, fun E0 nE => ?_⟩⟩
    have ap : Kh435.apply a (callOf 13 [] ord) = (a, Kh435.single ((Kh435.allOrders a).filter fun order => Kh435.revenueOf a order == Kh435.revenueOf a (Kh435.maxRevenueOrder a)).length) := rfl
    generalize Kh435.revenueOf a (Kh435.maxRevenueOrder a) = m at ap ⊢
    have hl := revs_length hA.wf.nd hA.wf.few_rem
    refine lc_list (K := K) (a := p) (xs := nL (revs a)) (fun i H' => Same H2 H' ∧ H' E0 = some (.lst (nL (((revs a).take i).filter fun y => decide (y = m))))) ⟨same_upd nE, upd_same⟩ (fun i H' _ ⟨s3, _⟩ => SqL.of (s3 _ _ e2)) ?_ ?_
    · rintro i y H3 hi ⟨s3, eE⟩
      obtain ⟨l, hl1, rfl⟩ := nL_of hi
      refine ⟨rfl, nV l, rfl, nV m, rfl, rfl, _, rfl, ?_⟩
      rw [nV_dec, filter_take hl1]
      cases c : decide (l = m) with
      | false => exact ⟨s3, by rw [eE]; simp⟩
      | true =>
        refine ⟨nV l, rfl, _, eE, ?_, same_grow nE s3, ?_⟩
        · rw [nL_length]
          refine small' _ ?_
          have h1 := List.length_filter_le (fun y => decide (y = m)) ((revs a).take i)
          rw [List.length_take] at h1
          omega
        · rw [upd_same, nL_append]
          rfl
    · rintro H3 ⟨s3, eE⟩
      rw [nL_length, List.take_length] at eE
      refine ⟨E0, _, rfl, .inl (SqL.of eE), (by show 1 ≤ sizeLine; decide), fun q nq => ?_⟩
      have e : ((nL ((revs a).filter fun y => decide (y = m))).length : Int) = (((Kh435.allOrders a).filter fun order => Kh435.revenueOf a order == m).length : Int) := by
        rw [nL_length]
        unfold revs
        rw [List.filter_map, List.length_map]
        have e2 : ((fun y => decide (y = m)) ∘ Kh435.revenueOf a) = fun order => Kh435.revenueOf a order == m := by
          funext o
          show decide (Kh435.revenueOf a o = m) = (Kh435.revenueOf a o == m)
          rw [Bool.eq_iff_iff, decide_eq_true_eq, beq_iff_eq]
        rw [e2]
      exact k.one hH (a := a) (by rw [ap, e]) ⟨L, (hA1.same s2).same s3, hO⟩ (Kept.same ((s1.trans s2).trans s3)) nq
theorem d_spread (D : DefAt K mg "revenue_spread" s_revenue_spread ["auction", "numbers", "order"]) (cg : Callee P w K mg base 7 "greatest" (spGreat C)) (cs : Callee P w K mg base 7 "smallest" (spSmall C)) : Callee P w K mg base 9 "revenue_spread" (spDeed C 14) := by
  refine D.callee sc_revenue_spread (fun vs H Q E h => ?_) (fun f cdv A outer s H vs Q E hr h => ?_)
  · obtain ⟨_, _, _, _, _, _, _, rfl, _⟩ := h
    rfl
  · obtain ⟨x, nl, ol, a, ns, ord, Z, rfl, ⟨L, hA, hO⟩, hH, hn, ho, hln, h5, k⟩ := h
    obtain rfl := len0 hln
    refine ⟨_, pss_one (ps_ret (pe_lst (pa_cons (pe_op op_sub (pc cg hr (by decide) (by rfl) (pa_cons (pv 0) pa_nil)) (pc cs hr (by decide) (by rfl) (pa_cons (pv 0) pa_nil))) pa_nil))), ?_⟩
    refine ⟨.ref x, rfl, x, L, a, rfl, hA, fun H1 s1 => ⟨.ref x, rfl, x, L, a, rfl, hA.same s1, fun H2 s2 => ⟨_, _, rfl, rfl, (by show 1 ≤ sizeLine; decide), fun p np => ?_⟩⟩⟩
    have le := min_le_max a
    refine k.one hH (a := a) (n := ((Kh435.revenueOf a (Kh435.maxRevenueOrder a) : Nat) : Int) - ((Kh435.revenueOf a (Kh435.minRevenueOrder a) : Nat) : Int)) ?_ ⟨L, (hA.same s1).same s2, hO⟩ (Kept.same (s1.trans s2)) np
    show (a, Kh435.single ((Kh435.revenueOf a (Kh435.maxRevenueOrder a) - Kh435.revenueOf a (Kh435.minRevenueOrder a) : Nat) : Int)) = _
    rw [Int.natCast_sub le]
theorem d_if_budget (D : DefAt K mg "max_revenue_if_budget" s_max_revenue_if_budget ["auction", "numbers", "order"]) (T : ClsA K C) (M : Most mg) (cb : Callee P w K mg base 1 "has_bidder" (spHasB C)) (cp : Callee P w K mg base 1 "replaced" spRepl) (cg : Callee P w K mg base 5 "greatest_with" spGreatW) : Callee P w K mg base 9 "max_revenue_if_budget" (spDeed C 15) := by
  refine D.callee sc_max_revenue_if_budget (fun vs H Q E h => ?_) (fun f cdv A outer s H vs Q E hr h => ?_)
  · obtain ⟨_, _, _, _, _, _, _, rfl, _⟩ := h
    rfl
  · obtain ⟨x, nl, ol, a, ns, ord, Z, rfl, ⟨L, hA, hO⟩, hH, hn, ho, hln, h5, k⟩ := h
    obtain ⟨i, v, rfl⟩ := len2 hln
    have nd := sc_max_revenue_if_budget.nd
    obtain ⟨tv, mv⟩ := M.b
    refine ⟨_, pss_cons (ps_asg (pv 1) (pg_unl rfl (pgs_cons (pg_name (i := 3) nd rfl (Or.inl rfl)) (pgs_cons (pg_name (i := 4) nd rfl (Or.inl rfl)) pgs_nil))))
      (pss_cons (ps_if (pt_not (pt_val (pc cb hr (by decide) (by rfl) (pa_cons (pv 0) (pa_cons (pv 3) pa_nil))))) (pss_one (ps_ret (pe_lst (pa_cons (pe_un un_neg pe_int) pa_nil)))) pss_nil)
      (pss_cons (ps_if (pt_cmpR op_gt (pv 4) (pe_glob (v := .int 500) (by rfl) mv ⟨_, rfl⟩) (nomark _)) (pss_one (ps_ret (pe_lst (pa_cons (pe_un un_neg pe_int) pa_nil)))) pss_nil)
      (pss_cons (ps_set (i := 5) nd rfl (Or.inl rfl) (pc cp hr (by decide) (by rfl) (pa_cons (pe_fld (pv 0) rfl) (pa_cons (pv 3) (pa_cons (pv 4) pa_nil)))))
      (pss_one (ps_ret (pe_lst (pa_cons (pc cg hr (by decide) (by rfl) (pa_cons (pe_fld (pv 0) rfl) (pa_cons (pv 5) (pa_cons (pe_fld (pv 0) rfl) pa_nil)))) pa_nil))))))), ?_⟩
    refine ⟨.ref nl, rfl, nl, nL [i, v], rfl, SqL.of hn, rfl, nV i, [nV v], rfl, nV v, [], rfl, rfl, ?_⟩
    refine ⟨.ref x, rfl, nV i, rfl, x, L, a, i, rfl, hA, _, rfl, ?_⟩
    have ap : Kh435.apply a (callOf 15 [i, v] ord) = (a, if Kh435.isBidder a i = false then Kh435.single (-2) else if 500 < v then Kh435.single (-22) else Kh435.single (Kh435.revenueOf (Kh435.withBudget a i v) (Kh435.maxRevenueOrder (Kh435.withBudget a i v)))) := rfl
    cases hb : Kh435.isBidder a i with
    | false =>
      refine ⟨2, rfl, (by show 1 ≤ sizeLine; decide), fun p np => ?_⟩
      exact k.one hH (a := a) (by rw [ap, if_pos hb]) ⟨L, hA, hO⟩ (Kept.same (Same.refl _)) np
    | true =>
      have no : ¬ (Kh435.isBidder a i = false) := by
        rw [hb]
        simp
      refine ⟨nV v, rfl, _, _, rfl, rfl, _, rfl, ite2 (fun c => ?_) (fun c => ?_)⟩
      · have c1 : 500 < v := by
          have := of_decide_eq_true c
          omega
        refine ⟨22, rfl, (by show 1 ≤ sizeLine; decide), fun p np => ?_⟩
        exact k.one hH (a := a) (by rw [ap, if_neg no, if_pos c1]) ⟨L, hA, hO⟩ (Kept.same (Same.refl _)) np
      · have c1 : ¬ 500 < v := fun z => c (decide_eq_true (by omega))
        have hi := lt_of_bidder hb
        have h4 := hA.wf.nb4
        refine ⟨.ref x, rfl, x, C, L.dx, _, .ref L.bl, rfl, hA.ob, T.cl, T.n3, aF_budgets, nV i, rfl, nV v, rfl, L.bl, nL a.budgets, i, nV v, rfl, hA.bl, by rw [nL_length]; exact hi, by rw [nL_length]; omega, fun H1 q s1 n1 e1 => ?_⟩
        rw [nL_set] at e1
        have hA1 := hA.same s1
        have wB := hA.wf.setBudget i v
        have g : Grid H1 L.wl q (Kh435.withBudget a i v).values (Kh435.withBudget a i v).budgets a.lotCount := ⟨⟨L.rows, hA1.wl, hA1.rows⟩, e1, wB.vb, wB.nb, wB.nb4, wB.rows⟩
        refine ⟨.ref x, rfl, x, C, L.dx, _, .ref L.wl, rfl, hA1.ob, T.cl, T.n2, aF_worths, .ref q, rfl, .ref x, rfl, x, C, L.dx, _, .ref L.rl, rfl, hA1.ob, T.cl, T.n4, aF_remaining,
          L.wl, q, L.rl, Kh435.withBudget a i v, a.lotCount, rfl, g, hA1.rl, hA.wf.nd, hA.wf.lt, hA.wf.few_rem, fun H2 s2 => ⟨(by show 1 ≤ sizeLine; decide), fun p np => ?_⟩⟩
        exact k.one hH (a := a) (by rw [ap, if_neg no, if_neg c1]) ⟨L, hA1.same s2, hO⟩ (Kept.same (s1.trans s2)) np
theorem d_if_value (D : DefAt K mg "max_revenue_if_value" s_max_revenue_if_value ["auction", "numbers", "order"]) (T : ClsA K C) (M : Most mg) (cb : Callee P w K mg base 1 "has_bidder" (spHasB C)) (cl : Callee P w K mg base 1 "has_lot" (spHasL C)) (cp : Callee P w K mg base 1 "replaced" spRepl) (cg : Callee P w K mg base 5 "greatest_with" spGreatW) : Callee P w K mg base 9 "max_revenue_if_value" (spDeed C 16) := by
  refine D.callee sc_max_revenue_if_value (fun vs H Q E h => ?_) (fun f cdv A outer s H vs Q E hr h => ?_)
  · obtain ⟨_, _, _, _, _, _, _, rfl, _⟩ := h
    rfl
  · obtain ⟨x, nl, ol, a, ns, ord, Z, rfl, ⟨L, hA, hO⟩, hH, hn, ho, hln, h5, k⟩ := h
    obtain ⟨i, j, v, rfl⟩ := len3 hln
    have nd := sc_max_revenue_if_value.nd
    obtain ⟨tv, mv⟩ := M.v
    refine ⟨_, pss_cons (ps_asg (pv 1) (pg_unl rfl (pgs_cons (pg_name (i := 3) nd rfl (Or.inl rfl)) (pgs_cons (pg_name (i := 4) nd rfl (Or.inl rfl)) (pgs_cons (pg_name (i := 5) nd rfl (Or.inl rfl)) pgs_nil)))))
      (pss_cons (ps_if (PW.pt (pw_or (pt_not (pt_val (pc cb hr (by decide) (by rfl) (pa_cons (pv 0) (pa_cons (pv 3) pa_nil))))) (pw_or1 (pt_not (pt_val (pc cl hr (by decide) (by rfl) (pa_cons (pv 0) (pa_cons (pv 4) pa_nil)))))))) (pss_one (ps_ret (pe_lst (pa_cons (pe_un un_neg pe_int) pa_nil)))) pss_nil)
      (pss_cons (ps_if (pt_cmpR op_gt (pv 5) (pe_glob (v := .int 99) (by rfl) mv ⟨_, rfl⟩) (nomark _)) (pss_one (ps_ret (pe_lst (pa_cons (pe_un un_neg pe_int) pa_nil)))) pss_nil)
      (pss_cons (ps_set (i := 6) nd rfl (Or.inl rfl) (pc cp hr (by decide) (by rfl) (pa_cons (pe_fld (pv 0) rfl) (pa_cons (pv 3) (pa_cons (pc cp hr (by decide) (by rfl) (pa_cons (pe_ix ix_list (pe_fld (pv 0) rfl) (pv 3) (fun _ _ => rfl)) (pa_cons (pv 4) (pa_cons (pv 5) pa_nil)))) pa_nil)))))
      (pss_one (ps_ret (pe_lst (pa_cons (pc cg hr (by decide) (by rfl) (pa_cons (pv 6) (pa_cons (pe_fld (pv 0) rfl) (pa_cons (pe_fld (pv 0) rfl) pa_nil)))) pa_nil))))))), ?_⟩
    refine ⟨.ref nl, rfl, nl, nL [i, j, v], rfl, SqL.of hn, rfl, nV i, [nV j, nV v], rfl, nV j, [nV v], rfl, nV v, [], rfl, rfl, ?_⟩
    refine ⟨.ref x, rfl, nV i, rfl, x, L, a, i, rfl, hA, _, rfl, ?_⟩
    have ap : Kh435.apply a (callOf 16 [i, j, v] ord) = (a, if Kh435.isBidder a i = false ∨ Kh435.isLot a j = false then Kh435.single (-2) else if 99 < v then Kh435.single (-22) else Kh435.single (Kh435.revenueOf (Kh435.withValue a i j v) (Kh435.maxRevenueOrder (Kh435.withValue a i j v)))) := rfl
    cases hb : Kh435.isBidder a i with
    | false =>
      refine ⟨2, rfl, (by show 1 ≤ sizeLine; decide), fun p np => ?_⟩
      exact k.one hH (a := a) (by rw [ap, if_pos (.inl hb)]) ⟨L, hA, hO⟩ (Kept.same (Same.refl _)) np
    | true =>
      refine ⟨.ref x, rfl, nV j, rfl, x, L, a, j, rfl, hA, _, rfl, ?_⟩
      cases hl : Kh435.isLot a j with
      | false =>
        refine ⟨2, rfl, (by show 1 ≤ sizeLine; decide), fun p np => ?_⟩
        exact k.one hH (a := a) (by rw [ap, if_pos (.inr hl)]) ⟨L, hA, hO⟩ (Kept.same (Same.refl _)) np
      | true =>
        have no : ¬ (Kh435.isBidder a i = false ∨ Kh435.isLot a j = false) := by
          rw [hb, hl]
          simp
        refine ⟨nV v, rfl, _, _, rfl, rfl, _, rfl, ite2 (fun c => ?_) (fun c => ?_)⟩
        · have c1 : 99 < v := by
            have := of_decide_eq_true c
            omega
          refine ⟨22, rfl, (by show 1 ≤ sizeLine; decide), fun p np => ?_⟩
          exact k.one hH (a := a) (by rw [ap, if_neg no, if_pos c1]) ⟨L, hA, hO⟩ (Kept.same (Same.refl _)) np
        · have c1 : ¬ 99 < v := fun z => c (decide_eq_true (by omega))
          have hi := lt_of_bidder hb
          have hj := lt_of_lot hl
          have h4 := hA.wf.nb4
          have hl5 := hA.wf.l5
          have hiv : i < a.values.length := by
            rw [hA.wf.vb]
            exact hi
          obtain ⟨r, hr1, er⟩ := hA.rows.get (List.getElem?_eq_getElem hiv)
          have hrl : a.values[i].length = a.lotCount := hA.wf.rows _ (List.getElem_mem hiv)
          have hrow : a.values.getD i [] = a.values[i] := by
            rw [List.getD_eq_getElem?_getD, List.getElem?_eq_getElem hiv]
            rfl
          have rl4 : (L.rows.map V.ref).length = a.budgets.length := by rw [List.length_map, hA.rows.len, hA.wf.vb]
          refine ⟨.ref x, rfl, x, C, L.dx, _, .ref L.wl, rfl, hA.ob, T.cl, T.n2, aF_worths, nV i, rfl, .ref x, rfl, x, C, L.dx, _, .ref L.wl, rfl, hA.ob, T.cl, T.n2, aF_worths, nV i, rfl, L.wl, L.rows.map V.ref, (i : Int), .ref r, rfl, rfl, SqL.of hA.wl, atI_nat (refs_get hr1), nV j, rfl, nV v, rfl,
            r, nL a.values[i], j, nV v, rfl, er, by rw [nL_length]; omega, by rw [nL_length]; omega, fun H1 q s1 n1 e1 => ?_⟩
          rw [nL_set] at e1
          have hA1 := hA.same s1
          refine ⟨L.wl, L.rows.map V.ref, i, .ref q, rfl, hA1.wl, by rw [rl4]; exact hi, by rw [rl4]; omega, fun H2 q2 s2 n2 e2 => ?_⟩
          have hA2 := hA1.same s2
          have wV := hA.wf.setValue i j v hi
          have rw2 : Rows H2 (L.rows.set i q) (Kh435.withValue a i j v).values := by
            show Rows H2 (L.rows.set i q) (a.values.set i ((a.values.getD i []).set j v))
            rw [hrow]
            exact hA2.rows.set (s2 _ _ e1)
          have g : Grid H2 q2 L.bl (Kh435.withValue a i j v).values (Kh435.withValue a i j v).budgets a.lotCount := ⟨⟨L.rows.set i q, by rw [e2, List.map_set], rw2⟩, hA2.bl, wV.vb, wV.nb, wV.nb4, wV.rows⟩
          refine ⟨.ref q2, rfl, .ref x, rfl, x, C, L.dx, _, .ref L.bl, rfl, hA2.ob, T.cl, T.n3, aF_budgets, .ref x, rfl, x, C, L.dx, _, .ref L.rl, rfl, hA2.ob, T.cl, T.n4, aF_remaining,
            q2, L.bl, L.rl, Kh435.withValue a i j v, a.lotCount, rfl, g, hA2.rl, hA.wf.nd, hA.wf.lt, hA.wf.few_rem, fun H3 s3 => ⟨(by show 1 ≤ sizeLine; decide), fun p np => ?_⟩⟩
          exact k.one hH (a := a) (by rw [ap, if_neg no, if_neg c1]) ⟨L, hA2.same s3, hO⟩ (Kept.same ((s1.trans s2).trans s3)) np
theorem d_without (D : DefAt K mg "max_revenue_without_bidder" s_max_revenue_without_bidder ["auction", "numbers", "order"]) (T : ClsA K C) (cb : Callee P w K mg base 1 "has_bidder" (spHasB C)) (cp : Callee P w K mg base 1 "replaced" spRepl) (cg : Callee P w K mg base 5 "greatest_with" spGreatW) : Callee P w K mg base 9 "max_revenue_without_bidder" (spDeed C 17) := by
  refine D.callee sc_max_revenue_without_bidder (fun vs H Q E h => ?_) (fun f cdv A outer s H vs Q E hr h => ?_)
  · obtain ⟨_, _, _, _, _, _, _, rfl, _⟩ := h
    rfl
  · obtain ⟨x, nl, ol, a, ns, ord, Z, rfl, ⟨L, hA, hO⟩, hH, hn, ho, hln, h5, k⟩ := h
    obtain ⟨i, rfl⟩ := len1 hln
    have nd := sc_max_revenue_without_bidder.nd
    refine ⟨_, pss_cons (ps_if (pt_not (pt_val (pc cb hr (by decide) (by rfl) (pa_cons (pv 0) (pa_cons (pe_ix ix_list (pv 1) pe_int (fun _ _ => rfl)) pa_nil))))) (pss_one (ps_ret (pe_lst (pa_cons (pe_un un_neg pe_int) pa_nil)))) pss_nil)
      (pss_cons (ps_set (i := 3) nd rfl (Or.inl rfl) (pc cp hr (by decide) (by rfl) (pa_cons (pe_fld (pv 0) rfl) (pa_cons (pe_ix ix_list (pv 1) pe_int (fun _ _ => rfl)) (pa_cons pe_int pa_nil)))))
      (pss_one (ps_ret (pe_lst (pa_cons (pc cg hr (by decide) (by rfl) (pa_cons (pe_fld (pv 0) rfl) (pa_cons (pv 3) (pa_cons (pe_fld (pv 0) rfl) pa_nil)))) pa_nil))))), ?_⟩
    refine ⟨.ref x, rfl, .ref nl, rfl, nl, nL [i], 0, nV i, rfl, rfl, SqL.of hn, atI_nat (j := 0) rfl, x, L, a, i, rfl, hA, _, rfl, ?_⟩
    have ap : Kh435.apply a (callOf 17 [i] ord) = (a, if Kh435.isBidder a i = false then Kh435.single (-2) else Kh435.single (Kh435.revenueOf (Kh435.withBudget a i 0) (Kh435.maxRevenueOrder (Kh435.withBudget a i 0)))) := rfl
    cases hb : Kh435.isBidder a i with
    | false =>
      refine ⟨2, rfl, (by show 1 ≤ sizeLine; decide), fun p np => ?_⟩
      exact k.one hH (a := a) (by rw [ap, if_pos hb]) ⟨L, hA, hO⟩ (Kept.same (Same.refl _)) np
    | true =>
      have no : ¬ (Kh435.isBidder a i = false) := by
        rw [hb]
        simp
      have hi := lt_of_bidder hb
      have h4 := hA.wf.nb4
      refine ⟨.ref x, rfl, x, C, L.dx, _, .ref L.bl, rfl, hA.ob, T.cl, T.n3, aF_budgets, .ref nl, rfl, nl, nL [i], 0, nV i, rfl, rfl, SqL.of hn, atI_nat (j := 0) rfl, L.bl, nL a.budgets, i, nV 0, rfl, hA.bl, by rw [nL_length]; exact hi, by rw [nL_length]; omega, fun H1 q s1 n1 e1 => ?_⟩
      rw [nL_set] at e1
      have hA1 := hA.same s1
      have wB := hA.wf.setBudget i 0
      have g : Grid H1 L.wl q (Kh435.withBudget a i 0).values (Kh435.withBudget a i 0).budgets a.lotCount := ⟨⟨L.rows, hA1.wl, hA1.rows⟩, e1, wB.vb, wB.nb, wB.nb4, wB.rows⟩
      refine ⟨.ref x, rfl, x, C, L.dx, _, .ref L.wl, rfl, hA1.ob, T.cl, T.n2, aF_worths, .ref q, rfl, .ref x, rfl, x, C, L.dx, _, .ref L.rl, rfl, hA1.ob, T.cl, T.n4, aF_remaining,
        L.wl, q, L.rl, Kh435.withBudget a i 0, a.lotCount, rfl, g, hA1.rl, hA.wf.nd, hA.wf.lt, hA.wf.few_rem, fun H2 s2 => ⟨(by show 1 ≤ sizeLine; decide), fun p np => ?_⟩⟩
      exact k.one hH (a := a) (by rw [ap, if_neg no]) ⟨L, hA1.same s2, hO⟩ (Kept.same (s1.trans s2)) np
theorem d_if_withdrawn (D : DefAt K mg "max_revenue_if_withdrawn" s_max_revenue_if_withdrawn ["auction", "numbers", "order"]) (T : ClsA K C) (ci : Callee P w K mg base 1 "is_remaining" (spIsRem C)) (cg : Callee P w K mg base 5 "greatest_with" spGreatW) : Callee P w K mg base 9 "max_revenue_if_withdrawn" (spDeed C 18) := by
  refine D.callee sc_max_revenue_if_withdrawn (fun vs H Q E h => ?_) (fun f cdv A outer s H vs Q E hr h => ?_)
  · obtain ⟨_, _, _, _, _, _, _, rfl, _⟩ := h
    rfl
  · obtain ⟨x, nl, ol, a, ns, ord, Z, rfl, ⟨L, hA, hO⟩, hH, hn, ho, hln, h5, k⟩ := h
    obtain ⟨j, rfl⟩ := len1 hln
    have nd := sc_max_revenue_if_withdrawn.nd
    refine ⟨_, pss_cons (ps_if (pt_not (pt_val (pc ci hr (by decide) (by rfl) (pa_cons (pv 0) (pa_cons (pe_ix ix_list (pv 1) pe_int (fun _ _ => rfl)) pa_nil))))) (pss_one (ps_ret (pe_lst (pa_cons (pe_un un_neg pe_int) pa_nil)))) pss_nil)
      (pss_cons (ps_setLc (i := 3) (own := [("lot", 4)]) (g := gName 4) (tt := tTest (tOp rNe (tVar 4) (tOp (rIxL K) (tVar 1) (tC (.int 0))))) (by rfl) nd rfl rfl (sw_true rfl rfl rfl (by decide +kernel)) (pi_list (pe_fld (pv 0) rfl))
          (blkOk_by (own := [("lot", 4)]) (N := ["auction", "numbers", "order", "lots", "lot"]) (sc := defScope s_max_revenue_if_withdrawn) (by decide +kernel))
          (fun _ _ _ _ _ => pg_name (i := 4) nd rfl (Or.inl rfl)) (fun _ _ _ _ _ => pts_one (pt_cmpR op_ne (pv 4) (pe_ix ixl (pv 1) pe_int (fun _ _ => rfl)) (nomark _))) (fun _ _ _ _ _ => pv 4))
      (pss_one (ps_ret (pe_lst (pa_cons (pc cg hr (by decide) (by rfl) (pa_cons (pe_fld (pv 0) rfl) (pa_cons (pe_fld (pv 0) rfl) (pa_cons (pv 3) pa_nil)))) pa_nil))))), ?_⟩
    refine ⟨.ref x, rfl, .ref nl, rfl, nl, nL [j], 0, nV j, rfl, rfl, SqL.of hn, atI_nat (j := 0) rfl, x, L, a, j, rfl, hA, _, rfl, ?_⟩
    have ap : Kh435.apply a (callOf 18 [j] ord) = (a, if a.remaining.contains j = false then Kh435.single (-2) else Kh435.single (Kh435.revenueOf { a with remaining := a.remaining.erase j } (Kh435.maxRevenueOrder { a with remaining := a.remaining.erase j }))) := rfl
    cases hc : a.remaining.contains j with
    | false =>
      refine ⟨2, rfl, (by show 1 ≤ sizeLine; decide), fun p np => ?_⟩
      exact k.one hH (a := a) (by rw [ap, if_pos hc]) ⟨L, hA, hO⟩ (Kept.same (Same.refl _)) np
    | true =>
      refine ⟨.ref x, rfl, x, C, L.dx, _, .ref L.rl, rfl, hA.ob, T.cl, T.n4, aF_remaining, L.rl, rfl, ⟨_, SqL.of hA.rl⟩, fun E0 nE => ?_⟩
      refine lc_list (K := K) (a := L.rl) (xs := nL a.remaining) (fun i H' => Same H H' ∧ H' E0 = some (.lst (nL ((a.remaining.take i).filter fun y => !decide (y = j))))) ⟨same_upd nE, upd_same⟩ (fun i H' _ ⟨s2, _⟩ => SqL.of (s2 _ _ hA.rl)) ?_ ?_
      · rintro i y H2 hi ⟨s2, eE⟩
        obtain ⟨l, hl, rfl⟩ := nL_of hi
        refine ⟨rfl, nV l, rfl, .ref nl, rfl, nl, nL [j], 0, nV j, rfl, rfl, SqL.of (s2 _ _ hn), atI_nat (j := 0) rfl, rfl, _, rfl, ?_⟩
        rw [nV_dec, filter_take hl]
        cases c : decide (l = j) with
        | true => exact ⟨s2, by rw [eE]; simp⟩
        | false =>
          refine ⟨nV l, rfl, _, eE, ?_, same_grow nE s2, ?_⟩
          · rw [nL_length]
            refine small' _ ?_
            have h1 := List.length_filter_le (fun y => !decide (y = j)) (a.remaining.take i)
            rw [List.length_take] at h1
            have h2 := hA.wf.few_rem
            omega
          · rw [upd_same, nL_append]
            rfl
      · rintro H2 ⟨s2, eE⟩
        rw [nL_length, List.take_length, ← erase_filter hA.wf.nd] at eE
        have hA2 := hA.same s2
        have wL := hA.wf.less (r := a.remaining.erase j) List.erase_sublist
        refine ⟨.ref x, rfl, x, C, L.dx, _, .ref L.wl, rfl, hA2.ob, T.cl, T.n2, aF_worths, .ref x, rfl, x, C, L.dx, _, .ref L.bl, rfl, hA2.ob, T.cl, T.n3, aF_budgets, .ref E0, rfl,
          L.wl, L.bl, E0, { a with remaining := a.remaining.erase j }, a.lotCount, rfl, hA2.grid, eE, wL.nd, wL.lt, wL.few_rem, fun H3 s3 => ⟨(by show 1 ≤ sizeLine; decide), fun p np => ?_⟩⟩
        exact k.one hH (a := a) (by rw [ap, if_neg (by rw [hc]; simp)]) ⟨L, hA2.same s3, hO⟩ (Kept.same (s2.trans s3)) np
end
end Pb
set_option Elab.async false
set_option linter.all false
set_option maxRecDepth 100000
set_option maxHeartbeats 4000000
namespace Pb
open PySem PySem.Spec PyProof.Rows L2
abbrev s_upper_bounds : Stmt := topS 49
theorem sc_upper_bounds : FnScope ["auction", "numbers", "order", "lot"] ["auction", "numbers", "order"] (defScope s_upper_bounds) := ⟨rfl, rfl, rfl, by decide +kernel, rfl, by decide +kernel, by decide +kernel⟩
abbrev s_welfare_of : Stmt := topS 50
theorem sc_welfare_of : FnScope ["auction", "numbers", "order", "found", "lot", "outcome"] ["auction", "numbers", "order"] (defScope s_welfare_of) := ⟨rfl, rfl, rfl, by decide +kernel, rfl, by decide +kernel, by decide +kernel⟩
abbrev s_purchases_of : Stmt := topS 51
theorem sc_purchases_of : FnScope ["auction", "numbers", "order", "payment", "lots", "lot", "outcome"] ["auction", "numbers", "order"] (defScope s_purchases_of) := ⟨rfl, rfl, rfl, by decide +kernel, rfl, by decide +kernel, by decide +kernel⟩
abbrev s_list_sales : Stmt := topS 52
theorem sc_list_sales : FnScope ["auction", "numbers", "order", "found", "sale"] ["auction", "numbers", "order"] (defScope s_list_sales) := ⟨rfl, rfl, rfl, by decide +kernel, rfl, by decide +kernel, by decide +kernel⟩
abbrev s_list_remaining : Stmt := topS 53
theorem sc_list_remaining : FnScope ["auction", "numbers", "order"] ["auction", "numbers", "order"] (defScope s_list_remaining) := ⟨rfl, rfl, rfl, by decide +kernel, rfl, by decide +kernel, by decide +kernel⟩
abbrev s_status : Stmt := topS 54
theorem sc_status : FnScope ["auction", "numbers", "order"] ["auction", "numbers", "order"] (defScope s_status) := ⟨rfl, rfl, rfl, by decide +kernel, rfl, by decide +kernel, by decide +kernel⟩
theorem nsum_snoc : ∀ (l : List Nat) (x : Nat), (l ++ [x]).sum = l.sum + x
  | [], x => by
    show ([x] : List Nat).sum = ([] : List Nat).sum + x
    rw [List.sum_cons, List.sum_nil]
    omega
  | y :: l, x => by
    show (y :: (l ++ [x])).sum = (y :: l).sum + x
    rw [List.sum_cons, List.sum_cons, nsum_snoc l x]
    omega
/-- the sales of an order, turn by turn -/
theorem sim_at {a : Kh435.Auction} {o : List Nat} {i l : Nat} {oc : Option (Nat × Nat)} (h1 : o[i]? = some l) (h2 : ((Kh435.simulate a a.budgets o).map (·.2))[i]? = some oc) : (Kh435.simulate a a.budgets o)[i]? = some (l, oc) := by
  rw [List.getElem?_map] at h2
  obtain ⟨z, hz, rfl⟩ := Option.map_eq_some_iff.mp h2
  have h3 : ((Kh435.simulate a a.budgets o).map (·.1))[i]? = some l := by
    rw [simulate_fst]
    exact h1
  rw [List.getElem?_map, hz] at h3
  have e : z.1 = l := Option.some.inj h3
  rw [hz, ← e]
def worth (a : Kh435.Auction) (x : Nat × Option (Nat × Nat)) : Nat := match x.2 with
  | none => 0
  | some p => Kh435.valueOf a p.1 x.1
def bought (i : Nat) (x : Nat × Option (Nat × Nat)) : Option (Nat × Nat) := match x.2 with
  | none => none
  | some p => if p.1 = i then some (x.1, p.2) else none
theorem filterMap_snoc {α β : Type} (f : α → Option β) (l : List α) (x : α) : (l ++ [x]).filterMap f = l.filterMap f ++ (match f x with
    | none => []
    | some y => [y]) := by
  rw [List.filterMap_append]
  congr 1
section
variable {P : Program} {w : World} {K : PySem.W.Frag} {mg : Str → Option Value} {base : Heap} {C : Addr}
theorem d_bounds (D : DefAt K mg "upper_bounds" s_upper_bounds ["auction", "numbers", "order"]) (B : Bi mg) (T : ClsA K C) (ch : Callee P w K mg base 2 "highest_bid" (spHigh C)) : Callee P w K mg base 9 "upper_bounds" (spDeed C 19) := by
  refine D.callee sc_upper_bounds (fun vs H Q E h => ?_) (fun f cdv A outer s H vs Q E hr h => ?_)
  · obtain ⟨_, _, _, _, _, _, _, rfl, _⟩ := h
    rfl
  · obtain ⟨x, nl, ol, a, ns, ord, Z, rfl, ⟨L, hA, hO⟩, hH, hn, ho, hln, h5, k⟩ := h
    obtain rfl := len0 hln
    have nd := sc_upper_bounds.nd
    refine ⟨_, pss_one (ps_ret (pe_lst (pa_cons (pe_callB (cr_sum rfl) (by rfl) B.sum (by decide +kernel) (pa_cons (pe_lc (own := [("lot", 3)]) (g := gName 3) (tt := tYes) (by rfl) nd (pi_list (pe_fld (pv 0) rfl))
          (blkOk_by (own := [("lot", 3)]) (N := ["auction", "numbers", "order", "lot"]) (sc := defScope s_upper_bounds) (by decide +kernel))
          (fun _ _ _ _ _ => pg_name (i := 3) nd rfl (Or.inl rfl)) (fun _ _ _ _ _ => pts_nil) (fun _ _ _ _ _ => pc ch hr (by decide) (by rfl) (pa_cons (pv 0) (pa_cons (pv 3) pa_nil)))) pa_nil))
        (pa_cons (pe_callB (cr_sum rfl) (by rfl) B.sum (by decide +kernel) (pa_cons (pe_fld (pv 0) rfl) pa_nil)) pa_nil)))), ?_⟩
    have h5r := hA.wf.few_rem
    refine ⟨.ref x, rfl, x, C, L.dx, _, .ref L.rl, rfl, hA.ob, T.cl, T.n4, aF_remaining, L.rl, rfl, ⟨_, SqL.of hA.rl⟩, fun E0 nE => ?_⟩
    refine lc_list (K := K) (a := L.rl) (xs := nL a.remaining) (fun i H' => Same H H' ∧ H' E0 = some (.lst (nL ((a.remaining.map (Kh435.highestBid a)).take i)))) ⟨same_upd nE, upd_same⟩ (fun i H' _ ⟨s2, _⟩ => SqL.of (s2 _ _ hA.rl)) ?_ ?_
    · rintro i y H2 hi ⟨s2, eE⟩
      obtain ⟨l, hl, rfl⟩ := nL_of hi
      refine ⟨rfl, .ref x, rfl, nV l, rfl, x, L, a, l, rfl, hA.same s2, hA.wf.lt l (List.mem_of_getElem? hl), fun H3 s3 => ?_⟩
      refine ⟨_, s3 _ _ eE, by rw [nL_length, List.length_take, List.length_map]; exact small' _ (by omega), same_grow nE (s2.trans s3), ?_⟩
      rw [upd_same, take_snoc (l := a.remaining.map (Kh435.highestBid a)) (x := Kh435.highestBid a l) (by rw [List.getElem?_map, hl]; rfl), nL_append]
      rfl
    · rintro H2 ⟨s2, eE⟩
      rw [nL_length, List.take_of_length_le (by rw [List.length_map]; exact Nat.le_refl _)] at eE
      have hA2 := hA.same s2
      refine ⟨E0, nI (a.remaining.map (Kh435.highestBid a)), rfl, SqL.of (by rw [eE, nL_int]), .ref x, rfl, x, C, L.dx, _, .ref L.bl, rfl, hA2.ob, T.cl, T.n3, aF_budgets, L.bl, nI a.budgets, rfl, SqL.of (by rw [hA2.bl, nL_int]), (by show 2 ≤ sizeLine; decide), fun p np => ?_⟩
      rw [nI_sum, nI_sum]
      exact k.new hH (a := a) (n := (a.remaining.map (Kh435.highestBid a)).sum) (l := [a.budgets.sum]) rfl ⟨L, hA2, hO⟩ (Kept.same s2) np
theorem d_welfare (D : DefAt K mg "welfare_of" s_welfare_of ["auction", "numbers", "order"]) (B : Bi mg) (T : ClsA K C) (ci : Callee P w K mg base 1 "is_order" (spIsOrd C)) (co : Callee P w K mg base 4 "outcomes_now" (spOutsNow C)) : Callee P w K mg base 9 "welfare_of" (spDeed C 20) := by
  refine D.callee sc_welfare_of (fun vs H Q E h => ?_) (fun f cdv A outer s H vs Q E hr h => ?_)
  · obtain ⟨_, _, _, _, _, _, _, rfl, _⟩ := h
    rfl
  · obtain ⟨x, nl, ol, a, ns, ord, Z, rfl, ⟨L, hA, hO⟩, hH, hn, ho, hln, h5, k⟩ := h
    obtain rfl := len0 hln
    have nd := sc_welfare_of.nd
    refine ⟨_, pss_cons (ps_if (pt_not (pt_val (pc ci hr (by decide) (by rfl) (pa_cons (pv 0) (pa_cons (pv 2) pa_nil))))) (pss_one (ps_ret (pe_lst (pa_cons (pe_un un_neg pe_int) pa_nil)))) pss_nil)
      (pss_cons (ps_set (i := 3) nd rfl (Or.inl rfl) pe_int)
      (pss_cons (ps_for PassesOwn.never rfl (pi_zip (by rfl) B.zip (pa_cons (pv 2) (pa_cons (pc co hr (by decide) (by rfl) (pa_cons (pv 0) (pa_cons (pv 2) pa_nil))) pa_nil))) (pg_tup rfl (pgs_cons (pg_name (i := 4) nd rfl (Or.inl rfl)) (pgs_cons (pg_name (i := 5) nd rfl (Or.inl rfl)) pgs_nil)))
        (pss_one (ps_if (pt_cmpR op_ge (pe_ix ix_tup (pv 5) pe_int (fun _ _ => rfl)) pe_int (nomark _))
          (pss_one (ps_aug (i := 3) nd rfl (Or.inl rfl) (pe_ix ix_list (pe_ix ix_list (pe_fld (pv 0) rfl) (pe_ix ix_tup (pv 5) pe_int (fun _ _ => rfl)) (fun _ _ => rfl)) (pv 4) (fun _ _ => rfl)) ip_add)) pss_nil)))
      (pss_one (ps_ret (pe_lst (pa_cons (pv 3) pa_nil)))))), ?_⟩
    have ap : Kh435.apply a (callOf 20 [] ord) = (a, if Kh435.isOrder a ord = false then Kh435.single (-22) else Kh435.single (Kh435.welfareOf a ord)) := rfl
    refine ⟨.ref x, rfl, .ref ol, rfl, x, ol, L, a, ord, rfl, hA, ho, h5, fun H1 s1 => ⟨_, rfl, ?_⟩⟩
    have hA1 := hA.same s1
    cases hc : Kh435.isOrder a ord with
    | false =>
      refine ⟨22, rfl, (by show 1 ≤ sizeLine; decide), fun p np => ?_⟩
      exact k.one hH (a := a) (by rw [ap, if_pos hc]) ⟨L, hA1, hO⟩ (Kept.same s1) np
    | true =>
      have hin := order_in hA.wf hc
      refine ⟨.ref ol, rfl, .ref x, rfl, .ref ol, rfl, x, ol, L, a, ord, rfl, hA1, s1 _ _ ho, hin, h5, fun H2 p ts s2 n2 e2 ot => ?_⟩
      have s12 := s1.trans s2
      have hn2 : ord.length = min (nL ord).length (ts.map V.ref).length := by
        rw [nL_length, List.length_map, ot.len, List.length_map, simulate_length, Nat.min_self]
      refine ⟨ol, p, nL ord, ts.map V.ref, rfl, SqL.of (s12 _ _ ho), SqL.of e2, for_it (walk_zip (xs := nL ord) (ys := ts.map V.ref) hn2)
        (fun i σ H' => ∃ y4 y5 : Option V, σ = [some (.ref x), some (.ref nl), some (.ref ol), some (nV (((Kh435.simulate a a.budgets ord).map (worth a)).take i).sum), y4, y5] ∧ Same H2 H')
        ⟨none, none, rfl, Same.refl _⟩ (fun i σ H' _ ⟨_, _, _, s3⟩ => ⟨SqL.of (s3 _ _ (s12 _ _ ho)), SqL.of (s3 _ _ e2)⟩) ?_ ?_⟩
      · rintro i y σ H3 H3' hi ⟨y4, y5, rfl, s3⟩ ⟨Tp, u, v, rfl, nT, rfl, hu, hv⟩
        obtain ⟨l, hl, rfl⟩ := nL_of hu
        obtain ⟨t, ht, rfl⟩ := refs_of hv
        obtain ⟨oc, hoc, et⟩ := ot.at_ i t ht
        have hS := sim_at hl hoc
        have s4 : Same H3 (upd H3 Tp (.tup [nV l, .ref t])) := same_upd nT
        have s24 := s3.trans s4
        have et4 := s24 _ _ et
        refine ⟨Tp, [nV l, .ref t], rfl, SqT.of upd_same, rfl, nV l, [.ref t], rfl, .ref t, [], rfl, rfl, ?_⟩
        have tk := take_snoc (l := (Kh435.simulate a a.budgets ord).map (worth a)) (i := i) (x := worth a (l, oc)) (by rw [List.getElem?_map, hS]; rfl)
        have sn := nsum_snoc (((Kh435.simulate a a.budgets ord).map (worth a)).take i) (worth a (l, oc))
        rw [← tk] at sn
        cases oc with
        | none =>
          refine ⟨.ref t, rfl, t, _, 0, .int (-1), rfl, rfl, SqT.of et4, atI_nat (j := 0) rfl, _, _, rfl, rfl, _, rfl, iteF ?_⟩
          refine ⟨some (nV l), some (.ref t), ?_, s24⟩
          rw [sn]
          rfl
        | some b =>
          have hb := simulate_buyer a ord a.budgets (l, some b) b (List.mem_of_getElem? hS) rfl
          have hl2 := hin l (List.mem_of_getElem? hl)
          have hiv : b.1 < a.values.length := by
            rw [hA.wf.vb]
            exact hb
          obtain ⟨r, hr1, er⟩ := hA.rows.get (List.getElem?_eq_getElem hiv)
          have hrl : a.values[b.1].length = a.lotCount := hA.wf.rows _ (List.getElem_mem hiv)
          have hlr : l < a.values[b.1].length := by omega
          have sA := s12.trans s24
          have hA4 := hA.same sA
          have hw : worth a (l, some b) = a.values[b.1][l] := by
            show (a.values.getD b.1 []).getD l 0 = _
            rw [List.getD_eq_getElem?_getD (l := a.values), List.getElem?_eq_getElem hiv, List.getD_eq_getElem?_getD]
            show (a.values[b.1][l]?).getD 0 = _
            rw [List.getElem?_eq_getElem hlr]
            rfl
          refine ⟨.ref t, rfl, t, _, 0, nV b.1, rfl, rfl, SqT.of et4, atI_nat (j := 0) rfl, _, _, rfl, rfl, _, rfl, ite2 (fun _ => ?_) (fun c => absurd (decide_eq_true (show (0 : Int) ≤ (b.1 : Int) by omega)) c)⟩
          refine ⟨_, rfl, .ref x, rfl, x, C, L.dx, _, .ref L.wl, rfl, hA4.ob, T.cl, T.n2, aF_worths, .ref t, rfl, t, _, 0, nV b.1, rfl, rfl, SqT.of et4, atI_nat (j := 0) rfl, L.wl, L.rows.map V.ref, (b.1 : Int), .ref r, rfl, rfl, SqL.of hA4.wl, atI_nat (refs_get hr1), nV l, rfl, r, nL a.values[b.1], (l : Int), nV a.values[b.1][l], rfl, rfl, SqL.of (sA _ _ er), atI_nV (List.getElem?_eq_getElem hlr), _, _, rfl, rfl, ?_⟩
          refine ⟨some (nV l), some (.ref t), ?_, s24⟩
          rw [sn, hw]
          rfl
      · rintro σ H3 ⟨y4, y5, rfl, s3⟩
        have e : (((Kh435.simulate a a.budgets ord).map (worth a)).take ord.length).sum = Kh435.welfareOf a ord := by
          rw [List.take_of_length_le (by rw [List.length_map, simulate_length]; exact Nat.le_refl _)]
          rfl
        rw [e]
        refine ⟨nV (Kh435.welfareOf a ord), rfl, (by show 1 ≤ sizeLine; decide), fun q nq => ?_⟩
        exact k.one hH (a := a) (by rw [ap, if_neg (by rw [hc]; simp)]) ⟨L, hA.same (s12.trans s3), hO⟩ (Kept.same (s12.trans s3)) nq
theorem d_purchases (D : DefAt K mg "purchases_of" s_purchases_of ["auction", "numbers", "order"]) (B : Bi mg) (T : ClsA K C) (cb : Callee P w K mg base 1 "has_bidder" (spHasB C)) (ci : Callee P w K mg base 1 "is_order" (spIsOrd C)) (co : Callee P w K mg base 4 "outcomes_now" (spOutsNow C)) : Callee P w K mg base 9 "purchases_of" (spDeed C 21) := by
  refine D.callee sc_purchases_of (fun vs H Q E h => ?_) (fun f cdv A outer s H vs Q E hr h => ?_)
  · obtain ⟨_, _, _, _, _, _, _, rfl, _⟩ := h
    rfl
  · obtain ⟨x, nl, ol, a, ns, ord, Z, rfl, ⟨L, hA, hO⟩, hH, hn, ho, hln, h5, k⟩ := h
    obtain ⟨b, rfl⟩ := len1 hln
    have nd := sc_purchases_of.nd
    refine ⟨_, pss_cons (ps_if (pt_not (pt_val (pc cb hr (by decide) (by rfl) (pa_cons (pv 0) (pa_cons (pe_ix ix_list (pv 1) pe_int (fun _ _ => rfl)) pa_nil))))) (pss_one (ps_ret (pe_lst (pa_cons (pe_un un_neg pe_int) pa_nil)))) pss_nil)
      (pss_cons (ps_if (pt_not (pt_val (pc ci hr (by decide) (by rfl) (pa_cons (pv 0) (pa_cons (pv 2) pa_nil))))) (pss_one (ps_ret (pe_lst (pa_cons (pe_un un_neg pe_int) pa_nil)))) pss_nil)
      (pss_cons (ps_set (i := 3) nd rfl (Or.inl rfl) pe_int)
      (pss_cons (ps_set (i := 4) nd rfl (Or.inl rfl) (pe_lst pa_nil))
      (pss_cons (ps_for PassesOwn.never rfl (pi_zip (by rfl) B.zip (pa_cons (pv 2) (pa_cons (pc co hr (by decide) (by rfl) (pa_cons (pv 0) (pa_cons (pv 2) pa_nil))) pa_nil))) (pg_tup rfl (pgs_cons (pg_name (i := 5) nd rfl (Or.inl rfl)) (pgs_cons (pg_name (i := 6) nd rfl (Or.inl rfl)) pgs_nil)))
        (pss_one (ps_if (pt_cmpR op_eq (pe_ix ix_tup (pv 6) pe_int (fun _ _ => rfl)) (pe_ix ix_list (pv 1) pe_int (fun _ _ => rfl)) (nomark _))
          (pss_cons (ps_aug (i := 3) nd rfl (Or.inl rfl) (pe_ix ix_tup (pv 6) pe_int (fun _ _ => rfl)) ip_add)
          (pss_one (ps_expr (pe_bm PySem.F.plainAttrs_list PySem.F.slot_list_append PySem.F.type_list_append mt_append (pv 4) (pa_cons (pv 5) pa_nil))))) pss_nil)))
      (pss_one (ps_ret (pe_op op_cat (pe_lst (pa_cons (pv 3) pa_nil)) (pv 4)))))))), ?_⟩
    have ap : Kh435.apply a (callOf 21 [b] ord) = (a, if Kh435.isBidder a b = false then Kh435.single (-2) else if Kh435.isOrder a ord = false then Kh435.single (-22) else Kh435.withValues (((Kh435.simulate a a.budgets ord).filterMap (bought b)).map fun x => x.2).sum (((Kh435.simulate a a.budgets ord).filterMap (bought b)).map fun x => x.1)) := rfl
    refine ⟨.ref x, rfl, .ref nl, rfl, nl, nL [b], 0, nV b, rfl, rfl, SqL.of hn, atI_nat (j := 0) rfl, x, L, a, b, rfl, hA, _, rfl, ?_⟩
    cases hb : Kh435.isBidder a b with
    | false =>
      refine ⟨2, rfl, (by show 1 ≤ sizeLine; decide), fun p np => ?_⟩
      exact k.one hH (a := a) (by rw [ap, if_pos hb]) ⟨L, hA, hO⟩ (Kept.same (Same.refl _)) np
    | true =>
      have nob : ¬ (Kh435.isBidder a b = false) := by
        rw [hb]
        simp
      refine ⟨.ref x, rfl, .ref ol, rfl, x, ol, L, a, ord, rfl, hA, ho, h5, fun H1 s1 => ⟨_, rfl, ?_⟩⟩
      have hA1 := hA.same s1
      cases hc : Kh435.isOrder a ord with
      | false =>
        refine ⟨22, rfl, (by show 1 ≤ sizeLine; decide), fun p np => ?_⟩
        exact k.one hH (a := a) (by rw [ap, if_neg nob, if_pos hc]) ⟨L, hA1, hO⟩ (Kept.same s1) np
      | true =>
        have noc : ¬ (Kh435.isOrder a ord = false) := by
          rw [hc]
          simp
        have hin := order_in hA.wf hc
        refine ⟨Nat.zero_le _, fun lo nlo => ?_⟩
        have s1b : Same H1 (upd H1 lo (.lst [])) := same_upd nlo
        have s1c := s1.trans s1b
        have hlo0 : H lo = none := s1.free nlo
        refine ⟨.ref ol, rfl, .ref x, rfl, .ref ol, rfl, x, ol, L, a, ord, rfl, hA.same s1c, s1c _ _ ho, hin, h5, fun H2 p ts s2 n2 e2 ot => ?_⟩
        have s12 := s1c.trans s2
        have elo : H2 lo = some (.lst []) := s2 _ _ upd_same
        have plo : p ≠ lo := (ne_of_none upd_same n2).symm
        have ollo : ol ≠ lo := ne_of_none ho hlo0
        have nllo : nl ≠ lo := ne_of_none hn hlo0
        have hn2 : ord.length = min (nL ord).length (ts.map V.ref).length := by
          rw [nL_length, List.length_map, ot.len, List.length_map, simulate_length, Nat.min_self]
        refine ⟨ol, p, nL ord, ts.map V.ref, rfl, SqL.of (s12 _ _ ho), SqL.of e2, for_it (walk_zip (xs := nL ord) (ys := ts.map V.ref) hn2)
          (fun i σ H' => ∃ y5 y6 : Option V, σ = [some (.ref x), some (.ref nl), some (.ref ol), some (nV ((((Kh435.simulate a a.budgets ord).take i).filterMap (bought b)).map fun x => x.2).sum), some (.ref lo), y5, y6] ∧ Kept (fun z => z ≠ lo) H2 H' ∧ H' lo = some (.lst (nL ((((Kh435.simulate a a.budgets ord).take i).filterMap (bought b)).map fun x => x.1))))
          ⟨none, none, rfl, Kept.same (Same.refl _), elo⟩ (fun i σ H' _ ⟨_, _, _, kp, _⟩ => ⟨SqL.of (kp ol _ ollo (s12 _ _ ho)), SqL.of (kp p _ plo e2)⟩) ?_ ?_⟩
        · rintro i y σ H3 H3' hi ⟨y5, y6, rfl, kp, el3⟩ ⟨Tp, u, v, rfl, nT, rfl, hu, hv⟩
          obtain ⟨l, hl, rfl⟩ := nL_of hu
          obtain ⟨t, ht, rfl⟩ := refs_of hv
          obtain ⟨oc, hoc, et⟩ := ot.at_ i t ht
          have hS := sim_at hl hoc
          have tlo : t ≠ lo := ne_of et elo (by intro z; cases z)
          have s4 : Same H3 (upd H3 Tp (.tup [nV l, .ref t])) := same_upd nT
          have et4 := s4 _ _ (kp t _ tlo et)
          have el4 := s4 _ _ el3
          have hn4 := s4 _ _ (kp nl _ nllo (s12 _ _ hn))
          have kp4 := kp.trans (Kept.same (Z := fun z => z ≠ lo) s4)
          refine ⟨Tp, [nV l, .ref t], rfl, SqT.of upd_same, rfl, nV l, [.ref t], rfl, .ref t, [], rfl, rfl, ?_⟩
          have fs := filterMap_snoc (bought b) ((Kh435.simulate a a.budgets ord).take i) (l, oc)
          rw [← take_snoc hS] at fs
          generalize upd H3 Tp (.tup [nV l, .ref t]) = H4 at et4 el4 hn4 kp4 ⊢
          cases oc with
          | none =>
            refine ⟨.ref t, rfl, t, _, 0, .int (-1), rfl, rfl, SqT.of et4, atI_nat (j := 0) rfl, .ref nl, rfl, nl, nL [b], 0, nV b, rfl, rfl, SqL.of hn4, atI_nat (j := 0) rfl, rfl, _, rfl, ite2 (fun c => ?_) (fun _ => ?_)⟩
            · have := V.int.inj (of_decide_eq_true c)
              omega
            · have fs2 : ((Kh435.simulate a a.budgets ord).take (i + 1)).filterMap (bought b) = ((Kh435.simulate a a.budgets ord).take i).filterMap (bought b) := fs.trans (List.append_nil _)
              refine ⟨some (nV l), some (.ref t), ?_, kp4, ?_⟩
              · rw [fs2]
                rfl
              · rw [fs2]
                exact el4
          | some q =>
            refine ⟨.ref t, rfl, t, _, 0, nV q.1, rfl, rfl, SqT.of et4, atI_nat (j := 0) rfl, .ref nl, rfl, nl, nL [b], 0, nV b, rfl, rfl, SqL.of hn4, atI_nat (j := 0) rfl, rfl, _, rfl, ite2 (fun c => ?_) (fun c => ?_)⟩
            · have eqb : q.1 = b := by
                have := V.int.inj (of_decide_eq_true c)
                omega
              have bq : bought b (l, some q) = some (l, q.2) := if_pos eqb
              rw [bq] at fs
              have fs2 : ((Kh435.simulate a a.budgets ord).take (i + 1)).filterMap (bought b) = ((Kh435.simulate a a.budgets ord).take i).filterMap (bought b) ++ [(l, q.2)] := fs
              have hlen : (((Kh435.simulate a a.budgets ord).take i).filterMap (bought b)).length ≤ 5 := by
                refine Nat.le_trans (List.length_filterMap_le _ _) ?_
                rw [List.length_take, simulate_length]
                omega
              refine ⟨_, rfl, .ref t, rfl, t, _, 1, nV q.2, rfl, rfl, SqT.of et4, atI_nat (j := 1) rfl, _, _, rfl, rfl, ?_⟩
              refine ⟨.ref lo, rfl, .inl ⟨rfl, _, SqL.of el4⟩, nV l, rfl, lo, _, nV l, rfl, rfl, el4, by rw [nL_length, List.length_map]; exact small' _ (by omega), ?_⟩
              refine ⟨some (nV l), some (.ref t), ?_, kp4.upd (fun z => z rfl), ?_⟩
              · rw [fs2, List.map_append]
                show _ = [some (V.ref x), some (V.ref nl), some (V.ref ol), some (nV (((((Kh435.simulate a a.budgets ord).take i).filterMap (bought b)).map fun x => x.2) ++ [q.2]).sum), some (V.ref lo), some (nV l), some (.ref t)]
                rw [nsum_snoc]
                rfl
              · rw [upd_same, fs2, List.map_append, nL_append]
                rfl
            · have neb : ¬ q.1 = b := fun z => c (decide_eq_true (by rw [z]))
              have bq : bought b (l, some q) = none := if_neg neb
              rw [bq] at fs
              have fs2 : ((Kh435.simulate a a.budgets ord).take (i + 1)).filterMap (bought b) = ((Kh435.simulate a a.budgets ord).take i).filterMap (bought b) := fs.trans (List.append_nil _)
              refine ⟨some (nV l), some (.ref t), ?_, kp4, ?_⟩
              · rw [fs2]
                rfl
              · rw [fs2]
                exact el4
        · rintro σ H3 ⟨y5, y6, rfl, kp, el3⟩
          rw [List.take_of_length_le (by rw [simulate_length]; exact Nat.le_refl _)] at el3 ⊢
          have hlen : ((Kh435.simulate a a.budgets ord).filterMap (bought b)).length ≤ 5 := by
            refine Nat.le_trans (List.length_filterMap_le _ _) ?_
            rw [simulate_length]
            exact h5
          have kpH : Same H H3 := fun z o ez => kp z o (ne_of_none ez hlo0) (s12 _ _ ez)
          generalize ((((Kh435.simulate a a.budgets ord).filterMap (bought b)).map fun x => x.2).sum) = pay at ap ⊢
          generalize hls : (((Kh435.simulate a a.budgets ord).filterMap (bought b)).map fun x => x.1) = ls at ap el3 ⊢
          have hll : ls.length ≤ 5 := by
            rw [← hls, List.length_map]
            exact hlen
          refine ⟨nV pay, rfl, (by show 1 ≤ sizeLine; decide), fun e ne => ?_⟩
          have s5 : Same H3 (upd H3 e (.lst [nV pay])) := same_upd ne
          refine ⟨.ref lo, rfl, e, lo, [nV pay], nL ls, rfl, rfl, upd_same, s5 _ _ el3, small _ (by rw [nL_length]; show 1 + ls.length ≤ 100000; omega), fun q nq => ?_⟩
          exact k.new hH (a := a) (n := pay) (l := ls) (by rw [ap, if_neg nob, if_neg noc]) ⟨L, (hA.same kpH).same s5, hO⟩ (Kept.same (kpH.trans s5)) nq
theorem d_sales (D : DefAt K mg "list_sales" s_list_sales ["auction", "numbers", "order"]) (B : Bi mg) (T : ClsA K C) : Callee P w K mg base 9 "list_sales" (spDeed C 22) := by
  refine D.callee sc_list_sales (fun vs H Q E h => ?_) (fun f cdv A outer s H vs Q E hr h => ?_)
  · obtain ⟨_, _, _, _, _, _, _, rfl, _⟩ := h
    rfl
  · obtain ⟨x, nl, ol, a, ns, ord, Z, rfl, ⟨L, hA, hO⟩, hH, hn, ho, hln, h5, k⟩ := h
    obtain rfl := len0 hln
    have nd := sc_list_sales.nd
    refine ⟨_, pss_cons (ps_set (i := 3) nd rfl (Or.inl rfl) (pe_lst (pa_cons (pe_callB call_len_seq (by rfl) B.len PySem.boot_len (pa_cons (pe_fld (pv 0) rfl) pa_nil)) pa_nil)))
      (pss_cons (ps_for PassesOwn.never rfl (pi_list (pe_fld (pv 0) rfl)) (pg_name (i := 4) nd rfl (Or.inl rfl))
        (pss_one (ps_expr (pe_bm PySem.F.plainAttrs_list PySem.F.slot_list_extend PySem.F.type_list_extend mt_extend (pv 3) (pa_cons (pe_callTy call_list_of (by rfl) B.list (by decide +kernel) (pa_cons (pv 4) pa_nil)) pa_nil)))))
      (pss_one (ps_ret (pv 3)))), ?_⟩
    have few := hA.wf.few
    refine ⟨.ref x, rfl, x, C, L.dx, _, .ref L.sl, rfl, hA.ob, T.cl, T.n5, aF_sales, L.sl, L.sas.map V.ref, rfl, .inl (SqL.of hA.sl), (by show 1 ≤ sizeLine; decide), fun fo nfo => ?_⟩
    have el : V.int ((L.sas.map V.ref).length : Nat) = nV a.sales.length := by rw [List.length_map, hA.sas.len]
    rw [el]
    have s1 : Same H (upd H fo (.lst [nV a.sales.length])) := same_upd nfo
    have hA1 := hA.same s1
    have efo : (upd H fo (.lst [nV a.sales.length])) fo = some (.lst [nV a.sales.length]) := upd_same
    have slfo : L.sl ≠ fo := ne_of_none hA.sl nfo
    generalize upd H fo (.lst [nV a.sales.length]) = H1 at s1 hA1 efo ⊢
    refine ⟨.ref x, rfl, x, C, L.dx, _, .ref L.sl, rfl, hA1.ob, T.cl, T.n5, aF_sales, L.sl, rfl, ⟨_, SqL.of hA1.sl⟩, for_list (K := K) (a := L.sl) (xs := L.sas.map V.ref)
      (fun i σ H' => ∃ y4 : Option V, σ = [some (.ref x), some (.ref nl), some (.ref ol), some (.ref fo), y4] ∧ Kept (fun z => z ≠ fo) H1 H' ∧ H' fo = some (.lst (nL (a.sales.length :: (a.sales.take i).flatMap fun x => [x.1, x.2.1, x.2.2]))))
      ⟨none, rfl, Kept.same (Same.refl _), efo⟩ (fun i σ H' _ ⟨_, _, kp, _⟩ => SqL.of (kp L.sl _ slfo hA1.sl)) ?_ ?_⟩
    · rintro i y σ H2 hi ⟨y4, rfl, kp, ef⟩
      obtain ⟨t, ht, rfl⟩ := refs_of hi
      obtain ⟨sa, hsa, et⟩ := hA1.sas.at_ i t ht
      have tfo : t ≠ fo := ne_of et efo (by intro z; cases z)
      have et2 := kp t _ tfo et
      refine ⟨.ref fo, rfl, .inl ⟨rfl, _, SqL.of ef⟩, .ref t, rfl, t, sV sa, rfl, .inr (SqT.of et2), fun q nq => ?_⟩
      have s3 : Same H2 (upd H2 q (.lst (sV sa))) := same_upd nq
      have bound : ((a.sales.take i).flatMap fun x => [x.1, x.2.1, x.2.2]).length ≤ 3 * i := by
        have gen : ∀ l : List (Nat × Nat × Nat), (l.flatMap fun x => [x.1, x.2.1, x.2.2]).length ≤ 3 * l.length := fun l => by
          induction l with
          | nil => exact Nat.zero_le _
          | cons z r ih =>
            rw [List.flatMap_cons, List.length_append]
            simp only [List.length_cons, List.length_nil]
            omega
        refine Nat.le_trans (gen _) ?_
        rw [List.length_take]
        omega
      have hil : i < a.sales.length := (List.getElem?_eq_some_iff.mp hsa).1
      refine ⟨fo, q, _, sV sa, rfl, rfl, s3 _ _ ef, upd_same, small _ (by rw [nL_length, List.length_cons]; show _ + 3 ≤ 100000; omega), ?_⟩
      refine ⟨_, rfl, (kp.trans (Kept.same s3)).upd (fun z => z rfl), ?_⟩
      rw [upd_same, take_snoc hsa, List.flatMap_append]
      show some (HO.lst (nL (a.sales.length :: (a.sales.take i).flatMap fun x => [x.1, x.2.1, x.2.2]) ++ nL [sa.1, sa.2.1, sa.2.2])) = some (HO.lst (nL (a.sales.length :: ((a.sales.take i).flatMap (fun x => [x.1, x.2.1, x.2.2]) ++ [sa].flatMap (fun x => [x.1, x.2.1, x.2.2])))))
      rw [← nL_append, List.flatMap_cons, List.flatMap_nil, List.append_nil]
      rfl
    · rintro σ H2 ⟨y4, rfl, kp, ef⟩
      rw [List.length_map, hA1.sas.len, List.take_length] at ef
      refine ⟨.ref fo, rfl, ?_⟩
      have kpH : Same H H2 := fun z o ez => kp z o (ne_of_none ez nfo) (s1 _ _ ez)
      exact k.list (new_off hH (Kept.same (Same.refl _)) nfo) (a := a) rfl ⟨L, hA.same kpH, hO⟩ (Kept.same kpH) ef
theorem d_remaining (D : DefAt K mg "list_remaining" s_list_remaining ["auction", "numbers", "order"]) (B : Bi mg) (T : ClsA K C) : Callee P w K mg base 9 "list_remaining" (spDeed C 23) := by
  refine D.callee sc_list_remaining (fun vs H Q E h => ?_) (fun f cdv A outer s H vs Q E hr h => ?_)
  · obtain ⟨_, _, _, _, _, _, _, rfl, _⟩ := h
    rfl
  · obtain ⟨x, nl, ol, a, ns, ord, Z, rfl, ⟨L, hA, hO⟩, hH, hn, ho, hln, h5, k⟩ := h
    obtain rfl := len0 hln
    refine ⟨_, pss_one (ps_ret (pe_op op_cat (pe_op op_cat (pe_lst (pa_cons (pe_callB call_len_seq (by rfl) B.len PySem.boot_len (pa_cons (pe_fld (pv 0) rfl) pa_nil)) pa_nil)) (pe_fld (pv 0) rfl)) (pe_fld (pv 0) rfl))), ?_⟩
    have few := hA.wf.few
    refine ⟨.ref x, rfl, x, C, L.dx, _, .ref L.rl, rfl, hA.ob, T.cl, T.n4, aF_remaining, L.rl, nL a.remaining, rfl, .inl (SqL.of hA.rl), (by show 1 ≤ sizeLine; decide), fun e ne => ?_⟩
    rw [nL_length]
    have s1 : Same H (upd H e (.lst [nV a.remaining.length])) := same_upd ne
    have hA1 := hA.same s1
    refine ⟨.ref x, rfl, x, C, L.dx, _, .ref L.rl, rfl, hA1.ob, T.cl, T.n4, aF_remaining, e, L.rl, [nV a.remaining.length], nL a.remaining, rfl, rfl, upd_same, hA1.rl, small _ (by rw [nL_length]; show 1 + a.remaining.length ≤ 100000; omega), fun e2 ne2 => ?_⟩
    have s2 : Same (upd H e (.lst [nV a.remaining.length])) (upd (upd H e (.lst [nV a.remaining.length])) e2 (.lst ([nV a.remaining.length] ++ nL a.remaining))) := same_upd ne2
    have hA2 := hA1.same s2
    refine ⟨.ref x, rfl, x, C, L.dx, _, .ref L.wd, rfl, hA2.ob, T.cl, T.n6, aF_withdrawn, e2, L.wd, [nV a.remaining.length] ++ nL a.remaining, nL a.withdrawn, rfl, rfl, upd_same, hA2.wd, small _ (by rw [List.length_append, nL_length, nL_length]; show 1 + a.remaining.length + a.withdrawn.length ≤ 100000; omega), fun p np => ?_⟩
    have el : [nV a.remaining.length] ++ nL a.remaining ++ nL a.withdrawn = nL (a.remaining.length :: (a.remaining ++ a.withdrawn)) := by
      rw [List.append_assoc, ← nL_append]
      rfl
    rw [el]
    exact k.new hH (a := a) rfl ⟨L, hA2, hO⟩ (Kept.same (s1.trans s2)) np
theorem d_status (D : DefAt K mg "status" s_status ["auction", "numbers", "order"]) (B : Bi mg) (T : ClsA K C) : Callee P w K mg base 9 "status" (spDeed C 24) := by
  refine D.callee sc_status (fun vs H Q E h => ?_) (fun f cdv A outer s H vs Q E hr h => ?_)
  · obtain ⟨_, _, _, _, _, _, _, rfl, _⟩ := h
    rfl
  · obtain ⟨x, nl, ol, a, ns, ord, Z, rfl, ⟨L, hA, hO⟩, hH, hn, ho, hln, h5, k⟩ := h
    obtain rfl := len0 hln
    refine ⟨_, pss_one (ps_ret (pe_op op_cat (pe_lst (pa_cons (pe_fld (pv 0) rfl) (pa_cons (pe_callB call_len_seq (by rfl) B.len PySem.boot_len (pa_cons (pe_fld (pv 0) rfl) pa_nil)) pa_nil))) (pe_fld (pv 0) rfl))), ?_⟩
    have h4 := hA.wf.nb4
    refine ⟨.ref x, rfl, x, C, L.dx, _, nV a.lotCount, rfl, hA.ob, T.cl, T.n1, aF_lots, .ref x, rfl, x, C, L.dx, _, .ref L.bl, rfl, hA.ob, T.cl, T.n3, aF_budgets, L.bl, nL a.budgets, rfl, .inl (SqL.of hA.bl), (by show 2 ≤ sizeLine; decide), fun e ne => ?_⟩
    rw [nL_length]
    have s1 : Same H (upd H e (.lst [nV a.lotCount, nV a.budgets.length])) := same_upd ne
    have hA1 := hA.same s1
    refine ⟨.ref x, rfl, x, C, L.dx, _, .ref L.bl, rfl, hA1.ob, T.cl, T.n3, aF_budgets, e, L.bl, [nV a.lotCount, nV a.budgets.length], nL a.budgets, rfl, rfl, upd_same, hA1.bl, small _ (by rw [nL_length]; show 2 + a.budgets.length ≤ 100000; omega), fun p np => ?_⟩
    exact k.new hH (a := a) (n := a.lotCount) (l := a.budgets.length :: a.budgets) rfl ⟨L, hA1, hO⟩ (Kept.same s1) np
end
end Pb
set_option Elab.async false
set_option linter.all false
set_option maxRecDepth 100000
set_option maxHeartbeats 4000000
namespace Pb
open PySem PySem.Spec PyProof.Rows L2
/-! ### the calls in one list -/
def hasOrd (k : Nat) : Bool := k == 8 || k == 9 || k == 20 || k == 21
theorem whole_is (c : List (List Int)) : PyKh435.whole c = c := by
  unfold PyKh435.whole
  split <;> rfl
theorem shape_inv {p : Int} {n m : Nat} (h : PyKh435.shape p = some (n, m)) : p.toNat ≤ 24 ∧ p = (p.toNat : Int) ∧ n = numOf p.toNat ∧ m = if hasOrd p.toNat = true then 1 else 0 := by
  by_cases h0 : p = 0
  · subst h0
    have h : (some (2, 0) : Option (Nat × Nat)) = some (n, m) := h
    cases h
    decide
  by_cases h1 : p = 1
  · subst h1
    have h : (some (3, 0) : Option (Nat × Nat)) = some (n, m) := h
    cases h
    decide
  by_cases h2 : p = 2
  · subst h2
    have h : (some (2, 0) : Option (Nat × Nat)) = some (n, m) := h
    cases h
    decide
  by_cases h3 : p = 3
  · subst h3
    have h : (some (1, 0) : Option (Nat × Nat)) = some (n, m) := h
    cases h
    decide
  by_cases h4 : p = 4
  · subst h4
    have h : (some (1, 0) : Option (Nat × Nat)) = some (n, m) := h
    cases h
    decide
  by_cases h5 : p = 5
  · subst h5
    have h : (some (0, 0) : Option (Nat × Nat)) = some (n, m) := h
    cases h
    decide
  by_cases h6 : p = 6
  · subst h6
    have h : (some (1, 0) : Option (Nat × Nat)) = some (n, m) := h
    cases h
    decide
  by_cases h7 : p = 7
  · subst h7
    have h : (some (2, 0) : Option (Nat × Nat)) = some (n, m) := h
    cases h
    decide
  by_cases h8 : p = 8
  · subst h8
    have h : (some (0, 1) : Option (Nat × Nat)) = some (n, m) := h
    cases h
    decide
  by_cases h9 : p = 9
  · subst h9
    have h : (some (0, 1) : Option (Nat × Nat)) = some (n, m) := h
    cases h
    decide
  by_cases h10 : p = 10
  · subst h10
    have h : (some (0, 0) : Option (Nat × Nat)) = some (n, m) := h
    cases h
    decide
  by_cases h11 : p = 11
  · subst h11
    have h : (some (0, 0) : Option (Nat × Nat)) = some (n, m) := h
    cases h
    decide
  by_cases h12 : p = 12
  · subst h12
    have h : (some (0, 0) : Option (Nat × Nat)) = some (n, m) := h
    cases h
    decide
  by_cases h13 : p = 13
  · subst h13
    have h : (some (0, 0) : Option (Nat × Nat)) = some (n, m) := h
    cases h
    decide
  by_cases h14 : p = 14
  · subst h14
    have h : (some (0, 0) : Option (Nat × Nat)) = some (n, m) := h
    cases h
    decide
  by_cases h15 : p = 15
  · subst h15
    have h : (some (2, 0) : Option (Nat × Nat)) = some (n, m) := h
    cases h
    decide
  by_cases h16 : p = 16
  · subst h16
    have h : (some (3, 0) : Option (Nat × Nat)) = some (n, m) := h
    cases h
    decide
  by_cases h17 : p = 17
  · subst h17
    have h : (some (1, 0) : Option (Nat × Nat)) = some (n, m) := h
    cases h
    decide
  by_cases h18 : p = 18
  · subst h18
    have h : (some (1, 0) : Option (Nat × Nat)) = some (n, m) := h
    cases h
    decide
  by_cases h19 : p = 19
  · subst h19
    have h : (some (0, 0) : Option (Nat × Nat)) = some (n, m) := h
    cases h
    decide
  by_cases h20 : p = 20
  · subst h20
    have h : (some (0, 1) : Option (Nat × Nat)) = some (n, m) := h
    cases h
    decide
  by_cases h21 : p = 21
  · subst h21
    have h : (some (1, 1) : Option (Nat × Nat)) = some (n, m) := h
    cases h
    decide
  by_cases h22 : p = 22
  · subst h22
    have h : (some (0, 0) : Option (Nat × Nat)) = some (n, m) := h
    cases h
    decide
  by_cases h23 : p = 23
  · subst h23
    have h : (some (0, 0) : Option (Nat × Nat)) = some (n, m) := h
    cases h
    decide
  by_cases h24 : p = 24
  · subst h24
    have h : (some (0, 0) : Option (Nat × Nat)) = some (n, m) := h
    cases h
    decide
  unfold PyKh435.shape at h
  rw [if_neg h0, if_neg h1, if_neg h2, if_neg h3, if_neg h4, if_neg h5, if_neg h6, if_neg h7, if_neg h8, if_neg h9, if_neg h10, if_neg h11, if_neg h12, if_neg h13, if_neg h14, if_neg h15, if_neg h16, if_neg h17, if_neg h18, if_neg h19, if_neg h20, if_neg h21, if_neg h22, if_neg h23, if_neg h24] at h
  cases h
theorem param_nonneg {z : Int} (h : Kh435Neutral.isParam z = true) : 0 ≤ z := by
  unfold Kh435Neutral.isParam at h
  rw [Bool.and_eq_true] at h
  exact of_decide_eq_true h.1
theorem list_ok {l : List Int} (h : Kh435Neutral.isList 5 l = true) : l.length ≤ 5 ∧ ∀ x ∈ l, 0 ≤ x := by
  unfold Kh435Neutral.isList at h
  rw [Bool.and_eq_true] at h
  exact ⟨of_decide_eq_true h.1, fun x hx => param_nonneg (List.all_eq_true.mp h.2 x hx)⟩
theorem asked_inv {p : Int} {xs : List Int} {rows : List (List Int)} (h : Kh435Neutral.asked1 ((p :: xs) :: rows) = true) : (∀ x ∈ xs, 0 ≤ x) ∧ ∀ ro ∈ rows, ro.length ≤ 5 ∧ ∀ x ∈ ro, 0 ≤ x := by
  unfold Kh435Neutral.asked1 at h
  split at h
  · rename_i k a b e
    cases e
    simp only [Bool.and_eq_true] at h
    refine ⟨fun x hx => ?_, fun ro hro => absurd hro List.not_mem_nil⟩
    rcases List.mem_cons.mp hx with rfl | hx
    · exact param_nonneg h.1.2
    · rw [List.mem_singleton.mp hx]
      exact param_nonneg h.2
  · rename_i k a b c e
    cases e
    simp only [Bool.and_eq_true] at h
    refine ⟨fun x hx => ?_, fun ro hro => absurd hro List.not_mem_nil⟩
    rcases List.mem_cons.mp hx with rfl | hx
    · exact param_nonneg h.1.1.2
    · rcases List.mem_cons.mp hx with rfl | hx
      · exact param_nonneg h.1.2
      · rw [List.mem_singleton.mp hx]
        exact param_nonneg h.2
  · rename_i k a e
    cases e
    simp only [Bool.and_eq_true] at h
    refine ⟨fun x hx => ?_, fun ro hro => absurd hro List.not_mem_nil⟩
    rw [List.mem_singleton.mp hx]
    exact param_nonneg h.2
  · rename_i k e
    cases e
    exact ⟨fun x hx => absurd hx List.not_mem_nil, fun ro hro => absurd hro List.not_mem_nil⟩
  · rename_i k l e
    cases e
    simp only [Bool.and_eq_true] at h
    refine ⟨fun x hx => absurd hx List.not_mem_nil, fun ro hro => ?_⟩
    rw [List.mem_singleton.mp hro]
    exact list_ok h.2
  · rename_i k a l e
    cases e
    simp only [Bool.and_eq_true] at h
    refine ⟨fun x hx => ?_, fun ro hro => ?_⟩
    · rw [List.mem_singleton.mp hx]
      exact param_nonneg h.1.2
    · rw [List.mem_singleton.mp hro]
      exact list_ok h.2
  · cases h
theorem nat_list : ∀ {l : List Int}, (∀ x ∈ l, 0 ≤ x) → l = nI (l.map Int.toNat)
  | [], _ => rfl
  | x :: r, h => by
    have h1 := h x List.mem_cons_self
    have ih := nat_list (l := r) fun y hy => h y (List.mem_cons_of_mem _ hy)
    show x :: r = ((x.toNat : Nat) : Int) :: nI (r.map Int.toNat)
    rw [← ih, Int.toNat_of_nonneg h1]
theorem toNat_nI : ∀ l : List Nat, (nI l).map Int.toNat = l
  | [] => rfl
  | x :: r => by
    show (x : Int).toNat :: (nI r).map Int.toNat = x :: r
    rw [toNat_nI r]
    rfl
/-- the call that a number, numbers and a list make -/
def rowsOf (k : Nat) (ord : List Nat) : List (List Int) := if hasOrd k = true then [nI ord] else []
theorem decode_is : ∀ (k : Nat) (ns ord : List Nat), k ≤ 24 → ns.length = numOf k → Kh435Neutral.decodeCall (((k : Int) :: nI ns) :: rowsOf k ord) = callOf k ns ord := by
  intro k ns ord hk hl
  match k, hk with
  | 0, _ =>
    obtain ⟨i, j, rfl⟩ := len2 hl
    rfl
  | 1, _ =>
    obtain ⟨i, j, v, rfl⟩ := len3 hl
    rfl
  | 2, _ =>
    obtain ⟨i, j, rfl⟩ := len2 hl
    rfl
  | 3, _ =>
    obtain ⟨i, rfl⟩ := len1 hl
    rfl
  | 4, _ =>
    obtain ⟨i, rfl⟩ := len1 hl
    rfl
  | 5, _ =>
    obtain rfl := len0 hl
    rfl
  | 6, _ =>
    obtain ⟨i, rfl⟩ := len1 hl
    rfl
  | 7, _ =>
    obtain ⟨i, j, rfl⟩ := len2 hl
    rfl
  | 8, _ =>
    obtain rfl := len0 hl
    show Kh435.Call.simulateOrder ((nI ord).map Int.toNat) = .simulateOrder ord
    rw [toNat_nI]
  | 9, _ =>
    obtain rfl := len0 hl
    show Kh435.Call.revenueOf ((nI ord).map Int.toNat) = .revenueOf ord
    rw [toNat_nI]
  | 10, _ =>
    obtain rfl := len0 hl
    rfl
  | 11, _ =>
    obtain rfl := len0 hl
    rfl
  | 12, _ =>
    obtain rfl := len0 hl
    rfl
  | 13, _ =>
    obtain rfl := len0 hl
    rfl
  | 14, _ =>
    obtain rfl := len0 hl
    rfl
  | 15, _ =>
    obtain ⟨i, j, rfl⟩ := len2 hl
    rfl
  | 16, _ =>
    obtain ⟨i, j, v, rfl⟩ := len3 hl
    rfl
  | 17, _ =>
    obtain ⟨i, rfl⟩ := len1 hl
    rfl
  | 18, _ =>
    obtain ⟨i, rfl⟩ := len1 hl
    rfl
  | 19, _ =>
    obtain rfl := len0 hl
    rfl
  | 20, _ =>
    obtain rfl := len0 hl
    show Kh435.Call.welfareOf ((nI ord).map Int.toNat) = .welfareOf ord
    rw [toNat_nI]
  | 21, _ =>
    obtain ⟨i, rfl⟩ := len1 hl
    show Kh435.Call.purchasesOf i ((nI ord).map Int.toNat) = .purchasesOf i ord
    rw [toNat_nI]
  | 22, _ =>
    obtain rfl := len0 hl
    rfl
  | 23, _ =>
    obtain rfl := len0 hl
    rfl
  | 24, _ =>
    obtain rfl := len0 hl
    rfl
  | n + 25, h => omega
/-- one call read: its number k, its numbers ns, its list ord; t what is behind it -/
structure One (p : Int) (r t : List Int) (k : Nat) (ns ord : List Nat) : Prop where
  hk : p = (k : Int)
  le : k ≤ 24
  num : ns.length = numOf k
  o5 : ord.length ≤ 5
  yes : hasOrd k = true → r = nI ns ++ ((ord.length : Int) :: (nI ord ++ t))
  no : hasOrd k = false → r = nI ns ++ t ∧ ord = []
theorem one_of {p : Int} {r t : List Int} {c : List (List Int)} (h : PyFlat.call PyKh435.shape (p :: r) = some (c, t)) (ha : Kh435Neutral.asked1 (PyKh435.whole c) = true) :
    ∃ (k : Nat) (ns ord : List Nat), One p r t k ns ord ∧ Kh435Neutral.decodeCall (PyKh435.whole c) = callOf k ns ord := by
  rw [whole_is] at ha ⊢
  have h : (match PyKh435.shape p with
    | none => none
    | some (n, m) => if r.length < n then none else match PyFlat.rows m (r.drop n) with
      | none => none
      | some (xs, t) => some ((p :: r.take n) :: xs, t)) = some (c, t) := h
  cases es : PyKh435.shape p with
  | none =>
    rw [es] at h
    cases h
  | some nm =>
    obtain ⟨n, m⟩ := nm
    rw [es] at h
    obtain ⟨hk, ep, en, em⟩ := shape_inv es
    generalize p.toNat = k at hk ep en em
    subst ep
    have h : (if r.length < n then none else match PyFlat.rows m (r.drop n) with
      | none => none
      | some (xs, t) => some (((k : Int) :: r.take n) :: xs, t)) = some (c, t) := h
    by_cases hn : r.length < n
    · rw [if_pos hn] at h
      cases h
    · rw [if_neg hn] at h
      have hl : (r.take n).length = n := by
        rw [List.length_take]
        omega
      cases ho : hasOrd k with
      | false =>
        rw [ho] at em
        have em : m = 0 := em
        subst em
        have h : some (((k : Int) :: r.take n) :: [], r.drop n) = some (c, t) := h
        have h := Option.some.inj h
        obtain ⟨rfl, rfl⟩ := Prod.mk.inj h
        obtain ⟨q1, _⟩ := asked_inv ha
        have e1 := nat_list q1
        refine ⟨k, (r.take n).map Int.toNat, [], ⟨rfl, hk, by rw [List.length_map, hl, en], Nat.zero_le _, fun z => (by rw [ho] at z; cases z), fun _ => ⟨by rw [← e1, List.take_append_drop], rfl⟩⟩, ?_⟩
        have := decode_is k ((r.take n).map Int.toNat) [] hk (by rw [List.length_map, hl, en])
        rw [← e1] at this
        unfold rowsOf at this
        rw [if_neg (by rw [ho]; decide)] at this
        exact this
      | true =>
        rw [ho] at em
        have em : m = 1 := em
        subst em
        cases er : PyFlat.row (r.drop n) with
        | none =>
          have q : PyFlat.rows 1 (r.drop n) = none := by
            unfold PyFlat.rows
            rw [er]
          rw [q] at h
          cases h
        | some xt =>
          obtain ⟨x, t'⟩ := xt
          have q : PyFlat.rows 1 (r.drop n) = some ([x], t') := by
            unfold PyFlat.rows
            rw [er]
            rfl
          rw [q] at h
          have h := Option.some.inj h
          obtain ⟨rfl, rfl⟩ := Prod.mk.inj h
          obtain ⟨q1, q2⟩ := asked_inv ha
          obtain ⟨x5, xn⟩ := q2 x (List.mem_singleton.mpr rfl)
          have e1 := nat_list q1
          have e2 := nat_list xn
          unfold PyFlat.row at er
          cases ed : r.drop n with
          | nil =>
            rw [ed] at er
            cases er
          | cons z r2 =>
            rw [ed] at er
            have er : (if 0 ≤ z ∧ z.toNat ≤ r2.length then some (r2.take z.toNat, r2.drop z.toNat) else none) = some (x, t') := er
            by_cases hz : 0 ≤ z ∧ z.toNat ≤ r2.length
            · rw [if_pos hz] at er
              obtain ⟨rfl, rfl⟩ := Prod.mk.inj (Option.some.inj er)
              have lx : (r2.take z.toNat).length = z.toNat := by
                rw [List.length_take]
                omega
              have ez : z = (((r2.take z.toNat).map Int.toNat).length : Int) := by
                rw [List.length_map, lx]
                omega
              refine ⟨k, (r.take n).map Int.toNat, (r2.take z.toNat).map Int.toNat, ⟨rfl, hk, by rw [List.length_map, hl, en], by rw [List.length_map]; exact x5, fun _ => ?_, fun c => (by rw [ho] at c; cases c)⟩, ?_⟩
              · rw [← e1, ← e2, List.take_append_drop, ← ez, ← ed, List.take_append_drop]
              · have := decode_is k ((r.take n).map Int.toNat) ((r2.take z.toNat).map Int.toNat) hk (by rw [List.length_map, hl, en])
                rw [← e1] at this
                unfold rowsOf at this
                rw [if_pos ho, ← e2] at this
                exact this
            · rw [if_neg hz] at er
              cases er
theorem calls_cons {f : Nat} {p : Int} {r : List Int} {cs : List (List (List Int))} (h : PyFlat.calls PyKh435.shape f (p :: r) = some cs) :
    ∃ c t cs' f', cs = c :: cs' ∧ PyFlat.call PyKh435.shape (p :: r) = some (c, t) ∧ PyFlat.calls PyKh435.shape f' t = some cs' := by
  cases f with
  | zero =>
    unfold PyFlat.calls at h
    cases h
  | succ f =>
    unfold PyFlat.calls at h
    cases ec : PyFlat.call PyKh435.shape (p :: r) with
    | none =>
      rw [ec] at h
      cases h
    | some ct =>
      obtain ⟨c, t⟩ := ct
      rw [ec] at h
      have h : (match PyFlat.calls PyKh435.shape f t with
        | none => none
        | some cs => some (c :: cs)) = some cs := h
      cases ed : PyFlat.calls PyKh435.shape f t with
      | none =>
        rw [ed] at h
        cases h
      | some cs' =>
        rw [ed] at h
        exact ⟨c, t, cs', f, (Option.some.inj h).symm, rfl, ed⟩
theorem calls_nil {f : Nat} {cs : List (List (List Int))} (h : PyFlat.calls PyKh435.shape f [] = some cs) : cs = [] := by
  unfold PyFlat.calls at h
  exact (Option.some.inj h).symm
/-- what is to be told of calls, from a state -/
def toldOf (st : Option Kh435.Auction) (cs : List (List (List Int))) : List Int := PyFlat.told (PyFlat.played Kh435Neutral.step st (cs.map PyKh435.whole))
theorem toldOf_cons (st : Option Kh435.Auction) (c : List (List Int)) (cs : List (List (List Int))) {cl : Kh435.Call} (h : Kh435Neutral.decodeCall (PyKh435.whole c) = cl) :
    toldOf st (c :: cs) = ((ans (Kh435.execute st cl).2).length : Int) :: (ans (Kh435.execute st cl).2 ++ toldOf (Kh435.execute st cl).1 cs) := by
  subst h
  have e1 : toldOf st (c :: cs) = PyFlat.told ((Kh435Neutral.step st (PyKh435.whole c)).2 :: PyFlat.played Kh435Neutral.step (Kh435Neutral.step st (PyKh435.whole c)).1 (cs.map PyKh435.whole)) := rfl
  have e2 : Kh435Neutral.step st (PyKh435.whole c) = ((Kh435.execute st (Kh435Neutral.decodeCall (PyKh435.whole c))).1, ans (Kh435.execute st (Kh435Neutral.decodeCall (PyKh435.whole c))).2) := rfl
  rw [e1, e2]
  unfold toldOf PyFlat.told
  rw [List.flatMap_cons]
  rfl
theorem toldOf_nil (st : Option Kh435.Auction) : toldOf st [] = [] := rfl
theorem asked_calls {l : List Int} (h : PyKh435.answers_asked l = true) : ∃ cs, PyFlat.calls PyKh435.shape l.length l = some cs ∧ (∀ c ∈ cs, Kh435Neutral.asked1 (PyKh435.whole c) = true) ∧ (PyKh435.answers l).length ≤ 10000000 ∧ PyKh435.answers l = toldOf none cs := by
  unfold PyKh435.answers_asked at h
  cases e : PyFlat.calls PyKh435.shape l.length l with
  | none =>
    rw [e] at h
    cases h
  | some cs =>
    rw [e] at h
    have h : (!cs.isEmpty && PyFlat.atMost 60 cs && PyInside.calls PyKh435.bound cs && Kh435Neutral.asked (cs.map PyKh435.whole) && PyFlat.short 10000000 (PyKh435.answers l)) = true := h
    simp only [Bool.and_eq_true] at h
    obtain ⟨⟨_, ha⟩, hs⟩ := h
    unfold Kh435Neutral.asked at ha
    rw [Bool.and_eq_true] at ha
    refine ⟨cs, rfl, fun c hc => List.all_eq_true.mp ha.2 _ (List.mem_map_of_mem hc), of_decide_eq_true hs, ?_⟩
    unfold PyKh435.answers PyKh435.calls
    rw [e]
    rfl
/-! ### answer -/
abbrev s_answer : Stmt := topS 60
theorem sc_answer : FnScope ["current", "call", "numbers", "order", "deed"] ["current", "call", "numbers", "order"] (defScope s_answer) := ⟨rfl, rfl, rfl, by decide +kernel, rfl, by decide +kernel, by decide +kernel⟩
/-- the value of «current» -/
def CurZ (C : Addr) (Z : Addr → Prop) (H : Hp) (cur : V) : Option Kh435.Auction → Prop
  | none => cur = .non
  | some a => ∃ x, cur = .ref x ∧ AucZ C Z H x a
theorem callOf_not {k : Nat} {ns ord : List Nat} (h : 1 ≤ k) : ∀ l b, callOf k ns ord ≠ .create l b := by
  intro l b
  unfold callOf
  split <;> first | omega | (intro z; cases z)
theorem exec_some (a : Kh435.Auction) {c : Kh435.Call} (h : ∀ l b, c ≠ .create l b) : Kh435.execute (some a) c = (some (Kh435.apply a c).1, (Kh435.apply a c).2) := by
  cases c <;> first | rfl | exact absurd rfl (h _ _)
theorem exec_none {c : Kh435.Call} (h : ∀ l b, c ≠ .create l b) : Kh435.execute none c = (none, Kh435.single (-61)) := by
  cases c <;> first | rfl | exact absurd rfl (h _ _)
def spAnswer (C : Addr) : Sp := fun vs H Q _ => ∃ (cur : V) (k : Nat) (nl ol : Addr) (st : Option Kh435.Auction) (ns ord : List Nat) (Z : Addr → Prop), vs = [cur, nV k, .ref nl, .ref ol] ∧ 1 ≤ k ∧ k ≤ 24 ∧ CurZ C Z H cur st ∧ Held' Z H ∧
  H nl = some (.lst (nL ns)) ∧ H ol = some (.lst (nL ord)) ∧ ns.length = numOf k ∧ ord.length ≤ 5 ∧
  ∀ H' p, CurZ C Z H' cur (Kh435.execute st (callOf k ns ord)).1 → Kept Z H H' → ¬ Z p → H' p = some (.lst (iL (ans (Kh435.execute st (callOf k ns ord)).2))) → Q (.ref p) H'
section
variable {P : Program} {w : World} {K : PySem.W.Frag} {mg : Str → Option Value} {base : Heap} {C : Addr}
theorem c_answer (D : DefAt K mg "answer" s_answer ["current", "call", "numbers", "order"]) {dA : Addr} {fs : List Addr} (gD : mg "DEEDS" = some (.ref dA)) (tD : ∀ H : Hp, SqT K H dA (V.non :: fs.map V.ref))
    (deeds : ∀ k, 1 ≤ k → k ≤ 24 → ∃ f, fs[k - 1]? = some f ∧ L2.Held P w K mg base 9 f (spDeed C k)) : Callee P w K mg base 10 "answer" (spAnswer C) := by
  refine D.callee sc_answer (fun vs H Q E h => ?_) (fun f cdv A outer s H vs Q E hr h => ?_)
  · obtain ⟨_, _, _, _, _, _, _, _, rfl, _⟩ := h
    rfl
  · obtain ⟨cur, k, nl, ol, st, ns, ord, Z, rfl, k1, k24, hcur, hH, hn, ho, hl, h5, q⟩ := h
    obtain ⟨fk, hfk, held⟩ := deeds k k1 k24
    have nd := sc_answer.nd
    have hSA : ∀ g sp, (fun g : Addr => if g = fk then some (spDeed C k) else none) g = some sp → L2.Held P w K mg base 9 g sp := fun g sp e => by
      by_cases c : g = fk
      · have e : (if g = fk then some (spDeed C k) else none) = some sp := e
        rw [if_pos c] at e
        rw [c, ← Option.some.inj e]
        exact held
      · have e : (if g = fk then some (spDeed C k) else none) = some sp := e
        rw [if_neg c] at e
        cases e
    refine ⟨_, pss_cons (ps_if (pt_cmpR op_isN (pv 0) pe_non (nomark _)) (pss_one (ps_ret (pe_lst (pa_cons (pe_un un_neg pe_int) pa_nil)))) pss_nil)
      (pss_cons (ps_set (i := 4) nd rfl (Or.inl rfl) (pe_ix ix_tup (pe_glob (v := .ref dA) (by rfl) gD rfl) (pv 1) (fun _ _ => rfl)))
      (pss_one (ps_ret (pe_callA (i := 4) (S := fun g => if g = fk then some (spDeed C k) else none) hSA hr rfl (Or.inl rfl) (pa_cons (pv 0) (pa_cons (pv 2) (pa_cons (pv 3) pa_nil))))))), ?_⟩
    have nc := callOf_not (ns := ns) (ord := ord) k1
    cases st with
    | none =>
      have hcur : cur = .non := hcur
      subst hcur
      refine ⟨.non, rfl, rfl, _, rfl, iteT ?_⟩
      refine ⟨61, rfl, (by show 1 ≤ sizeLine; decide), fun p np => ?_⟩
      rw [exec_none nc] at q
      exact q _ p rfl (Kept.same (same_upd np)) (new_off hH (Kept.same (Same.refl _)) np) upd_same
    | some a =>
      obtain ⟨x, rfl, hZ⟩ := hcur
      refine ⟨.ref x, rfl, rfl, _, rfl, ite2 (fun c => (by have := of_decide_eq_true c; cases this)) (fun _ => ?_)⟩
      have hat : (V.non :: fs.map V.ref)[k]? = some (.ref fk) := by
        obtain ⟨j, rfl⟩ : ∃ j, k = j + 1 := ⟨k - 1, by omega⟩
        rw [List.getElem?_cons_succ]
        exact refs_get hfk
      refine ⟨nV k, rfl, dA, _, (k : Int), .ref fk, rfl, rfl, tD H, atI_nat hat, ?_⟩
      refine ⟨fk, spDeed C k, rfl, if_pos rfl, .ref x, rfl, .ref nl, rfl, .ref ol, rfl, x, nl, ol, a, ns, ord, Z, rfl, hZ, hH, hn, ho, hl, h5, fun H' p hZ' kp nz hp => ?_⟩
      rw [exec_some a nc] at q
      exact q H' p ⟨x, rfl, hZ'⟩ kp nz hp
end
end Pb
set_option Elab.async false
set_option linter.all false
set_option maxRecDepth 100000
set_option maxHeartbeats 4000000
namespace Pb
open PySem PySem.Spec PyProof.Rows L2
/-! ### answers -/
abbrev s_answers : Stmt := topS 61
theorem sc_answers : FnScope ["calls", "current", "found", "at", "call", "end", "numbers", "order", "told"] ["calls"] (defScope s_answers) := ⟨rfl, rfl, rfl, by decide +kernel, rfl, by decide +kernel, by decide +kernel⟩
def numsL : List Nat := [2, 3, 2, 1, 1, 0, 1, 2, 0, 0, 0, 0, 0, 0, 0, 2, 3, 1, 1, 0, 0, 1, 0, 0, 0]
theorem numsL_at {k : Nat} (h : k ≤ 24) : numsL[k]? = some (numOf k) := by
  have hl : k < numsL.length := by
    show k < 25
    omega
  show numsL[k]? = some (numsL.getD k 0)
  rw [List.getD_eq_getElem?_getD, List.getElem?_eq_getElem hl]
  rfl
theorem hasOrd_is (k : Nat) : ([8, 9, 20, 21] : List Nat).contains k = hasOrd k := by
  unfold hasOrd
  rw [List.contains_cons, List.contains_cons, List.contains_cons, List.contains_cons, List.contains_nil, Bool.or_false, Bool.or_assoc, Bool.or_assoc]
theorem iL_length (l : List Int) : (iL l).length = l.length := List.length_map _
theorem iL_append (l m : List Int) : iL (l ++ m) = iL l ++ iL m := List.map_append
theorem iL_nI (l : List Nat) : iL (nI l) = nL l := (nL_int l).symm
theorem iL_get {l : List Int} {i : Nat} {z : Int} (h : l[i]? = some z) : (iL l)[i]? = some (.int z) := by
  unfold iL
  rw [List.getElem?_map, h]
  rfl
theorem cut_mid (xs : List V) {i j : Nat} (h1 : i ≤ j) (h2 : j ≤ xs.length) : cutV xs (some (i : Int)) (some (j : Int)) = (xs.drop i).take (j - i) := by
  unfold cutV
  rw [HT.sIx_nat, HT.sIx_nat, Nat.min_eq_left h2, Nat.min_eq_left (by omega)]
theorem drop_step {α : Type} {l a b : List α} {i : Nat} (hi : i ≤ l.length) (h : l.drop i = a ++ b) : l.drop (i + a.length) = b ∧ i + a.length ≤ l.length ∧ (l.drop i).take a.length = a := by
  refine ⟨?_, ?_, ?_⟩
  · rw [← List.drop_drop, h, List.drop_left]
  · have := congrArg List.length h
    rw [List.length_drop, List.length_append] at this
    omega
  · rw [h, List.take_left]
theorem seq_kept {K : PySem.W.Frag} {H H' : Hp} {c : Addr} {xs : List V} (h : SqL K H c xs) (k : ∀ o, H c = some o → H' c = some o) : SqL K H' c xs := by
  rcases h with (h | ⟨o, h⟩) | h
  · exact .inl (.inl (k _ h))
  · exact .inl (.inr ⟨o, k _ h⟩)
  · exact .inr h
/-- a list beside the auction grows -/
theorem AucL.beside {C : Addr} {H : Hp} {x f : Addr} {L : Loc} {a : Kh435.Auction} {xs ys : List V} {Z : Addr → Prop} (h : AucL C H x L a) (o : Off Z x L) (hf : Z f) (ef : H f = some (.lst xs)) : AucL C (upd H f (.lst ys)) x L a := by
  have ne : ∀ {b : Addr}, ¬ Z b → b ≠ f := fun hb z => hb (z ▸ hf)
  refine ⟨?_, ?_, h.rows.put fun q hq => ne (o.rows q hq), ?_, ?_, ?_, h.sas.put ef (by intro xs z; cases z), ?_, h.nd, h.wf⟩
  · rw [upd_ne (ne o.x)]
    exact h.ob
  · rw [upd_ne (ne o.wl)]
    exact h.wl
  · rw [upd_ne (ne o.bl)]
    exact h.bl
  · rw [upd_ne (ne o.rl)]
    exact h.rl
  · rw [upd_ne (ne o.sl)]
    exact h.sl
  · rw [upd_ne (ne o.wd)]
    exact h.wd
theorem CurZ.beside {C : Addr} {Z : Addr → Prop} {H : Hp} {cur : V} {st : Option Kh435.Auction} {f : Addr} {xs ys : List V} (h : CurZ C Z H cur st) (hf : Z f) (ef : H f = some (.lst xs)) : CurZ C Z (upd H f (.lst ys)) cur st := by
  cases st with
  | none => exact h
  | some a =>
    obtain ⟨x, e, L, hA, hO⟩ := h
    exact ⟨x, e, L, hA.beside hO hf ef, hO⟩
theorem CurZ.same {C : Addr} {Z : Addr → Prop} {H H' : Hp} {cur : V} {st : Option Kh435.Auction} (h : CurZ C Z H cur st) (s : Same H H') : CurZ C Z H' cur st := by
  cases st with
  | none => exact h
  | some a =>
    obtain ⟨x, e, hZ⟩ := h
    exact ⟨x, e, hZ.same s⟩
def spAnswers (K : PySem.W.Frag) : Sp := fun vs H Q _ => ∃ (ca : Addr) (l : List Int), vs = [.ref ca] ∧ SqL K H ca (iL l) ∧ PyKh435.answers_asked l = true ∧ l.length ≤ 500 ∧
  ∀ H' p, H' p = some (.lst (iL (PyKh435.answers l))) → Q (.ref p) H'
theorem exec_create (st : Option Kh435.Auction) (l b : Nat) : Kh435.execute st (.create l b) = if l < 1 ∨ 5 < l ∨ b < 1 ∨ 4 < b then (st, Kh435.single (-22)) else (some (fresh l b), Kh435.single 0) := by
  cases st <;> rfl
section
variable {P : Program} {w : World} {K : PySem.W.Frag} {mg : Str → Option Value} {base : Heap} {C : Addr}
theorem ok_answers {f : Addr} {fd : FuncData} (F : L2.Fun K "answers" "answers" s_answers f fd) (B : Bi mg) {nA wA fI : Addr} {fdI : FuncData} (gN : mg "NUMBERS" = some (.ref nA)) (tN : ∀ H : Hp, SqT K H nA (nL numsL)) (gW : mg "WITH_ORDER" = some (.ref wA)) (tW : ∀ H : Hp, SqT K H wA (nL [8, 9, 20, 21]))
    (gC : ∃ t, mg "CREATE" = some (.int 0 t)) (ca : Callee P w K mg base 10 "answer" (spAnswer C)) (M : Mk K C fI) (GI : FnOk P w K mg base CX0 1 fI fdI ["self", "lots", "bidders"] (spInit C)) (bI : Binds K fdI ["self", "lots", "bidders"] []) (gA : mg "Auction" = some (.ref C)) :
    FnOk P w K mg base CX0 12 f fd ["calls"] (spAnswers K) := by
  refine F.ok sc_answers (fun vs H Q E h => ?_) (fun cdv A outer s H vs Q E hr h => ?_)
  · obtain ⟨_, _, rfl, _⟩ := h
    rfl
  · obtain ⟨cl, l, rfl, hS, hask, h500, kq⟩ := h
    have nd := sc_answers.nd
    obtain ⟨tc, mC⟩ := gC
    have hr2 : Room 2 _ := hr.mono (by decide)
    refine ⟨_, pss_cons (ps_set (i := 1) nd rfl (Or.inl rfl) pe_non)
      (pss_cons (ps_set (i := 2) nd rfl (Or.inl rfl) (pe_lst pa_nil))
      (pss_cons (ps_set (i := 3) nd rfl (Or.inl rfl) pe_int)
      (pss_cons (ps_while PassesOwn.never (pt_cmpR op_lt (pv 3) (pe_callB call_len_seq (by rfl) B.len PySem.boot_len (pa_cons (pv 0) pa_nil)) (nomark _))
        (pss_cons (ps_set (i := 4) nd rfl (Or.inl rfl) (pe_ix ix_list (pv 0) (pv 3) (fun _ _ => rfl)))
        (pss_cons (ps_set (i := 5) nd rfl (Or.inl rfl) (pe_op op_add (pe_op op_add (pv 3) pe_int) (pe_ix ix_tup (pe_glob (v := .ref nA) (by rfl) gN rfl) (pv 4) (fun _ _ => rfl))))
        (pss_cons (ps_set (i := 6) nd rfl (Or.inl rfl) (pe_slice sl_list (pv 0) (po_some (pe_op op_add (pv 3) pe_int)) (po_some (pv 5))))
        (pss_cons (ps_set (i := 7) nd rfl (Or.inl rfl) (pe_lst pa_nil))
        (C8.pss_cut (ps_if (pt_cmpR op_in_seq (pv 4) (pe_glob (v := .ref wA) (by rfl) gW rfl) rfl)
            (pss_cons (ps_set (i := 7) nd rfl (Or.inl rfl) (pe_slice sl_list (pv 0) (po_some (pe_op op_add (pv 5) pe_int)) (po_some (pe_op op_add (pe_op op_add (pv 5) pe_int) (pe_ix ix_list (pv 0) (pv 5) (fun _ _ => rfl))))))
            (pss_one (ps_set (i := 5) nd rfl (Or.inl rfl) (pe_op op_add (pe_op op_add (pv 5) pe_int) (pe_ix ix_list (pv 0) (pv 5) (fun _ _ => rfl)))))) pss_nil)
        (pss_cons (ps_set (i := 3) nd rfl (Or.inl rfl) (pv 5))
        (C8.pss_cut (ps_if (pt_cmpR op_ne (pv 4) (pe_glob (v := .int 0) (by rfl) mC ⟨_, rfl⟩) (nomark _))
            (pss_one (ps_set (i := 8) nd rfl (Or.inl rfl) (pc ca hr (by decide) (by rfl) (pa_cons (pv 1) (pa_cons (pv 4) (pa_cons (pv 6) (pa_cons (pv 7) pa_nil)))))))
            (pss_one (ps_if (PW.pt (pw_and (pt_chain op_le op_le pe_int (pe_ix ix_list (pv 6) pe_int (fun _ _ => rfl)) pe_int) (pw_and1 (pt_chain op_le op_le pe_int (pe_ix ix_list (pv 6) pe_int (fun _ _ => rfl)) pe_int))))
              (pss_cons (ps_set (i := 1) nd rfl (Or.inl rfl) (pe_make M GI hr2 (by rfl) gA bI .nil pass0 (pa_cons (pe_ix ix_list (pv 6) pe_int (fun _ _ => rfl)) (pa_cons (pe_ix ix_list (pv 6) pe_int (fun _ _ => rfl)) pa_nil))))
              (pss_one (ps_set (i := 8) nd rfl (Or.inl rfl) (pe_lst (pa_cons pe_int pa_nil)))))
              (pss_one (ps_set (i := 8) nd rfl (Or.inl rfl) (pe_lst (pa_cons (pe_un un_neg pe_int) pa_nil)))))))
        (pss_cons (ps_expr (pe_bm PySem.F.plainAttrs_list PySem.F.slot_list_append PySem.F.type_list_append mt_append (pv 2) (pa_cons (pe_callB call_len_seq (by rfl) B.len PySem.boot_len (pa_cons (pv 8) pa_nil)) pa_nil)))
        (pss_one (ps_expr (pe_bm PySem.F.plainAttrs_list PySem.F.slot_list_extend PySem.F.type_list_extend mt_extend (pv 2) (pa_cons (pv 8) pa_nil)))))))))))))
      (pss_one (ps_ret (pv 2)))))), ?_⟩
    -- the answers so far, none
    refine ⟨Nat.zero_le _, fun fo nfo => ?_⟩
    have s0 : Same H (upd H fo (.lst [])) := same_upd nfo
    obtain ⟨cs0, hcs0, hall0, hshort, hans⟩ := asked_calls hask
    refine ⟨fun m σ H' => ∃ (cur : V) (at_ : Nat) (st : Option Kh435.Auction) (cs : List (List (List Int))) (fu : Nat) (out : List Int) (y4 y5 y6 y7 y8 : Option V),
      σ = [some (.ref cl), some cur, some (.ref fo), some (nV at_), y4, y5, y6, y7, y8] ∧ m = l.length - at_ ∧ at_ ≤ l.length ∧ PyFlat.calls PyKh435.shape fu (l.drop at_) = some cs ∧ (∀ c ∈ cs, Kh435Neutral.asked1 (PyKh435.whole c) = true) ∧
      out ++ toldOf st cs = PyKh435.answers l ∧ Same H H' ∧ H' fo = some (.lst (iL out)) ∧ CurZ C (fun b => b = fo ∨ ∃ o, H b = some o) H' cur st,
      ⟨l.length, .non, 0, none, cs0, l.length, [], none, none, none, none, none, rfl, rfl, Nat.zero_le _, hcs0, hall0, by rw [hans]; rfl, s0, upd_same, rfl⟩, ?_⟩
    rintro m σ H1 ⟨cur, at_, st, cs, fu, out, y4, y5, y6, y7, y8, rfl, rfl, hat, hcs, hall, hout, sm, efo, hcur⟩
    have hS1 : SqL K H1 cl (iL l) := sm.seq hS
    refine ⟨nV at_, rfl, .ref cl, rfl, cl, iL l, rfl, .inl hS1, _, _, rfl, rfl, _, rfl, ite2 (fun c => ?_) (fun c => ?_)⟩
    · -- a turn
      have hlt : at_ < l.length := by
        have h1 := of_decide_eq_true c
        rw [iL_length] at h1
        omega
      obtain ⟨p, r, hd⟩ : ∃ p r, l.drop at_ = p :: r := ⟨_, _, List.drop_eq_getElem_cons hlt⟩
      have hp : l[at_]? = some p := by
        rw [← List.head?_drop, hd]
        rfl
      have hdr : l.drop (at_ + 1) = r := by
        rw [← List.drop_drop, hd]
        rfl
      rw [hd] at hcs
      obtain ⟨ck, t, cs', fu', rfl, hck, hcs'⟩ := calls_cons hcs
      obtain ⟨k, ns, ord, one, hdec⟩ := one_of hck (hall ck List.mem_cons_self)
      have htold := toldOf_cons st ck cs' hdec
      obtain ⟨rfl, k24, hnum, ho5, hyes, hno⟩ := one
      -- the numbers
      obtain ⟨R2, hR2⟩ : ∃ R2, r = nI ns ++ R2 := by
        cases e : hasOrd k with
        | true => exact ⟨_, hyes e⟩
        | false => exact ⟨_, (hno e).1⟩
      have hd1 : l.drop (at_ + 1) = nI ns ++ R2 := hdr.trans hR2
      obtain ⟨hd2, hle2, htk⟩ := drop_step (by omega) hd1
      rw [nI_length] at hd2 hle2 htk
      -- the end of the call
      obtain ⟨en, hen, henle, hent⟩ : ∃ en : Nat, (en = at_ + 1 + numOf k + if hasOrd k = true then 1 + ord.length else 0) ∧ en ≤ l.length ∧ l.drop en = t := by
        refine ⟨_, rfl, ?_⟩
        cases e : hasOrd k with
        | true =>
          have h1 := hyes e
          have h2 : R2 = (ord.length : Int) :: (nI ord ++ t) := List.append_cancel_left (hR2.symm.trans h1)
          have h3 : l.drop (at_ + 1 + ns.length) = [(ord.length : Int)] ++ (nI ord ++ t) := hd2.trans h2
          obtain ⟨g1, g2, _⟩ := drop_step hle2 h3
          obtain ⟨g4, g5, _⟩ := drop_step g2 g1
          rw [nI_length] at g4 g5
          have e1 : at_ + 1 + ns.length + [(ord.length : Int)].length + ord.length = at_ + 1 + numOf k + (1 + ord.length) := by
            rw [hnum, List.length_singleton]
            omega
          rw [e1] at g4 g5
          exact ⟨g5, g4⟩
        | false =>
          obtain ⟨h1, _⟩ := hno e
          have h2 : R2 = t := List.append_cancel_left (hR2.symm.trans h1)
          rw [hnum] at hd2 hle2
          exact ⟨hle2, hd2.trans h2⟩
      refine ⟨fun σ' H' => ∃ m', m' < l.length - at_ ∧ _, fun σ' H' hN => hN, ?_⟩
      -- the number of the call
      refine ⟨.ref cl, rfl, nV at_, rfl, cl, iL l, (at_ : Int), nV k, rfl, rfl, hS1, atI_nat (iL_get hp), ?_⟩
      -- where its numbers end
      refine ⟨nV at_, rfl, _, _, rfl, rfl, nV k, rfl, nA, nL numsL, (k : Int), nV (numOf k), rfl, rfl, tN _, atI_nV (numsL_at k24), _, _, rfl, rfl, ?_⟩
      -- numbers
      refine ⟨.ref cl, rfl, nV at_, rfl, _, _, rfl, rfl, _, rfl, _, rfl, _, rfl, cl, iL l, rfl, hS1, fun nl nnl => ?_⟩
      have ecut : cutV (iL l) (some ((at_ : Int) + 1)) (some ((at_ : Int) + 1 + (numOf k : Int))) = nL ns := by
        have e1 : ((at_ : Int) + 1) = ((at_ + 1 : Nat) : Int) := rfl
        have e2 : ((at_ : Int) + 1 + (numOf k : Int)) = ((at_ + 1 + numOf k : Nat) : Int) := rfl
        rw [e2, e1, cut_mid _ (by omega) (by rw [iL_length, ← hnum]; exact hle2), Nat.add_sub_cancel_left]
        unfold iL
        rw [← List.map_drop, ← List.map_take, ← hnum, htk]
        exact iL_nI ns
      rw [ecut]
      have s1 : Same H1 (upd H1 nl (.lst (nL ns))) := same_upd nnl
      -- no list yet
      refine ⟨Nat.zero_le _, fun oq noq => ?_⟩
      have s2 : Same (upd H1 nl (.lst (nL ns))) (upd (upd H1 nl (.lst (nL ns))) oq (.lst [])) := same_upd noq
      have s12 := s1.trans s2
      have enl := s2 _ _ (upd_same (H := H1) (a := nl) (o := .lst (nL ns)))
      have eoq : (upd (upd H1 nl (.lst (nL ns))) oq (.lst [])) oq = some (.lst []) := upd_same
      generalize upd (upd H1 nl (.lst (nL ns))) oq (.lst []) = H2 at s2 s12 enl eoq ⊢
      -- a call that has a list
      refine ⟨fun σ' H' => ∃ (ol : Addr), σ' = [some (.ref cl), some cur, some (.ref fo), some (nV at_), some (nV k), some (nV en), some (.ref nl), some (.ref ol), y8] ∧ Same H2 H' ∧ H' ol = some (.lst (nL ord)), ?_, ?_⟩
      · refine ⟨nV k, rfl, wA, nL [8, 9, 20, 21], rfl, .inr (tW _), rfl, nL_flat _, _, rfl, ?_⟩
        rw [inV_nat, hasOrd_is]
        cases e : hasOrd k with
        | true =>
          rw [e, if_pos rfl] at hen
          have h1 := hyes e
          have h2 : R2 = (ord.length : Int) :: (nI ord ++ t) := List.append_cancel_left (hR2.symm.trans h1)
          have h3 : l.drop (at_ + 1 + ns.length) = [(ord.length : Int)] ++ (nI ord ++ t) := hd2.trans h2
          obtain ⟨g1, g2, _⟩ := drop_step hle2 h3
          obtain ⟨_, g5, g6⟩ := drop_step g2 g1
          rw [nI_length] at g5 g6
          rw [hnum, List.length_singleton] at g1 g2 g5 g6
          have hS2 : SqL K H2 cl (iL l) := s12.seq hS1
          have hix : (iL l)[at_ + 1 + numOf k]? = some (nV ord.length) := by
            refine iL_get (z := (ord.length : Int)) ?_
            rw [← List.head?_drop, ← hnum, h3]
            rfl
          refine ⟨.ref cl, rfl, _, rfl, _, _, rfl, rfl, _, rfl, _, rfl, _, _, rfl, rfl, .ref cl, rfl, _, rfl, cl, iL l, ((at_ + 1 + numOf k : Nat) : Int), nV ord.length, rfl, rfl, hS2, atI_nat hix, _, _, rfl, rfl, _, rfl, cl, iL l, rfl, hS2, fun ol nol => ?_⟩
          have ec2 : cutV (iL l) (some ((at_ : Int) + 1 + (numOf k : Int) + 1)) (some ((at_ : Int) + 1 + (numOf k : Int) + 1 + (ord.length : Int))) = nL ord := by
            have e1 : ((at_ : Int) + 1 + (numOf k : Int) + 1) = ((at_ + 1 + numOf k + 1 : Nat) : Int) := rfl
            have e2 : ((at_ : Int) + 1 + (numOf k : Int) + 1 + (ord.length : Int)) = ((at_ + 1 + numOf k + 1 + ord.length : Nat) : Int) := rfl
            rw [e2, e1, cut_mid _ (by omega) (by rw [iL_length]; exact g5), Nat.add_sub_cancel_left]
            unfold iL
            rw [← List.map_drop, ← List.map_take, g6]
            exact iL_nI ord
          rw [ec2]
          have s3 : Same H2 (upd H2 ol (.lst (nL ord))) := same_upd nol
          refine ⟨_, rfl, _, _, rfl, rfl, .ref cl, rfl, _, rfl, cl, iL l, ((at_ + 1 + numOf k : Nat) : Int), nV ord.length, rfl, rfl, s3.seq hS2, atI_nat hix, _, _, rfl, rfl, ol, ?_, s3, upd_same⟩
          have e5 : V.int ((at_ : Int) + 1 + (numOf k : Int) + 1 + (ord.length : Int)) = nV en := by
            rw [hen]
            show V.int ((at_ : Int) + 1 + (numOf k : Int) + 1 + (ord.length : Int)) = V.int ((at_ + 1 + numOf k + (1 + ord.length) : Nat) : Int)
            congr 1
            omega
          rw [← e5]
          rfl
        | false =>
          rw [e, if_neg (by decide)] at hen
          obtain ⟨_, rfl⟩ := hno e
          refine ⟨oq, ?_, Same.refl _, eoq⟩
          rw [hen]
          rfl
      · rintro σ' H3 ⟨ol, rfl, s3, eol⟩
        have s13 := s12.trans s3
        have hSm := sm.trans s13
        have efo3 := s13 _ _ efo
        have enl3 := s3 _ _ enl
        have hcur3 := hcur.same s13
        have hH3 : Held' (fun b => b = fo ∨ ∃ o, H b = some o) H3 := fun b z => by
          rcases z with rfl | ⟨o, e⟩
          · exact ⟨_, efo3⟩
          · exact ⟨o, hSm _ _ e⟩
        -- on to the next
        refine ⟨nV en, rfl, ?_⟩
        refine ⟨fun σ' H' => ∃ (cur' : V) (tp : Addr), σ' = [some (.ref cl), some cur', some (.ref fo), some (nV en), some (nV k), some (nV en), some (.ref nl), some (.ref ol), some (.ref tp)] ∧ CurZ C (fun b => b = fo ∨ ∃ o, H b = some o) H' cur' (Kh435.execute st (callOf k ns ord)).1 ∧
          Kept (fun b => b = fo ∨ ∃ o, H b = some o) H3 H' ∧ tp ≠ fo ∧ H' tp = some (.lst (iL (ans (Kh435.execute st (callOf k ns ord)).2))), ?_, ?_⟩
        · refine ⟨nV k, rfl, rfl, _, rfl, ite2 (fun c => ?_) (fun c => ?_)⟩
          · have k1 : 1 ≤ k := by
              rcases Nat.eq_zero_or_pos k with z | z
              · subst z
                exact absurd c (by decide)
              · exact z
            refine ⟨cur, rfl, nV k, rfl, .ref nl, rfl, .ref ol, rfl, cur, k, nl, ol, st, ns, ord, _, rfl, k1, k24, hcur3, hH3, enl3, eol, hnum, ho5, fun H4 tp hc4 kp4 nz e4 => ?_⟩
            exact ⟨cur, tp, rfl, hc4, kp4, fun z => nz (.inl z), e4⟩
          · have k0 : k = 0 := by
              rcases Nat.eq_zero_or_pos k with z | z
              · exact z
              · exact absurd (show (!decide (nV k = V.int 0)) = true by
                  rw [decide_eq_false (fun z2 => by have := V.int.inj z2; omega)]
                  rfl) c
            subst k0
            obtain ⟨a0, b0, rfl⟩ := len2 hnum
            have ecall : callOf 0 [a0, b0] ord = .create a0 b0 := rfl
            rw [ecall, exec_create]
            have bad : (a0 < 1 ∨ 5 < a0 ∨ b0 < 1 ∨ 4 < b0) → ∀ tp, H3 tp = none → ∃ (cur' : V) (tp_1 : Addr), [some (V.ref cl), some cur, some (.ref fo), some (nV en), some (nV 0), some (nV en), some (.ref nl), some (.ref ol), some (.ref tp)] = [some (V.ref cl), some cur', some (.ref fo), some (nV en), some (nV 0), some (nV en), some (.ref nl), some (.ref ol), some (.ref tp_1)] ∧
                CurZ C (fun b => b = fo ∨ ∃ o, H b = some o) (upd H3 tp (.lst [V.int (-22)])) cur' (if a0 < 1 ∨ 5 < a0 ∨ b0 < 1 ∨ 4 < b0 then (st, Kh435.single (-22)) else (some (fresh a0 b0), Kh435.single 0)).1 ∧
                Kept (fun b => b = fo ∨ ∃ o, H b = some o) H3 (upd H3 tp (.lst [V.int (-22)])) ∧ tp_1 ≠ fo ∧ (upd H3 tp (.lst [V.int (-22)])) tp_1 = some (.lst (iL (ans (if a0 < 1 ∨ 5 < a0 ∨ b0 < 1 ∨ 4 < b0 then (st, Kh435.single (-22)) else (some (fresh a0 b0), Kh435.single 0)).2))) := fun hb tp ntp => by
              rw [if_pos hb]
              exact ⟨cur, tp, rfl, hcur3.same (same_upd ntp), Kept.same (same_upd ntp), (ne_of_none efo3 ntp).symm, upd_same⟩
            refine ⟨.ref nl, rfl, nl, nL [a0, b0], 0, nV a0, rfl, rfl, SqL.of enl3, atI_nat (j := 0) rfl, _, _, rfl, rfl, _, rfl, ite2 (fun c1 => ?_) (fun c1 => ?_)⟩
            · refine ⟨_, _, rfl, rfl, _, rfl, ite2 (fun c2 => ?_) (fun c2 => ?_)⟩
              · refine ⟨.ref nl, rfl, nl, nL [a0, b0], 1, nV b0, rfl, rfl, SqL.of enl3, atI_nat (j := 1) rfl, _, _, rfl, rfl, _, rfl, ite2 (fun c3 => ?_) (fun c3 => ?_)⟩
                · refine ⟨_, _, rfl, rfl, _, rfl, ite2 (fun c4 => ?_) (fun c4 => ?_)⟩
                  · -- a new auction
                    have d1 := of_decide_eq_true c1
                    have d2 := of_decide_eq_true c2
                    have d3 := of_decide_eq_true c3
                    have d4 := of_decide_eq_true c4
                    have good : ¬ (a0 < 1 ∨ 5 < a0 ∨ b0 < 1 ∨ 4 < b0) := by omega
                    rw [if_neg good]
                    refine ⟨.ref nl, rfl, nl, nL [a0, b0], 0, nV a0, rfl, rfl, SqL.of enl3, atI_nat (j := 0) rfl, .ref nl, rfl, nl, nL [a0, b0], 1, nV b0, rfl, rfl, SqL.of enl3, atI_nat (j := 1) rfl, ?_⟩
                    intro x dx nx ndx nex
                    have sx : Same H3 (upd (upd H3 dx (.own x)) x (.ins C dx [])) := fun b o e => by
                      rw [upd_ne (ne_of_none e nx), upd_ne (ne_of_none e ndx)]
                      exact e
                    refine ⟨x, dx, a0, b0, rfl, upd_same, by omega, by omega, by omega, by omega, fun H4 L hA kp4 z1 z2 z3 z4 z5 z6 => ⟨rfl, ?_⟩⟩
                    have offZ : ∀ {q : Addr}, (upd (upd H3 dx (.own x)) x (.ins C dx [])) q = none → ¬ (fun b => b = fo ∨ ∃ o, H b = some o) q := fun hq z => by
                      obtain ⟨o, e⟩ := hH3 _ z
                      rw [sx _ _ e] at hq
                      cases hq
                    have xZ : ¬ (fun b => b = fo ∨ ∃ o, H b = some o) x := fun z => by
                      obtain ⟨o, e⟩ := hH3 _ z
                      rw [nx] at e
                      cases e
                    have kpZ : Kept (fun b => b = fo ∨ ∃ o, H b = some o) H3 H4 := fun b o z e => kp4 b o (fun q => xZ (q ▸ z)) (sx _ _ e)
                    refine ⟨(by show 1 ≤ sizeLine; decide), fun tp ntp => ?_⟩
                    refine ⟨.ref x, tp, rfl, ⟨x, rfl, L, hA.same (same_upd ntp), ⟨xZ, offZ z3, offZ z4, offZ z5, fun r hr => offZ (z6 r hr), offZ z1, offZ z2⟩⟩, kpZ.trans (Kept.same (same_upd ntp)), (ne_of_none (kpZ fo _ (.inl rfl) efo3) ntp).symm, upd_same⟩
                  · have d4 : ¬ ((b0 : Int) ≤ 4) := fun z => c4 (decide_eq_true z)
                    exact ⟨22, rfl, (by show 1 ≤ sizeLine; decide), fun tp ntp => bad (by omega) tp ntp⟩
                · have d3 : ¬ ((1 : Int) ≤ (b0 : Int)) := fun z => c3 (decide_eq_true z)
                  exact ⟨_, rfl, iteF ⟨22, rfl, (by show 1 ≤ sizeLine; decide), fun tp ntp => bad (by omega) tp ntp⟩⟩
              · have d2 : ¬ ((a0 : Int) ≤ 5) := fun z => c2 (decide_eq_true z)
                exact iteF ⟨22, rfl, (by show 1 ≤ sizeLine; decide), fun tp ntp => bad (by omega) tp ntp⟩
            · have d1 : ¬ ((1 : Int) ≤ (a0 : Int)) := fun z => c1 (decide_eq_true z)
              exact ⟨_, rfl, iteF (iteF ⟨22, rfl, (by show 1 ≤ sizeLine; decide), fun tp ntp => bad (by omega) tp ntp⟩)⟩
        · rintro σ' H4 ⟨cur', tp, rfl, hc4, kp4, ntf, etp⟩
          have efo4 := kp4 fo _ (.inl rfl) efo3
          generalize hR : Kh435.execute st (callOf k ns ord) = R at hc4 etp htold
          rw [htold] at hout
          have hlen : out.length + (1 + (ans R.2).length) ≤ 10000000 := by
            have := congrArg List.length hout
            rw [List.length_append, List.length_cons, List.length_append] at this
            omega
          have big : ∀ n : Nat, n ≤ 10000000 → n ≤ sizeLine := fun n h => Nat.le_trans h (by decide)
          -- the length of the answer, then the answer
          refine ⟨.ref fo, rfl, .inl ⟨rfl, _, SqL.of efo4⟩, .ref tp, rfl, tp, iL (ans R.2), rfl, .inl (SqL.of etp), fo, iL out, _, rfl, rfl, efo4, by rw [iL_length]; exact Nat.lt_of_lt_of_le (Nat.lt_succ_self _) (big _ (by omega)), ?_⟩
          have etp5 : (upd H4 fo (.lst (iL out ++ [V.int ((iL (ans R.2)).length : Nat)]))) tp = some (.lst (iL (ans R.2))) := by
            rw [upd_ne ntf]
            exact etp
          refine ⟨.ref fo, rfl, .inl ⟨rfl, _, SqL.of upd_same⟩, .ref tp, rfl, fo, tp, _, _, rfl, rfl, upd_same, etp5, big _ (by rw [List.length_append, List.length_singleton, iL_length, iL_length]; omega), ?_⟩
          rw [upd_upd]
          have eout : iL out ++ [V.int ((iL (ans R.2)).length : Nat)] ++ iL (ans R.2) = iL (out ++ (((ans R.2).length : Int) :: ans R.2)) := by
            rw [iL_append, List.append_assoc, iL_length]
            rfl
          rw [eout]
          refine ⟨l.length - en, by omega, cur', en, R.1, cs', fu', out ++ (((ans R.2).length : Int) :: ans R.2), _, _, _, _, _, rfl, rfl, henle, by rw [hent]; exact hcs', fun c hc => hall c (List.mem_cons_of_mem _ hc), ?_, ?_, upd_same, hc4.beside (.inl rfl) efo4⟩
          · rw [← hout, List.append_assoc]
            rfl
          · intro b o e
            have hb : b ≠ fo := ne_of_none e nfo
            rw [upd_ne hb]
            exact kp4 b o (.inr ⟨o, e⟩) (hSm _ _ e)
    · have hge : at_ = l.length := by
        have h1 : ¬ ((at_ : Int) < ((iL l).length : Int)) := fun z => c (decide_eq_true z)
        rw [iL_length] at h1
        omega
      subst hge
      rw [List.drop_length] at hcs
      have := calls_nil hcs
      subst this
      rw [toldOf_nil, List.append_nil] at hout
      refine ⟨.ref fo, rfl, ?_⟩
      refine kq H1 fo ?_
      rw [efo, hout]
end
end Pb
set_option Elab.async false
set_option linter.all false
set_option maxRecDepth 100000
set_option maxHeartbeats 4000000
namespace Pb
open PySem PySem.Spec PyProof.Rows L2
/-! ### where the defs stand -/
theorem Callee.held {P : Program} {w : World} {K : PySem.W.Frag} {mg : Str → Option Value} {base : Heap} {k : Nat} {x : Str} {sp : Sp} {f : Addr} (c : Callee P w K mg base k x sp) (m : mg x = some (.ref f)) : L2.Held P w K mg base k f sp := by
  obtain ⟨g, fd, ps, F, m2, kp, b⟩ := c.ex
  have e : f = g := by
    rw [m] at m2
    cases m2
    rfl
  subst e
  exact ⟨fd, ps, F, kp, b⟩
def isInts : List Nat → List Value → Bool
  | [], [] => true
  | n :: ns, .int i _ :: vs => decide (i = (n : Int)) && isInts ns vs
  | _, _ => false
theorem ints_vals : ∀ {ns : List Nat} {vs : List Value}, isInts ns vs = true → Vals (nL ns) vs
  | [], [], _ => .nil
  | n :: ns, .int i t :: vs, h => by
    have h : (decide (i = (n : Int)) && isInts ns vs) = true := h
    rw [Bool.and_eq_true] at h
    have e : i = (n : Int) := of_decide_eq_true h.1
    subst e
    exact .cons ⟨t, rfl⟩ (ints_vals h.2)
theorem ints_tuple {K : PySem.W.Frag} {a : Addr} {od : Option Addr} {its : Array Value} {n : Nat} {sl : Array (Option Value)} {ns : List Nat} (l : K.lookup a = some ⟨.type "tuple", od, .seq its n, sl⟩) (h : isInts ns its.toList = true) (z : decide (its.size ≤ 1000) = true) (H : Hp) : SqT K H a (nL ns) :=
  .inr ⟨_, its, n, l, rfl, rfl, Nat.le_trans (of_decide_eq_true z) (by decide), ints_vals h⟩
theorem refs_vals : ∀ fs : List Addr, Vals (fs.map V.ref) (fs.map Value.ref)
  | [] => .nil
  | f :: fs => .cons rfl (refs_vals fs)
theorem refs_tuple {K : PySem.W.Frag} {a : Addr} {od : Option Addr} {n : Nat} {sl : Array (Option Value)} {fs : List Addr} (l : K.lookup a = some ⟨.type "tuple", od, .seq (Value.none :: fs.map Value.ref).toArray n, sl⟩) (z : fs.length ≤ 100) (H : Hp) : SqT K H a (V.non :: fs.map V.ref) :=
  .inr ⟨_, _, n, l, rfl, rfl, by rw [List.size_toArray, List.length_cons, List.length_map]; exact small _ (by omega), .cons rfl (refs_vals fs)⟩
section
variable {K : PySem.W.Frag} {h : Heap} {mg : Str → Option Value}
theorem at_has_bidder {f : Addr} {oc kV dc pm cd ct : Value} {od an : Option Addr} {sl : Array (Option Value)} (X : K.In h) (G : h.Ns mainGlobals mg) (a : PySem.W.nsIn K mainGlobals "has_bidder" = some (some (.ref f))) (l : K.lookup f = some ⟨oc, od, .func (PySem.W.fnOf "has_bidder" "has_bidder" (defArgs s_has_bidder) (defBody s_has_bidder) (defScope s_has_bidder) .none kV dc pm an cd ct), sl⟩) (c : PySem.W.codeIn K cd "has_bidder" = true) (k : PySem.W.keepIn K (.ref f) = true) : DefAt K mg "has_bidder" s_has_bidder ["auction", "number"] :=
  have F := fun_mk (st := s_has_bidder) l c k
  ⟨f, _, F, PySem.W.mg_of X G a, F.binds (ps := ["auction", "number"]) fun _ _ _ _ _ _ us hl => match us, hl with | [_, _], _ => rfl⟩
theorem at_has_lot {f : Addr} {oc kV dc pm cd ct : Value} {od an : Option Addr} {sl : Array (Option Value)} (X : K.In h) (G : h.Ns mainGlobals mg) (a : PySem.W.nsIn K mainGlobals "has_lot" = some (some (.ref f))) (l : K.lookup f = some ⟨oc, od, .func (PySem.W.fnOf "has_lot" "has_lot" (defArgs s_has_lot) (defBody s_has_lot) (defScope s_has_lot) .none kV dc pm an cd ct), sl⟩) (c : PySem.W.codeIn K cd "has_lot" = true) (k : PySem.W.keepIn K (.ref f) = true) : DefAt K mg "has_lot" s_has_lot ["auction", "number"] :=
  have F := fun_mk (st := s_has_lot) l c k
  ⟨f, _, F, PySem.W.mg_of X G a, F.binds (ps := ["auction", "number"]) fun _ _ _ _ _ _ us hl => match us, hl with | [_, _], _ => rfl⟩
theorem at_replaced {f : Addr} {oc kV dc pm cd ct : Value} {od an : Option Addr} {sl : Array (Option Value)} (X : K.In h) (G : h.Ns mainGlobals mg) (a : PySem.W.nsIn K mainGlobals "replaced" = some (some (.ref f))) (l : K.lookup f = some ⟨oc, od, .func (PySem.W.fnOf "replaced" "replaced" (defArgs s_replaced) (defBody s_replaced) (defScope s_replaced) .none kV dc pm an cd ct), sl⟩) (c : PySem.W.codeIn K cd "replaced" = true) (k : PySem.W.keepIn K (.ref f) = true) : DefAt K mg "replaced" s_replaced ["row", "at", "number"] :=
  have F := fun_mk (st := s_replaced) l c k
  ⟨f, _, F, PySem.W.mg_of X G a, F.binds (ps := ["row", "at", "number"]) fun _ _ _ _ _ _ us hl => match us, hl with | [_, _, _], _ => rfl⟩
theorem at_is_order {f : Addr} {oc kV dc pm cd ct : Value} {od an : Option Addr} {sl : Array (Option Value)} (X : K.In h) (G : h.Ns mainGlobals mg) (a : PySem.W.nsIn K mainGlobals "is_order" = some (some (.ref f))) (l : K.lookup f = some ⟨oc, od, .func (PySem.W.fnOf "is_order" "is_order" (defArgs s_is_order) (defBody s_is_order) (defScope s_is_order) .none kV dc pm an cd ct), sl⟩) (c : PySem.W.codeIn K cd "is_order" = true) (k : PySem.W.keepIn K (.ref f) = true) : DefAt K mg "is_order" s_is_order ["auction", "order"] :=
  have F := fun_mk (st := s_is_order) l c k
  ⟨f, _, F, PySem.W.mg_of X G a, F.binds (ps := ["auction", "order"]) fun _ _ _ _ _ _ us hl => match us, hl with | [_, _], _ => rfl⟩
theorem at_bids_for {f : Addr} {oc kV dc pm cd ct : Value} {od an : Option Addr} {sl : Array (Option Value)} (X : K.In h) (G : h.Ns mainGlobals mg) (a : PySem.W.nsIn K mainGlobals "bids_for" = some (some (.ref f))) (l : K.lookup f = some ⟨oc, od, .func (PySem.W.fnOf "bids_for" "bids_for" (defArgs s_bids_for) (defBody s_bids_for) (defScope s_bids_for) .none kV dc pm an cd ct), sl⟩) (c : PySem.W.codeIn K cd "bids_for" = true) (k : PySem.W.keepIn K (.ref f) = true) : DefAt K mg "bids_for" s_bids_for ["worths", "budgets", "lot"] :=
  have F := fun_mk (st := s_bids_for) l c k
  ⟨f, _, F, PySem.W.mg_of X G a, F.binds (ps := ["worths", "budgets", "lot"]) fun _ _ _ _ _ _ us hl => match us, hl with | [_, _, _], _ => rfl⟩
theorem at_outcome_of {f : Addr} {oc kV dc pm cd ct : Value} {od an : Option Addr} {sl : Array (Option Value)} (X : K.In h) (G : h.Ns mainGlobals mg) (a : PySem.W.nsIn K mainGlobals "outcome_of" = some (some (.ref f))) (l : K.lookup f = some ⟨oc, od, .func (PySem.W.fnOf "outcome_of" "outcome_of" (defArgs s_outcome_of) (defBody s_outcome_of) (defScope s_outcome_of) .none kV dc pm an cd ct), sl⟩) (c : PySem.W.codeIn K cd "outcome_of" = true) (k : PySem.W.keepIn K (.ref f) = true) : DefAt K mg "outcome_of" s_outcome_of ["worths", "budgets", "lot"] :=
  have F := fun_mk (st := s_outcome_of) l c k
  ⟨f, _, F, PySem.W.mg_of X G a, F.binds (ps := ["worths", "budgets", "lot"]) fun _ _ _ _ _ _ us hl => match us, hl with | [_, _, _], _ => rfl⟩
theorem at_outcomes_of {f : Addr} {oc kV dc pm cd ct : Value} {od an : Option Addr} {sl : Array (Option Value)} (X : K.In h) (G : h.Ns mainGlobals mg) (a : PySem.W.nsIn K mainGlobals "outcomes_of" = some (some (.ref f))) (l : K.lookup f = some ⟨oc, od, .func (PySem.W.fnOf "outcomes_of" "outcomes_of" (defArgs s_outcomes_of) (defBody s_outcomes_of) (defScope s_outcomes_of) .none kV dc pm an cd ct), sl⟩) (c : PySem.W.codeIn K cd "outcomes_of" = true) (k : PySem.W.keepIn K (.ref f) = true) : DefAt K mg "outcomes_of" s_outcomes_of ["worths", "budgets", "order"] :=
  have F := fun_mk (st := s_outcomes_of) l c k
  ⟨f, _, F, PySem.W.mg_of X G a, F.binds (ps := ["worths", "budgets", "order"]) fun _ _ _ _ _ _ us hl => match us, hl with | [_, _, _], _ => rfl⟩
theorem at_revenue_of {f : Addr} {oc kV dc pm cd ct : Value} {od an : Option Addr} {sl : Array (Option Value)} (X : K.In h) (G : h.Ns mainGlobals mg) (a : PySem.W.nsIn K mainGlobals "revenue_of" = some (some (.ref f))) (l : K.lookup f = some ⟨oc, od, .func (PySem.W.fnOf "revenue_of" "revenue_of" (defArgs s_revenue_of) (defBody s_revenue_of) (defScope s_revenue_of) .none kV dc pm an cd ct), sl⟩) (c : PySem.W.codeIn K cd "revenue_of" = true) (k : PySem.W.keepIn K (.ref f) = true) : DefAt K mg "revenue_of" s_revenue_of ["worths", "budgets", "order"] :=
  have F := fun_mk (st := s_revenue_of) l c k
  ⟨f, _, F, PySem.W.mg_of X G a, F.binds (ps := ["worths", "budgets", "order"]) fun _ _ _ _ _ _ us hl => match us, hl with | [_, _, _], _ => rfl⟩
theorem at_outcomes_now {f : Addr} {oc kV dc pm cd ct : Value} {od an : Option Addr} {sl : Array (Option Value)} (X : K.In h) (G : h.Ns mainGlobals mg) (a : PySem.W.nsIn K mainGlobals "outcomes_now" = some (some (.ref f))) (l : K.lookup f = some ⟨oc, od, .func (PySem.W.fnOf "outcomes_now" "outcomes_now" (defArgs s_outcomes_now) (defBody s_outcomes_now) (defScope s_outcomes_now) .none kV dc pm an cd ct), sl⟩) (c : PySem.W.codeIn K cd "outcomes_now" = true) (k : PySem.W.keepIn K (.ref f) = true) : DefAt K mg "outcomes_now" s_outcomes_now ["auction", "order"] :=
  have F := fun_mk (st := s_outcomes_now) l c k
  ⟨f, _, F, PySem.W.mg_of X G a, F.binds (ps := ["auction", "order"]) fun _ _ _ _ _ _ us hl => match us, hl with | [_, _], _ => rfl⟩
theorem at_revenue_now {f : Addr} {oc kV dc pm cd ct : Value} {od an : Option Addr} {sl : Array (Option Value)} (X : K.In h) (G : h.Ns mainGlobals mg) (a : PySem.W.nsIn K mainGlobals "revenue_now" = some (some (.ref f))) (l : K.lookup f = some ⟨oc, od, .func (PySem.W.fnOf "revenue_now" "revenue_now" (defArgs s_revenue_now) (defBody s_revenue_now) (defScope s_revenue_now) .none kV dc pm an cd ct), sl⟩) (c : PySem.W.codeIn K cd "revenue_now" = true) (k : PySem.W.keepIn K (.ref f) = true) : DefAt K mg "revenue_now" s_revenue_now ["auction", "order"] :=
  have F := fun_mk (st := s_revenue_now) l c k
  ⟨f, _, F, PySem.W.mg_of X G a, F.binds (ps := ["auction", "order"]) fun _ _ _ _ _ _ us hl => match us, hl with | [_, _], _ => rfl⟩
theorem at_sell {f : Addr} {oc kV dc pm cd ct : Value} {od an : Option Addr} {sl : Array (Option Value)} (X : K.In h) (G : h.Ns mainGlobals mg) (a : PySem.W.nsIn K mainGlobals "sell" = some (some (.ref f))) (l : K.lookup f = some ⟨oc, od, .func (PySem.W.fnOf "sell" "sell" (defArgs s_sell) (defBody s_sell) (defScope s_sell) .none kV dc pm an cd ct), sl⟩) (c : PySem.W.codeIn K cd "sell" = true) (k : PySem.W.keepIn K (.ref f) = true) : DefAt K mg "sell" s_sell ["auction", "lot"] :=
  have F := fun_mk (st := s_sell) l c k
  ⟨f, _, F, PySem.W.mg_of X G a, F.binds (ps := ["auction", "lot"]) fun _ _ _ _ _ _ us hl => match us, hl with | [_, _], _ => rfl⟩
theorem at_withdraw {f : Addr} {oc kV dc pm cd ct : Value} {od an : Option Addr} {sl : Array (Option Value)} (X : K.In h) (G : h.Ns mainGlobals mg) (a : PySem.W.nsIn K mainGlobals "withdraw" = some (some (.ref f))) (l : K.lookup f = some ⟨oc, od, .func (PySem.W.fnOf "withdraw" "withdraw" (defArgs s_withdraw) (defBody s_withdraw) (defScope s_withdraw) .none kV dc pm an cd ct), sl⟩) (c : PySem.W.codeIn K cd "withdraw" = true) (k : PySem.W.keepIn K (.ref f) = true) : DefAt K mg "withdraw" s_withdraw ["auction", "lot"] :=
  have F := fun_mk (st := s_withdraw) l c k
  ⟨f, _, F, PySem.W.mg_of X G a, F.binds (ps := ["auction", "lot"]) fun _ _ _ _ _ _ us hl => match us, hl with | [_, _], _ => rfl⟩
theorem at_orders_of {f : Addr} {oc kV dc pm cd ct : Value} {od an : Option Addr} {sl : Array (Option Value)} (X : K.In h) (G : h.Ns mainGlobals mg) (a : PySem.W.nsIn K mainGlobals "orders_of" = some (some (.ref f))) (l : K.lookup f = some ⟨oc, od, .func (PySem.W.fnOf "orders_of" "orders_of" (defArgs s_orders_of) (defBody s_orders_of) (defScope s_orders_of) .none kV dc pm an cd ct), sl⟩) (c : PySem.W.codeIn K cd "orders_of" = true) (k : PySem.W.keepIn K (.ref f) = true) : DefAt K mg "orders_of" s_orders_of ["lots"] :=
  have F := fun_mk (st := s_orders_of) l c k
  ⟨f, _, F, PySem.W.mg_of X G a, F.binds (ps := ["lots"]) fun _ _ _ _ _ _ us hl => match us, hl with | [_], _ => rfl⟩
theorem at_revenues {f : Addr} {oc kV dc pm cd ct : Value} {od an : Option Addr} {sl : Array (Option Value)} (X : K.In h) (G : h.Ns mainGlobals mg) (a : PySem.W.nsIn K mainGlobals "revenues" = some (some (.ref f))) (l : K.lookup f = some ⟨oc, od, .func (PySem.W.fnOf "revenues" "revenues" (defArgs s_revenues) (defBody s_revenues) (defScope s_revenues) .none kV dc pm an cd ct), sl⟩) (c : PySem.W.codeIn K cd "revenues" = true) (k : PySem.W.keepIn K (.ref f) = true) : DefAt K mg "revenues" s_revenues ["auction"] :=
  have F := fun_mk (st := s_revenues) l c k
  ⟨f, _, F, PySem.W.mg_of X G a, F.binds (ps := ["auction"]) fun _ _ _ _ _ _ us hl => match us, hl with | [_], _ => rfl⟩
theorem at_first_with {f : Addr} {oc kV dc pm cd ct : Value} {od an : Option Addr} {sl : Array (Option Value)} (X : K.In h) (G : h.Ns mainGlobals mg) (a : PySem.W.nsIn K mainGlobals "first_with" = some (some (.ref f))) (l : K.lookup f = some ⟨oc, od, .func (PySem.W.fnOf "first_with" "first_with" (defArgs s_first_with) (defBody s_first_with) (defScope s_first_with) .none kV dc pm an cd ct), sl⟩) (c : PySem.W.codeIn K cd "first_with" = true) (k : PySem.W.keepIn K (.ref f) = true) : DefAt K mg "first_with" s_first_with ["auction", "revenue"] :=
  have F := fun_mk (st := s_first_with) l c k
  ⟨f, _, F, PySem.W.mg_of X G a, F.binds (ps := ["auction", "revenue"]) fun _ _ _ _ _ _ us hl => match us, hl with | [_, _], _ => rfl⟩
theorem at_greatest {f : Addr} {oc kV dc pm cd ct : Value} {od an : Option Addr} {sl : Array (Option Value)} (X : K.In h) (G : h.Ns mainGlobals mg) (a : PySem.W.nsIn K mainGlobals "greatest" = some (some (.ref f))) (l : K.lookup f = some ⟨oc, od, .func (PySem.W.fnOf "greatest" "greatest" (defArgs s_greatest) (defBody s_greatest) (defScope s_greatest) .none kV dc pm an cd ct), sl⟩) (c : PySem.W.codeIn K cd "greatest" = true) (k : PySem.W.keepIn K (.ref f) = true) : DefAt K mg "greatest" s_greatest ["auction"] :=
  have F := fun_mk (st := s_greatest) l c k
  ⟨f, _, F, PySem.W.mg_of X G a, F.binds (ps := ["auction"]) fun _ _ _ _ _ _ us hl => match us, hl with | [_], _ => rfl⟩
theorem at_smallest {f : Addr} {oc kV dc pm cd ct : Value} {od an : Option Addr} {sl : Array (Option Value)} (X : K.In h) (G : h.Ns mainGlobals mg) (a : PySem.W.nsIn K mainGlobals "smallest" = some (some (.ref f))) (l : K.lookup f = some ⟨oc, od, .func (PySem.W.fnOf "smallest" "smallest" (defArgs s_smallest) (defBody s_smallest) (defScope s_smallest) .none kV dc pm an cd ct), sl⟩) (c : PySem.W.codeIn K cd "smallest" = true) (k : PySem.W.keepIn K (.ref f) = true) : DefAt K mg "smallest" s_smallest ["auction"] :=
  have F := fun_mk (st := s_smallest) l c k
  ⟨f, _, F, PySem.W.mg_of X G a, F.binds (ps := ["auction"]) fun _ _ _ _ _ _ us hl => match us, hl with | [_], _ => rfl⟩
theorem at_best_order {f : Addr} {oc kV dc pm cd ct : Value} {od an : Option Addr} {sl : Array (Option Value)} (X : K.In h) (G : h.Ns mainGlobals mg) (a : PySem.W.nsIn K mainGlobals "best_order" = some (some (.ref f))) (l : K.lookup f = some ⟨oc, od, .func (PySem.W.fnOf "best_order" "best_order" (defArgs s_best_order) (defBody s_best_order) (defScope s_best_order) .none kV dc pm an cd ct), sl⟩) (c : PySem.W.codeIn K cd "best_order" = true) (k : PySem.W.keepIn K (.ref f) = true) : DefAt K mg "best_order" s_best_order ["auction"] :=
  have F := fun_mk (st := s_best_order) l c k
  ⟨f, _, F, PySem.W.mg_of X G a, F.binds (ps := ["auction"]) fun _ _ _ _ _ _ us hl => match us, hl with | [_], _ => rfl⟩
theorem at_worst_order {f : Addr} {oc kV dc pm cd ct : Value} {od an : Option Addr} {sl : Array (Option Value)} (X : K.In h) (G : h.Ns mainGlobals mg) (a : PySem.W.nsIn K mainGlobals "worst_order" = some (some (.ref f))) (l : K.lookup f = some ⟨oc, od, .func (PySem.W.fnOf "worst_order" "worst_order" (defArgs s_worst_order) (defBody s_worst_order) (defScope s_worst_order) .none kV dc pm an cd ct), sl⟩) (c : PySem.W.codeIn K cd "worst_order" = true) (k : PySem.W.keepIn K (.ref f) = true) : DefAt K mg "worst_order" s_worst_order ["auction"] :=
  have F := fun_mk (st := s_worst_order) l c k
  ⟨f, _, F, PySem.W.mg_of X G a, F.binds (ps := ["auction"]) fun _ _ _ _ _ _ us hl => match us, hl with | [_], _ => rfl⟩
theorem at_greatest_with {f : Addr} {oc kV dc pm cd ct : Value} {od an : Option Addr} {sl : Array (Option Value)} (X : K.In h) (G : h.Ns mainGlobals mg) (a : PySem.W.nsIn K mainGlobals "greatest_with" = some (some (.ref f))) (l : K.lookup f = some ⟨oc, od, .func (PySem.W.fnOf "greatest_with" "greatest_with" (defArgs s_greatest_with) (defBody s_greatest_with) (defScope s_greatest_with) .none kV dc pm an cd ct), sl⟩) (c : PySem.W.codeIn K cd "greatest_with" = true) (k : PySem.W.keepIn K (.ref f) = true) : DefAt K mg "greatest_with" s_greatest_with ["worths", "budgets", "lots"] :=
  have F := fun_mk (st := s_greatest_with) l c k
  ⟨f, _, F, PySem.W.mg_of X G a, F.binds (ps := ["worths", "budgets", "lots"]) fun _ _ _ _ _ _ us hl => match us, hl with | [_, _, _], _ => rfl⟩
theorem at_highest_bid {f : Addr} {oc kV dc pm cd ct : Value} {od an : Option Addr} {sl : Array (Option Value)} (X : K.In h) (G : h.Ns mainGlobals mg) (a : PySem.W.nsIn K mainGlobals "highest_bid" = some (some (.ref f))) (l : K.lookup f = some ⟨oc, od, .func (PySem.W.fnOf "highest_bid" "highest_bid" (defArgs s_highest_bid) (defBody s_highest_bid) (defScope s_highest_bid) .none kV dc pm an cd ct), sl⟩) (c : PySem.W.codeIn K cd "highest_bid" = true) (k : PySem.W.keepIn K (.ref f) = true) : DefAt K mg "highest_bid" s_highest_bid ["auction", "lot"] :=
  have F := fun_mk (st := s_highest_bid) l c k
  ⟨f, _, F, PySem.W.mg_of X G a, F.binds (ps := ["auction", "lot"]) fun _ _ _ _ _ _ us hl => match us, hl with | [_, _], _ => rfl⟩
theorem at_by_highest_bid {f : Addr} {oc kV dc pm cd ct : Value} {od an : Option Addr} {sl : Array (Option Value)} (X : K.In h) (G : h.Ns mainGlobals mg) (a : PySem.W.nsIn K mainGlobals "by_highest_bid" = some (some (.ref f))) (l : K.lookup f = some ⟨oc, od, .func (PySem.W.fnOf "by_highest_bid" "by_highest_bid" (defArgs s_by_highest_bid) (defBody s_by_highest_bid) (defScope s_by_highest_bid) .none kV dc pm an cd ct), sl⟩) (c : PySem.W.codeIn K cd "by_highest_bid" = true) (k : PySem.W.keepIn K (.ref f) = true) : DefAt K mg "by_highest_bid" s_by_highest_bid ["auction"] :=
  have F := fun_mk (st := s_by_highest_bid) l c k
  ⟨f, _, F, PySem.W.mg_of X G a, F.binds (ps := ["auction"]) fun _ _ _ _ _ _ us hl => match us, hl with | [_], _ => rfl⟩
theorem at_is_remaining {f : Addr} {oc kV dc pm cd ct : Value} {od an : Option Addr} {sl : Array (Option Value)} (X : K.In h) (G : h.Ns mainGlobals mg) (a : PySem.W.nsIn K mainGlobals "is_remaining" = some (some (.ref f))) (l : K.lookup f = some ⟨oc, od, .func (PySem.W.fnOf "is_remaining" "is_remaining" (defArgs s_is_remaining) (defBody s_is_remaining) (defScope s_is_remaining) .none kV dc pm an cd ct), sl⟩) (c : PySem.W.codeIn K cd "is_remaining" = true) (k : PySem.W.keepIn K (.ref f) = true) : DefAt K mg "is_remaining" s_is_remaining ["auction", "lot"] :=
  have F := fun_mk (st := s_is_remaining) l c k
  ⟨f, _, F, PySem.W.mg_of X G a, F.binds (ps := ["auction", "lot"]) fun _ _ _ _ _ _ us hl => match us, hl with | [_, _], _ => rfl⟩
theorem at_told {f : Addr} {oc kV dc pm cd ct : Value} {od an : Option Addr} {sl : Array (Option Value)} (X : K.In h) (G : h.Ns mainGlobals mg) (a : PySem.W.nsIn K mainGlobals "told" = some (some (.ref f))) (l : K.lookup f = some ⟨oc, od, .func (PySem.W.fnOf "told" "told" (defArgs s_told) (defBody s_told) (defScope s_told) .none kV dc pm an cd ct), sl⟩) (c : PySem.W.codeIn K cd "told" = true) (k : PySem.W.keepIn K (.ref f) = true) : DefAt K mg "told" s_told ["outcome"] :=
  have F := fun_mk (st := s_told) l c k
  ⟨f, _, F, PySem.W.mg_of X G a, F.binds (ps := ["outcome"]) fun _ _ _ _ _ _ us hl => match us, hl with | [_], _ => rfl⟩
theorem at_order_answer {f : Addr} {oc kV dc pm cd ct : Value} {od an : Option Addr} {sl : Array (Option Value)} (X : K.In h) (G : h.Ns mainGlobals mg) (a : PySem.W.nsIn K mainGlobals "order_answer" = some (some (.ref f))) (l : K.lookup f = some ⟨oc, od, .func (PySem.W.fnOf "order_answer" "order_answer" (defArgs s_order_answer) (defBody s_order_answer) (defScope s_order_answer) .none kV dc pm an cd ct), sl⟩) (c : PySem.W.codeIn K cd "order_answer" = true) (k : PySem.W.keepIn K (.ref f) = true) : DefAt K mg "order_answer" s_order_answer ["auction", "order"] :=
  have F := fun_mk (st := s_order_answer) l c k
  ⟨f, _, F, PySem.W.mg_of X G a, F.binds (ps := ["auction", "order"]) fun _ _ _ _ _ _ us hl => match us, hl with | [_, _], _ => rfl⟩
theorem at_set_value {f : Addr} {oc kV dc pm cd ct : Value} {od an : Option Addr} {sl : Array (Option Value)} (X : K.In h) (G : h.Ns mainGlobals mg) (a : PySem.W.nsIn K mainGlobals "set_value" = some (some (.ref f))) (l : K.lookup f = some ⟨oc, od, .func (PySem.W.fnOf "set_value" "set_value" (defArgs s_set_value) (defBody s_set_value) (defScope s_set_value) .none kV dc pm an cd ct), sl⟩) (c : PySem.W.codeIn K cd "set_value" = true) (k : PySem.W.keepIn K (.ref f) = true) : DefAt K mg "set_value" s_set_value ["auction", "numbers", "order"] :=
  have F := fun_mk (st := s_set_value) l c k
  ⟨f, _, F, PySem.W.mg_of X G a, F.binds (ps := ["auction", "numbers", "order"]) fun _ _ _ _ _ _ us hl => match us, hl with | [_, _, _], _ => rfl⟩
theorem at_set_budget {f : Addr} {oc kV dc pm cd ct : Value} {od an : Option Addr} {sl : Array (Option Value)} (X : K.In h) (G : h.Ns mainGlobals mg) (a : PySem.W.nsIn K mainGlobals "set_budget" = some (some (.ref f))) (l : K.lookup f = some ⟨oc, od, .func (PySem.W.fnOf "set_budget" "set_budget" (defArgs s_set_budget) (defBody s_set_budget) (defScope s_set_budget) .none kV dc pm an cd ct), sl⟩) (c : PySem.W.codeIn K cd "set_budget" = true) (k : PySem.W.keepIn K (.ref f) = true) : DefAt K mg "set_budget" s_set_budget ["auction", "numbers", "order"] :=
  have F := fun_mk (st := s_set_budget) l c k
  ⟨f, _, F, PySem.W.mg_of X G a, F.binds (ps := ["auction", "numbers", "order"]) fun _ _ _ _ _ _ us hl => match us, hl with | [_, _, _], _ => rfl⟩
theorem at_sell_lot {f : Addr} {oc kV dc pm cd ct : Value} {od an : Option Addr} {sl : Array (Option Value)} (X : K.In h) (G : h.Ns mainGlobals mg) (a : PySem.W.nsIn K mainGlobals "sell_lot" = some (some (.ref f))) (l : K.lookup f = some ⟨oc, od, .func (PySem.W.fnOf "sell_lot" "sell_lot" (defArgs s_sell_lot) (defBody s_sell_lot) (defScope s_sell_lot) .none kV dc pm an cd ct), sl⟩) (c : PySem.W.codeIn K cd "sell_lot" = true) (k : PySem.W.keepIn K (.ref f) = true) : DefAt K mg "sell_lot" s_sell_lot ["auction", "numbers", "order"] :=
  have F := fun_mk (st := s_sell_lot) l c k
  ⟨f, _, F, PySem.W.mg_of X G a, F.binds (ps := ["auction", "numbers", "order"]) fun _ _ _ _ _ _ us hl => match us, hl with | [_, _, _], _ => rfl⟩
theorem at_withdraw_lot {f : Addr} {oc kV dc pm cd ct : Value} {od an : Option Addr} {sl : Array (Option Value)} (X : K.In h) (G : h.Ns mainGlobals mg) (a : PySem.W.nsIn K mainGlobals "withdraw_lot" = some (some (.ref f))) (l : K.lookup f = some ⟨oc, od, .func (PySem.W.fnOf "withdraw_lot" "withdraw_lot" (defArgs s_withdraw_lot) (defBody s_withdraw_lot) (defScope s_withdraw_lot) .none kV dc pm an cd ct), sl⟩) (c : PySem.W.codeIn K cd "withdraw_lot" = true) (k : PySem.W.keepIn K (.ref f) = true) : DefAt K mg "withdraw_lot" s_withdraw_lot ["auction", "numbers", "order"] :=
  have F := fun_mk (st := s_withdraw_lot) l c k
  ⟨f, _, F, PySem.W.mg_of X G a, F.binds (ps := ["auction", "numbers", "order"]) fun _ _ _ _ _ _ us hl => match us, hl with | [_, _, _], _ => rfl⟩
theorem at_sell_all_best {f : Addr} {oc kV dc pm cd ct : Value} {od an : Option Addr} {sl : Array (Option Value)} (X : K.In h) (G : h.Ns mainGlobals mg) (a : PySem.W.nsIn K mainGlobals "sell_all_best" = some (some (.ref f))) (l : K.lookup f = some ⟨oc, od, .func (PySem.W.fnOf "sell_all_best" "sell_all_best" (defArgs s_sell_all_best) (defBody s_sell_all_best) (defScope s_sell_all_best) .none kV dc pm an cd ct), sl⟩) (c : PySem.W.codeIn K cd "sell_all_best" = true) (k : PySem.W.keepIn K (.ref f) = true) : DefAt K mg "sell_all_best" s_sell_all_best ["auction", "numbers", "order"] :=
  have F := fun_mk (st := s_sell_all_best) l c k
  ⟨f, _, F, PySem.W.mg_of X G a, F.binds (ps := ["auction", "numbers", "order"]) fun _ _ _ _ _ _ us hl => match us, hl with | [_, _, _], _ => rfl⟩
theorem at_winner {f : Addr} {oc kV dc pm cd ct : Value} {od an : Option Addr} {sl : Array (Option Value)} (X : K.In h) (G : h.Ns mainGlobals mg) (a : PySem.W.nsIn K mainGlobals "winner" = some (some (.ref f))) (l : K.lookup f = some ⟨oc, od, .func (PySem.W.fnOf "winner" "winner" (defArgs s_winner) (defBody s_winner) (defScope s_winner) .none kV dc pm an cd ct), sl⟩) (c : PySem.W.codeIn K cd "winner" = true) (k : PySem.W.keepIn K (.ref f) = true) : DefAt K mg "winner" s_winner ["auction", "numbers", "order"] :=
  have F := fun_mk (st := s_winner) l c k
  ⟨f, _, F, PySem.W.mg_of X G a, F.binds (ps := ["auction", "numbers", "order"]) fun _ _ _ _ _ _ us hl => match us, hl with | [_, _, _], _ => rfl⟩
theorem at_bid {f : Addr} {oc kV dc pm cd ct : Value} {od an : Option Addr} {sl : Array (Option Value)} (X : K.In h) (G : h.Ns mainGlobals mg) (a : PySem.W.nsIn K mainGlobals "bid" = some (some (.ref f))) (l : K.lookup f = some ⟨oc, od, .func (PySem.W.fnOf "bid" "bid" (defArgs s_bid) (defBody s_bid) (defScope s_bid) .none kV dc pm an cd ct), sl⟩) (c : PySem.W.codeIn K cd "bid" = true) (k : PySem.W.keepIn K (.ref f) = true) : DefAt K mg "bid" s_bid ["auction", "numbers", "order"] :=
  have F := fun_mk (st := s_bid) l c k
  ⟨f, _, F, PySem.W.mg_of X G a, F.binds (ps := ["auction", "numbers", "order"]) fun _ _ _ _ _ _ us hl => match us, hl with | [_, _, _], _ => rfl⟩
theorem at_simulate_order {f : Addr} {oc kV dc pm cd ct : Value} {od an : Option Addr} {sl : Array (Option Value)} (X : K.In h) (G : h.Ns mainGlobals mg) (a : PySem.W.nsIn K mainGlobals "simulate_order" = some (some (.ref f))) (l : K.lookup f = some ⟨oc, od, .func (PySem.W.fnOf "simulate_order" "simulate_order" (defArgs s_simulate_order) (defBody s_simulate_order) (defScope s_simulate_order) .none kV dc pm an cd ct), sl⟩) (c : PySem.W.codeIn K cd "simulate_order" = true) (k : PySem.W.keepIn K (.ref f) = true) : DefAt K mg "simulate_order" s_simulate_order ["auction", "numbers", "order"] :=
  have F := fun_mk (st := s_simulate_order) l c k
  ⟨f, _, F, PySem.W.mg_of X G a, F.binds (ps := ["auction", "numbers", "order"]) fun _ _ _ _ _ _ us hl => match us, hl with | [_, _, _], _ => rfl⟩
theorem at_tell_revenue {f : Addr} {oc kV dc pm cd ct : Value} {od an : Option Addr} {sl : Array (Option Value)} (X : K.In h) (G : h.Ns mainGlobals mg) (a : PySem.W.nsIn K mainGlobals "tell_revenue" = some (some (.ref f))) (l : K.lookup f = some ⟨oc, od, .func (PySem.W.fnOf "tell_revenue" "tell_revenue" (defArgs s_tell_revenue) (defBody s_tell_revenue) (defScope s_tell_revenue) .none kV dc pm an cd ct), sl⟩) (c : PySem.W.codeIn K cd "tell_revenue" = true) (k : PySem.W.keepIn K (.ref f) = true) : DefAt K mg "tell_revenue" s_tell_revenue ["auction", "numbers", "order"] :=
  have F := fun_mk (st := s_tell_revenue) l c k
  ⟨f, _, F, PySem.W.mg_of X G a, F.binds (ps := ["auction", "numbers", "order"]) fun _ _ _ _ _ _ us hl => match us, hl with | [_, _, _], _ => rfl⟩
theorem at_max_revenue_order {f : Addr} {oc kV dc pm cd ct : Value} {od an : Option Addr} {sl : Array (Option Value)} (X : K.In h) (G : h.Ns mainGlobals mg) (a : PySem.W.nsIn K mainGlobals "max_revenue_order" = some (some (.ref f))) (l : K.lookup f = some ⟨oc, od, .func (PySem.W.fnOf "max_revenue_order" "max_revenue_order" (defArgs s_max_revenue_order) (defBody s_max_revenue_order) (defScope s_max_revenue_order) .none kV dc pm an cd ct), sl⟩) (c : PySem.W.codeIn K cd "max_revenue_order" = true) (k : PySem.W.keepIn K (.ref f) = true) : DefAt K mg "max_revenue_order" s_max_revenue_order ["auction", "numbers", "order"] :=
  have F := fun_mk (st := s_max_revenue_order) l c k
  ⟨f, _, F, PySem.W.mg_of X G a, F.binds (ps := ["auction", "numbers", "order"]) fun _ _ _ _ _ _ us hl => match us, hl with | [_, _, _], _ => rfl⟩
theorem at_min_revenue_order {f : Addr} {oc kV dc pm cd ct : Value} {od an : Option Addr} {sl : Array (Option Value)} (X : K.In h) (G : h.Ns mainGlobals mg) (a : PySem.W.nsIn K mainGlobals "min_revenue_order" = some (some (.ref f))) (l : K.lookup f = some ⟨oc, od, .func (PySem.W.fnOf "min_revenue_order" "min_revenue_order" (defArgs s_min_revenue_order) (defBody s_min_revenue_order) (defScope s_min_revenue_order) .none kV dc pm an cd ct), sl⟩) (c : PySem.W.codeIn K cd "min_revenue_order" = true) (k : PySem.W.keepIn K (.ref f) = true) : DefAt K mg "min_revenue_order" s_min_revenue_order ["auction", "numbers", "order"] :=
  have F := fun_mk (st := s_min_revenue_order) l c k
  ⟨f, _, F, PySem.W.mg_of X G a, F.binds (ps := ["auction", "numbers", "order"]) fun _ _ _ _ _ _ us hl => match us, hl with | [_, _, _], _ => rfl⟩
theorem at_highest_bid_first {f : Addr} {oc kV dc pm cd ct : Value} {od an : Option Addr} {sl : Array (Option Value)} (X : K.In h) (G : h.Ns mainGlobals mg) (a : PySem.W.nsIn K mainGlobals "highest_bid_first" = some (some (.ref f))) (l : K.lookup f = some ⟨oc, od, .func (PySem.W.fnOf "highest_bid_first" "highest_bid_first" (defArgs s_highest_bid_first) (defBody s_highest_bid_first) (defScope s_highest_bid_first) .none kV dc pm an cd ct), sl⟩) (c : PySem.W.codeIn K cd "highest_bid_first" = true) (k : PySem.W.keepIn K (.ref f) = true) : DefAt K mg "highest_bid_first" s_highest_bid_first ["auction", "numbers", "order"] :=
  have F := fun_mk (st := s_highest_bid_first) l c k
  ⟨f, _, F, PySem.W.mg_of X G a, F.binds (ps := ["auction", "numbers", "order"]) fun _ _ _ _ _ _ us hl => match us, hl with | [_, _, _], _ => rfl⟩
theorem at_count_best_orders {f : Addr} {oc kV dc pm cd ct : Value} {od an : Option Addr} {sl : Array (Option Value)} (X : K.In h) (G : h.Ns mainGlobals mg) (a : PySem.W.nsIn K mainGlobals "count_best_orders" = some (some (.ref f))) (l : K.lookup f = some ⟨oc, od, .func (PySem.W.fnOf "count_best_orders" "count_best_orders" (defArgs s_count_best_orders) (defBody s_count_best_orders) (defScope s_count_best_orders) .none kV dc pm an cd ct), sl⟩) (c : PySem.W.codeIn K cd "count_best_orders" = true) (k : PySem.W.keepIn K (.ref f) = true) : DefAt K mg "count_best_orders" s_count_best_orders ["auction", "numbers", "order"] :=
  have F := fun_mk (st := s_count_best_orders) l c k
  ⟨f, _, F, PySem.W.mg_of X G a, F.binds (ps := ["auction", "numbers", "order"]) fun _ _ _ _ _ _ us hl => match us, hl with | [_, _, _], _ => rfl⟩
theorem at_revenue_spread {f : Addr} {oc kV dc pm cd ct : Value} {od an : Option Addr} {sl : Array (Option Value)} (X : K.In h) (G : h.Ns mainGlobals mg) (a : PySem.W.nsIn K mainGlobals "revenue_spread" = some (some (.ref f))) (l : K.lookup f = some ⟨oc, od, .func (PySem.W.fnOf "revenue_spread" "revenue_spread" (defArgs s_revenue_spread) (defBody s_revenue_spread) (defScope s_revenue_spread) .none kV dc pm an cd ct), sl⟩) (c : PySem.W.codeIn K cd "revenue_spread" = true) (k : PySem.W.keepIn K (.ref f) = true) : DefAt K mg "revenue_spread" s_revenue_spread ["auction", "numbers", "order"] :=
  have F := fun_mk (st := s_revenue_spread) l c k
  ⟨f, _, F, PySem.W.mg_of X G a, F.binds (ps := ["auction", "numbers", "order"]) fun _ _ _ _ _ _ us hl => match us, hl with | [_, _, _], _ => rfl⟩
theorem at_max_revenue_if_budget {f : Addr} {oc kV dc pm cd ct : Value} {od an : Option Addr} {sl : Array (Option Value)} (X : K.In h) (G : h.Ns mainGlobals mg) (a : PySem.W.nsIn K mainGlobals "max_revenue_if_budget" = some (some (.ref f))) (l : K.lookup f = some ⟨oc, od, .func (PySem.W.fnOf "max_revenue_if_budget" "max_revenue_if_budget" (defArgs s_max_revenue_if_budget) (defBody s_max_revenue_if_budget) (defScope s_max_revenue_if_budget) .none kV dc pm an cd ct), sl⟩) (c : PySem.W.codeIn K cd "max_revenue_if_budget" = true) (k : PySem.W.keepIn K (.ref f) = true) : DefAt K mg "max_revenue_if_budget" s_max_revenue_if_budget ["auction", "numbers", "order"] :=
  have F := fun_mk (st := s_max_revenue_if_budget) l c k
  ⟨f, _, F, PySem.W.mg_of X G a, F.binds (ps := ["auction", "numbers", "order"]) fun _ _ _ _ _ _ us hl => match us, hl with | [_, _, _], _ => rfl⟩
theorem at_max_revenue_if_value {f : Addr} {oc kV dc pm cd ct : Value} {od an : Option Addr} {sl : Array (Option Value)} (X : K.In h) (G : h.Ns mainGlobals mg) (a : PySem.W.nsIn K mainGlobals "max_revenue_if_value" = some (some (.ref f))) (l : K.lookup f = some ⟨oc, od, .func (PySem.W.fnOf "max_revenue_if_value" "max_revenue_if_value" (defArgs s_max_revenue_if_value) (defBody s_max_revenue_if_value) (defScope s_max_revenue_if_value) .none kV dc pm an cd ct), sl⟩) (c : PySem.W.codeIn K cd "max_revenue_if_value" = true) (k : PySem.W.keepIn K (.ref f) = true) : DefAt K mg "max_revenue_if_value" s_max_revenue_if_value ["auction", "numbers", "order"] :=
  have F := fun_mk (st := s_max_revenue_if_value) l c k
  ⟨f, _, F, PySem.W.mg_of X G a, F.binds (ps := ["auction", "numbers", "order"]) fun _ _ _ _ _ _ us hl => match us, hl with | [_, _, _], _ => rfl⟩
theorem at_max_revenue_without_bidder {f : Addr} {oc kV dc pm cd ct : Value} {od an : Option Addr} {sl : Array (Option Value)} (X : K.In h) (G : h.Ns mainGlobals mg) (a : PySem.W.nsIn K mainGlobals "max_revenue_without_bidder" = some (some (.ref f))) (l : K.lookup f = some ⟨oc, od, .func (PySem.W.fnOf "max_revenue_without_bidder" "max_revenue_without_bidder" (defArgs s_max_revenue_without_bidder) (defBody s_max_revenue_without_bidder) (defScope s_max_revenue_without_bidder) .none kV dc pm an cd ct), sl⟩) (c : PySem.W.codeIn K cd "max_revenue_without_bidder" = true) (k : PySem.W.keepIn K (.ref f) = true) : DefAt K mg "max_revenue_without_bidder" s_max_revenue_without_bidder ["auction", "numbers", "order"] :=
  have F := fun_mk (st := s_max_revenue_without_bidder) l c k
  ⟨f, _, F, PySem.W.mg_of X G a, F.binds (ps := ["auction", "numbers", "order"]) fun _ _ _ _ _ _ us hl => match us, hl with | [_, _, _], _ => rfl⟩
theorem at_max_revenue_if_withdrawn {f : Addr} {oc kV dc pm cd ct : Value} {od an : Option Addr} {sl : Array (Option Value)} (X : K.In h) (G : h.Ns mainGlobals mg) (a : PySem.W.nsIn K mainGlobals "max_revenue_if_withdrawn" = some (some (.ref f))) (l : K.lookup f = some ⟨oc, od, .func (PySem.W.fnOf "max_revenue_if_withdrawn" "max_revenue_if_withdrawn" (defArgs s_max_revenue_if_withdrawn) (defBody s_max_revenue_if_withdrawn) (defScope s_max_revenue_if_withdrawn) .none kV dc pm an cd ct), sl⟩) (c : PySem.W.codeIn K cd "max_revenue_if_withdrawn" = true) (k : PySem.W.keepIn K (.ref f) = true) : DefAt K mg "max_revenue_if_withdrawn" s_max_revenue_if_withdrawn ["auction", "numbers", "order"] :=
  have F := fun_mk (st := s_max_revenue_if_withdrawn) l c k
  ⟨f, _, F, PySem.W.mg_of X G a, F.binds (ps := ["auction", "numbers", "order"]) fun _ _ _ _ _ _ us hl => match us, hl with | [_, _, _], _ => rfl⟩
theorem at_upper_bounds {f : Addr} {oc kV dc pm cd ct : Value} {od an : Option Addr} {sl : Array (Option Value)} (X : K.In h) (G : h.Ns mainGlobals mg) (a : PySem.W.nsIn K mainGlobals "upper_bounds" = some (some (.ref f))) (l : K.lookup f = some ⟨oc, od, .func (PySem.W.fnOf "upper_bounds" "upper_bounds" (defArgs s_upper_bounds) (defBody s_upper_bounds) (defScope s_upper_bounds) .none kV dc pm an cd ct), sl⟩) (c : PySem.W.codeIn K cd "upper_bounds" = true) (k : PySem.W.keepIn K (.ref f) = true) : DefAt K mg "upper_bounds" s_upper_bounds ["auction", "numbers", "order"] :=
  have F := fun_mk (st := s_upper_bounds) l c k
  ⟨f, _, F, PySem.W.mg_of X G a, F.binds (ps := ["auction", "numbers", "order"]) fun _ _ _ _ _ _ us hl => match us, hl with | [_, _, _], _ => rfl⟩
theorem at_welfare_of {f : Addr} {oc kV dc pm cd ct : Value} {od an : Option Addr} {sl : Array (Option Value)} (X : K.In h) (G : h.Ns mainGlobals mg) (a : PySem.W.nsIn K mainGlobals "welfare_of" = some (some (.ref f))) (l : K.lookup f = some ⟨oc, od, .func (PySem.W.fnOf "welfare_of" "welfare_of" (defArgs s_welfare_of) (defBody s_welfare_of) (defScope s_welfare_of) .none kV dc pm an cd ct), sl⟩) (c : PySem.W.codeIn K cd "welfare_of" = true) (k : PySem.W.keepIn K (.ref f) = true) : DefAt K mg "welfare_of" s_welfare_of ["auction", "numbers", "order"] :=
  have F := fun_mk (st := s_welfare_of) l c k
  ⟨f, _, F, PySem.W.mg_of X G a, F.binds (ps := ["auction", "numbers", "order"]) fun _ _ _ _ _ _ us hl => match us, hl with | [_, _, _], _ => rfl⟩
theorem at_purchases_of {f : Addr} {oc kV dc pm cd ct : Value} {od an : Option Addr} {sl : Array (Option Value)} (X : K.In h) (G : h.Ns mainGlobals mg) (a : PySem.W.nsIn K mainGlobals "purchases_of" = some (some (.ref f))) (l : K.lookup f = some ⟨oc, od, .func (PySem.W.fnOf "purchases_of" "purchases_of" (defArgs s_purchases_of) (defBody s_purchases_of) (defScope s_purchases_of) .none kV dc pm an cd ct), sl⟩) (c : PySem.W.codeIn K cd "purchases_of" = true) (k : PySem.W.keepIn K (.ref f) = true) : DefAt K mg "purchases_of" s_purchases_of ["auction", "numbers", "order"] :=
  have F := fun_mk (st := s_purchases_of) l c k
  ⟨f, _, F, PySem.W.mg_of X G a, F.binds (ps := ["auction", "numbers", "order"]) fun _ _ _ _ _ _ us hl => match us, hl with | [_, _, _], _ => rfl⟩
theorem at_list_sales {f : Addr} {oc kV dc pm cd ct : Value} {od an : Option Addr} {sl : Array (Option Value)} (X : K.In h) (G : h.Ns mainGlobals mg) (a : PySem.W.nsIn K mainGlobals "list_sales" = some (some (.ref f))) (l : K.lookup f = some ⟨oc, od, .func (PySem.W.fnOf "list_sales" "list_sales" (defArgs s_list_sales) (defBody s_list_sales) (defScope s_list_sales) .none kV dc pm an cd ct), sl⟩) (c : PySem.W.codeIn K cd "list_sales" = true) (k : PySem.W.keepIn K (.ref f) = true) : DefAt K mg "list_sales" s_list_sales ["auction", "numbers", "order"] :=
  have F := fun_mk (st := s_list_sales) l c k
  ⟨f, _, F, PySem.W.mg_of X G a, F.binds (ps := ["auction", "numbers", "order"]) fun _ _ _ _ _ _ us hl => match us, hl with | [_, _, _], _ => rfl⟩
theorem at_list_remaining {f : Addr} {oc kV dc pm cd ct : Value} {od an : Option Addr} {sl : Array (Option Value)} (X : K.In h) (G : h.Ns mainGlobals mg) (a : PySem.W.nsIn K mainGlobals "list_remaining" = some (some (.ref f))) (l : K.lookup f = some ⟨oc, od, .func (PySem.W.fnOf "list_remaining" "list_remaining" (defArgs s_list_remaining) (defBody s_list_remaining) (defScope s_list_remaining) .none kV dc pm an cd ct), sl⟩) (c : PySem.W.codeIn K cd "list_remaining" = true) (k : PySem.W.keepIn K (.ref f) = true) : DefAt K mg "list_remaining" s_list_remaining ["auction", "numbers", "order"] :=
  have F := fun_mk (st := s_list_remaining) l c k
  ⟨f, _, F, PySem.W.mg_of X G a, F.binds (ps := ["auction", "numbers", "order"]) fun _ _ _ _ _ _ us hl => match us, hl with | [_, _, _], _ => rfl⟩
theorem at_status {f : Addr} {oc kV dc pm cd ct : Value} {od an : Option Addr} {sl : Array (Option Value)} (X : K.In h) (G : h.Ns mainGlobals mg) (a : PySem.W.nsIn K mainGlobals "status" = some (some (.ref f))) (l : K.lookup f = some ⟨oc, od, .func (PySem.W.fnOf "status" "status" (defArgs s_status) (defBody s_status) (defScope s_status) .none kV dc pm an cd ct), sl⟩) (c : PySem.W.codeIn K cd "status" = true) (k : PySem.W.keepIn K (.ref f) = true) : DefAt K mg "status" s_status ["auction", "numbers", "order"] :=
  have F := fun_mk (st := s_status) l c k
  ⟨f, _, F, PySem.W.mg_of X G a, F.binds (ps := ["auction", "numbers", "order"]) fun _ _ _ _ _ _ us hl => match us, hl with | [_, _, _], _ => rfl⟩
theorem at_answer {f : Addr} {oc kV dc pm cd ct : Value} {od an : Option Addr} {sl : Array (Option Value)} (X : K.In h) (G : h.Ns mainGlobals mg) (a : PySem.W.nsIn K mainGlobals "answer" = some (some (.ref f))) (l : K.lookup f = some ⟨oc, od, .func (PySem.W.fnOf "answer" "answer" (defArgs s_answer) (defBody s_answer) (defScope s_answer) .none kV dc pm an cd ct), sl⟩) (c : PySem.W.codeIn K cd "answer" = true) (k : PySem.W.keepIn K (.ref f) = true) : DefAt K mg "answer" s_answer ["current", "call", "numbers", "order"] :=
  have F := fun_mk (st := s_answer) l c k
  ⟨f, _, F, PySem.W.mg_of X G a, F.binds (ps := ["current", "call", "numbers", "order"]) fun _ _ _ _ _ _ us hl => match us, hl with | [_, _, _, _], _ => rfl⟩
theorem at_answers {f : Addr} {oc kV dc pm cd ct : Value} {od an : Option Addr} {sl : Array (Option Value)} (X : K.In h) (G : h.Ns mainGlobals mg) (a : PySem.W.nsIn K mainGlobals "answers" = some (some (.ref f))) (l : K.lookup f = some ⟨oc, od, .func (PySem.W.fnOf "answers" "answers" (defArgs s_answers) (defBody s_answers) (defScope s_answers) .none kV dc pm an cd ct), sl⟩) (c : PySem.W.codeIn K cd "answers" = true) (k : PySem.W.keepIn K (.ref f) = true) : DefAt K mg "answers" s_answers ["calls"] :=
  have F := fun_mk (st := s_answers) l c k
  ⟨f, _, F, PySem.W.mg_of X G a, F.binds (ps := ["calls"]) fun _ _ _ _ _ _ us hl => match us, hl with | [_], _ => rfl⟩
end
section
variable {P : Program} {w : World} {K : PySem.W.Frag} {mg : Str → Option Value} {base : Heap} {C : Addr}
theorem all_answer (B : Bi mg) (T : ClsA K C) (M : Most mg)
    (D_has_bidder : DefAt K mg "has_bidder" s_has_bidder ["auction", "number"])
    (D_has_lot : DefAt K mg "has_lot" s_has_lot ["auction", "number"])
    (D_replaced : DefAt K mg "replaced" s_replaced ["row", "at", "number"])
    (D_is_order : DefAt K mg "is_order" s_is_order ["auction", "order"])
    (D_bids_for : DefAt K mg "bids_for" s_bids_for ["worths", "budgets", "lot"])
    (D_outcome_of : DefAt K mg "outcome_of" s_outcome_of ["worths", "budgets", "lot"])
    (D_outcomes_of : DefAt K mg "outcomes_of" s_outcomes_of ["worths", "budgets", "order"])
    (D_revenue_of : DefAt K mg "revenue_of" s_revenue_of ["worths", "budgets", "order"])
    (D_outcomes_now : DefAt K mg "outcomes_now" s_outcomes_now ["auction", "order"])
    (D_revenue_now : DefAt K mg "revenue_now" s_revenue_now ["auction", "order"])
    (D_sell : DefAt K mg "sell" s_sell ["auction", "lot"])
    (D_withdraw : DefAt K mg "withdraw" s_withdraw ["auction", "lot"])
    (D_orders_of : DefAt K mg "orders_of" s_orders_of ["lots"])
    (D_revenues : DefAt K mg "revenues" s_revenues ["auction"])
    (D_first_with : DefAt K mg "first_with" s_first_with ["auction", "revenue"])
    (D_greatest : DefAt K mg "greatest" s_greatest ["auction"])
    (D_smallest : DefAt K mg "smallest" s_smallest ["auction"])
    (D_best_order : DefAt K mg "best_order" s_best_order ["auction"])
    (D_worst_order : DefAt K mg "worst_order" s_worst_order ["auction"])
    (D_greatest_with : DefAt K mg "greatest_with" s_greatest_with ["worths", "budgets", "lots"])
    (D_highest_bid : DefAt K mg "highest_bid" s_highest_bid ["auction", "lot"])
    (D_by_highest_bid : DefAt K mg "by_highest_bid" s_by_highest_bid ["auction"])
    (D_is_remaining : DefAt K mg "is_remaining" s_is_remaining ["auction", "lot"])
    (D_told : DefAt K mg "told" s_told ["outcome"])
    (D_order_answer : DefAt K mg "order_answer" s_order_answer ["auction", "order"])
    (D_set_value : DefAt K mg "set_value" s_set_value ["auction", "numbers", "order"])
    (D_set_budget : DefAt K mg "set_budget" s_set_budget ["auction", "numbers", "order"])
    (D_sell_lot : DefAt K mg "sell_lot" s_sell_lot ["auction", "numbers", "order"])
    (D_withdraw_lot : DefAt K mg "withdraw_lot" s_withdraw_lot ["auction", "numbers", "order"])
    (D_sell_all_best : DefAt K mg "sell_all_best" s_sell_all_best ["auction", "numbers", "order"])
    (D_winner : DefAt K mg "winner" s_winner ["auction", "numbers", "order"])
    (D_bid : DefAt K mg "bid" s_bid ["auction", "numbers", "order"])
    (D_simulate_order : DefAt K mg "simulate_order" s_simulate_order ["auction", "numbers", "order"])
    (D_tell_revenue : DefAt K mg "tell_revenue" s_tell_revenue ["auction", "numbers", "order"])
    (D_max_revenue_order : DefAt K mg "max_revenue_order" s_max_revenue_order ["auction", "numbers", "order"])
    (D_min_revenue_order : DefAt K mg "min_revenue_order" s_min_revenue_order ["auction", "numbers", "order"])
    (D_highest_bid_first : DefAt K mg "highest_bid_first" s_highest_bid_first ["auction", "numbers", "order"])
    (D_count_best_orders : DefAt K mg "count_best_orders" s_count_best_orders ["auction", "numbers", "order"])
    (D_revenue_spread : DefAt K mg "revenue_spread" s_revenue_spread ["auction", "numbers", "order"])
    (D_max_revenue_if_budget : DefAt K mg "max_revenue_if_budget" s_max_revenue_if_budget ["auction", "numbers", "order"])
    (D_max_revenue_if_value : DefAt K mg "max_revenue_if_value" s_max_revenue_if_value ["auction", "numbers", "order"])
    (D_max_revenue_without_bidder : DefAt K mg "max_revenue_without_bidder" s_max_revenue_without_bidder ["auction", "numbers", "order"])
    (D_max_revenue_if_withdrawn : DefAt K mg "max_revenue_if_withdrawn" s_max_revenue_if_withdrawn ["auction", "numbers", "order"])
    (D_upper_bounds : DefAt K mg "upper_bounds" s_upper_bounds ["auction", "numbers", "order"])
    (D_welfare_of : DefAt K mg "welfare_of" s_welfare_of ["auction", "numbers", "order"])
    (D_purchases_of : DefAt K mg "purchases_of" s_purchases_of ["auction", "numbers", "order"])
    (D_list_sales : DefAt K mg "list_sales" s_list_sales ["auction", "numbers", "order"])
    (D_list_remaining : DefAt K mg "list_remaining" s_list_remaining ["auction", "numbers", "order"])
    (D_status : DefAt K mg "status" s_status ["auction", "numbers", "order"])
    (D_answer : DefAt K mg "answer" s_answer ["current", "call", "numbers", "order"])
    {dA : Addr} {fs : List Addr} (gD : mg "DEEDS" = some (.ref dA)) (tD : ∀ H : Hp, SqT K H dA (V.non :: fs.map V.ref))
    {g1 g2 g3 g4 g5 g6 g7 g8 g9 g10 g11 g12 g13 g14 g15 g16 g17 g18 g19 g20 g21 g22 g23 g24 : Addr} (hfs : fs = [g1, g2, g3, g4, g5, g6, g7, g8, g9, g10, g11, g12, g13, g14, g15, g16, g17, g18, g19, g20, g21, g22, g23, g24])
    (m1 : mg "set_value" = some (.ref g1))
    (m2 : mg "set_budget" = some (.ref g2))
    (m3 : mg "sell_lot" = some (.ref g3))
    (m4 : mg "withdraw_lot" = some (.ref g4))
    (m5 : mg "sell_all_best" = some (.ref g5))
    (m6 : mg "winner" = some (.ref g6))
    (m7 : mg "bid" = some (.ref g7))
    (m8 : mg "simulate_order" = some (.ref g8))
    (m9 : mg "tell_revenue" = some (.ref g9))
    (m10 : mg "max_revenue_order" = some (.ref g10))
    (m11 : mg "min_revenue_order" = some (.ref g11))
    (m12 : mg "highest_bid_first" = some (.ref g12))
    (m13 : mg "count_best_orders" = some (.ref g13))
    (m14 : mg "revenue_spread" = some (.ref g14))
    (m15 : mg "max_revenue_if_budget" = some (.ref g15))
    (m16 : mg "max_revenue_if_value" = some (.ref g16))
    (m17 : mg "max_revenue_without_bidder" = some (.ref g17))
    (m18 : mg "max_revenue_if_withdrawn" = some (.ref g18))
    (m19 : mg "upper_bounds" = some (.ref g19))
    (m20 : mg "welfare_of" = some (.ref g20))
    (m21 : mg "purchases_of" = some (.ref g21))
    (m22 : mg "list_sales" = some (.ref g22))
    (m23 : mg "list_remaining" = some (.ref g23))
    (m24 : mg "status" = some (.ref g24))
    : Callee P w K mg base 10 "answer" (spAnswer C) := by
  have cBids := c_bids (P := P) (w := w) (base := base) D_bids_for B
  have cOut := c_outcome D_outcome_of B cBids
  have cOuts := c_outcomes D_outcomes_of B cOut
  have cRev := c_revenue D_revenue_of B cOuts
  have cOutsN := c_outcomes_now D_outcomes_now T cOuts
  have cRevN := c_revenue_now D_revenue_now T cRev
  have cOrds := c_orders (P := P) (w := w) (base := base) D_orders_of B
  have cRevs := c_revenues D_revenues T cOrds cRevN
  have cGr := c_greatest D_greatest B cRevs
  have cSm := c_smallest D_smallest B cRevs
  have cFi := c_first D_first_with T cOrds cRevs
  have cBe := c_best D_best_order cFi cGr
  have cWo := c_worst D_worst_order cFi cSm
  have cGw := c_greatest_with D_greatest_with B cOrds cRev
  have cHi := c_highest D_highest_bid B T cBids
  have cHasB := c_hasB (P := P) (w := w) (base := base) D_has_bidder B T
  have cHasL := c_hasL (P := P) (w := w) (base := base) D_has_lot T
  have cIsR := c_isRem (P := P) (w := w) (base := base) D_is_remaining T
  have cTold := c_told (P := P) (w := w) (base := base) D_told
  have cOA := c_ordAns D_order_answer cRevN
  have cRepl := c_repl (P := P) (w := w) (base := base) D_replaced
  have cIsO := c_isOrd (P := P) (w := w) (base := base) D_is_order B T
  have cByH := c_byHigh D_by_highest_bid B T cHi
  have cWd := c_withdraw (P := P) (w := w) (base := base) D_withdraw T
  have cSell := c_sell D_sell T cOut
  refine c_answer D_answer gD tD fun k k1 k24 => ?_
  subst hfs
  match k, k1, k24 with
  | 1, _, _ => exact ⟨_, rfl, (d_set_value D_set_value T M cHasB cHasL).held m1⟩
  | 2, _, _ => exact ⟨_, rfl, (d_set_budget D_set_budget T M cHasB).held m2⟩
  | 3, _, _ => exact ⟨_, rfl, (d_sell_lot D_sell_lot cIsR cTold cSell).held m3⟩
  | 4, _, _ => exact ⟨_, rfl, (d_withdraw_lot D_withdraw_lot B T cIsR cWd).held m4⟩
  | 5, _, _ => exact ⟨_, rfl, (d_sell_all D_sell_all_best B T cBe cOA cSell).held m5⟩
  | 6, _, _ => exact ⟨_, rfl, (d_winner D_winner T cIsR cTold cOut).held m6⟩
  | 7, _, _ => exact ⟨_, rfl, (d_bid D_bid T cHasB cHasL cBids).held m7⟩
  | 8, _, _ => exact ⟨_, rfl, (d_simulate D_simulate_order cIsO cRevN cOutsN cTold).held m8⟩
  | 9, _, _ => exact ⟨_, rfl, (d_tell D_tell_revenue cIsO cRevN).held m9⟩
  | 10, _, _ => exact ⟨_, rfl, (d_max_order D_max_revenue_order cBe cOA).held m10⟩
  | 11, _, _ => exact ⟨_, rfl, (d_min_order D_min_revenue_order cWo cOA).held m11⟩
  | 12, _, _ => exact ⟨_, rfl, (d_high_first D_highest_bid_first cByH cOA).held m12⟩
  | 13, _, _ => exact ⟨_, rfl, (d_count D_count_best_orders B cGr cRevs).held m13⟩
  | 14, _, _ => exact ⟨_, rfl, (d_spread D_revenue_spread cGr cSm).held m14⟩
  | 15, _, _ => exact ⟨_, rfl, (d_if_budget D_max_revenue_if_budget T M cHasB cRepl cGw).held m15⟩
  | 16, _, _ => exact ⟨_, rfl, (d_if_value D_max_revenue_if_value T M cHasB cHasL cRepl cGw).held m16⟩
  | 17, _, _ => exact ⟨_, rfl, (d_without D_max_revenue_without_bidder T cHasB cRepl cGw).held m17⟩
  | 18, _, _ => exact ⟨_, rfl, (d_if_withdrawn D_max_revenue_if_withdrawn T cIsR cGw).held m18⟩
  | 19, _, _ => exact ⟨_, rfl, (d_bounds D_upper_bounds B T cHi).held m19⟩
  | 20, _, _ => exact ⟨_, rfl, (d_welfare D_welfare_of B T cIsO cOutsN).held m20⟩
  | 21, _, _ => exact ⟨_, rfl, (d_purchases D_purchases_of B T cHasB cIsO cOutsN).held m21⟩
  | 22, _, _ => exact ⟨_, rfl, (d_sales D_list_sales B T).held m22⟩
  | 23, _, _ => exact ⟨_, rfl, (d_remaining D_list_remaining B T).held m23⟩
  | 24, _, _ => exact ⟨_, rfl, (d_status D_status B T).held m24⟩
  | 0, z, _ => omega
  | n + 25, _, z => omega
end
theorem all_mk {P : Program} {w : World} {K : PySem.W.Frag} {h : Heap} {mg : Str → Option Value} {fa C fI nA wA dA : Addr} {f0 f1 f2 f3 f4 f5 f6 f7 f8 f9 f10 f11 f12 f13 f14 f15 f16 f17 f18 f19 f20 f21 f22 f23 f24 f25 f26 f27 f28 f29 f30 f31 f32 f33 f34 f35 f36 f37 f38 f39 f40 f41 f42 f43 f44 f45 f46 f47 f48 f49 f50 : Addr} (X : K.In h) (G : h.Ns mainGlobals mg) (hfa : mg "answers" = some (.ref fa))
    {od0 an0 od1 an1 od2 an2 od3 an3 od4 an4 od5 an5 od6 an6 od7 an7 od8 an8 od9 an9 od10 an10 od11 an11 od12 an12 od13 an13 od14 an14 od15 an15 od16 an16 od17 an17 od18 an18 od19 an19 od20 an20 od21 an21 od22 an22 od23 an23 od24 an24 od25 an25 od26 an26 od27 an27 od28 an28 od29 an29 od30 an30 od31 an31 od32 an32 od33 an33 od34 an34 od35 an35 od36 an36 od37 an37 od38 an38 od39 an39 od40 an40 od41 an41 od42 an42 od43 an43 od44 an44 od45 an45 od46 an46 od47 an47 od48 an48 od49 an49 od50 an50 odI anI odN odW odD : Option Addr} {sl0 sl1 sl2 sl3 sl4 sl5 sl6 sl7 sl8 sl9 sl10 sl11 sl12 sl13 sl14 sl15 sl16 sl17 sl18 sl19 sl20 sl21 sl22 sl23 sl24 sl25 sl26 sl27 sl28 sl29 sl30 sl31 sl32 sl33 sl34 sl35 sl36 sl37 sl38 sl39 sl40 sl41 sl42 sl43 sl44 sl45 sl46 sl47 sl48 sl49 sl50 slI slN slW slD : Array (Option Value)}
    {oc0 kV0 dc0 pm0 cd0 ct0 oc1 kV1 dc1 pm1 cd1 ct1 oc2 kV2 dc2 pm2 cd2 ct2 oc3 kV3 dc3 pm3 cd3 ct3 oc4 kV4 dc4 pm4 cd4 ct4 oc5 kV5 dc5 pm5 cd5 ct5 oc6 kV6 dc6 pm6 cd6 ct6 oc7 kV7 dc7 pm7 cd7 ct7 oc8 kV8 dc8 pm8 cd8 ct8 oc9 kV9 dc9 pm9 cd9 ct9 oc10 kV10 dc10 pm10 cd10 ct10 oc11 kV11 dc11 pm11 cd11 ct11 oc12 kV12 dc12 pm12 cd12 ct12 oc13 kV13 dc13 pm13 cd13 ct13 oc14 kV14 dc14 pm14 cd14 ct14 oc15 kV15 dc15 pm15 cd15 ct15 oc16 kV16 dc16 pm16 cd16 ct16 oc17 kV17 dc17 pm17 cd17 ct17 oc18 kV18 dc18 pm18 cd18 ct18 oc19 kV19 dc19 pm19 cd19 ct19 oc20 kV20 dc20 pm20 cd20 ct20 oc21 kV21 dc21 pm21 cd21 ct21 oc22 kV22 dc22 pm22 cd22 ct22 oc23 kV23 dc23 pm23 cd23 ct23 oc24 kV24 dc24 pm24 cd24 ct24 oc25 kV25 dc25 pm25 cd25 ct25 oc26 kV26 dc26 pm26 cd26 ct26 oc27 kV27 dc27 pm27 cd27 ct27 oc28 kV28 dc28 pm28 cd28 ct28 oc29 kV29 dc29 pm29 cd29 ct29 oc30 kV30 dc30 pm30 cd30 ct30 oc31 kV31 dc31 pm31 cd31 ct31 oc32 kV32 dc32 pm32 cd32 ct32 oc33 kV33 dc33 pm33 cd33 ct33 oc34 kV34 dc34 pm34 cd34 ct34 oc35 kV35 dc35 pm35 cd35 ct35 oc36 kV36 dc36 pm36 cd36 ct36 oc37 kV37 dc37 pm37 cd37 ct37 oc38 kV38 dc38 pm38 cd38 ct38 oc39 kV39 dc39 pm39 cd39 ct39 oc40 kV40 dc40 pm40 cd40 ct40 oc41 kV41 dc41 pm41 cd41 ct41 oc42 kV42 dc42 pm42 cd42 ct42 oc43 kV43 dc43 pm43 cd43 ct43 oc44 kV44 dc44 pm44 cd44 ct44 oc45 kV45 dc45 pm45 cd45 ct45 oc46 kV46 dc46 pm46 cd46 ct46 oc47 kV47 dc47 pm47 cd47 ct47 oc48 kV48 dc48 pm48 cd48 ct48 oc49 kV49 dc49 pm49 cd49 ct49 oc50 kV50 dc50 pm50 cd50 ct50 ocI kVI dcI pmI cdI ctI : Value} {tMV tMB tCR : Tok} {itN itW : Array Value} {nN nW nD : Nat}
    (a0 : PySem.W.nsIn K mainGlobals "has_bidder" = some (some (.ref f0)))
    (l0 : K.lookup f0 = some ⟨oc0, od0, .func (PySem.W.fnOf "has_bidder" "has_bidder" (defArgs s_has_bidder) (defBody s_has_bidder) (defScope s_has_bidder) .none kV0 dc0 pm0 an0 cd0 ct0), sl0⟩)
    (c0 : PySem.W.codeIn K cd0 "has_bidder" = true)
    (k0 : PySem.W.keepIn K (.ref f0) = true)
    (a1 : PySem.W.nsIn K mainGlobals "has_lot" = some (some (.ref f1)))
    (l1 : K.lookup f1 = some ⟨oc1, od1, .func (PySem.W.fnOf "has_lot" "has_lot" (defArgs s_has_lot) (defBody s_has_lot) (defScope s_has_lot) .none kV1 dc1 pm1 an1 cd1 ct1), sl1⟩)
    (c1 : PySem.W.codeIn K cd1 "has_lot" = true)
    (k1 : PySem.W.keepIn K (.ref f1) = true)
    (a2 : PySem.W.nsIn K mainGlobals "replaced" = some (some (.ref f2)))
    (l2 : K.lookup f2 = some ⟨oc2, od2, .func (PySem.W.fnOf "replaced" "replaced" (defArgs s_replaced) (defBody s_replaced) (defScope s_replaced) .none kV2 dc2 pm2 an2 cd2 ct2), sl2⟩)
    (c2 : PySem.W.codeIn K cd2 "replaced" = true)
    (k2 : PySem.W.keepIn K (.ref f2) = true)
    (a3 : PySem.W.nsIn K mainGlobals "is_order" = some (some (.ref f3)))
    (l3 : K.lookup f3 = some ⟨oc3, od3, .func (PySem.W.fnOf "is_order" "is_order" (defArgs s_is_order) (defBody s_is_order) (defScope s_is_order) .none kV3 dc3 pm3 an3 cd3 ct3), sl3⟩)
    (c3 : PySem.W.codeIn K cd3 "is_order" = true)
    (k3 : PySem.W.keepIn K (.ref f3) = true)
    (a4 : PySem.W.nsIn K mainGlobals "bids_for" = some (some (.ref f4)))
    (l4 : K.lookup f4 = some ⟨oc4, od4, .func (PySem.W.fnOf "bids_for" "bids_for" (defArgs s_bids_for) (defBody s_bids_for) (defScope s_bids_for) .none kV4 dc4 pm4 an4 cd4 ct4), sl4⟩)
    (c4 : PySem.W.codeIn K cd4 "bids_for" = true)
    (k4 : PySem.W.keepIn K (.ref f4) = true)
    (a5 : PySem.W.nsIn K mainGlobals "outcome_of" = some (some (.ref f5)))
    (l5 : K.lookup f5 = some ⟨oc5, od5, .func (PySem.W.fnOf "outcome_of" "outcome_of" (defArgs s_outcome_of) (defBody s_outcome_of) (defScope s_outcome_of) .none kV5 dc5 pm5 an5 cd5 ct5), sl5⟩)
    (c5 : PySem.W.codeIn K cd5 "outcome_of" = true)
    (k5 : PySem.W.keepIn K (.ref f5) = true)
    (a6 : PySem.W.nsIn K mainGlobals "outcomes_of" = some (some (.ref f6)))
    (l6 : K.lookup f6 = some ⟨oc6, od6, .func (PySem.W.fnOf "outcomes_of" "outcomes_of" (defArgs s_outcomes_of) (defBody s_outcomes_of) (defScope s_outcomes_of) .none kV6 dc6 pm6 an6 cd6 ct6), sl6⟩)
    (c6 : PySem.W.codeIn K cd6 "outcomes_of" = true)
    (k6 : PySem.W.keepIn K (.ref f6) = true)
    (a7 : PySem.W.nsIn K mainGlobals "revenue_of" = some (some (.ref f7)))
    (l7 : K.lookup f7 = some ⟨oc7, od7, .func (PySem.W.fnOf "revenue_of" "revenue_of" (defArgs s_revenue_of) (defBody s_revenue_of) (defScope s_revenue_of) .none kV7 dc7 pm7 an7 cd7 ct7), sl7⟩)
    (c7 : PySem.W.codeIn K cd7 "revenue_of" = true)
    (k7 : PySem.W.keepIn K (.ref f7) = true)
    (a8 : PySem.W.nsIn K mainGlobals "outcomes_now" = some (some (.ref f8)))
    (l8 : K.lookup f8 = some ⟨oc8, od8, .func (PySem.W.fnOf "outcomes_now" "outcomes_now" (defArgs s_outcomes_now) (defBody s_outcomes_now) (defScope s_outcomes_now) .none kV8 dc8 pm8 an8 cd8 ct8), sl8⟩)
    (c8 : PySem.W.codeIn K cd8 "outcomes_now" = true)
    (k8 : PySem.W.keepIn K (.ref f8) = true)
    (a9 : PySem.W.nsIn K mainGlobals "revenue_now" = some (some (.ref f9)))
    (l9 : K.lookup f9 = some ⟨oc9, od9, .func (PySem.W.fnOf "revenue_now" "revenue_now" (defArgs s_revenue_now) (defBody s_revenue_now) (defScope s_revenue_now) .none kV9 dc9 pm9 an9 cd9 ct9), sl9⟩)
    (c9 : PySem.W.codeIn K cd9 "revenue_now" = true)
    (k9 : PySem.W.keepIn K (.ref f9) = true)
    (a10 : PySem.W.nsIn K mainGlobals "sell" = some (some (.ref f10)))
    (l10 : K.lookup f10 = some ⟨oc10, od10, .func (PySem.W.fnOf "sell" "sell" (defArgs s_sell) (defBody s_sell) (defScope s_sell) .none kV10 dc10 pm10 an10 cd10 ct10), sl10⟩)
    (c10 : PySem.W.codeIn K cd10 "sell" = true)
    (k10 : PySem.W.keepIn K (.ref f10) = true)
    (a11 : PySem.W.nsIn K mainGlobals "withdraw" = some (some (.ref f11)))
    (l11 : K.lookup f11 = some ⟨oc11, od11, .func (PySem.W.fnOf "withdraw" "withdraw" (defArgs s_withdraw) (defBody s_withdraw) (defScope s_withdraw) .none kV11 dc11 pm11 an11 cd11 ct11), sl11⟩)
    (c11 : PySem.W.codeIn K cd11 "withdraw" = true)
    (k11 : PySem.W.keepIn K (.ref f11) = true)
    (a12 : PySem.W.nsIn K mainGlobals "orders_of" = some (some (.ref f12)))
    (l12 : K.lookup f12 = some ⟨oc12, od12, .func (PySem.W.fnOf "orders_of" "orders_of" (defArgs s_orders_of) (defBody s_orders_of) (defScope s_orders_of) .none kV12 dc12 pm12 an12 cd12 ct12), sl12⟩)
    (c12 : PySem.W.codeIn K cd12 "orders_of" = true)
    (k12 : PySem.W.keepIn K (.ref f12) = true)
    (a13 : PySem.W.nsIn K mainGlobals "revenues" = some (some (.ref f13)))
    (l13 : K.lookup f13 = some ⟨oc13, od13, .func (PySem.W.fnOf "revenues" "revenues" (defArgs s_revenues) (defBody s_revenues) (defScope s_revenues) .none kV13 dc13 pm13 an13 cd13 ct13), sl13⟩)
    (c13 : PySem.W.codeIn K cd13 "revenues" = true)
    (k13 : PySem.W.keepIn K (.ref f13) = true)
    (a14 : PySem.W.nsIn K mainGlobals "first_with" = some (some (.ref f14)))
    (l14 : K.lookup f14 = some ⟨oc14, od14, .func (PySem.W.fnOf "first_with" "first_with" (defArgs s_first_with) (defBody s_first_with) (defScope s_first_with) .none kV14 dc14 pm14 an14 cd14 ct14), sl14⟩)
    (c14 : PySem.W.codeIn K cd14 "first_with" = true)
    (k14 : PySem.W.keepIn K (.ref f14) = true)
    (a15 : PySem.W.nsIn K mainGlobals "greatest" = some (some (.ref f15)))
    (l15 : K.lookup f15 = some ⟨oc15, od15, .func (PySem.W.fnOf "greatest" "greatest" (defArgs s_greatest) (defBody s_greatest) (defScope s_greatest) .none kV15 dc15 pm15 an15 cd15 ct15), sl15⟩)
    (c15 : PySem.W.codeIn K cd15 "greatest" = true)
    (k15 : PySem.W.keepIn K (.ref f15) = true)
    (a16 : PySem.W.nsIn K mainGlobals "smallest" = some (some (.ref f16)))
    (l16 : K.lookup f16 = some ⟨oc16, od16, .func (PySem.W.fnOf "smallest" "smallest" (defArgs s_smallest) (defBody s_smallest) (defScope s_smallest) .none kV16 dc16 pm16 an16 cd16 ct16), sl16⟩)
    (c16 : PySem.W.codeIn K cd16 "smallest" = true)
    (k16 : PySem.W.keepIn K (.ref f16) = true)
    (a17 : PySem.W.nsIn K mainGlobals "best_order" = some (some (.ref f17)))
    (l17 : K.lookup f17 = some ⟨oc17, od17, .func (PySem.W.fnOf "best_order" "best_order" (defArgs s_best_order) (defBody s_best_order) (defScope s_best_order) .none kV17 dc17 pm17 an17 cd17 ct17), sl17⟩)
    (c17 : PySem.W.codeIn K cd17 "best_order" = true)
    (k17 : PySem.W.keepIn K (.ref f17) = true)
    (a18 : PySem.W.nsIn K mainGlobals "worst_order" = some (some (.ref f18)))
    (l18 : K.lookup f18 = some ⟨oc18, od18, .func (PySem.W.fnOf "worst_order" "worst_order" (defArgs s_worst_order) (defBody s_worst_order) (defScope s_worst_order) .none kV18 dc18 pm18 an18 cd18 ct18), sl18⟩)
    (c18 : PySem.W.codeIn K cd18 "worst_order" = true)
    (k18 : PySem.W.keepIn K (.ref f18) = true)
    (a19 : PySem.W.nsIn K mainGlobals "greatest_with" = some (some (.ref f19)))
    (l19 : K.lookup f19 = some ⟨oc19, od19, .func (PySem.W.fnOf "greatest_with" "greatest_with" (defArgs s_greatest_with) (defBody s_greatest_with) (defScope s_greatest_with) .none kV19 dc19 pm19 an19 cd19 ct19), sl19⟩)
    (c19 : PySem.W.codeIn K cd19 "greatest_with" = true)
    (k19 : PySem.W.keepIn K (.ref f19) = true)
    (a20 : PySem.W.nsIn K mainGlobals "highest_bid" = some (some (.ref f20)))
    (l20 : K.lookup f20 = some ⟨oc20, od20, .func (PySem.W.fnOf "highest_bid" "highest_bid" (defArgs s_highest_bid) (defBody s_highest_bid) (defScope s_highest_bid) .none kV20 dc20 pm20 an20 cd20 ct20), sl20⟩)
    (c20 : PySem.W.codeIn K cd20 "highest_bid" = true)
    (k20 : PySem.W.keepIn K (.ref f20) = true)
    (a21 : PySem.W.nsIn K mainGlobals "by_highest_bid" = some (some (.ref f21)))
    (l21 : K.lookup f21 = some ⟨oc21, od21, .func (PySem.W.fnOf "by_highest_bid" "by_highest_bid" (defArgs s_by_highest_bid) (defBody s_by_highest_bid) (defScope s_by_highest_bid) .none kV21 dc21 pm21 an21 cd21 ct21), sl21⟩)
    (c21 : PySem.W.codeIn K cd21 "by_highest_bid" = true)
    (k21 : PySem.W.keepIn K (.ref f21) = true)
    (a22 : PySem.W.nsIn K mainGlobals "is_remaining" = some (some (.ref f22)))
    (l22 : K.lookup f22 = some ⟨oc22, od22, .func (PySem.W.fnOf "is_remaining" "is_remaining" (defArgs s_is_remaining) (defBody s_is_remaining) (defScope s_is_remaining) .none kV22 dc22 pm22 an22 cd22 ct22), sl22⟩)
    (c22 : PySem.W.codeIn K cd22 "is_remaining" = true)
    (k22 : PySem.W.keepIn K (.ref f22) = true)
    (a23 : PySem.W.nsIn K mainGlobals "told" = some (some (.ref f23)))
    (l23 : K.lookup f23 = some ⟨oc23, od23, .func (PySem.W.fnOf "told" "told" (defArgs s_told) (defBody s_told) (defScope s_told) .none kV23 dc23 pm23 an23 cd23 ct23), sl23⟩)
    (c23 : PySem.W.codeIn K cd23 "told" = true)
    (k23 : PySem.W.keepIn K (.ref f23) = true)
    (a24 : PySem.W.nsIn K mainGlobals "order_answer" = some (some (.ref f24)))
    (l24 : K.lookup f24 = some ⟨oc24, od24, .func (PySem.W.fnOf "order_answer" "order_answer" (defArgs s_order_answer) (defBody s_order_answer) (defScope s_order_answer) .none kV24 dc24 pm24 an24 cd24 ct24), sl24⟩)
    (c24 : PySem.W.codeIn K cd24 "order_answer" = true)
    (k24 : PySem.W.keepIn K (.ref f24) = true)
    (a25 : PySem.W.nsIn K mainGlobals "set_value" = some (some (.ref f25)))
    (l25 : K.lookup f25 = some ⟨oc25, od25, .func (PySem.W.fnOf "set_value" "set_value" (defArgs s_set_value) (defBody s_set_value) (defScope s_set_value) .none kV25 dc25 pm25 an25 cd25 ct25), sl25⟩)
    (c25 : PySem.W.codeIn K cd25 "set_value" = true)
    (k25 : PySem.W.keepIn K (.ref f25) = true)
    (a26 : PySem.W.nsIn K mainGlobals "set_budget" = some (some (.ref f26)))
    (l26 : K.lookup f26 = some ⟨oc26, od26, .func (PySem.W.fnOf "set_budget" "set_budget" (defArgs s_set_budget) (defBody s_set_budget) (defScope s_set_budget) .none kV26 dc26 pm26 an26 cd26 ct26), sl26⟩)
    (c26 : PySem.W.codeIn K cd26 "set_budget" = true)
    (k26 : PySem.W.keepIn K (.ref f26) = true)
    (a27 : PySem.W.nsIn K mainGlobals "sell_lot" = some (some (.ref f27)))
    (l27 : K.lookup f27 = some ⟨oc27, od27, .func (PySem.W.fnOf "sell_lot" "sell_lot" (defArgs s_sell_lot) (defBody s_sell_lot) (defScope s_sell_lot) .none kV27 dc27 pm27 an27 cd27 ct27), sl27⟩)
    (c27 : PySem.W.codeIn K cd27 "sell_lot" = true)
    (k27 : PySem.W.keepIn K (.ref f27) = true)
    (a28 : PySem.W.nsIn K mainGlobals "withdraw_lot" = some (some (.ref f28)))
    (l28 : K.lookup f28 = some ⟨oc28, od28, .func (PySem.W.fnOf "withdraw_lot" "withdraw_lot" (defArgs s_withdraw_lot) (defBody s_withdraw_lot) (defScope s_withdraw_lot) .none kV28 dc28 pm28 an28 cd28 ct28), sl28⟩)
    (c28 : PySem.W.codeIn K cd28 "withdraw_lot" = true)
    (k28 : PySem.W.keepIn K (.ref f28) = true)
    (a29 : PySem.W.nsIn K mainGlobals "sell_all_best" = some (some (.ref f29)))
    (l29 : K.lookup f29 = some ⟨oc29, od29, .func (PySem.W.fnOf "sell_all_best" "sell_all_best" (defArgs s_sell_all_best) (defBody s_sell_all_best) (defScope s_sell_all_best) .none kV29 dc29 pm29 an29 cd29 ct29), sl29⟩)
    (c29 : PySem.W.codeIn K cd29 "sell_all_best" = true)
    (k29 : PySem.W.keepIn K (.ref f29) = true)
    (a30 : PySem.W.nsIn K mainGlobals "winner" = some (some (.ref f30)))
    (l30 : K.lookup f30 = some ⟨oc30, od30, .func (PySem.W.fnOf "winner" "winner" (defArgs s_winner) (defBody s_winner) (defScope s_winner) .none kV30 dc30 pm30 an30 cd30 ct30), sl30⟩)
    (c30 : PySem.W.codeIn K cd30 "winner" = true)
    (k30 : PySem.W.keepIn K (.ref f30) = true)
    (a31 : PySem.W.nsIn K mainGlobals "bid" = some (some (.ref f31)))
    (l31 : K.lookup f31 = some ⟨oc31, od31, .func (PySem.W.fnOf "bid" "bid" (defArgs s_bid) (defBody s_bid) (defScope s_bid) .none kV31 dc31 pm31 an31 cd31 ct31), sl31⟩)
    (c31 : PySem.W.codeIn K cd31 "bid" = true)
    (k31 : PySem.W.keepIn K (.ref f31) = true)
    (a32 : PySem.W.nsIn K mainGlobals "simulate_order" = some (some (.ref f32)))
    (l32 : K.lookup f32 = some ⟨oc32, od32, .func (PySem.W.fnOf "simulate_order" "simulate_order" (defArgs s_simulate_order) (defBody s_simulate_order) (defScope s_simulate_order) .none kV32 dc32 pm32 an32 cd32 ct32), sl32⟩)
    (c32 : PySem.W.codeIn K cd32 "simulate_order" = true)
    (k32 : PySem.W.keepIn K (.ref f32) = true)
    (a33 : PySem.W.nsIn K mainGlobals "tell_revenue" = some (some (.ref f33)))
    (l33 : K.lookup f33 = some ⟨oc33, od33, .func (PySem.W.fnOf "tell_revenue" "tell_revenue" (defArgs s_tell_revenue) (defBody s_tell_revenue) (defScope s_tell_revenue) .none kV33 dc33 pm33 an33 cd33 ct33), sl33⟩)
    (c33 : PySem.W.codeIn K cd33 "tell_revenue" = true)
    (k33 : PySem.W.keepIn K (.ref f33) = true)
    (a34 : PySem.W.nsIn K mainGlobals "max_revenue_order" = some (some (.ref f34)))
    (l34 : K.lookup f34 = some ⟨oc34, od34, .func (PySem.W.fnOf "max_revenue_order" "max_revenue_order" (defArgs s_max_revenue_order) (defBody s_max_revenue_order) (defScope s_max_revenue_order) .none kV34 dc34 pm34 an34 cd34 ct34), sl34⟩)
    (c34 : PySem.W.codeIn K cd34 "max_revenue_order" = true)
    (k34 : PySem.W.keepIn K (.ref f34) = true)
    (a35 : PySem.W.nsIn K mainGlobals "min_revenue_order" = some (some (.ref f35)))
    (l35 : K.lookup f35 = some ⟨oc35, od35, .func (PySem.W.fnOf "min_revenue_order" "min_revenue_order" (defArgs s_min_revenue_order) (defBody s_min_revenue_order) (defScope s_min_revenue_order) .none kV35 dc35 pm35 an35 cd35 ct35), sl35⟩)
    (c35 : PySem.W.codeIn K cd35 "min_revenue_order" = true)
    (k35 : PySem.W.keepIn K (.ref f35) = true)
    (a36 : PySem.W.nsIn K mainGlobals "highest_bid_first" = some (some (.ref f36)))
    (l36 : K.lookup f36 = some ⟨oc36, od36, .func (PySem.W.fnOf "highest_bid_first" "highest_bid_first" (defArgs s_highest_bid_first) (defBody s_highest_bid_first) (defScope s_highest_bid_first) .none kV36 dc36 pm36 an36 cd36 ct36), sl36⟩)
    (c36 : PySem.W.codeIn K cd36 "highest_bid_first" = true)
    (k36 : PySem.W.keepIn K (.ref f36) = true)
    (a37 : PySem.W.nsIn K mainGlobals "count_best_orders" = some (some (.ref f37)))
    (l37 : K.lookup f37 = some ⟨oc37, od37, .func (PySem.W.fnOf "count_best_orders" "count_best_orders" (defArgs s_count_best_orders) (defBody s_count_best_orders) (defScope s_count_best_orders) .none kV37 dc37 pm37 an37 cd37 ct37), sl37⟩)
    (c37 : PySem.W.codeIn K cd37 "count_best_orders" = true)
    (k37 : PySem.W.keepIn K (.ref f37) = true)
    (a38 : PySem.W.nsIn K mainGlobals "revenue_spread" = some (some (.ref f38)))
    (l38 : K.lookup f38 = some ⟨oc38, od38, .func (PySem.W.fnOf "revenue_spread" "revenue_spread" (defArgs s_revenue_spread) (defBody s_revenue_spread) (defScope s_revenue_spread) .none kV38 dc38 pm38 an38 cd38 ct38), sl38⟩)
    (c38 : PySem.W.codeIn K cd38 "revenue_spread" = true)
    (k38 : PySem.W.keepIn K (.ref f38) = true)
    (a39 : PySem.W.nsIn K mainGlobals "max_revenue_if_budget" = some (some (.ref f39)))
    (l39 : K.lookup f39 = some ⟨oc39, od39, .func (PySem.W.fnOf "max_revenue_if_budget" "max_revenue_if_budget" (defArgs s_max_revenue_if_budget) (defBody s_max_revenue_if_budget) (defScope s_max_revenue_if_budget) .none kV39 dc39 pm39 an39 cd39 ct39), sl39⟩)
    (c39 : PySem.W.codeIn K cd39 "max_revenue_if_budget" = true)
    (k39 : PySem.W.keepIn K (.ref f39) = true)
    (a40 : PySem.W.nsIn K mainGlobals "max_revenue_if_value" = some (some (.ref f40)))
    (l40 : K.lookup f40 = some ⟨oc40, od40, .func (PySem.W.fnOf "max_revenue_if_value" "max_revenue_if_value" (defArgs s_max_revenue_if_value) (defBody s_max_revenue_if_value) (defScope s_max_revenue_if_value) .none kV40 dc40 pm40 an40 cd40 ct40), sl40⟩)
    (c40 : PySem.W.codeIn K cd40 "max_revenue_if_value" = true)
    (k40 : PySem.W.keepIn K (.ref f40) = true)
    (a41 : PySem.W.nsIn K mainGlobals "max_revenue_without_bidder" = some (some (.ref f41)))
    (l41 : K.lookup f41 = some ⟨oc41, od41, .func (PySem.W.fnOf "max_revenue_without_bidder" "max_revenue_without_bidder" (defArgs s_max_revenue_without_bidder) (defBody s_max_revenue_without_bidder) (defScope s_max_revenue_without_bidder) .none kV41 dc41 pm41 an41 cd41 ct41), sl41⟩)
    (c41 : PySem.W.codeIn K cd41 "max_revenue_without_bidder" = true)
    (k41 : PySem.W.keepIn K (.ref f41) = true)
    (a42 : PySem.W.nsIn K mainGlobals "max_revenue_if_withdrawn" = some (some (.ref f42)))
    (l42 : K.lookup f42 = some ⟨oc42, od42, .func (PySem.W.fnOf "max_revenue_if_withdrawn" "max_revenue_if_withdrawn" (defArgs s_max_revenue_if_withdrawn) (defBody s_max_revenue_if_withdrawn) (defScope s_max_revenue_if_withdrawn) .none kV42 dc42 pm42 an42 cd42 ct42), sl42⟩)
    (c42 : PySem.W.codeIn K cd42 "max_revenue_if_withdrawn" = true)
    (k42 : PySem.W.keepIn K (.ref f42) = true)
    (a43 : PySem.W.nsIn K mainGlobals "upper_bounds" = some (some (.ref f43)))
    (l43 : K.lookup f43 = some ⟨oc43, od43, .func (PySem.W.fnOf "upper_bounds" "upper_bounds" (defArgs s_upper_bounds) (defBody s_upper_bounds) (defScope s_upper_bounds) .none kV43 dc43 pm43 an43 cd43 ct43), sl43⟩)
    (c43 : PySem.W.codeIn K cd43 "upper_bounds" = true)
    (k43 : PySem.W.keepIn K (.ref f43) = true)
    (a44 : PySem.W.nsIn K mainGlobals "welfare_of" = some (some (.ref f44)))
    (l44 : K.lookup f44 = some ⟨oc44, od44, .func (PySem.W.fnOf "welfare_of" "welfare_of" (defArgs s_welfare_of) (defBody s_welfare_of) (defScope s_welfare_of) .none kV44 dc44 pm44 an44 cd44 ct44), sl44⟩)
    (c44 : PySem.W.codeIn K cd44 "welfare_of" = true)
    (k44 : PySem.W.keepIn K (.ref f44) = true)
    (a45 : PySem.W.nsIn K mainGlobals "purchases_of" = some (some (.ref f45)))
    (l45 : K.lookup f45 = some ⟨oc45, od45, .func (PySem.W.fnOf "purchases_of" "purchases_of" (defArgs s_purchases_of) (defBody s_purchases_of) (defScope s_purchases_of) .none kV45 dc45 pm45 an45 cd45 ct45), sl45⟩)
    (c45 : PySem.W.codeIn K cd45 "purchases_of" = true)
    (k45 : PySem.W.keepIn K (.ref f45) = true)
    (a46 : PySem.W.nsIn K mainGlobals "list_sales" = some (some (.ref f46)))
    (l46 : K.lookup f46 = some ⟨oc46, od46, .func (PySem.W.fnOf "list_sales" "list_sales" (defArgs s_list_sales) (defBody s_list_sales) (defScope s_list_sales) .none kV46 dc46 pm46 an46 cd46 ct46), sl46⟩)
    (c46 : PySem.W.codeIn K cd46 "list_sales" = true)
    (k46 : PySem.W.keepIn K (.ref f46) = true)
    (a47 : PySem.W.nsIn K mainGlobals "list_remaining" = some (some (.ref f47)))
    (l47 : K.lookup f47 = some ⟨oc47, od47, .func (PySem.W.fnOf "list_remaining" "list_remaining" (defArgs s_list_remaining) (defBody s_list_remaining) (defScope s_list_remaining) .none kV47 dc47 pm47 an47 cd47 ct47), sl47⟩)
    (c47 : PySem.W.codeIn K cd47 "list_remaining" = true)
    (k47 : PySem.W.keepIn K (.ref f47) = true)
    (a48 : PySem.W.nsIn K mainGlobals "status" = some (some (.ref f48)))
    (l48 : K.lookup f48 = some ⟨oc48, od48, .func (PySem.W.fnOf "status" "status" (defArgs s_status) (defBody s_status) (defScope s_status) .none kV48 dc48 pm48 an48 cd48 ct48), sl48⟩)
    (c48 : PySem.W.codeIn K cd48 "status" = true)
    (k48 : PySem.W.keepIn K (.ref f48) = true)
    (a49 : PySem.W.nsIn K mainGlobals "answer" = some (some (.ref f49)))
    (l49 : K.lookup f49 = some ⟨oc49, od49, .func (PySem.W.fnOf "answer" "answer" (defArgs s_answer) (defBody s_answer) (defScope s_answer) .none kV49 dc49 pm49 an49 cd49 ct49), sl49⟩)
    (c49 : PySem.W.codeIn K cd49 "answer" = true)
    (k49 : PySem.W.keepIn K (.ref f49) = true)
    (a50 : PySem.W.nsIn K mainGlobals "answers" = some (some (.ref f50)))
    (l50 : K.lookup f50 = some ⟨oc50, od50, .func (PySem.W.fnOf "answers" "answers" (defArgs s_answers) (defBody s_answers) (defScope s_answers) .none kV50 dc50 pm50 an50 cd50 ct50), sl50⟩)
    (c50 : PySem.W.codeIn K cd50 "answers" = true)
    (k50 : PySem.W.keepIn K (.ref f50) = true)
    (aC : PySem.W.nsIn K mainGlobals "Auction" = some (some (.ref C)))
    (aI : PySem.W.findIn K (.ref C) "__init__" = some (some (.ref fI)))
    (iI : PySem.W.isFn K (.ref fI) = true)
    (lI : K.lookup fI = some ⟨ocI, odI, .func (PySem.W.fnOf "__init__" "Auction.__init__" (defArgs s_init) (defBody s_init) (defScope s_init) .none kVI dcI pmI anI cdI ctI), slI⟩)
    (cI : PySem.W.codeIn K cdI "Auction.__init__" = true)
    (kI : PySem.W.keepIn K (.ref fI) = true)
    (pg : PySem.W.plainGet K C Str.empty = true)
    (hd : PySem.W.hasDictIn K C = true)
    (po : PySem.W.plainOver K C = true)
    (sa : PySem.W.findIn K (.ref C) "__setattr__" = some (some (.builtin "object.__setattr__")))
    (mk : PySem.W.makesIn K C = true)
    (kc : PySem.W.keepIn K (.ref C) = true)
    (n0 : PySem.W.findIn K (.ref C) "lots" = some none)
    (n1 : PySem.W.findIn K (.ref C) "worths" = some none)
    (n2 : PySem.W.findIn K (.ref C) "budgets" = some none)
    (n3 : PySem.W.findIn K (.ref C) "remaining" = some none)
    (n4 : PySem.W.findIn K (.ref C) "sales" = some none)
    (n5 : PySem.W.findIn K (.ref C) "withdrawn" = some none)
    (b_len : PySem.W.nsIn K mainGlobals "len" = some none)
    (b_zip : PySem.W.nsIn K mainGlobals "zip" = some none)
    (b_min : PySem.W.nsIn K mainGlobals "min" = some none)
    (b_max : PySem.W.nsIn K mainGlobals "max" = some none)
    (b_sum : PySem.W.nsIn K mainGlobals "sum" = some none)
    (b_list : PySem.W.nsIn K mainGlobals "list" = some none)
    (b_range : PySem.W.nsIn K mainGlobals "range" = some none)
    (b_all : PySem.W.nsIn K mainGlobals "all" = some none)
    (b_set : PySem.W.nsIn K mainGlobals "set" = some none)
    (b_sorted : PySem.W.nsIn K mainGlobals "sorted" = some none)
    (aMV : PySem.W.nsIn K mainGlobals "MOST_VALUE" = some (some (.int 99 tMV)))
    (aMB : PySem.W.nsIn K mainGlobals "MOST_BUDGET" = some (some (.int 500 tMB)))
    (aCR : PySem.W.nsIn K mainGlobals "CREATE" = some (some (.int 0 tCR)))
    (aN : PySem.W.nsIn K mainGlobals "NUMBERS" = some (some (.ref nA)))
    (lN : K.lookup nA = some ⟨.type "tuple", odN, .seq itN nN, slN⟩)
    (aW : PySem.W.nsIn K mainGlobals "WITH_ORDER" = some (some (.ref wA)))
    (lW : K.lookup wA = some ⟨.type "tuple", odW, .seq itW nW, slW⟩)
    (aD : PySem.W.nsIn K mainGlobals "DEEDS" = some (some (.ref dA)))
    (lD : K.lookup dA = some ⟨.type "tuple", odD, .seq [Value.none, .ref f25, .ref f26, .ref f27, .ref f28, .ref f29, .ref f30, .ref f31, .ref f32, .ref f33, .ref f34, .ref f35, .ref f36, .ref f37, .ref f38, .ref f39, .ref f40, .ref f41, .ref f42, .ref f43, .ref f44, .ref f45, .ref f46, .ref f47, .ref f48].toArray nD, slD⟩)
    (vN : isInts numsL itN.toList = true)
    (zN : decide (itN.size ≤ 1000) = true)
    (vW : isInts [8, 9, 20, 21] itW.toList = true)
    (zW : decide (itW.size ≤ 1000) = true)
    : ∃ fd : FuncData, (∀ (s : Shared) (us : List Value), us.length = (["calls"] : List Str).length → BindsTo s fd ⟨us, []⟩ ((["calls"] : List Str).zip us)) ∧ ∀ base : Heap, K.In base → base.Ns mainGlobals mg → FnOk P w K mg base CX0 12 fa fd ["calls"] (spAnswers K) := by
  have e := hfa.symm.trans (PySem.W.mg_of X G a50)
  cases e
  have T : ClsA K C := ⟨⟨pg, hd, po, sa⟩, n0, n1, n2, n3, n4, n5⟩
  have B : Bi mg := ⟨PySem.W.mg_none_of X G b_len, PySem.W.mg_none_of X G b_zip, PySem.W.mg_none_of X G b_min, PySem.W.mg_none_of X G b_max, PySem.W.mg_none_of X G b_sum, PySem.W.mg_none_of X G b_list, PySem.W.mg_none_of X G b_range, PySem.W.mg_none_of X G b_all, PySem.W.mg_none_of X G b_set, PySem.W.mg_none_of X G b_sorted⟩
  have M : Most mg := ⟨⟨_, PySem.W.mg_of X G aMV⟩, ⟨_, PySem.W.mg_of X G aMB⟩⟩
  have FI := fun_mk (st := s_init) lI cI kI
  have bI := FI.binds (ps := ["self", "lots", "bidders"]) fun _ _ _ _ _ _ us hl => match us, hl with | [_, _, _], _ => rfl
  have FA := fun_mk (st := s_answers) l50 c50 k50
  refine ⟨PySem.W.fnOf "answers" "answers" (defArgs s_answers) (defBody s_answers) (defScope s_answers) .none kV50 dc50 pm50 an50 cd50 ct50, fun s us hu => match us, hu with | [_], _ => .of_eq rfl, fun base _ _ => ?_⟩
  refine ok_answers FA B (PySem.W.mg_of X G aN) (ints_tuple lN vN zN) (PySem.W.mg_of X G aW) (ints_tuple lW vW zW) ⟨_, PySem.W.mg_of X G aCR⟩ ?_ ⟨mk, aI, iI, kc⟩ (ok_init FI B T) bI (PySem.W.mg_of X G aC)
  exact all_answer B T M (at_has_bidder X G a0 l0 c0 k0) (at_has_lot X G a1 l1 c1 k1) (at_replaced X G a2 l2 c2 k2) (at_is_order X G a3 l3 c3 k3) (at_bids_for X G a4 l4 c4 k4) (at_outcome_of X G a5 l5 c5 k5) (at_outcomes_of X G a6 l6 c6 k6) (at_revenue_of X G a7 l7 c7 k7) (at_outcomes_now X G a8 l8 c8 k8) (at_revenue_now X G a9 l9 c9 k9) (at_sell X G a10 l10 c10 k10) (at_withdraw X G a11 l11 c11 k11) (at_orders_of X G a12 l12 c12 k12) (at_revenues X G a13 l13 c13 k13) (at_first_with X G a14 l14 c14 k14) (at_greatest X G a15 l15 c15 k15) (at_smallest X G a16 l16 c16 k16) (at_best_order X G a17 l17 c17 k17) (at_worst_order X G a18 l18 c18 k18) (at_greatest_with X G a19 l19 c19 k19) (at_highest_bid X G a20 l20 c20 k20) (at_by_highest_bid X G a21 l21 c21 k21) (at_is_remaining X G a22 l22 c22 k22) (at_told X G a23 l23 c23 k23) (at_order_answer X G a24 l24 c24 k24) (at_set_value X G a25 l25 c25 k25) (at_set_budget X G a26 l26 c26 k26) (at_sell_lot X G a27 l27 c27 k27) (at_withdraw_lot X G a28 l28 c28 k28) (at_sell_all_best X G a29 l29 c29 k29) (at_winner X G a30 l30 c30 k30) (at_bid X G a31 l31 c31 k31) (at_simulate_order X G a32 l32 c32 k32) (at_tell_revenue X G a33 l33 c33 k33) (at_max_revenue_order X G a34 l34 c34 k34) (at_min_revenue_order X G a35 l35 c35 k35) (at_highest_bid_first X G a36 l36 c36 k36) (at_count_best_orders X G a37 l37 c37 k37) (at_revenue_spread X G a38 l38 c38 k38) (at_max_revenue_if_budget X G a39 l39 c39 k39) (at_max_revenue_if_value X G a40 l40 c40 k40) (at_max_revenue_without_bidder X G a41 l41 c41 k41) (at_max_revenue_if_withdrawn X G a42 l42 c42 k42) (at_upper_bounds X G a43 l43 c43 k43) (at_welfare_of X G a44 l44 c44 k44) (at_purchases_of X G a45 l45 c45 k45) (at_list_sales X G a46 l46 c46 k46) (at_list_remaining X G a47 l47 c47 k47) (at_status X G a48 l48 c48 k48) (at_answer X G a49 l49 c49 k49)
    (PySem.W.mg_of X G aD) (refs_tuple (fs := [f25, f26, f27, f28, f29, f30, f31, f32, f33, f34, f35, f36, f37, f38, f39, f40, f41, f42, f43, f44, f45, f46, f47, f48]) lD (by show 24 ≤ 100; decide)) rfl
    (PySem.W.mg_of X G a25) (PySem.W.mg_of X G a26) (PySem.W.mg_of X G a27) (PySem.W.mg_of X G a28) (PySem.W.mg_of X G a29) (PySem.W.mg_of X G a30) (PySem.W.mg_of X G a31) (PySem.W.mg_of X G a32) (PySem.W.mg_of X G a33) (PySem.W.mg_of X G a34) (PySem.W.mg_of X G a35) (PySem.W.mg_of X G a36) (PySem.W.mg_of X G a37) (PySem.W.mg_of X G a38) (PySem.W.mg_of X G a39) (PySem.W.mg_of X G a40) (PySem.W.mg_of X G a41) (PySem.W.mg_of X G a42) (PySem.W.mg_of X G a43) (PySem.W.mg_of X G a44) (PySem.W.mg_of X G a45) (PySem.W.mg_of X G a46) (PySem.W.mg_of X G a47) (PySem.W.mg_of X G a48)
end Pb
open PySem PySem.W PyProof.Rows
set_option maxRecDepth 100000 in
set_option maxHeartbeats 0 in
theorem PySem.Challenge.cw_pursebids_s01_answers_holds : PySem.Challenge.rw_pursebids_s01_answers.Holds := by
  w_on; k_headS; (case hw => exact ⟨[.list [.int 5]], by decide +kernel, by decide +kernel⟩)
  k_fillS
  refine L2.walk_specK (r := PySem.Challenge.rw_pursebids_s01_answers) (k := 12) (CX := L2.CX0) (ps := ["calls"]) (sp := Pb.spAnswers) (by decide +kernel) rfl rfl ⟨rfl, by decide, by decide⟩ (fun w h Y => PySem.W.kIn_of Y) ?F ?S (fun _ _ _ _ z => z)
  case F =>
    intro w mg fa h Y KX G hmg
    refine' Pb.all_mk KX G hmg ?a0 ?l0 ?c0 ?k0 ?a1 ?l1 ?c1 ?k1 ?a2 ?l2 ?c2 ?k2 ?a3 ?l3 ?c3 ?k3 ?a4 ?l4 ?c4 ?k4 ?a5 ?l5 ?c5 ?k5 ?a6 ?l6 ?c6 ?k6 ?a7 ?l7 ?c7 ?k7 ?a8 ?l8 ?c8 ?k8 ?a9 ?l9 ?c9 ?k9 ?a10 ?l10 ?c10 ?k10 ?a11 ?l11 ?c11 ?k11 ?a12 ?l12 ?c12 ?k12 ?a13 ?l13 ?c13 ?k13 ?a14 ?l14 ?c14 ?k14 ?a15 ?l15 ?c15 ?k15 ?a16 ?l16 ?c16 ?k16 ?a17 ?l17 ?c17 ?k17 ?a18 ?l18 ?c18 ?k18 ?a19 ?l19 ?c19 ?k19 ?a20 ?l20 ?c20 ?k20 ?a21 ?l21 ?c21 ?k21 ?a22 ?l22 ?c22 ?k22 ?a23 ?l23 ?c23 ?k23 ?a24 ?l24 ?c24 ?k24 ?a25 ?l25 ?c25 ?k25 ?a26 ?l26 ?c26 ?k26 ?a27 ?l27 ?c27 ?k27 ?a28 ?l28 ?c28 ?k28 ?a29 ?l29 ?c29 ?k29 ?a30 ?l30 ?c30 ?k30 ?a31 ?l31 ?c31 ?k31 ?a32 ?l32 ?c32 ?k32 ?a33 ?l33 ?c33 ?k33 ?a34 ?l34 ?c34 ?k34 ?a35 ?l35 ?c35 ?k35 ?a36 ?l36 ?c36 ?k36 ?a37 ?l37 ?c37 ?k37 ?a38 ?l38 ?c38 ?k38 ?a39 ?l39 ?c39 ?k39 ?a40 ?l40 ?c40 ?k40 ?a41 ?l41 ?c41 ?k41 ?a42 ?l42 ?c42 ?k42 ?a43 ?l43 ?c43 ?k43 ?a44 ?l44 ?c44 ?k44 ?a45 ?l45 ?c45 ?k45 ?a46 ?l46 ?c46 ?k46 ?a47 ?l47 ?c47 ?k47 ?a48 ?l48 ?c48 ?k48 ?a49 ?l49 ?c49 ?k49 ?a50 ?l50 ?c50 ?k50 ?aC ?aI ?iI ?lI ?cI ?kI ?pg ?hd ?po ?sa ?mk ?kc ?n0 ?n1 ?n2 ?n3 ?n4 ?n5 ?b_len ?b_zip ?b_min ?b_max ?b_sum ?b_list ?b_range ?b_all ?b_set ?b_sorted ?aMV ?aMB ?aCR ?aN ?lN ?aW ?lW ?aD ?lD ?vN ?zN ?vW ?zW
    (case a0 => k_is)
    (case l0 => k_is)
    (case c0 => k_is)
    (case k0 => k_is)
    (case a1 => k_is)
    (case l1 => k_is)
    (case c1 => k_is)
    (case k1 => k_is)
    (case a2 => k_is)
    (case l2 => k_is)
    (case c2 => k_is)
    (case k2 => k_is)
    (case a3 => k_is)
    (case l3 => k_is)
    (case c3 => k_is)
    (case k3 => k_is)
    (case a4 => k_is)
    (case l4 => k_is)
    (case c4 => k_is)
    (case k4 => k_is)
    (case a5 => k_is)
    (case l5 => k_is)
    (case c5 => k_is)
    (case k5 => k_is)
    (case a6 => k_is)
    (case l6 => k_is)
    (case c6 => k_is)
    (case k6 => k_is)
    (case a7 => k_is)
    (case l7 => k_is)
    (case c7 => k_is)
    (case k7 => k_is)
    (case a8 => k_is)
    (case l8 => k_is)
    (case c8 => k_is)
    (case k8 => k_is)
    (case a9 => k_is)
    (case l9 => k_is)
    (case c9 => k_is)
    (case k9 => k_is)
    (case a10 => k_is)
    (case l10 => k_is)
    (case c10 => k_is)
    (case k10 => k_is)
    (case a11 => k_is)
    (case l11 => k_is)
    (case c11 => k_is)
    (case k11 => k_is)
    (case a12 => k_is)
    (case l12 => k_is)
    (case c12 => k_is)
    (case k12 => k_is)
    (case a13 => k_is)
    (case l13 => k_is)
    (case c13 => k_is)
    (case k13 => k_is)
    (case a14 => k_is)
    (case l14 => k_is)
    (case c14 => k_is)
    (case k14 => k_is)
    (case a15 => k_is)
    (case l15 => k_is)
    (case c15 => k_is)
    (case k15 => k_is)
    (case a16 => k_is)
    (case l16 => k_is)
    (case c16 => k_is)
    (case k16 => k_is)
    (case a17 => k_is)
    (case l17 => k_is)
    (case c17 => k_is)
    (case k17 => k_is)
    (case a18 => k_is)
    (case l18 => k_is)
    (case c18 => k_is)
    (case k18 => k_is)
    (case a19 => k_is)
    (case l19 => k_is)
    (case c19 => k_is)
    (case k19 => k_is)
    (case a20 => k_is)
    (case l20 => k_is)
    (case c20 => k_is)
    (case k20 => k_is)
    (case a21 => k_is)
    (case l21 => k_is)
    (case c21 => k_is)
    (case k21 => k_is)
    (case a22 => k_is)
    (case l22 => k_is)
    (case c22 => k_is)
    (case k22 => k_is)
    (case a23 => k_is)
    (case l23 => k_is)
    (case c23 => k_is)
    (case k23 => k_is)
    (case a24 => k_is)
    (case l24 => k_is)
    (case c24 => k_is)
    (case k24 => k_is)
    (case a25 => k_is)
    (case l25 => k_is)
    (case c25 => k_is)
    (case k25 => k_is)
    (case a26 => k_is)
    (case l26 => k_is)
    (case c26 => k_is)
    (case k26 => k_is)
    (case a27 => k_is)
    (case l27 => k_is)
    (case c27 => k_is)
    (case k27 => k_is)
    (case a28 => k_is)
    (case l28 => k_is)
    (case c28 => k_is)
    (case k28 => k_is)
    (case a29 => k_is)
    (case l29 => k_is)
    (case c29 => k_is)
    (case k29 => k_is)
    (case a30 => k_is)
    (case l30 => k_is)
    (case c30 => k_is)
    (case k30 => k_is)
    (case a31 => k_is)
    (case l31 => k_is)
    (case c31 => k_is)
    (case k31 => k_is)
    (case a32 => k_is)
    (case l32 => k_is)
    (case c32 => k_is)
    (case k32 => k_is)
    (case a33 => k_is)
    (case l33 => k_is)
    (case c33 => k_is)
    (case k33 => k_is)
    (case a34 => k_is)
    (case l34 => k_is)
    (case c34 => k_is)
    (case k34 => k_is)
    (case a35 => k_is)
    (case l35 => k_is)
    (case c35 => k_is)
    (case k35 => k_is)
    (case a36 => k_is)
    (case l36 => k_is)
    (case c36 => k_is)
    (case k36 => k_is)
    (case a37 => k_is)
    (case l37 => k_is)
    (case c37 => k_is)
    (case k37 => k_is)
    (case a38 => k_is)
    (case l38 => k_is)
    (case c38 => k_is)
    (case k38 => k_is)
    (case a39 => k_is)
    (case l39 => k_is)
    (case c39 => k_is)
    (case k39 => k_is)
    (case a40 => k_is)
    (case l40 => k_is)
    (case c40 => k_is)
    (case k40 => k_is)
    (case a41 => k_is)
    (case l41 => k_is)
    (case c41 => k_is)
    (case k41 => k_is)
    (case a42 => k_is)
    (case l42 => k_is)
    (case c42 => k_is)
    (case k42 => k_is)
    (case a43 => k_is)
    (case l43 => k_is)
    (case c43 => k_is)
    (case k43 => k_is)
    (case a44 => k_is)
    (case l44 => k_is)
    (case c44 => k_is)
    (case k44 => k_is)
    (case a45 => k_is)
    (case l45 => k_is)
    (case c45 => k_is)
    (case k45 => k_is)
    (case a46 => k_is)
    (case l46 => k_is)
    (case c46 => k_is)
    (case k46 => k_is)
    (case a47 => k_is)
    (case l47 => k_is)
    (case c47 => k_is)
    (case k47 => k_is)
    (case a48 => k_is)
    (case l48 => k_is)
    (case c48 => k_is)
    (case k48 => k_is)
    (case a49 => k_is)
    (case l49 => k_is)
    (case c49 => k_is)
    (case k49 => k_is)
    (case a50 => k_is)
    (case l50 => k_is)
    (case c50 => k_is)
    (case k50 => k_is)
    (case aC => k_is)
    (case aI => k_is)
    (case iI => k_is)
    (case lI => k_is)
    (case cI => k_is)
    (case kI => k_is)
    (case pg => k_is)
    (case hd => k_is)
    (case po => k_is)
    (case sa => k_is)
    (case mk => k_is)
    (case kc => k_is)
    (case n0 => k_is)
    (case n1 => k_is)
    (case n2 => k_is)
    (case n3 => k_is)
    (case n4 => k_is)
    (case n5 => k_is)
    (case b_len => k_is)
    (case b_zip => k_is)
    (case b_min => k_is)
    (case b_max => k_is)
    (case b_sum => k_is)
    (case b_list => k_is)
    (case b_range => k_is)
    (case b_all => k_is)
    (case b_set => k_is)
    (case b_sorted => k_is)
    (case aMV => k_is)
    (case aMB => k_is)
    (case aCR => k_is)
    (case aN => k_is)
    (case lN => k_is)
    (case aW => k_is)
    (case lW => k_is)
    (case aD => k_is)
    (case lD => k_is)
    (case vN => rfl)
    (case zN => rfl)
    (case vW => rfl)
    (case zW => rfl)
  case S =>
    intro K H xs a hO hwi hask hx
    cases hx with
    | cons h1 h2 =>
      cases h2
      cases h1 with
      | lst hs ha =>
        have e := L2.ints_dw a.1 _ ha
        subst e
        have q : ((Codec.inLen 0 500 a.1 && a.1.all (Codec.inInt 0 2147483647)) && true) = true := hwi
        rw [Bool.and_eq_true, Bool.and_eq_true] at q
        exact ⟨_, a.1, rfl, hs, hask, (Codec.inNat_iff.mp q.1.1).2, fun H' p hp => .lst (L2.SqL.of hp) (L2.dw_ints _)⟩
#print axioms PySem.Challenge.cw_pursebids_s01_answers_holds
