import PyProof.Rows.All
import Wide.All
import OpenK.AllK
import Wide.FinOn
import PyProof.EqAt
import PyProof.EqKinds
import PyProof.TupleCall
import Open.SpecLaws
import KE.OsGo
import HandS.Base
import HandS.Call
import HandS.List
import HandS.Comp
import HandS.Ends
import HandS.Dict
import HandS.Iter
import HandS.Spec
import HandS.Words
import HandS.WordsList
import HandS.Conv
import HandS.SetFor
import HandS.Walk
import PySem.Challenge.RW_canallevels_s01_answers
set_option Elab.async false
set_option linter.all false
set_option maxRecDepth 100000
set_option maxHeartbeats 2000000
namespace CL
open Sj01 (Field Best Canal apart lesser)

/-! ## merging of bests -/
def mrg (x y : Best) : Best := if y.cost < x.cost then y else if x.cost = y.cost then { x with many := x.many + y.many } else x
def tog : List Best → Best
  | [] => ⟨0, 0, []⟩
  | x :: l => l.foldl mrg x

theorem lesser_some (x y : Best) : lesser (some x) (some y) = some (mrg x y) := by
  unfold lesser mrg
  dsimp only
  split
  · rfl
  · split <;> rfl

theorem fold_some : ∀ (l : List Best) (x : Best), (l.map some).foldl lesser (some x) = some (l.foldl mrg x)
  | [], _ => rfl
  | y :: l, x => by
    rw [List.map_cons, List.foldl_cons, lesser_some, fold_some l, List.foldl_cons]

theorem fold_tog (l : List Best) (h : l ≠ []) : (l.map some).foldl lesser none = some (tog l) := by
  cases l with
  | nil => exact absurd rfl h
  | cons x l =>
    rw [List.map_cons, List.foldl_cons]
    exact fold_some l x

/-- what a merge of a list is -/
structure Tg (l : List Best) (b : Best) : Prop where
  low : ∀ y ∈ l, b.cost ≤ y.cost
  sum : ((l.filter fun y => decide (y.cost = b.cost)).map (·.many)).sum = b.many
  fst : ((l.filter fun y => decide (y.cost = b.cost)).head?).map (·.row) = some b.row

theorem filter_none {l : List Best} {n : Nat} (h : ∀ y ∈ l, n < y.cost) : (l.filter fun y => decide (y.cost = n)) = [] := by
  rw [List.filter_eq_nil_iff]
  intro y hy
  have := h y hy
  simp
  omega

theorem Tg.one (x : Best) : Tg [x] x := by
  refine ⟨fun y hy => ?_, ?_, ?_⟩
  · rw [List.mem_singleton] at hy
    rw [hy]
    exact Nat.le_refl _
  · simp
  · simp

theorem Tg.step {l : List Best} {x : Best} (h : Tg l x) (y : Best) : Tg (l ++ [y]) (mrg x y) := by
  obtain ⟨h1, h2, h3⟩ := h
  unfold mrg
  by_cases c1 : y.cost < x.cost
  · rw [if_pos c1]
    have e : (l.filter fun z => decide (z.cost = y.cost)) = [] := filter_none fun z hz => Nat.lt_of_lt_of_le c1 (h1 z hz)
    refine ⟨fun z hz => ?_, ?_, ?_⟩
    · rcases List.mem_append.mp hz with hz | hz
      · exact Nat.le_of_lt (Nat.lt_of_lt_of_le c1 (h1 z hz))
      · rw [List.mem_singleton.mp hz]
        exact Nat.le_refl _
    · rw [List.filter_append, e]
      simp
    · rw [List.filter_append, e]
      simp
  · rw [if_neg c1]
    have ne : (l.filter fun z => decide (z.cost = x.cost)) ≠ [] := by
      intro z
      rw [z] at h3
      cases h3
    by_cases c2 : x.cost = y.cost
    · rw [if_pos c2]
      refine ⟨fun z hz => ?_, ?_, ?_⟩
      · rcases List.mem_append.mp hz with hz | hz
        · exact h1 z hz
        · rw [List.mem_singleton.mp hz]
          exact Nat.le_of_eq c2
      · show (((l ++ [y]).filter fun z => decide (z.cost = x.cost)).map (·.many)).sum = x.many + y.many
        rw [List.filter_append, List.map_append, List.sum_append, h2]
        simp [c2]
      · show (((l ++ [y]).filter fun z => decide (z.cost = x.cost)).head?).map (·.row) = some x.row
        rw [List.filter_append, List.head?_append]
        cases e : (l.filter fun z => decide (z.cost = x.cost)) with
        | nil => exact absurd e ne
        | cons z r =>
          rw [e] at h3
          exact h3
    · rw [if_neg c2]
      have e : ([y].filter fun z => decide (z.cost = x.cost)) = [] := by
        simp
        omega
      refine ⟨fun z hz => ?_, ?_, ?_⟩
      · rcases List.mem_append.mp hz with hz | hz
        · exact h1 z hz
        · rw [List.mem_singleton.mp hz]
          omega
      · rw [List.filter_append, e, List.append_nil]
        exact h2
      · rw [List.filter_append, e, List.append_nil]
        exact h3

theorem Tg.fold : ∀ (r l : List Best) (x : Best), Tg l x → Tg (l ++ r) (r.foldl mrg x)
  | [], l, x, h => by
    rw [List.append_nil]
    exact h
  | y :: r, l, x, h => by
    have := Tg.fold r (l ++ [y]) (mrg x y) (h.step y)
    rw [List.append_assoc] at this
    exact this

theorem tog_tg {l : List Best} (h : l ≠ []) : Tg l (tog l) := by
  cases l with
  | nil => exact absurd rfl h
  | cons x l => exact Tg.fold l [x] x (Tg.one x)

/-- the merge by its least cost -/
theorem tog_by {l : List Best} {m : Nat} (hm : m ∈ l.map (·.cost)) (hl : ∀ y ∈ l.map (·.cost), m ≤ y) :
    (tog l).cost = m ∧ (tog l).many = ((l.filter fun y => decide (y.cost = m)).map (·.many)).sum ∧ ∃ b, (l.filter fun y => decide (y.cost = m)).head? = some b ∧ (tog l).row = b.row := by
  have hne : l ≠ [] := by
    intro z
    rw [z] at hm
    cases hm
  obtain ⟨h1, h2, h3⟩ := tog_tg hne
  have hc : (tog l).cost = m := by
    obtain ⟨y, hy, rfl⟩ := List.mem_map.mp hm
    have a := h1 y hy
    cases e : (l.filter fun z => decide (z.cost = (tog l).cost)) with
    | nil =>
      rw [e] at h3
      cases h3
    | cons z r =>
      have hz : z ∈ l.filter fun z => decide (z.cost = (tog l).cost) := by
        rw [e]
        exact List.mem_cons_self
      rw [List.mem_filter] at hz
      have b := hl z.cost (List.mem_map.mpr ⟨z, hz.1, rfl⟩)
      have := of_decide_eq_true hz.2
      omega
  rw [hc] at h2 h3
  refine ⟨hc, h2.symm, ?_⟩
  cases e : (l.filter fun z => decide (z.cost = m)).head? with
  | none =>
    rw [e] at h3
    cases h3
  | some b =>
    rw [e] at h3
    exact ⟨b, rfl, (Option.some.inj h3).symm⟩

theorem tog_row {l : List Best} (h : l ≠ []) : ∃ b ∈ l, (tog l).row = b.row := by
  have t := (tog_tg h).fst
  cases e : (l.filter fun z => decide (z.cost = (tog l).cost)) with
  | nil =>
    rw [e] at t
    cases t
  | cons z r =>
    rw [e] at t
    refine ⟨z, ?_, (Option.some.inj t).symm⟩
    have hz : z ∈ l.filter fun z => decide (z.cost = (tog l).cost) := by
      rw [e]
      exact List.mem_cons_self
    exact (List.mem_filter.mp hz).1

/-! ## the program's own functions -/
def harm (f : Field) (n : Nat) : Nat := f.weight * apart f.wants n
def one0 : Best := ⟨0, 1, []⟩
def begun (f : Field) (n : Nat) (b : Best) : Best := ⟨harm f n + b.cost, b.many, n :: b.row⟩
def weired (w : Nat) (b : Best) (n m : Nat) : Best := if m = n then b else ⟨b.cost + w, b.many, b.row⟩
def behind (w : Nat) (rows : List Best) (n : Nat) : Best := tog ((List.range (n + 1)).map fun m => weired w (rows.getD m one0) n m)
def lastRows (f : Field) : List Best := (List.range 41).map fun n => begun f n one0
def rowsAhead (f : Field) (w : Nat) (rows : List Best) : List Best := (List.range 41).map fun n => begun f n (behind w rows n)
def rowsFrom (w : Nat) : List Field → List Best
  | [] => []
  | [f] => lastRows f
  | f :: g :: r => rowsAhead f w (rowsFrom w (g :: r))
def bestPlan (w : Nat) (fs : List Field) : Best := if fs = [] then one0 else tog (rowsFrom w fs)

theorem begun_mrg (f : Field) (n : Nat) (x y : Best) : begun f n (mrg x y) = mrg (begun f n x) (begun f n y) := by
  unfold mrg begun
  dsimp only
  by_cases c1 : y.cost < x.cost
  · rw [if_pos c1, if_pos (show harm f n + y.cost < harm f n + x.cost by omega)]
  · rw [if_neg c1, if_neg (show ¬ harm f n + y.cost < harm f n + x.cost by omega)]
    by_cases c2 : x.cost = y.cost
    · rw [if_pos c2, if_pos (show harm f n + x.cost = harm f n + y.cost by omega)]
    · rw [if_neg c2, if_neg (show ¬ harm f n + x.cost = harm f n + y.cost by omega)]

theorem begun_fold (f : Field) (n : Nat) : ∀ (l : List Best) (x : Best), begun f n (l.foldl mrg x) = (l.map (begun f n)).foldl mrg (begun f n x)
  | [], _ => rfl
  | y :: l, x => by
    rw [List.foldl_cons, begun_fold f n l, List.map_cons, List.foldl_cons, begun_mrg]

theorem begun_tog (f : Field) (n : Nat) {l : List Best} (h : l ≠ []) : begun f n (tog l) = tog (l.map (begun f n)) := by
  cases l with
  | nil => exact absurd rfl h
  | cons x l => exact begun_fold f n l x

theorem range_succ_map_ne {α : Type} (n : Nat) (g : Nat → α) : (List.range (n + 1)).map g ≠ [] := by
  intro z
  have := congrArg List.length z
  simp at this

theorem rowsFrom_len (w : Nat) : ∀ (fs : List Field), fs ≠ [] → (rowsFrom w fs).length = 41
  | [], h => absurd rfl h
  | [f], _ => by simp [rowsFrom, lastRows]
  | f :: g :: r, _ => by simp [rowsFrom, rowsAhead]

/-- the specification's table is the program's -/
theorem table_rows (c : Canal) : ∀ (fs : List Field), fs ≠ [] → c.table fs = (rowsFrom c.weir fs).map some
  | [], h => absurd rfl h
  | [f], _ => by
    show (List.range (Sj01.TOP + 1)).map (fun n => if ([] : List Field) = [] then some (⟨f.weight * apart f.wants n, 1, [n]⟩ : Best) else _) = ((List.range 41).map fun n => begun f n one0).map some
    rw [List.map_map]
    refine List.map_congr_left fun n _ => ?_
    rw [if_pos rfl]
    rfl
  | f :: g :: r, _ => by
    have ih := table_rows c (g :: r) (by simp)
    have hl := rowsFrom_len c.weir (g :: r) (by simp)
    show (List.range (Sj01.TOP + 1)).map (fun n => if (g :: r) = [] then some (⟨f.weight * apart f.wants n, 1, [n]⟩ : Best) else ((List.range (n + 1)).map fun m => ((c.table (g :: r)).getD m none).map fun b => (⟨f.weight * apart f.wants n + (if m = n then 0 else c.weir) + b.cost, b.many, n :: b.row⟩ : Best)).foldl lesser none) = ((List.range 41).map fun n => begun f n (behind c.weir (rowsFrom c.weir (g :: r)) n)).map some
    rw [List.map_map]
    refine List.map_congr_left fun n hn => ?_
    rw [if_neg (by simp), ih]
    have hn' : n < 41 := List.mem_range.mp hn
    show _ = some (begun f n (behind c.weir (rowsFrom c.weir (g :: r)) n))
    unfold behind
    rw [begun_tog f n (range_succ_map_ne n _), List.map_map, ← fold_tog _ (range_succ_map_ne n _), List.map_map]
    congr 1
    refine List.map_congr_left fun m hm => ?_
    have hm' : m < n + 1 := List.mem_range.mp hm
    have hlt : m < (rowsFrom c.weir (g :: r)).length := by omega
    show (((rowsFrom c.weir (g :: r)).map some).getD m none).map _ = some (begun f n (weired c.weir ((rowsFrom c.weir (g :: r)).getD m one0) n m))
    rw [List.getD_eq_getElem?_getD, List.getElem?_map, List.getElem?_eq_getElem hlt, List.getD_eq_getElem?_getD, List.getElem?_eq_getElem hlt]
    show some _ = some _
    congr 1
    show _ = begun f n (weired c.weir (rowsFrom c.weir (g :: r))[m] n m)
    unfold begun weired harm
    by_cases e : m = n
    · rw [if_pos e, if_pos e]
      rfl
    · rw [if_neg e, if_neg e]
      show (⟨_, _, _⟩ : Best) = ⟨_, _, _⟩
      congr 1
      show f.weight * apart f.wants n + c.weir + _ = f.weight * apart f.wants n + (_ + c.weir)
      omega

theorem best_is (c : Canal) : c.best = some (bestPlan c.weir c.fields) := by
  unfold Canal.best bestPlan
  by_cases h : c.fields = []
  · rw [if_pos h, if_pos h]
    rfl
  · rw [if_neg h, if_neg h, table_rows c _ h, fold_tog]
    intro z
    have := rowsFrom_len c.weir c.fields h
    rw [z] at this
    cases this

theorem behind_row (w n k : Nat) {rows : List Best} (hl : n < rows.length) (h : ∀ b ∈ rows, b.row.length = k) : (behind w rows n).row.length = k := by
  obtain ⟨b, hb, e⟩ := tog_row (range_succ_map_ne n fun m => weired w (rows.getD m one0) n m)
  unfold behind
  rw [e]
  obtain ⟨m, hm, rfl⟩ := List.mem_map.mp hb
  have hm' := List.mem_range.mp hm
  have hlt : m < rows.length := by omega
  have e2 : rows.getD m one0 = rows[m] := by
    rw [List.getD_eq_getElem?_getD, List.getElem?_eq_getElem hlt]
    rfl
  rw [e2]
  have := h _ (List.getElem_mem hlt)
  unfold weired
  split <;> exact this

theorem rowsFrom_row (w : Nat) : ∀ (fs : List Field), ∀ b ∈ rowsFrom w fs, b.row.length = fs.length
  | [], b, h => by cases h
  | [f], b, h => by
    obtain ⟨n, _, rfl⟩ := List.mem_map.mp (show b ∈ (List.range 41).map (fun n => begun f n one0) from h)
    rfl
  | f :: g :: r, b, h => by
    obtain ⟨n, hn, rfl⟩ := List.mem_map.mp (show b ∈ (List.range 41).map (fun n => begun f n (behind w (rowsFrom w (g :: r)) n)) from h)
    show (behind w (rowsFrom w (g :: r)) n).row.length + 1 = (g :: r).length + 1
    have hl := rowsFrom_len w (g :: r) (by simp)
    rw [behind_row w n (g :: r).length (by rw [hl]; exact List.mem_range.mp hn) (rowsFrom_row w (g :: r))]

theorem bestPlan_row (w : Nat) (fs : List Field) : (bestPlan w fs).row.length = fs.length := by
  unfold bestPlan
  by_cases h : fs = []
  · rw [if_pos h, h]
    rfl
  · rw [if_neg h]
    have hne : rowsFrom w fs ≠ [] := by
      intro z
      have := rowsFrom_len w fs h
      rw [z] at this
      cases this
    obtain ⟨b, hb, e⟩ := tog_row hne
    rw [e]
    exact rowsFrom_row w fs b hb

/-! ## one level for all -/
def flatHarm (fs : List Field) (n : Nat) : Nat := ((fs.zip (List.replicate fs.length n)).map fun x => harm x.1 x.2).sum
def flatRows (fs : List Field) : List Best := (List.range 41).map fun n => ⟨flatHarm fs n, 1, [n]⟩
theorem map_const {α : Type} (n : Nat) : ∀ fs : List α, (fs.map fun _ => n) = List.replicate fs.length n
  | [] => rfl
  | _ :: r => by
    rw [List.map_cons, map_const n r]
    rfl
theorem flat_is (c : Canal) : c.flat = some (tog (flatRows c.fields)) := by
  have ne : flatRows c.fields ≠ [] := range_succ_map_ne 40 _
  rw [← fold_tog _ ne]
  unfold Canal.flat flatRows
  rw [List.map_map]
  congr 1
  refine List.map_congr_left fun n _ => ?_
  show some (⟨c.harm (c.fields.map fun _ => n), 1, [n]⟩ : Best) = some ⟨flatHarm c.fields n, 1, [n]⟩
  rw [map_const]
  rfl

/-- count and first place, of the list of the levels' harms -/
theorem flat_by (fs : List Field) {m j : Nat} (hl : ∀ y ∈ (List.range 41).map (flatHarm fs), m ≤ y) (hj : j < 41) (he : flatHarm fs j = m) (hf : ∀ i, i < j → flatHarm fs i ≠ m) :
    tog (flatRows fs) = ⟨m, ((List.range 41).map (flatHarm fs)).count m, [j]⟩ := by
  have ec : (flatRows fs).map (·.cost) = (List.range 41).map (flatHarm fs) := by
    unfold flatRows
    rw [List.map_map]
    rfl
  have hm : m ∈ (flatRows fs).map (·.cost) := by
    rw [ec]
    exact List.mem_map.mpr ⟨j, List.mem_range.mpr hj, he⟩
  obtain ⟨a, b, x, hx, d⟩ := tog_by hm (by rw [ec]; exact hl)
  have f : ∀ l : List Nat, ((l.map fun n => (⟨flatHarm fs n, 1, [n]⟩ : Best)).filter fun y => decide (y.cost = m)) = (l.filter fun n => decide (flatHarm fs n = m)).map fun n => (⟨flatHarm fs n, 1, [n]⟩ : Best) := fun l => by
    rw [List.filter_map]
    rfl
  have hmany : (tog (flatRows fs)).many = ((List.range 41).map (flatHarm fs)).count m := by
    rw [b]
    unfold flatRows
    rw [f, List.map_map, List.count, List.countP_map, List.countP_eq_length_filter]
    generalize (List.range 41) = l
    have : ∀ l : List Nat, (l.map ((fun x : Best => x.many) ∘ fun n => (⟨flatHarm fs n, 1, [n]⟩ : Best))).sum = l.length := by
      intro l
      induction l with
      | nil => rfl
      | cons a r ih =>
        rw [List.map_cons, List.sum_cons, ih, List.length_cons]
        show 1 + _ = _
        omega
    rw [this]
    congr 2
  have hrow : (tog (flatRows fs)).row = [j] := by
    rw [d]
    unfold flatRows at hx
    rw [f, List.head?_map, List.head?_filter] at hx
    have e2 : (List.range 41).find? (fun n => decide (flatHarm fs n = m)) = some j := by
      rw [List.find?_range_eq_some]
      refine ⟨decide_eq_true he, List.mem_range.mpr hj, fun i hi => ?_⟩
      simp [hf i hi]
    rw [e2] at hx
    rw [← Option.some.inj hx]
  cases e : tog (flatRows fs) with
  | mk c1 c2 c3 =>
    rw [e] at a hmany hrow
    simp only at a hmany hrow
    rw [a, hmany, hrow]
end CL

namespace CL
open Sj01 (Field Best Canal apart lesser)

/-! ## rises, falls -/
theorem drop_two {l : List Nat} {i a b : Nat} (h1 : l[i]? = some a) (h2 : l[i + 1]? = some b) : l.drop i = a :: b :: l.drop (i + 2) ∧ l.drop (i + 1) = b :: l.drop (i + 2) := by
  obtain ⟨p1, e1⟩ := List.getElem?_eq_some_iff.mp h1
  obtain ⟨p2, e2⟩ := List.getElem?_eq_some_iff.mp h2
  have q : l.drop (i + 1) = b :: l.drop (i + 2) := by rw [List.drop_eq_getElem_cons p2, e2]
  exact ⟨by rw [List.drop_eq_getElem_cons p1, e1, q], q⟩
theorem rises_turn {l : List Nat} {i a b : Nat} (h1 : l[i]? = some a) (h2 : l[i + 1]? = some b) : Sj01.rises i (l.drop i) = if a < b then some (i + 1) else Sj01.rises (i + 1) (l.drop (i + 1)) := by
  obtain ⟨e1, e2⟩ := drop_two h1 h2
  rw [e1, e2]
  rfl
theorem falls_turn {l : List Nat} {i a b : Nat} (h1 : l[i]? = some a) (h2 : l[i + 1]? = some b) : Sj01.falls (l.drop i) = (if a = b then 0 else 1) + Sj01.falls (l.drop (i + 1)) := by
  obtain ⟨e1, e2⟩ := drop_two h1 h2
  rw [e1, e2]
  rfl
theorem drop_last {l : List Nat} {i : Nat} (h : l.length ≤ i + 1) : l.drop i = [] ∨ ∃ a, l.drop i = [a] := by
  cases e : l.drop i with
  | nil => exact .inl rfl
  | cons a r =>
    have := congrArg List.length e
    rw [List.length_drop, List.length_cons] at this
    have : r.length = 0 := by omega
    rw [List.length_eq_zero_iff] at this
    exact .inr ⟨a, by rw [this]⟩
theorem rises_end {l : List Nat} {i : Nat} (h : l.length ≤ i + 1) : Sj01.rises i (l.drop i) = none := by
  rcases drop_last h with e | ⟨a, e⟩ <;> rw [e] <;> rfl
theorem falls_end {l : List Nat} {i : Nat} (h : l.length ≤ i + 1) : Sj01.falls (l.drop i) = 0 := by
  rcases drop_last h with e | ⟨a, e⟩ <;> rw [e] <;> rfl

/-! ## what the canal keeps -/
structure Ok (c : Canal) : Prop where
  weir : c.weir ≤ 1000
  len : c.fields.length ≤ 8
  fld : ∀ f ∈ c.fields, f.wants ≤ 40 ∧ f.weight ≤ 100
theorem ok_init : Ok Sj01.init := ⟨Nat.zero_le _, Nat.zero_le _, fun f h => by cases h⟩

/-! ## a call, as the program meets it -/
abbrev Cl := Nat × List Nat
def nats (l : List Nat) : List Int := l.map fun (n : Nat) => (n : Int)
def cell (x : Cl) : List Int := (x.1 : Int) :: nats x.2
def enc (x : Cl) : List Int := (x.1 : Int) :: (x.2.length : Int) :: (nats x.2 ++ [0])
inductive Okc : Cl → Prop
  | begins (w : Nat) : Okc (0, [w])
  | field (a b : Nat) : Okc (1, [a, b])
  | check (l : List Nat) (h : l.length ≤ 10) : Okc (2, l)
  | best : Okc (3, [])
  | flat : Okc (4, [])
/-- the state behind a call, and what is answered -/
def go (c : Canal) (x : Cl) : Canal × List Int := Sj01Neutral.step c [cell x]
theorem toNat_nats (l : List Nat) : (nats l).map Int.toNat = l := by
  unfold nats
  rw [List.map_map]
  conv => rhs; rw [← List.map_id l]
  refine List.map_congr_left fun n _ => ?_
  rfl
theorem go_of {c : Canal} {x : Cl} {q : Sj01.Call} (h : Sj01Neutral.callOf (cell x) = some q) : go c x = ((Sj01.step c q).1, (Sj01.step c q).2.v :: (Sj01.step c q).2.l) := by
  show (match Sj01Neutral.callOf (cell x) with
  | none => (c, [])
  | some q =>
    let r := Sj01.step c q
    (r.1, r.2.v :: r.2.l)) = _
  rw [h]
theorem go_begins (c : Canal) (w : Nat) : go c (0, [w]) = if 1000 < w then (c, [-1]) else (⟨w, []⟩, [0]) := by
  rw [go_of (q := .begins w) rfl]
  show ((if Sj01.WEIR < w then (c, Sj01.ok (-1)) else (⟨w, []⟩, Sj01.ok 0)).1, (if Sj01.WEIR < w then (c, Sj01.ok (-1)) else (⟨w, []⟩, Sj01.ok 0)).2.v :: (if Sj01.WEIR < w then (c, Sj01.ok (-1)) else (⟨w, []⟩, Sj01.ok 0)).2.l) = _
  by_cases h : 1000 < w
  · rw [if_pos (show Sj01.WEIR < w from h), if_pos h]
    rfl
  · rw [if_neg (show ¬ Sj01.WEIR < w from h), if_neg h]
    rfl
theorem go_field (c : Canal) (a b : Nat) : go c (1, [a, b]) = if 40 < a ∨ 100 < b then (c, [-1]) else if 8 ≤ c.fields.length then (c, [-5]) else ({ c with fields := c.fields ++ [⟨a, b⟩] }, [(c.fields.length : Int)]) := by
  rw [go_of (q := .field ⟨a, b⟩) rfl]
  have e : Sj01.step c (.field ⟨a, b⟩) = if 40 < a ∨ 100 < b then (c, Sj01.ok (-1)) else if 8 ≤ c.fields.length then (c, Sj01.ok (-5)) else ({ c with fields := c.fields ++ [⟨a, b⟩] }, Sj01.ok ((c.fields.length : Nat) : Int)) := rfl
  rw [e]
  by_cases h : 40 < a ∨ 100 < b
  · rw [if_pos h, if_pos h]
    rfl
  · rw [if_neg h, if_neg h]
    by_cases k : 8 ≤ c.fields.length
    · rw [if_pos k, if_pos k]
      rfl
    · rw [if_neg k, if_neg k]
      rfl
theorem callOf_check {l : List Nat} (h : l.length ≤ 10) : Sj01Neutral.callOf (cell (2, l)) = some (.check l) := by
  unfold Sj01Neutral.callOf
  have e : (cell (2, l)).map Int.toNat = 2 :: l := by
    show (2 : Int).toNat :: (nats l).map Int.toNat = 2 :: l
    rw [toNat_nats]
    rfl
  rw [e]
  show (if l.length ≤ 10 then some (Sj01.Call.check l) else none) = _
  rw [if_pos h]
theorem go_check (c : Canal) {l : List Nat} (h : l.length ≤ 10) : go c (2, l) = (c, if c.told l = false then [-1] else match Sj01.rises 0 l with
    | some i => [-6, (i : Int)]
    | none => [((c.harm l : Nat) : Int) + (c.weir : Int) * ((Sj01.falls l : Nat) : Int), ((c.harm l : Nat) : Int), ((Sj01.falls l : Nat) : Int)]) := by
  rw [go_of (callOf_check h)]
  have e : Sj01.step c (.check l) = if c.told l = false then (c, Sj01.ok (-1)) else (c, match Sj01.rises 0 l with
    | some i => ⟨-6, Sj01.ints [i]⟩
    | none => ⟨((c.cost l : Nat) : Int), Sj01.ints [c.harm l, Sj01.falls l]⟩) := rfl
  rw [e]
  by_cases k : c.told l = false
  · rw [if_pos k, if_pos k]
    rfl
  · rw [if_neg k, if_neg k]
    cases e2 : Sj01.rises 0 l with
    | some i => rfl
    | none =>
      show (c, [((c.cost l : Nat) : Int), ((c.harm l : Nat) : Int), ((Sj01.falls l : Nat) : Int)]) = _
      have e3 : ((c.cost l : Nat) : Int) = ((c.harm l : Nat) : Int) + (c.weir : Int) * ((Sj01.falls l : Nat) : Int) := by
        unfold Sj01.Canal.cost
        rw [Int.natCast_add, Int.natCast_mul]
      rw [e3]
theorem go_best (c : Canal) : go c (3, []) = (c, ((bestPlan c.weir c.fields).cost : Int) :: ((bestPlan c.weir c.fields).many : Int) :: nats (bestPlan c.weir c.fields).row) := by
  rw [go_of (q := .best) rfl]
  show (c, (Sj01.toldBest c.best).v :: (Sj01.toldBest c.best).l) = _
  rw [best_is]
  rfl
theorem go_flat (c : Canal) {m k j : Nat} (h : tog (flatRows c.fields) = ⟨m, k, [j]⟩) : go c (4, []) = (c, [(m : Int), (k : Int), (j : Int)]) := by
  rw [go_of (q := .flat) rfl]
  show (c, (Sj01.toldBest c.flat).v :: (Sj01.toldBest c.flat).l) = _
  rw [flat_is, h]
  rfl
theorem flat_shape (fs : List Field) : ∃ m k j, tog (flatRows fs) = ⟨m, k, [j]⟩ := by
  obtain ⟨b, hb, e⟩ := tog_row (l := flatRows fs) (range_succ_map_ne 40 _)
  obtain ⟨n, _, rfl⟩ := List.mem_map.mp (show b ∈ (List.range 41).map (fun n => (⟨flatHarm fs n, 1, [n]⟩ : Best)) from hb)
  cases q : tog (flatRows fs) with
  | mk a b c =>
    rw [q] at e
    exact ⟨a, b, n, by rw [show c = [n] from e]⟩

theorem go_ok {c : Canal} (h : Ok c) {x : Cl} (hx : Okc x) : Ok (go c x).1 := by
  cases hx with
  | begins w =>
    rw [go_begins]
    by_cases k : 1000 < w
    · rw [if_pos k]
      exact h
    · rw [if_neg k]
      exact ⟨Nat.le_of_not_lt k, Nat.zero_le _, fun f z => by cases z⟩
  | field a b =>
    rw [go_field]
    by_cases k : 40 < a ∨ 100 < b
    · rw [if_pos k]
      exact h
    · rw [if_neg k]
      by_cases k2 : 8 ≤ c.fields.length
      · rw [if_pos k2]
        exact h
      · rw [if_neg k2]
        refine ⟨h.weir, ?_, fun f hf => ?_⟩
        · show (c.fields ++ [_]).length ≤ 8
          rw [List.length_append, List.length_singleton]
          omega
        · rcases List.mem_append.mp hf with hf | hf
          · exact h.fld f hf
          · rw [List.mem_singleton.mp hf]
            show a ≤ 40 ∧ b ≤ 100
            omega
  | check l hl =>
    rw [go_check c hl]
    exact h
  | best =>
    rw [go_best]
    exact h
  | flat =>
    obtain ⟨m, k, j, e⟩ := flat_shape c.fields
    rw [go_flat c e]
    exact h
theorem go_len {c : Canal} (h : Ok c) {x : Cl} (hx : Okc x) : (go c x).2.length ≤ 10 := by
  cases hx with
  | begins w =>
    rw [go_begins]
    split <;> exact (by decide : 1 ≤ 10)
  | field a b =>
    rw [go_field]
    split
    · exact (by decide : 1 ≤ 10)
    · split <;> exact (by decide : 1 ≤ 10)
  | check l hl =>
    rw [go_check c hl]
    show (if c.told l = false then [-1] else _ : List Int).length ≤ 10
    split
    · exact (by decide : 1 ≤ 10)
    · split
      · exact (by decide : 2 ≤ 10)
      · exact (by decide : 3 ≤ 10)
  | best =>
    rw [go_best]
    show (nats _).length + 1 + 1 ≤ 10
    unfold nats
    rw [List.length_map, bestPlan_row]
    have := h.len
    omega
  | flat =>
    obtain ⟨m, k, j, e⟩ := flat_shape c.fields
    rw [go_flat c e]
    exact (by decide : 3 ≤ 10)

/-! ## many calls -/
def after (c : Canal) : List Cl → Canal
  | [] => c
  | x :: r => after (go c x).1 r
def outs (c : Canal) : List Cl → List Int
  | [] => []
  | x :: r => ((go c x).2.length : Int) :: ((go c x).2 ++ outs (go c x).1 r)
def encs : List Cl → List Int
  | [] => []
  | x :: r => enc x ++ encs r
theorem after_snoc : ∀ (l : List Cl) (c : Canal) (x : Cl), after c (l ++ [x]) = (go (after c l) x).1
  | [], _, _ => rfl
  | y :: l, c, x => after_snoc l (go c y).1 x
theorem outs_snoc : ∀ (l : List Cl) (c : Canal) (x : Cl), outs c (l ++ [x]) = outs c l ++ (((go (after c l) x).2.length : Int) :: (go (after c l) x).2)
  | [], c, x => by
    show ((go c x).2.length : Int) :: ((go c x).2 ++ []) = [] ++ (((go c x).2.length : Int) :: (go c x).2)
    rw [List.append_nil]
    rfl
  | y :: l, c, x => by
    show ((go c y).2.length : Int) :: ((go c y).2 ++ outs (go c y).1 (l ++ [x])) = (((go c y).2.length : Int) :: ((go c y).2 ++ outs (go c y).1 l)) ++ _
    rw [outs_snoc l, List.cons_append, List.append_assoc]
    rfl
theorem encs_append : ∀ (l m : List Cl), encs (l ++ m) = encs l ++ encs m
  | [], _ => rfl
  | x :: l, m => by
    show enc x ++ encs (l ++ m) = (enc x ++ encs l) ++ encs m
    rw [encs_append l, List.append_assoc]
theorem enc_len (x : Cl) : (enc x).length = x.2.length + 3 := by
  unfold enc nats
  simp
theorem encs_len : ∀ l : List Cl, 3 * l.length ≤ (encs l).length
  | [] => Nat.le_refl _
  | x :: l => by
    have := encs_len l
    show 3 * (l.length + 1) ≤ (enc x ++ encs l).length
    rw [List.length_append, enc_len]
    omega
theorem after_ok : ∀ (l : List Cl) (c : Canal), Ok c → (∀ x ∈ l, Okc x) → Ok (after c l)
  | [], _, h, _ => h
  | x :: l, c, h, k => after_ok l _ (go_ok h (k x List.mem_cons_self)) fun y hy => k y (List.mem_cons_of_mem _ hy)
theorem outs_len : ∀ (l : List Cl) (c : Canal), Ok c → (∀ x ∈ l, Okc x) → (outs c l).length ≤ 11 * l.length
  | [], _, _, _ => Nat.le_refl _
  | x :: l, c, h, k => by
    have a := go_len h (k x List.mem_cons_self)
    have b := outs_len l _ (go_ok h (k x List.mem_cons_self)) fun y hy => k y (List.mem_cons_of_mem _ hy)
    show ((go c x).2 ++ outs (go c x).1 l).length + 1 ≤ 11 * (l.length + 1)
    rw [List.length_append]
    omega

theorem told_played : ∀ (l : List Cl) (c : Canal), PyFlat.told (PyFlat.played Sj01Neutral.step c (l.map fun x => [cell x])) = outs c l
  | [], _ => rfl
  | x :: l, c => by
    have := told_played l (go c x).1
    unfold PyFlat.told at this ⊢
    show (((go c x).2 :: PyFlat.played Sj01Neutral.step (go c x).1 (l.map fun x => [cell x])).flatMap fun a => (a.length : Int) :: a) = _
    rw [List.flatMap_cons, this]
    rfl

/-! ## what is asked -/
theorem nats_of : ∀ (l : List Int), (∀ z ∈ l, 0 ≤ z) → ∃ m : List Nat, l = nats m
  | [], _ => ⟨[], rfl⟩
  | z :: l, h => by
    obtain ⟨m, e⟩ := nats_of l fun y hy => h y (List.mem_cons_of_mem _ hy)
    have := h z List.mem_cons_self
    refine ⟨z.toNat :: m, ?_⟩
    rw [e]
    show z :: nats m = (z.toNat : Int) :: nats m
    rw [Int.toNat_of_nonneg this]
theorem len1 {α : Type} {l : List α} (h : l.length = 1) : ∃ a, l = [a] := by
  match l, h with
  | [a], _ => exact ⟨a, rfl⟩
theorem len2 {α : Type} {l : List α} (h : l.length = 2) : ∃ a b, l = [a, b] := by
  match l, h with
  | [a, b], _ => exact ⟨a, b, rfl⟩
theorem fits_inv {p : Int} {xs : List Int} {rows : List (List Int)} (h : PySj01.fits ((p :: xs) :: rows) = true) :
    rows = [] ∧ ((p = 0 ∧ xs.length = 1) ∨ (p = 1 ∧ xs.length = 2) ∨ (p = 2 ∧ xs.length ≤ 10) ∨ (p = 3 ∧ xs.length = 0) ∨ (p = 4 ∧ xs.length = 0)) := by
  unfold PySj01.fits at h
  dsimp only at h
  unfold PySj01.form at h
  by_cases h0 : p = 0
  · rw [if_pos h0] at h
    simp only [Bool.and_eq_true, decide_eq_true_eq, List.length_take, List.length_drop, List.length_nil, List.length_cons, List.length_singleton] at h
    refine ⟨List.length_eq_zero_iff.mp (by omega), .inl ⟨h0, by omega⟩⟩
  · rw [if_neg h0] at h
    by_cases h1 : p = 1
    · rw [if_pos h1] at h
      simp only [Bool.and_eq_true, decide_eq_true_eq, List.length_take, List.length_drop, List.length_nil, List.length_cons, List.length_singleton] at h
      refine ⟨List.length_eq_zero_iff.mp (by omega), .inr (.inl ⟨h1, by omega⟩)⟩
    · rw [if_neg h1] at h
      by_cases h2 : p = 2
      · rw [if_pos h2] at h
        simp only [Bool.and_eq_true, decide_eq_true_eq, List.length_take, List.length_drop, List.length_nil, List.length_cons, List.length_singleton] at h
        refine ⟨List.length_eq_zero_iff.mp (by omega), .inr (.inr (.inl ⟨h2, by omega⟩))⟩
      · rw [if_neg h2] at h
        by_cases h3 : p = 3
        · rw [if_pos h3] at h
          simp only [Bool.and_eq_true, decide_eq_true_eq, List.length_take, List.length_drop, List.length_nil, List.length_cons, List.length_singleton] at h
          refine ⟨List.length_eq_zero_iff.mp (by omega), .inr (.inr (.inr (.inl ⟨h3, by omega⟩)))⟩
        · rw [if_neg h3] at h
          by_cases h4 : p = 4
          · rw [if_pos h4] at h
            simp only [Bool.and_eq_true, decide_eq_true_eq, List.length_take, List.length_drop, List.length_nil, List.length_cons, List.length_singleton] at h
            refine ⟨List.length_eq_zero_iff.mp (by omega), .inr (.inr (.inr (.inr ⟨h4, by omega⟩)))⟩
          · rw [if_neg h4] at h
            cases h
theorem okc_of {p : Int} {xs : List Int} (hx : ∀ z ∈ xs, 0 ≤ z) (h : (p = 0 ∧ xs.length = 1) ∨ (p = 1 ∧ xs.length = 2) ∨ (p = 2 ∧ xs.length ≤ 10) ∨ (p = 3 ∧ xs.length = 0) ∨ (p = 4 ∧ xs.length = 0)) : ∃ x : Cl, Okc x ∧ p :: xs = cell x := by
  obtain ⟨m, rfl⟩ := nats_of xs hx
  have el : (nats m).length = m.length := List.length_map _
  rw [el] at h
  rcases h with ⟨rfl, h⟩ | ⟨rfl, h⟩ | ⟨rfl, h⟩ | ⟨rfl, h⟩ | ⟨rfl, h⟩
  · obtain ⟨a, rfl⟩ := len1 h
    exact ⟨_, .begins a, rfl⟩
  · obtain ⟨a, b, rfl⟩ := len2 h
    exact ⟨_, .field a b, rfl⟩
  · exact ⟨_, .check m h, rfl⟩
  · rw [List.length_eq_zero_iff.mp h]
    exact ⟨_, .best, rfl⟩
  · rw [List.length_eq_zero_iff.mp h]
    exact ⟨_, .flat, rfl⟩
theorem call_inv {p : Int} {r t : List Int} {c : List (List Int)} (h : PyWide.call (p :: r) = some (c, t)) (hf : PySj01.fits c = true) (hr : ∀ z ∈ p :: r, 0 ≤ z) : ∃ x : Cl, Okc x ∧ c = [cell x] ∧ p :: r = enc x ++ t := by
  cases r with
  | nil => cases h
  | cons n r =>
    by_cases hn : 0 ≤ n ∧ n.toNat ≤ r.length
    · have e1 : PyFlat.row (n :: r) = some (r.take n.toNat, r.drop n.toNat) := if_pos hn
      unfold PyWide.call at h
      simp only [e1] at h
      cases e2 : r.drop n.toNat with
      | nil =>
        rw [e2] at h
        cases h
      | cons k u =>
        rw [e2] at h
        dsimp only at h
        by_cases hk : 0 ≤ k
        · rw [if_pos hk] at h
          cases e3 : PyFlat.rows k.toNat u with
          | none =>
            rw [e3] at h
            cases h
          | some q =>
            obtain ⟨xs, v⟩ := q
            rw [e3] at h
            dsimp only at h
            obtain ⟨rfl, rfl⟩ := Prod.mk.inj (Option.some.inj h)
            obtain ⟨hrow, hform⟩ := fits_inv hf
            subst hrow
            have hk0 : k.toNat = 0 := by
              cases ek : k.toNat with
              | zero => rfl
              | succ j =>
                rw [ek] at e3
                unfold PyFlat.rows at e3
                cases e4 : PyFlat.row u with
                | none =>
                  rw [e4] at e3
                  cases e3
                | some q =>
                  obtain ⟨y, s⟩ := q
                  rw [e4] at e3
                  dsimp only at e3
                  cases e5 : PyFlat.rows j s with
                  | none =>
                    rw [e5] at e3
                    cases e3
                  | some q2 =>
                    obtain ⟨ys, t2⟩ := q2
                    rw [e5] at e3
                    cases e3
            have hk1 : k = 0 := by omega
            rw [hk0] at e3
            have huv : u = v := by
              have : some (([] : List (List Int)), u) = some ([], v) := e3
              exact (Prod.mk.inj (Option.some.inj this)).2
            subst huv
            subst hk1
            obtain ⟨x, ox, ex⟩ := okc_of (p := p) (xs := r.take n.toNat) (fun z hz => hr z (List.mem_cons_of_mem _ (List.mem_cons_of_mem _ (List.mem_of_mem_take hz)))) hform
            refine ⟨x, ox, by rw [ex], ?_⟩
            obtain ⟨x1, x2⟩ := x
            have ex1 : p = (x1 : Int) := (List.cons.inj ex).1
            have ex2 : r.take n.toNat = nats x2 := (List.cons.inj ex).2
            have elen : x2.length = n.toNat := by
              have := congrArg List.length ex2
              unfold nats at this
              rw [List.length_take, List.length_map] at this
              omega
            show p :: n :: r = ((x1 : Int) :: (x2.length : Int) :: (nats x2 ++ [0])) ++ u
            rw [← ex2, elen, Int.toNat_of_nonneg hn.1, ← ex1]
            show p :: n :: r = p :: n :: ((r.take n.toNat ++ [0]) ++ u)
            rw [List.append_assoc]
            show p :: n :: r = p :: n :: (r.take n.toNat ++ (0 :: u))
            rw [← e2, List.take_append_drop]
        · rw [if_neg hk] at h
          cases h
    · have e1 : PyFlat.row (n :: r) = none := if_neg hn
      unfold PyWide.call at h
      simp only [e1] at h
      cases h
theorem calls_inv : ∀ (f : Nat) (l : List Int) (cs : List (List (List Int))), PyWide.calls f l = some cs → cs.all PySj01.fits = true → (∀ z ∈ l, 0 ≤ z) →
    ∃ xs : List Cl, (∀ x ∈ xs, Okc x) ∧ cs = xs.map (fun x => [cell x]) ∧ l = encs xs
  | f, [], cs, h, _, _ => by
    have h' : some ([] : List (List (List Int))) = some cs := by cases f <;> exact h
    exact ⟨[], (fun x hx => nomatch hx), (Option.some.inj h').symm, rfl⟩
  | 0, _ :: _, _, h, _, _ => by cases h
  | f + 1, p :: r, cs, h, hf, hr => by
    unfold PyWide.calls at h
    cases e1 : PyWide.call (p :: r) with
    | none =>
      rw [e1] at h
      cases h
    | some q =>
      obtain ⟨c, t⟩ := q
      rw [e1] at h
      dsimp only at h
      cases e2 : PyWide.calls f t with
      | none =>
        rw [e2] at h
        cases h
      | some ds =>
        rw [e2] at h
        dsimp only at h
        have e3 := (Option.some.inj h).symm
        subst e3
        rw [List.all_cons, Bool.and_eq_true] at hf
        obtain ⟨x, ox, ec, el⟩ := call_inv e1 hf.1 hr
        obtain ⟨xs, oxs, ecs, els⟩ := calls_inv f t ds e2 hf.2 fun z hz => hr z (by rw [el]; exact List.mem_append_right _ hz)
        refine ⟨x :: xs, fun y hy => ?_, ?_, ?_⟩
        · rcases List.mem_cons.mp hy with rfl | hy
          · exact ox
          · exact oxs y hy
        · rw [List.map_cons, ← ecs, ← ec]
        · rw [el, els]
          rfl
/-- the request as the program meets it, and what is due -/
theorem asked_inv {l : List Int} (h : PySj01.answers_asked l = true) (hl : ∀ z ∈ l, 0 ≤ z) : ∃ xs : List Cl, (∀ x ∈ xs, Okc x) ∧ l = encs xs ∧ PySj01.answers l = outs Sj01.init xs := by
  unfold PySj01.answers_asked at h
  unfold PySj01.answers
  cases e : PySj01.calls l with
  | none =>
    rw [e] at h
    cases h
  | some cs =>
    rw [e] at h
    dsimp only at h ⊢
    simp only [Bool.and_eq_true] at h
    obtain ⟨xs, ox, ec, el⟩ := calls_inv _ _ _ e h.1.1.1.2 hl
    refine ⟨xs, ox, el, ?_⟩
    rw [ec]
    exact told_played xs Sj01.init
end CL

namespace CL
open PySem PySem.Spec PyProof.Rows L2
open Sj01 (Field Best Canal apart)
/-! ## the text by places -/
def top (i : Nat) : Stmt := PySem.Challenge.pw_canallevels_s01_answers.main.body.getD i (.Pass ⟨0, 0, 0, 0⟩)
abbrev sFInit : Stmt := inClass (top 3) 0
abbrev sHarm : Stmt := inClass (top 3) 1
abbrev sIsLevel : Stmt := top 4
abbrev sIsWeight : Stmt := top 5
abbrev sLevels : Stmt := top 6
abbrev sBInit : Stmt := inClass (top 8) 0
abbrev sLeast : Stmt := top 9
abbrev sTog : Stmt := top 10
abbrev sBegun : Stmt := top 11
abbrev sWeir : Stmt := top 12
abbrev sBehind : Stmt := top 13
abbrev sLast : Stmt := top 14
abbrev sAhead : Stmt := top 15
abbrev sBest : Stmt := top 16
abbrev sIsPlan : Stmt := top 18
abbrev sRises : Stmt := top 19
abbrev sHarmOf : Stmt := top 20
abbrev sWeirs : Stmt := top 21
abbrev sFlatH : Stmt := top 23
abbrev sFlattest : Stmt := top 24
abbrev sCInit : Stmt := inClass (top 35) 0
abbrev sCBegins : Stmt := inClass (top 35) 1
abbrev sCField : Stmt := inClass (top 35) 2
abbrev sCCheck : Stmt := inClass (top 35) 3
abbrev sCBest : Stmt := inClass (top 35) 4
abbrev sCFlat : Stmt := inClass (top 35) 5
abbrev sCAnswer : Stmt := inClass (top 35) 6
abbrev sAnswers : Stmt := top 36

/-! ## fields by name -/
theorem lk_here {k : Str} {v : V} {r : List (Str × V)} : List.lookup k ((k, v) :: r) = some v := by
  have e : (k == k) = true := beq_self_eq_true k
  simp only [List.lookup, e]
theorem lk_past {k g : Str} {v : V} {r : List (Str × V)} (h : (k == g) = false) : List.lookup k ((g, v) :: r) = List.lookup k r := by
  simp only [List.lookup, h]
theorem put_here {f : Str} {v x : V} {r : List (Str × V)} : putF f v ((f, x) :: r) = (f, v) :: r := if_pos rfl
theorem put_past {f g : Str} {v x : V} {r : List (Str × V)} (h : ¬ g = f) : putF f v ((g, x) :: r) = (g, x) :: putF f v r := if_neg h

/-! ## how things lie in the heap -/
def vI (n : Nat) : V := .int (n : Int)
def vInts (l : List Nat) : List V := l.map vI
theorem vInts_nats (l : List Nat) : (nats l).map V.int = vInts l := by
  unfold nats vInts
  rw [List.map_map]
  rfl
theorem vInts_len (l : List Nat) : (vInts l).length = l.length := List.length_map _
theorem vInts_at {l : List Nat} {i n : Nat} (h : l[i]? = some n) : (vInts l)[i]? = some (vI n) := by
  unfold vInts
  rw [List.getElem?_map, h]
  rfl
theorem vInts_of {l : List Nat} {i : Nat} {x : V} (h : (vInts l)[i]? = some x) : ∃ n, l[i]? = some n ∧ x = vI n := by
  unfold vInts at h
  rw [List.getElem?_map] at h
  cases e : l[i]? with
  | none =>
    rw [e] at h
    cases h
  | some n =>
    rw [e] at h
    exact ⟨n, rfl, (Option.some.inj h).symm⟩
theorem refs_of {l : List Addr} {i : Nat} {x : V} (h : (l.map V.ref)[i]? = some x) : ∃ a, l[i]? = some a ∧ x = .ref a := by
  rw [List.getElem?_map] at h
  cases e : l[i]? with
  | none =>
    rw [e] at h
    cases h
  | some n =>
    rw [e] at h
    exact ⟨n, rfl, (Option.some.inj h).symm⟩

def fF (f : Field) : List (Str × V) := [("wanted", vI f.wants), ("weight", vI f.weight)]
def FAt (C : Addr) (H : Hp) (a : Addr) (f : Field) : Prop := ∃ dx, H a = some (.ins C dx (fF f))
def bF (b : Best) (q : Addr) : List (Str × V) := [("cost", vI b.cost), ("many", vI b.many), ("plan", .ref q)]
/-- the plan's list stands at q -/
def BQ (C : Addr) (H : Hp) (a : Addr) (b : Best) (q : Addr) : Prop := ∃ dx, H a = some (.ins C dx (bF b q)) ∧ H q = some (.lst (vInts b.row))
def BAt (C : Addr) (H : Hp) (a : Addr) (b : Best) : Prop := ∃ q, BQ C H a b q
/-- its plan's list isn't the one at D -/
def BD (C D : Addr) (H : Hp) (a : Addr) (b : Best) : Prop := ∃ q, BQ C H a b q ∧ q ≠ D
/-- a list of objects -/
def Objs {α : Type} (R : Hp → Addr → α → Prop) (H : Hp) (as : List Addr) (xs : List α) : Prop := as.length = xs.length ∧ ∀ (i : Nat) a x, as[i]? = some a → xs[i]? = some x → R H a x
def Rows (C : Addr) (H : Hp) (r : Addr) (bs : List Best) : Prop := ∃ as, H r = some (.lst (as.map V.ref)) ∧ Objs (BAt C) H as bs
def Flds (C : Addr) (H : Hp) (r : Addr) (fs : List Field) : Prop := ∃ as, H r = some (.lst (as.map V.ref)) ∧ Objs (FAt C) H as fs
theorem FAt.same {C : Addr} {H H' : Hp} {a : Addr} {f : Field} (h : FAt C H a f) (s : Same H H') : FAt C H' a f := by
  obtain ⟨dx, h⟩ := h
  exact ⟨dx, s _ _ h⟩
theorem BQ.same {C : Addr} {H H' : Hp} {a q : Addr} {b : Best} (h : BQ C H a b q) (s : Same H H') : BQ C H' a b q := by
  obtain ⟨dx, h, k⟩ := h
  exact ⟨dx, s _ _ h, s _ _ k⟩
theorem BAt.same {C : Addr} {H H' : Hp} {a : Addr} {b : Best} (h : BAt C H a b) (s : Same H H') : BAt C H' a b := by
  obtain ⟨q, h⟩ := h
  exact ⟨q, h.same s⟩
theorem BD.same {C D : Addr} {H H' : Hp} {a : Addr} {b : Best} (h : BD C D H a b) (s : Same H H') : BD C D H' a b := by
  obtain ⟨q, h, k⟩ := h
  exact ⟨q, h.same s, k⟩
theorem BD.upd {C D : Addr} {H : Hp} {a : Addr} {b : Best} {xs : List V} {o : HO} (h : BD C D H a b) (hD : H D = some (.lst xs)) : BD C D (upd H D o) a b := by
  obtain ⟨q, ⟨dx, h1, h2⟩, k⟩ := h
  have na : a ≠ D := ne_of h1 hD (by intro z; cases z)
  exact ⟨q, ⟨dx, by rw [upd_ne na]; exact h1, by rw [upd_ne k]; exact h2⟩, k⟩
theorem Objs.mono {α : Type} {R : Hp → Addr → α → Prop} {H H' : Hp} {as : List Addr} {xs : List α} (h : Objs R H as xs) (k : ∀ a x, R H a x → R H' a x) : Objs R H' as xs :=
  ⟨h.1, fun i a x e f => k a x (h.2 i a x e f)⟩
theorem Rows.same {C : Addr} {H H' : Hp} {a : Addr} {bs : List Best} (h : Rows C H a bs) (s : Same H H') : Rows C H' a bs := by
  obtain ⟨as, h, k⟩ := h
  exact ⟨as, s _ _ h, k.mono fun a x z => z.same s⟩
theorem Flds.same {C : Addr} {H H' : Hp} {a : Addr} {bs : List Field} (h : Flds C H a bs) (s : Same H H') : Flds C H' a bs := by
  obtain ⟨as, h, k⟩ := h
  exact ⟨as, s _ _ h, k.mono fun a x z => z.same s⟩
theorem Objs.nil {α : Type} {R : Hp → Addr → α → Prop} {H : Hp} : Objs R H [] ([] : List α) := ⟨rfl, fun i a x e => by simp at e⟩
theorem Objs.snoc {α : Type} {R : Hp → Addr → α → Prop} {H : Hp} {as : List Addr} {xs : List α} {a : Addr} {x : α} (h : Objs R H as xs) (k : R H a x) : Objs R H (as ++ [a]) (xs ++ [x]) := by
  refine ⟨by simp [h.1], fun i b y e f => ?_⟩
  by_cases hi : i < as.length
  · rw [List.getElem?_append_left hi] at e
    rw [List.getElem?_append_left (by rw [← h.1]; exact hi)] at f
    exact h.2 i b y e f
  · have e1 : i < (as ++ [a]).length := (List.getElem?_eq_some_iff.mp e).1
    have e2 : i = as.length := by
      rw [List.length_append, List.length_singleton] at e1
      omega
    subst e2
    have ea : a = b := by simpa using e
    have ex : x = y := by
      rw [h.1] at f
      simpa using f
    rw [← ea, ← ex]
    exact k
theorem Objs.at {α : Type} {R : Hp → Addr → α → Prop} {H : Hp} {as : List Addr} {xs : List α} {i : Nat} {x : α} (h : Objs R H as xs) (e : xs[i]? = some x) : ∃ a, as[i]? = some a ∧ R H a x := by
  have hi : i < as.length := by
    rw [h.1]
    exact (List.getElem?_eq_some_iff.mp e).1
  exact ⟨as[i], List.getElem?_eq_getElem hi, h.2 i _ x (List.getElem?_eq_getElem hi) e⟩
theorem Objs.at' {α : Type} {R : Hp → Addr → α → Prop} {H : Hp} {as : List Addr} {xs : List α} {i : Nat} {a : Addr} (h : Objs R H as xs) (e : as[i]? = some a) : ∃ x, xs[i]? = some x ∧ R H a x := by
  have hi : i < xs.length := by
    rw [← h.1]
    exact (List.getElem?_eq_some_iff.mp e).1
  exact ⟨xs[i], List.getElem?_eq_getElem hi, h.2 i a _ e (List.getElem?_eq_getElem hi)⟩
theorem same_upd {H : Hp} {p : Addr} {o : HO} (h : H p = none) : Same H (upd H p o) := fun b u e => by
  rw [upd_ne (ne_of_none e h)]
  exact e
theorem same_up {H H' : Hp} {p : Addr} {o : HO} (s : Same H H') (h : H p = none) : Same H (upd H' p o) := fun b u e => by
  rw [upd_ne (ne_of_none e h)]
  exact s _ _ e
theorem q_of {Q : VK} {H : Hp} {v v' : V} (e : v = v') (q : Q v H) : Q v' H := by
  rw [← e]
  exact q
theorem tyes {σ : L2.St} {H : Hp} {A B : Hp → Prop} (h : A H) : tYes σ H (fun b H3 => if b = true then A H3 else B H3) := by
  show if true = true then A H else B H
  rw [if_pos rfl]
  exact h
theorem line1000 {n : Nat} (h : n ≤ 1000) : n < sizeLine := small1000 h
theorem line2000 {n : Nat} (h : n ≤ 2000) : n ≤ sizeLine := Nat.le_trans h (by decide)
theorem ref_at {as : List Addr} {i : Nat} {a : Addr} (h : as[i]? = some a) : (as.map V.ref)[i]? = some (.ref a) := by
  rw [List.getElem?_map, h]
  rfl
theorem take_more {α : Type} {l : List α} {i : Nat} {x : α} (h : l[i]? = some x) : l.take (i + 1) = l.take i ++ [x] := by
  rw [List.take_add_one, h]
  rfl

/-! ## fields' lookups -/
theorem fF_wanted (f : Field) : (fF f).lookup ("wanted" : Str) = some (vI f.wants) := lk_here
theorem fF_weight (f : Field) : (fF f).lookup ("weight" : Str) = some (vI f.weight) := (lk_past (by decide +kernel)).trans lk_here
theorem fF_harm (f : Field) : (fF f).lookup ("harm" : Str) = none := (lk_past (by decide +kernel)).trans ((lk_past (by decide +kernel)).trans rfl)
theorem bF_cost (b : Best) (q : Addr) : (bF b q).lookup ("cost" : Str) = some (vI b.cost) := lk_here
theorem bF_many (b : Best) (q : Addr) : (bF b q).lookup ("many" : Str) = some (vI b.many) := (lk_past (by decide +kernel)).trans lk_here
theorem bF_plan (b : Best) (q : Addr) : (bF b q).lookup ("plan" : Str) = some (.ref q) := (lk_past (by decide +kernel)).trans ((lk_past (by decide +kernel)).trans lk_here)

/-! ## what a def, a method, a class is to its callers -/
def Fn (P : Program) (w : World) (K : PySem.W.Frag) (mg : Str → Option Value) (base : Heap) (x : Str) (k : Nat) (ps : List Str) (sp : Sp) : Prop :=
  ∃ f fd, mg x = some (.ref f) ∧ PySem.W.keepIn K (.ref f) = true ∧ Binds K fd ps [] ∧ FnOk P w K mg base CX0 k f fd ps sp
def Mt (P : Program) (w : World) (K : PySem.W.Frag) (mg : Str → Option Value) (base : Heap) (C : Addr) (m : Str) (k : Nat) (ps : List Str) (sp : Sp) : Prop :=
  ∃ f fd, Meth K C m f ∧ Binds K fd ps [] ∧ FnOk P w K mg base CX0 k f fd ps sp
def Mkr (P : Program) (w : World) (K : PySem.W.Frag) (mg : Str → Option Value) (base : Heap) (x : Str) (C : Addr) (k : Nat) (ps : List Str) (sp : Sp) : Prop :=
  mg x = some (.ref C) ∧ ∃ f fd, Mk K C f ∧ Binds K fd ps [] ∧ FnOk P w K mg base CX0 k f fd ps sp
end CL

namespace CL
open PySem PySem.Spec PyProof.Rows L2
open Sj01 (Field Best Canal apart)

/-! ## promises: fields -/
def spFInit (C : Addr) : Sp := fun vs H Q _ => ∃ (p dx : Addr) (f : Field), vs = [.ref p, vI f.wants, vI f.weight] ∧ H p = some (.ins C dx []) ∧
  ∀ H' : Hp, FAt C H' p f → (∀ b o, H b = some o → b ≠ p → H' b = some o) → Q .non H'
def spHarm (C : Addr) : Sp := fun vs H Q _ => ∃ (a : Addr) (f : Field) (n : Nat), vs = [.ref a, vI n] ∧ FAt C H a f ∧ f.weight ≤ 100 ∧ Q (vI (harm f n)) H
def spIsLevel : Sp := fun vs H Q _ => ∃ n : Nat, vs = [vI n] ∧ Q (.bl (decide (n ≤ 40))) H
def spIsWeight : Sp := fun vs H Q _ => ∃ n : Nat, vs = [vI n] ∧ Q (.bl (decide (n ≤ 100))) H
def spLevels : Sp := fun vs H Q _ => vs = [] ∧ ∀ p, H p = none → Q (.ref p) (upd H p (.lst (vInts (List.range 41))))
def spBInit (C : Addr) : Sp := fun vs H Q _ => ∃ (p dx q : Addr) (c m : Nat), vs = [.ref p, vI c, vI m, .ref q] ∧ H p = some (.ins C dx []) ∧
  ∀ H' : Hp, H' p = some (.ins C dx [("cost", vI c), ("many", vI m), ("plan", .ref q)]) → (∀ b o, H b = some o → b ≠ p → H' b = some o) → Q .non H'

/-- a new object and its __init__ -/
theorem mk_best {C : Addr} {H1 : Hp} {c m : Nat} {q : Addr} {row : List Nat} {Q : VK} {E : XK} (hq : H1 q = some (.lst (vInts row))) (k : ∀ x H2, Same H1 H2 → BQ C H2 x ⟨c, m, row⟩ q → Q (.ref x) H2) :
    ∀ x dx, H1 x = none → H1 dx = none → dx ≠ x → spBInit C (.ref x :: ([vI c, vI m, .ref q] ++ [])) (upd (upd H1 dx (.own x)) x (.ins C dx [])) (fun v H2 => v = .non ∧ Q (.ref x) H2) E := by
  intro x dx nx nd ne
  refine ⟨x, dx, q, c, m, rfl, upd_same, fun H' h kp => ⟨rfl, ?_⟩⟩
  have s1 : Same H1 H' := Same.made nx nd kp
  exact k x H' s1 ⟨dx, h, s1 _ _ hq⟩
theorem mk_field {C : Addr} {H1 : Hp} {f : Field} {Q : VK} {E : XK} (k : ∀ x H2, Same H1 H2 → H1 x = none → FAt C H2 x f → Q (.ref x) H2) :
    ∀ x dx, H1 x = none → H1 dx = none → dx ≠ x → spFInit C (.ref x :: ([vI f.wants, vI f.weight] ++ [])) (upd (upd H1 dx (.own x)) x (.ins C dx [])) (fun v H2 => v = .non ∧ Q (.ref x) H2) E := by
  intro x dx nx nd ne
  refine ⟨x, dx, f, rfl, upd_same, fun H' h kp => ⟨rfl, ?_⟩⟩
  exact k x H' (Same.made nx nd kp) nx h

section
variable {P : Program} {w : World} {K : PySem.W.Frag} {mg : Str → Option Value} {base : Heap} {CF CB : Addr}
/-! ## class Field -/
theorem scFI : FnScope ["self", "wanted", "weight"] ["self", "wanted", "weight"] (defScope sFInit) := ⟨rfl, rfl, rfl, by decide +kernel, rfl, by decide +kernel, by decide +kernel⟩
theorem ok_finit {f : Addr} {fd : FuncData} (F : Fun K "__init__" "Field.__init__" sFInit f fd) (cl : Cls K CF) (n1 : NoAttr K CF "wanted") (n2 : NoAttr K CF "weight") : FnOk P w K mg base CX0 1 f fd ["self", "wanted", "weight"] (spFInit CF) := by
  refine F.ok scFI (fun vs H Q E h => ?_) (fun cdv A outer s H vs Q E hr h => ⟨_, pss_cons (ps_fld (pv 0) (pv 1) rfl) (pss_one (ps_fld (pv 0) (pv 2) rfl)), ?_⟩)
  · obtain ⟨p, dx, g, rfl, _⟩ := h
    rfl
  · obtain ⟨p, dx, g, rfl, hp, k⟩ := h
    refine ⟨_, rfl, _, rfl, p, CF, dx, [], rfl, hp, cl, n1, (by show 0 < 1000; decide), ?_⟩
    refine ⟨_, rfl, _, rfl, p, CF, dx, _, rfl, upd_same, cl, n2, (by show 1 < 1000; decide), ?_⟩
    refine k _ ⟨dx, Eq.trans upd_same (congrArg (fun q => some (HO.ins CF dx q)) ((put_past (by decide +kernel)).trans rfl))⟩ fun b o e hb => ?_
    rw [upd_ne hb, upd_ne hb]
    exact e
theorem abs_harm (f : Field) (n : Nat) : ((harm f n : Nat) : Int) = (f.weight : Int) * (if (n : Int) - (f.wants : Int) < 0 then -((n : Int) - (f.wants : Int)) else (n : Int) - (f.wants : Int)) := by
  unfold harm apart
  rw [Int.natCast_mul]
  congr 1
  split <;> omega
theorem scHa : FnScope ["self", "level"] ["self", "level"] (defScope sHarm) := ⟨rfl, rfl, rfl, by decide +kernel, rfl, by decide +kernel, by decide +kernel⟩
theorem ok_harm {f : Addr} {fd : FuncData} (F : Fun K "harm" "Field.harm" sHarm f fd) (cl : Cls K CF) (n1 : NoAttr K CF "wanted") (n2 : NoAttr K CF "weight") (mabs : mg "abs" = none) : FnOk P w K mg base CX0 1 f fd ["self", "level"] (spHarm CF) := by
  refine F.ok scHa (fun vs H Q E h => ?_) (fun cdv A outer s H vs Q E hr h => ⟨_, pss_one (ps_ret (pe_op op_mul (pe_fld (pv 0) rfl) (pe_callB call_abs (by rfl) mabs (by decide +kernel) (pa_cons (pe_op op_sub (pv 1) (pe_fld (pv 0) rfl)) pa_nil)))), ?_⟩)
  · obtain ⟨p, g, n, rfl, _⟩ := h
    rfl
  · obtain ⟨a, g, n, rfl, ⟨dx, ha⟩, hw, q⟩ := h
    refine ⟨_, rfl, a, CF, dx, _, _, rfl, ha, cl, n2, fF_weight g, ?_⟩
    refine ⟨_, rfl, _, rfl, a, CF, dx, _, _, rfl, ha, cl, n1, fF_wanted g, _, _, rfl, rfl, _, rfl, ?_⟩
    exact ⟨_, _, rfl, rfl, .inl ⟨by omega, by omega⟩, q_of (congrArg V.int (abs_harm g n)) q⟩
/-! ## is_level, is_weight, levels -/
theorem scIL : FnScope ["number"] ["number"] (defScope sIsLevel) := ⟨rfl, rfl, rfl, by decide +kernel, rfl, by decide +kernel, by decide +kernel⟩
theorem ok_islevel {f : Addr} {fd : FuncData} {t : Tok} (F : Fun K "is_level" "is_level" sIsLevel f fd) (m : mg "MOST_LEVEL" = some (.int 40 t)) : FnOk P w K mg base CX0 1 f fd ["number"] spIsLevel := by
  refine F.ok scIL (fun vs H Q E h => ?_) (fun cdv A outer s H vs Q E hr h => ⟨_, pss_one (ps_ret (pe_cmpR op_le (pv 0) (pe_glob (v := .int 40) rfl m ⟨_, rfl⟩) (nomark _))), ?_⟩)
  · obtain ⟨n, rfl, _⟩ := h
    rfl
  · obtain ⟨n, rfl, q⟩ := h
    exact ⟨_, rfl, _, _, rfl, rfl, q_of (congrArg V.bl (decide_eq_decide.mpr (by omega))) q⟩
theorem scIW : FnScope ["number"] ["number"] (defScope sIsWeight) := ⟨rfl, rfl, rfl, by decide +kernel, rfl, by decide +kernel, by decide +kernel⟩
theorem ok_isweight {f : Addr} {fd : FuncData} {t : Tok} (F : Fun K "is_weight" "is_weight" sIsWeight f fd) (m : mg "MOST_WEIGHT" = some (.int 100 t)) : FnOk P w K mg base CX0 1 f fd ["number"] spIsWeight := by
  refine F.ok scIW (fun vs H Q E h => ?_) (fun cdv A outer s H vs Q E hr h => ⟨_, pss_one (ps_ret (pe_cmpR op_le (pv 0) (pe_glob (v := .int 100) rfl m ⟨_, rfl⟩) (nomark _))), ?_⟩)
  · obtain ⟨n, rfl, _⟩ := h
    rfl
  · obtain ⟨n, rfl, q⟩ := h
    exact ⟨_, rfl, _, _, rfl, rfl, q_of (congrArg V.bl (decide_eq_decide.mpr (by omega))) q⟩
theorem rgV41 : rgV 0 41 = vInts (List.range 41) := by
  unfold rgV vInts
  refine List.map_congr_left fun i _ => ?_
  show V.int (0 + (i : Int)) = V.int (i : Int)
  rw [Int.zero_add]
theorem scLv : FnScope [] [] (defScope sLevels) := ⟨rfl, rfl, rfl, by decide +kernel, rfl, by decide +kernel, by decide +kernel⟩
theorem ok_levels {f : Addr} {fd : FuncData} {t : Tok} (F : Fun K "levels" "levels" sLevels f fd) (m : mg "MOST_LEVEL" = some (.int 40 t)) (ml : mg "list" = none) (mr : mg "range" = none) : FnOk P w K mg base CX0 1 f fd [] spLevels := by
  refine F.ok scLv (fun vs H Q E h => ?_) (fun cdv A outer s H vs Q E hr h => ⟨_, pss_one (ps_ret (pe_listRg rfl (by rfl) ml (prg_1 (by rfl) mr (pe_op op_add (pe_glob (v := .int 40) rfl m ⟨_, rfl⟩) pe_int)))), ?_⟩)
  · obtain ⟨rfl, _⟩ := h
    rfl
  · obtain ⟨rfl, q⟩ := h
    refine ⟨_, _, rfl, rfl, _, rfl, RgOk.of_le (by decide) (by decide) (by decide) (by decide), fun p hp => ?_⟩
    have e : rgV 0 ((fun i j : Int => i + j) 40 1) = vInts (List.range 41) := rgV41
    show Q (.ref p) (upd H p (.lst (rgV 0 ((fun i j : Int => i + j) 40 1))))
    rw [e]
    exact q p hp
/-! ## class Best -/
theorem scBI : FnScope ["self", "cost", "many", "plan"] ["self", "cost", "many", "plan"] (defScope sBInit) := ⟨rfl, rfl, rfl, by decide +kernel, rfl, by decide +kernel, by decide +kernel⟩
theorem ok_binit {f : Addr} {fd : FuncData} (F : Fun K "__init__" "Best.__init__" sBInit f fd) (cl : Cls K CB) (n1 : NoAttr K CB "cost") (n2 : NoAttr K CB "many") (n3 : NoAttr K CB "plan") : FnOk P w K mg base CX0 1 f fd ["self", "cost", "many", "plan"] (spBInit CB) := by
  refine F.ok scBI (fun vs H Q E h => ?_) (fun cdv A outer s H vs Q E hr h => ⟨_, pss_cons (ps_fld (pv 0) (pv 1) rfl) (pss_cons (ps_fld (pv 0) (pv 2) rfl) (pss_one (ps_fld (pv 0) (pv 3) rfl))), ?_⟩)
  · obtain ⟨p, dx, q, c, m, rfl, _⟩ := h
    rfl
  · obtain ⟨p, dx, q, c, m, rfl, hp, k⟩ := h
    refine ⟨_, rfl, _, rfl, p, CB, dx, [], rfl, hp, cl, n1, (by show 0 < 1000; decide), ?_⟩
    refine ⟨_, rfl, _, rfl, p, CB, dx, _, rfl, upd_same, cl, n2, (by show 1 < 1000; decide), ?_⟩
    have e1 : putF "many" (vI m) (putF "cost" (vI c) []) = ([("cost", vI c), ("many", vI m)] : List (Str × V)) := (put_past (by decide +kernel)).trans rfl
    refine ⟨_, rfl, _, rfl, p, CB, dx, [("cost", vI c), ("many", vI m)], rfl, upd_same.trans (congrArg (fun q => some (HO.ins CB dx q)) e1), cl, n3, (by show 2 < 1000; decide), ?_⟩
    refine k _ (Eq.trans upd_same (congrArg (fun q => some (HO.ins CB dx q)) ((put_past (by decide +kernel)).trans (congrArg _ ((put_past (by decide +kernel)).trans rfl))))) fun b o e hb => ?_
    rw [upd_ne hb, upd_ne hb, upd_ne hb]
    exact e
end
end CL

namespace CL
open PySem PySem.Spec PyProof.Rows L2
open Sj01 (Field Best Canal apart)
def spLeast (C : Addr) : Sp := fun vs H Q _ => ∃ (r : Addr) (bs : List Best), vs = [.ref r] ∧ CL.Rows C H r bs ∧ bs ≠ [] ∧ bs.length ≤ 1000 ∧
  ∀ (m : Nat) (H' : Hp), Same H H' → m ∈ bs.map (·.cost) → (∀ y ∈ bs.map (·.cost), m ≤ y) → Q (vI m) H'
def spTog (C : Addr) : Sp := fun vs H Q _ => ∃ (r : Addr) (bs : List Best), vs = [.ref r] ∧ CL.Rows C H r bs ∧ bs ≠ [] ∧ bs.length ≤ 1000 ∧
  ∀ (x q : Addr) (H' : Hp), Same H H' → BQ C H' x (tog bs) q → H q = none → Q (.ref x) H'
section
variable {P : Program} {w : World} {K : PySem.W.Frag} {mg : Str → Option Value} {base : Heap} {CF CB : Addr}
structure TB (K : PySem.W.Frag) (C : Addr) : Prop where
  cl : Cls K C
  nC : NoAttr K C "cost"
  nM : NoAttr K C "many"
  nP : NoAttr K C "plan"
theorem scLe : FnScope ["rows", "one"] ["rows"] (defScope sLeast) := ⟨rfl, rfl, rfl, by decide +kernel, rfl, by decide +kernel, by decide +kernel⟩
theorem ok_least {f : Addr} {fd : FuncData} (F : Fun K "least_cost" "least_cost" sLeast f fd) (T : TB K CB) (mm : mg "min" = none) : FnOk P w K mg base CX0 1 f fd ["rows"] (spLeast CB) := by
  refine F.ok scLe (fun vs H Q E h => ?_) (fun cdv A outer s H vs Q E hr h => ⟨_, pss_one (ps_ret (pe_callB (cr_min rfl) (by rfl) mm (by decide +kernel) (pa_cons (pe_lc (own := [("one", 1)]) (g := gName 1) (tt := tYes) (te := tFld K (tVar 1) "cost") rfl scLe.nd (pi_list (pv 0)) (blkOk_by (own := [("one", 1)]) (N := ["rows", "one"]) (sc := defScope sLeast) (by decide +kernel)) (fun _ _ _ _ _ => pg_name (i := 1) scLe.nd rfl (Or.inl rfl)) (fun _ _ _ _ _ => pts_nil) (fun _ _ _ _ _ => pe_fld (pv 1) rfl)) pa_nil))), ?_⟩)
  · obtain ⟨r, bs, rfl, _⟩ := h
    rfl
  · obtain ⟨r, bs, rfl, ⟨as, hr0, ho⟩, hne, hl, k⟩ := h
    refine ⟨_, rfl, r, rfl, ⟨_, SqL.of hr0⟩, fun D hD => lc_list (K := K) (a := r) (xs := as.map V.ref) (fun i H' => Same H H' ∧ H' D = some (.lst (vInts ((bs.take i).map (·.cost))))) ⟨same_upd hD, upd_same⟩ (fun i H' _ p => SqL.of (p.1 _ _ hr0)) ?_ ?_⟩
    · rintro i x H' hx ⟨s1, hD1⟩
      obtain ⟨a, ha, rfl⟩ := refs_of hx
      obtain ⟨b, hb, q, dx, h1, h2⟩ := ho.at' ha
      refine ⟨rfl, tyes ?_⟩
      refine ⟨_, rfl, a, CB, dx, _, _, rfl, s1 _ _ h1, T.cl, T.nC, bF_cost b q, _, hD1, ?_, same_up s1 hD, ?_⟩
      · rw [vInts_len, List.length_map, List.length_take]
        exact line1000 (by omega)
      · rw [upd_same, take_more hb]
        unfold vInts
        rw [List.map_append, List.map_append]
        rfl
    · rintro H' ⟨s1, hD1⟩
      rw [List.length_map, ho.1, List.take_length, ← vInts_nats] at hD1
      refine ⟨D, _, rfl, SqL.of hD1, ?_, fun m hm hle => ?_⟩
      · unfold nats
        rw [List.length_map, List.length_map]
        exact List.length_pos_iff.mpr hne
      · obtain ⟨n, hn, rfl⟩ := List.mem_map.mp hm
        exact k n H' s1 hn fun y hy => by
          have := hle (y : Int) (List.mem_map.mpr ⟨y, hy, rfl⟩)
          omega
end
end CL

namespace CL
open PySem PySem.Spec PyProof.Rows L2
open Sj01 (Field Best Canal apart)
section
variable {P : Program} {w : World} {K : PySem.W.Frag} {mg : Str → Option Value} {base : Heap} {CF CB : Addr}
theorem scTo : FnScope ["rows", "cost", "some", "one"] ["rows"] (defScope sTog) := ⟨rfl, rfl, rfl, by decide +kernel, rfl, by decide +kernel, by decide +kernel⟩
theorem vI_inj {a b : Nat} (h : vI a = vI b) : a = b := by
  have := V.int.inj h
  omega
theorem sum_nats : ∀ l : List Nat, (nats l).sum = (l.sum : Int)
  | [] => rfl
  | x :: r => by
    show ((x : Int) :: nats r).sum = ((x :: r).sum : Int)
    rw [List.sum_cons, sum_nats r, List.sum_cons, Int.natCast_add]
theorem filter_turn {α : Type} {l : List α} {p : α → Bool} {i : Nat} {x : α} (h : l[i]? = some x) : (l.take (i + 1)).filter p = (l.take i).filter p ++ (if p x = true then [x] else []) := by
  rw [take_more h, List.filter_append]
  congr 1
  by_cases c : p x = true
  · rw [if_pos c, List.filter_cons_of_pos c]
    rfl
  · rw [if_neg c, List.filter_cons_of_neg c]
    rfl
theorem ok_tog {f : Addr} {fd : FuncData} (F : Fun K "together" "together" sTog f fd) (T : TB K CB) (ms : mg "sum" = none) (ml : mg "list" = none)
    (gL : Fn P w K mg base "least_cost" 1 ["rows"] (spLeast CB)) (gB : Mkr P w K mg base "Best" CB 1 ["self", "cost", "many", "plan"] (spBInit CB)) : FnOk P w K mg base CX0 3 f fd ["rows"] (spTog CB) := by
  obtain ⟨fL, fdL, mL, kL, bL, GL⟩ := gL
  obtain ⟨mB, fB, fdB, MB, bB, GB⟩ := gB
  refine F.ok scTo (fun vs H Q E h => ?_) (fun cdv A outer s H vs Q E hr h => ⟨_, pss_cons (ps_set (i := 1) scTo.nd rfl (Or.inr rfl) (pe_call GL (hr.mono (by decide)) rfl mL kL bL .nil pass0 (pa_cons (pv 0) pa_nil)))
    (pss_cons (ps_setLc (i := 2) (own := [("one", 3)]) (g := gName 3) (tt := tTest (tOp rEq (tFld K (tVar 3) "cost") (tVar 1))) (te := tVar 3) rfl scTo.nd rfl rfl (sw_true rfl rfl rfl (by decide +kernel)) (pi_list (pv 0)) (blkOk_by (own := [("one", 3)]) (N := ["rows", "cost", "some", "one"]) (sc := defScope sTog) (by decide +kernel)) (fun _ _ _ _ _ => pg_name (i := 3) scTo.nd rfl (Or.inl rfl)) (fun _ _ _ _ _ => pts_one (pt_cmpR op_eq (pe_fld (pv 3) rfl) (pv 1) (nomark _))) (fun _ _ _ _ _ => pv 3))
    (pss_one (ps_ret (pe_make MB GB hr rfl mB bB .nil pass0 (pa_cons (pv 1) (pa_cons (pe_callB (cr_sum rfl) (by rfl) ms (by decide +kernel) (pa_cons (pe_lc (own := [("one", 3)]) (g := gName 3) (tt := tYes) (te := tFld K (tVar 3) "many") rfl scTo.nd (pi_list (pv 2)) (blkOk_by (own := [("one", 3)]) (N := ["rows", "cost", "some", "one"]) (sc := defScope sTog) (by decide +kernel)) (fun _ _ _ _ _ => pg_name (i := 3) scTo.nd rfl (Or.inl rfl)) (fun _ _ _ _ _ => pts_nil) (fun _ _ _ _ _ => pe_fld (pv 3) rfl)) pa_nil)) (pa_cons (pe_callTy call_list_of (by rfl) ml (by decide +kernel) (pa_cons (pe_fld (pe_ix ix_list (pv 2) pe_int (fun _ _ => rfl)) rfl) pa_nil)) pa_nil))))))), ?_⟩)
  · obtain ⟨r, bs, rfl, _⟩ := h
    rfl
  · obtain ⟨r, bs, rfl, hR, hne, hl, k⟩ := h
    -- cost = least_cost(rows)
    refine ⟨_, rfl, r, bs, rfl, hR, hne, hl, fun m H1 s1 hm hle => ?_⟩
    obtain ⟨tc, tm, b0, hb0, tr⟩ := tog_by hm hle
    obtain ⟨as, hr0, ho⟩ := hR
    -- some = [one for one in rows if one.cost == cost]
    refine ⟨_, rfl, r, rfl, ⟨_, SqL.of (s1 _ _ hr0)⟩, fun D hD => lc_list (K := K) (a := r) (xs := as.map V.ref) (fun i H' => Same H1 H' ∧ ∃ as', H' D = some (.lst (as'.map V.ref)) ∧ Objs (BAt CB) H as' ((bs.take i).filter fun y => decide (y.cost = m)))
      ⟨same_upd hD, [], upd_same, Objs.nil⟩ (fun i H' _ p => SqL.of (p.1 _ _ (s1 _ _ hr0))) ?_ ?_⟩
    · rintro i x H' hx ⟨s2, as', hD2, ho2⟩
      obtain ⟨a, ha, rfl⟩ := refs_of hx
      obtain ⟨b, hb, q, dx, h1, h2⟩ := ho.at' ha
      refine ⟨rfl, ?_⟩
      refine ⟨_, rfl, a, CB, dx, _, _, rfl, s2 _ _ (s1 _ _ h1), T.cl, T.nC, bF_cost b q, _, rfl, rfl, _, rfl, ?_⟩
      refine ite2 (fun hc => ?_) (fun hc => ?_)
      · have ec : b.cost = m := vI_inj (of_decide_eq_true hc)
        refine ⟨_, rfl, _, hD2, ?_, same_up s2 hD, as' ++ [a], ?_, ?_⟩
        · have e1 := ho2.1
          have e2 := List.length_filter_le (fun y : Best => decide (y.cost = m)) (bs.take i)
          rw [List.length_take] at e2
          rw [List.length_map]
          exact line1000 (by omega)
        · rw [upd_same, List.map_append]
          rfl
        · rw [filter_turn hb, if_pos (decide_eq_true ec)]
          exact ho2.snoc ⟨q, dx, h1, h2⟩
      · have ec : ¬ b.cost = m := fun z => hc (decide_eq_true (by rw [z]))
        refine ⟨s2, as', hD2, ?_⟩
        rw [filter_turn hb, if_neg (by simpa using ec), List.append_nil]
        exact ho2
    · rintro H2 ⟨s2, as', hD2, ho2⟩
      rw [List.length_map, ho.1, List.take_length] at ho2
      generalize hfl : (bs.filter fun y => decide (y.cost = m)) = fl at ho2 tm hb0
      have s12 : Same H H2 := s1.trans s2
      have lfl : fl.length ≤ 1000 := by
        rw [← hfl]
        exact Nat.le_trans (List.length_filter_le _ _) hl
      -- Best(cost, sum([one.many for one in some]), list(some[0].plan))
      refine ⟨_, rfl, ?_⟩
      refine ⟨_, rfl, D, rfl, ⟨_, SqL.of hD2⟩, fun D3 hD3 => lc_list (K := K) (a := D) (xs := as'.map V.ref) (fun i H' => Same H2 H' ∧ H' D3 = some (.lst (vInts ((fl.take i).map (·.many))))) ⟨same_upd hD3, upd_same⟩ (fun i H' _ p => SqL.of (p.1 _ _ hD2)) ?_ ?_⟩
      · rintro i x H' hx ⟨s3, hD4⟩
        obtain ⟨a, ha, rfl⟩ := refs_of hx
        obtain ⟨b, hb, q, dx, h1, h2⟩ := ho2.at' ha
        refine ⟨rfl, tyes ?_⟩
        refine ⟨_, rfl, a, CB, dx, _, _, rfl, s3 _ _ (s12 _ _ h1), T.cl, T.nM, bF_many b q, _, hD4, ?_, same_up s3 hD3, ?_⟩
        · rw [vInts_len, List.length_map, List.length_take]
          exact line1000 (by omega)
        · rw [upd_same, take_more hb]
          unfold vInts
          rw [List.map_append, List.map_append]
          rfl
      · rintro H3 ⟨s3, hD4⟩
        rw [List.length_map, ho2.1, List.take_length, ← vInts_nats] at hD4
        refine ⟨D3, _, rfl, SqL.of hD4, ?_⟩
        have hf0 : fl[0]? = some b0 := by
          rw [← List.head?_eq_getElem?]
          exact hb0
        obtain ⟨a0, ha0, q0, dx0, h10, h20⟩ := ho2.at hf0
        refine ⟨_, rfl, D, _, _, _, rfl, rfl, SqL.of (s3 _ _ hD2), atI_nat (j := 0) (ref_at ha0), a0, CB, dx0, _, _, rfl, s3 _ _ (s12 _ _ h10), T.cl, T.nP, bF_plan b0 q0, q0, _, rfl, .inl (SqL.of (s3 _ _ (s12 _ _ h20))), fun l hl0 => ?_⟩
        have e1 : V.int ((nats (fl.map (·.many))).sum) = vI (tog bs).many := by
          rw [sum_nats, tm]
          rfl
        rw [e1, ← tc]
        refine mk_best (row := b0.row) upd_same fun x H5 s5 hB => ?_
        have s05 : Same H H3 := s12.trans s3
        refine k x l H5 (s05.trans ((same_upd hl0).trans s5)) ?_ (s05.free hl0)
        have e2 : tog bs = ⟨(tog bs).cost, (tog bs).many, b0.row⟩ := by
          rw [← tr]
        rw [e2]
        exact hB
end
end CL

namespace CL
open PySem PySem.Spec PyProof.Rows L2
open Sj01 (Field Best Canal apart)
def spBegun (CF CB : Addr) : Sp := fun vs H Q _ => ∃ (fa ba : Addr) (f : Field) (n : Nat) (b : Best), vs = [.ref fa, vI n, .ref ba] ∧ FAt CF H fa f ∧ f.weight ≤ 100 ∧ BAt CB H ba b ∧ b.row.length ≤ 1000 ∧
  ∀ (x q : Addr) (H' : Hp), Same H H' → BQ CB H' x (begun f n b) q → H q = none → Q (.ref x) H'
def spWeir (CB : Addr) : Sp := fun vs H Q _ => ∃ (wr n m : Nat) (ba q : Addr) (b : Best), vs = [vI wr, .ref ba, vI n, vI m] ∧ BQ CB H ba b q ∧
  ∀ (x : Addr) (H' : Hp), Same H H' → BQ CB H' x (weired wr b n m) q → Q (.ref x) H'
def spBehind (CB : Addr) : Sp := fun vs H Q _ => ∃ (wr n : Nat) (r : Addr) (bs : List Best), vs = [vI wr, .ref r, vI n] ∧ CL.Rows CB H r bs ∧ n < bs.length ∧ bs.length ≤ 41 ∧
  ∀ (x q : Addr) (H' : Hp), Same H H' → BQ CB H' x (behind wr bs n) q → H q = none → Q (.ref x) H'
def spLast (CF CB : Addr) : Sp := fun vs H Q _ => ∃ (fa : Addr) (f : Field), vs = [.ref fa] ∧ FAt CF H fa f ∧ f.weight ≤ 100 ∧
  ∀ (r : Addr) (H' : Hp), Same H H' → CL.Rows CB H' r (lastRows f) → Q (.ref r) H'
def spAhead (CF CB : Addr) : Sp := fun vs H Q _ => ∃ (fa r : Addr) (f : Field) (wr k : Nat) (bs : List Best), vs = [.ref fa, vI wr, .ref r] ∧ FAt CF H fa f ∧ f.weight ≤ 100 ∧ CL.Rows CB H r bs ∧ bs.length = 41 ∧ k ≤ 1000 ∧ (∀ b ∈ bs, b.row.length = k) ∧
  ∀ (r' : Addr) (H' : Hp), Same H H' → CL.Rows CB H' r' (rowsAhead f wr bs) → Q (.ref r') H'
/-- one object more in the list that is made -/
theorem push {C D : Addr} {H' H3 : Hp} {as : List Addr} {xs : List Best} {x q : Addr} {b : Best} (ho : Objs (BD C D) H' as xs) (s : Same H' H3) (hD : H' D = some (.lst (as.map V.ref))) (hB : BQ C H3 x b q) (hq : q ≠ D) :
    ∃ as', upd H3 D (.lst (as.map V.ref ++ [.ref x])) D = some (.lst (as'.map V.ref)) ∧ Objs (BD C D) (upd H3 D (.lst (as.map V.ref ++ [.ref x]))) as' (xs ++ [b]) := by
  refine ⟨as ++ [x], ?_, ?_⟩
  · rw [upd_same, List.map_append]
    rfl
  · exact (ho.mono fun a y z => (z.same s).upd (s _ _ hD)).snoc (BD.upd ⟨q, hB, hq⟩ (s _ _ hD))
theorem objs_rows {C D : Addr} {H : Hp} {as : List Addr} {xs : List Best} (hD : H D = some (.lst (as.map V.ref))) (ho : Objs (BD C D) H as xs) : CL.Rows C H D xs := ⟨as, hD, ho.1, fun i a x e f => let ⟨q, z, _⟩ := ho.2 i a x e f; ⟨q, z⟩⟩
section
variable {P : Program} {w : World} {K : PySem.W.Frag} {mg : Str → Option Value} {base : Heap} {CF CB : Addr}
theorem scBe : FnScope ["field", "level", "behind"] ["field", "level", "behind"] (defScope sBegun) := ⟨rfl, rfl, rfl, by decide +kernel, rfl, by decide +kernel, by decide +kernel⟩
theorem ok_begun {f : Addr} {fd : FuncData} (F : Fun K "begun" "begun" sBegun f fd) (T : TB K CB) (clF : Cls K CF)
    (gH : Mt P w K mg base CF "harm" 1 ["self", "level"] (spHarm CF)) (gB : Mkr P w K mg base "Best" CB 1 ["self", "cost", "many", "plan"] (spBInit CB)) : FnOk P w K mg base CX0 3 f fd ["field", "level", "behind"] (spBegun CF CB) := by
  obtain ⟨fH, fdH, mH, bH, GH⟩ := gH
  obtain ⟨mB, fB, fdB, MB, bB, GB⟩ := gB
  refine F.ok scBe (fun vs H Q E h => ?_) (fun cdv A outer s H vs Q E hr h => ⟨_, pss_one (ps_ret (pe_make MB GB hr rfl mB bB .nil pass0 (pa_cons (pe_op op_add (pe_meth (pv 0) clF mH GH (hr.mono (by decide)) bH .nil pass0 (pa_cons (pv 1) pa_nil)) (pe_fld (pv 2) rfl)) (pa_cons (pe_fld (pv 2) rfl) (pa_cons (pe_op op_cat (pe_lst (pa_cons (pv 1) pa_nil)) (pe_fld (pv 2) rfl)) pa_nil))))), ?_⟩)
  · obtain ⟨fa, ba, g, n, b, rfl, _⟩ := h
    rfl
  · obtain ⟨fa, ba, g, n, b, rfl, ⟨df, hf⟩, hw, ⟨q0, db, h1, h2⟩, hl, k⟩ := h
    refine ⟨_, rfl, fa, df, _, rfl, hf, fF_harm g, _, rfl, fa, g, n, rfl, ⟨df, hf⟩, hw, ?_⟩
    refine ⟨_, rfl, ba, CB, db, _, _, rfl, h1, T.cl, T.nC, bF_cost b q0, _, _, rfl, rfl, ?_⟩
    refine ⟨_, rfl, ba, CB, db, _, _, rfl, h1, T.cl, T.nM, bF_many b q0, ?_⟩
    refine ⟨_, rfl, (by show 1 ≤ sizeLine; decide), fun p hp => ?_⟩
    have s1 : Same H (upd H p (.lst [vI n])) := same_upd hp
    refine ⟨_, rfl, ba, CB, db, _, _, rfl, s1 _ _ h1, T.cl, T.nP, bF_plan b q0, p, q0, _, _, rfl, rfl, upd_same, s1 _ _ h2, ?_, fun p2 hp2 => ?_⟩
    · show 1 + (vInts b.row).length ≤ sizeLine
      rw [vInts_len]
      exact line2000 (by omega)
    · refine mk_best (c := harm g n + b.cost) (m := b.many) (row := n :: b.row) upd_same fun x H5 s5 hB => ?_
      exact k x p2 H5 (s1.trans ((same_upd hp2).trans s5)) hB (s1.free hp2)
theorem scWe : FnScope ["weir", "one", "level", "lower"] ["weir", "one", "level", "lower"] (defScope sWeir) := ⟨rfl, rfl, rfl, by decide +kernel, rfl, by decide +kernel, by decide +kernel⟩
theorem ok_weir {f : Addr} {fd : FuncData} (F : Fun K "with_weir" "with_weir" sWeir f fd) (T : TB K CB) (gB : Mkr P w K mg base "Best" CB 1 ["self", "cost", "many", "plan"] (spBInit CB)) : FnOk P w K mg base CX0 3 f fd ["weir", "one", "level", "lower"] (spWeir CB) := by
  obtain ⟨mB, fB, fdB, MB, bB, GB⟩ := gB
  refine F.ok scWe (fun vs H Q E h => ?_) (fun cdv A outer s H vs Q E hr h => ⟨_, pss_cons (ps_if (pt_cmpR op_eq (pv 3) (pv 2) (nomark _)) (pss_one (ps_ret (pv 1))) pss_nil) (pss_one (ps_ret (pe_make MB GB hr rfl mB bB .nil pass0 (pa_cons (pe_op op_add (pe_fld (pv 1) rfl) (pv 0)) (pa_cons (pe_fld (pv 1) rfl) (pa_cons (pe_fld (pv 1) rfl) pa_nil)))))), ?_⟩)
  · obtain ⟨wr, n, m, ba, q, b, rfl, _⟩ := h
    rfl
  · obtain ⟨wr, n, m, ba, q, b, rfl, ⟨db, h1, h2⟩, k⟩ := h
    refine ⟨_, rfl, _, rfl, rfl, _, rfl, ?_⟩
    refine ite2 (fun hc => ?_) (fun hc => ?_)
    · have ec : m = n := vI_inj (of_decide_eq_true hc)
      refine ⟨_, rfl, k ba H (Same.refl H) ?_⟩
      unfold weired
      rw [if_pos ec]
      exact ⟨db, h1, h2⟩
    · have ec : ¬ m = n := fun z => hc (decide_eq_true (by rw [z]))
      refine ⟨_, rfl, ba, CB, db, _, _, rfl, h1, T.cl, T.nC, bF_cost b q, _, rfl, _, _, rfl, rfl, ?_⟩
      refine ⟨_, rfl, ba, CB, db, _, _, rfl, h1, T.cl, T.nM, bF_many b q, ?_⟩
      refine ⟨_, rfl, ba, CB, db, _, _, rfl, h1, T.cl, T.nP, bF_plan b q, ?_⟩
      refine mk_best (c := b.cost + wr) (m := b.many) (row := b.row) h2 fun x H5 s5 hB => k x H5 s5 ?_
      unfold weired
      rw [if_neg ec]
      exact hB
theorem scBl : FnScope ["weir", "rows", "level", "lower"] ["weir", "rows", "level"] (defScope sBehind) := ⟨rfl, rfl, rfl, by decide +kernel, rfl, by decide +kernel, by decide +kernel⟩
theorem ok_behind {f : Addr} {fd : FuncData} (F : Fun K "behind_level" "behind_level" sBehind f fd) (mr : mg "range" = none)
    (gW : Fn P w K mg base "with_weir" 3 ["weir", "one", "level", "lower"] (spWeir CB)) (gT : Fn P w K mg base "together" 3 ["rows"] (spTog CB)) : FnOk P w K mg base CX0 4 f fd ["weir", "rows", "level"] (spBehind CB) := by
  obtain ⟨fW, fdW, mW, kW, bW, GW⟩ := gW
  obtain ⟨fT, fdT, mT, kT, bT, GT⟩ := gT
  refine F.ok scBl (fun vs H Q E h => ?_) (fun cdv A outer s H vs Q E hr h => ⟨_, pss_one (ps_ret (pe_call GT hr rfl mT kT bT .nil pass0 (pa_cons (pe_lc (own := [("lower", 3)]) (g := gName 3) (tt := tYes) (te := tCall (spWeir CB) [] E0 (tCons (tVar 0) (tCons (tOp (rIxL K) (tVar 1) (tVar 3)) (tCons (tVar 2) (tCons (tVar 3) tNil))))) rfl scBl.nd (pi_range1 (by rfl) mr (pa_cons (pe_op op_add (pv 2) pe_int) pa_nil)) (blkOk_by (own := [("lower", 3)]) (N := ["weir", "rows", "level", "lower"]) (sc := defScope sBehind) (by decide +kernel)) (fun _ _ _ _ _ => pg_name (i := 3) scBl.nd rfl (Or.inl rfl)) (fun _ _ _ _ _ => pts_nil) (fun _ _ _ _ _ => pe_call GW hr rfl mW kW bW .nil pass0 (pa_cons (pv 0) (pa_cons (pe_ix ix_list (pv 1) (pv 3) (fun _ _ => rfl)) (pa_cons (pv 2) (pa_cons (pv 3) pa_nil)))))) pa_nil))), ?_⟩)
  · obtain ⟨wr, n, r, bs, rfl, _⟩ := h
    rfl
  · obtain ⟨wr, n, r, bs, rfl, ⟨as, hr0, ho⟩, hn, hl, k⟩ := h
    have en : ((n : Int) + 1).toNat = n + 1 := by omega
    refine ⟨_, rfl, _, _, rfl, rfl, _, rfl, (by show -(2 ^ 62) ≤ (n : Int) + 1; omega), (by show (n : Int) + 1 < 2 ^ 62; omega), fun D hD => lc_range (lo := 0) (n := ((n : Int) + 1).toNat) (fun i H' => Same H H' ∧ ∃ as', H' D = some (.lst (as'.map V.ref)) ∧ Objs (BD CB D) H' as' (((List.range (n + 1)).map fun m => weired wr (bs.getD m one0) n m).take i))
      ⟨same_upd hD, [], upd_same, Objs.nil⟩ ?_ ?_⟩
    · rintro i H' hi ⟨s1, as', hD1, ho1⟩
      rw [en] at hi
      have e0 : V.int (0 + (i : Int)) = vI i := by
        unfold vI
        rw [Int.zero_add]
      rw [e0]
      have hi2 : i < bs.length := by omega
      obtain ⟨ba, hba, q, db, h1, h2⟩ := ho.at (List.getElem?_eq_getElem hi2)
      have eg : bs.getD i one0 = bs[i] := by
        rw [List.getD_eq_getElem?_getD, List.getElem?_eq_getElem hi2]
        rfl
      have hq : q ≠ D := ne_of_none h2 hD
      refine ⟨rfl, tyes ?_⟩
      refine ⟨_, rfl, _, rfl, _, rfl, r, _, _, _, rfl, rfl, SqL.of (s1 _ _ hr0), atI_nat (ref_at hba), _, rfl, _, rfl, wr, n, i, ba, q, bs[i], rfl, ⟨db, s1 _ _ h1, s1 _ _ h2⟩, fun x H2 s2 hB => ?_⟩
      obtain ⟨as2, p1, p2⟩ := push ho1 s2 hD1 hB hq
      refine ⟨_, s2 _ _ hD1, ?_, same_up (s1.trans s2) hD, as2, p1, ?_⟩
      · have e1 := ho1.1
        rw [List.length_take] at e1
        rw [List.length_map]
        exact line1000 (by omega)
      · have e2 : ((List.range (n + 1)).map fun m => weired wr (bs.getD m one0) n m)[i]? = some (weired wr bs[i] n i) := by
          rw [List.getElem?_map, List.getElem?_range hi]
          show some (weired wr (bs.getD i one0) n i) = _
          rw [eg]
        rw [take_more e2]
        exact p2
    · rintro H' ⟨s1, as', hD1, ho1⟩
      have e1 : (((List.range (n + 1)).map fun m => weired wr (bs.getD m one0) n m).take ((n : Int) + 1).toNat) = (List.range (n + 1)).map fun m => weired wr (bs.getD m one0) n m := by
        rw [en]
        exact List.take_of_length_le (by simp)
      rw [e1] at ho1
      refine ⟨D, _, rfl, objs_rows hD1 ho1, range_succ_map_ne n _, ?_, fun x q H2 s2 hB hq => ?_⟩
      · rw [List.length_map, List.length_range]
        omega
      · exact k x q H2 (s1.trans s2) hB (s1.free hq)
theorem vInts_range {n i : Nat} {x : V} (h : (vInts (List.range n))[i]? = some x) : i < n ∧ x = vI i := by
  obtain ⟨m, hm, rfl⟩ := vInts_of h
  obtain ⟨h1, h2⟩ := List.getElem?_eq_some_iff.mp hm
  rw [List.length_range] at h1
  rw [List.getElem_range] at h2
  exact ⟨h1, by rw [h2]⟩
theorem scLa : FnScope ["field", "level"] ["field"] (defScope sLast) := ⟨rfl, rfl, rfl, by decide +kernel, rfl, by decide +kernel, by decide +kernel⟩
theorem ok_last {f : Addr} {fd : FuncData} (F : Fun K "last_rows" "last_rows" sLast f fd)
    (gV : Fn P w K mg base "levels" 1 [] spLevels) (gG : Fn P w K mg base "begun" 3 ["field", "level", "behind"] (spBegun CF CB)) (gB : Mkr P w K mg base "Best" CB 1 ["self", "cost", "many", "plan"] (spBInit CB)) : FnOk P w K mg base CX0 4 f fd ["field"] (spLast CF CB) := by
  obtain ⟨fV, fdV, mV, kV, bV, GV⟩ := gV
  obtain ⟨fG, fdG, mG, kG, bG, GG⟩ := gG
  obtain ⟨mB, fB, fdB, MB, bB, GB⟩ := gB
  refine F.ok scLa (fun vs H Q E h => ?_) (fun cdv A outer s H vs Q E hr h => ⟨_, pss_one (ps_ret (pe_lc (own := [("level", 1)]) (g := gName 1) (tt := tYes) (te := tCall (spBegun CF CB) [] E0 (tCons (tVar 0) (tCons (tVar 1) (tCons (tMake CB (spBInit CB) [] E0 (tCons (tC (.int 0)) (tCons (tC (.int 1)) (tCons (tLst tNil) tNil)))) tNil)))) rfl scLa.nd (pi_list (pe_call0 GV (hr.mono (by decide)) rfl mV kV bV .nil pass0)) (blkOk_by (own := [("level", 1)]) (N := ["field", "level"]) (sc := defScope sLast) (by decide +kernel)) (fun _ _ _ _ _ => pg_name (i := 1) scLa.nd rfl (Or.inl rfl)) (fun _ _ _ _ _ => pts_nil) (fun _ _ _ _ _ => pe_call GG hr rfl mG kG bG .nil pass0 (pa_cons (pv 0) (pa_cons (pv 1) (pa_cons (pe_make MB GB (hr.mono (by decide)) rfl mB bB .nil pass0 (pa_cons pe_int (pa_cons pe_int (pa_cons (pe_lst pa_nil) pa_nil)))) pa_nil)))))), ?_⟩)
  · obtain ⟨fa, g, rfl, _⟩ := h
    rfl
  · obtain ⟨fa, g, rfl, ⟨df, hf⟩, hw, k⟩ := h
    refine ⟨rfl, fun p hp => ?_⟩
    have s0 : Same H (upd H p (.lst (vInts (List.range 41)))) := same_upd hp
    generalize hH0 : upd H p (.lst (vInts (List.range 41))) = H0 at s0
    have hp0 : H0 p = some (.lst (vInts (List.range 41))) := by
      rw [← hH0]
      exact upd_same
    refine ⟨p, rfl, ⟨_, SqL.of hp0⟩, fun D hD => lc_list (K := K) (a := p) (xs := vInts (List.range 41)) (fun i H' => Same H0 H' ∧ ∃ as', H' D = some (.lst (as'.map V.ref)) ∧ Objs (BD CB D) H' as' ((lastRows g).take i))
      ⟨same_upd hD, [], upd_same, Objs.nil⟩ (fun i H' _ z => SqL.of (z.1 _ _ hp0)) ?_ ?_⟩
    · rintro i x H' hx ⟨s1, as', hD1, ho1⟩
      obtain ⟨hi, rfl⟩ := vInts_range hx
      refine ⟨rfl, tyes ?_⟩
      refine ⟨_, rfl, _, rfl, (by show 0 ≤ sizeLine; decide), fun l hl => ?_⟩
      intro x dx nx nd ne
      refine ⟨x, dx, l, 0, 1, rfl, upd_same, fun H2 h kp => ⟨rfl, ?_⟩⟩
      have s2 : Same (upd H' l (.lst [])) H2 := Same.made nx nd kp
      have hB : BQ CB H2 x one0 l := ⟨dx, h, s2 _ _ upd_same⟩
      have s3 : Same H' H2 := (same_upd hl).trans s2
      refine ⟨fa, x, g, i, one0, rfl, ⟨df, s3 _ _ (s1 _ _ (s0 _ _ hf))⟩, hw, ⟨l, hB⟩, Nat.zero_le _, fun y q H3 s4 hB3 hq => ?_⟩
      have hqD : q ≠ D := fun z => by
        rw [z, s3 _ _ hD1] at hq
        cases hq
      obtain ⟨as2, p1, p2⟩ := push ho1 (s3.trans s4) hD1 hB3 hqD
      refine ⟨_, s4 _ _ (s3 _ _ hD1), ?_, same_up (s1.trans (s3.trans s4)) hD, as2, p1, ?_⟩
      · have e1 := ho1.1
        rw [List.length_take] at e1
        rw [List.length_map]
        exact line1000 (by omega)
      · have e2 : (lastRows g)[i]? = some (begun g i one0) := by
          unfold lastRows
          rw [List.getElem?_map, List.getElem?_range hi]
          rfl
        rw [take_more e2]
        exact p2
    · rintro H' ⟨s1, as', hD1, ho1⟩
      have e1 : ((lastRows g).take (vInts (List.range 41)).length) = lastRows g := List.take_of_length_le (by simp [lastRows, vInts])
      rw [e1] at ho1
      exact k D H' (s0.trans s1) (objs_rows hD1 ho1)
theorem scAh : FnScope ["field", "weir", "rows", "level"] ["field", "weir", "rows"] (defScope sAhead) := ⟨rfl, rfl, rfl, by decide +kernel, rfl, by decide +kernel, by decide +kernel⟩
theorem ok_ahead {f : Addr} {fd : FuncData} (F : Fun K "rows_ahead" "rows_ahead" sAhead f fd)
    (gV : Fn P w K mg base "levels" 1 [] spLevels) (gG : Fn P w K mg base "begun" 3 ["field", "level", "behind"] (spBegun CF CB)) (gL : Fn P w K mg base "behind_level" 4 ["weir", "rows", "level"] (spBehind CB)) : FnOk P w K mg base CX0 5 f fd ["field", "weir", "rows"] (spAhead CF CB) := by
  obtain ⟨fV, fdV, mV, kV, bV, GV⟩ := gV
  obtain ⟨fG, fdG, mG, kG, bG, GG⟩ := gG
  obtain ⟨fL, fdL, mL, kL, bL, GL⟩ := gL
  refine F.ok scAh (fun vs H Q E h => ?_) (fun cdv A outer s H vs Q E hr h => ⟨_, pss_one (ps_ret (pe_lc (own := [("level", 3)]) (g := gName 3) (tt := tYes) (te := tCall (spBegun CF CB) [] E0 (tCons (tVar 0) (tCons (tVar 3) (tCons (tCall (spBehind CB) [] E0 (tCons (tVar 1) (tCons (tVar 2) (tCons (tVar 3) tNil)))) tNil)))) rfl scAh.nd (pi_list (pe_call0 GV (hr.mono (by decide)) rfl mV kV bV .nil pass0)) (blkOk_by (own := [("level", 3)]) (N := ["field", "weir", "rows", "level"]) (sc := defScope sAhead) (by decide +kernel)) (fun _ _ _ _ _ => pg_name (i := 3) scAh.nd rfl (Or.inl rfl)) (fun _ _ _ _ _ => pts_nil) (fun _ _ _ _ _ => pe_call GG (hr.mono (by decide)) rfl mG kG bG .nil pass0 (pa_cons (pv 0) (pa_cons (pv 3) (pa_cons (pe_call GL hr rfl mL kL bL .nil pass0 (pa_cons (pv 1) (pa_cons (pv 2) (pa_cons (pv 3) pa_nil)))) pa_nil)))))), ?_⟩)
  · obtain ⟨fa, r, g, wr, kk, bs, rfl, _⟩ := h
    rfl
  · obtain ⟨fa, r, g, wr, kk, bs, rfl, ⟨df, hf⟩, hw, hR, hbl, hk, hrow, k⟩ := h
    refine ⟨rfl, fun p hp => ?_⟩
    have s0 : Same H (upd H p (.lst (vInts (List.range 41)))) := same_upd hp
    generalize hH0 : upd H p (.lst (vInts (List.range 41))) = H0 at s0
    have hp0 : H0 p = some (.lst (vInts (List.range 41))) := by
      rw [← hH0]
      exact upd_same
    refine ⟨p, rfl, ⟨_, SqL.of hp0⟩, fun D hD => lc_list (K := K) (a := p) (xs := vInts (List.range 41)) (fun i H' => Same H0 H' ∧ ∃ as', H' D = some (.lst (as'.map V.ref)) ∧ Objs (BD CB D) H' as' ((rowsAhead g wr bs).take i))
      ⟨same_upd hD, [], upd_same, Objs.nil⟩ (fun i H' _ z => SqL.of (z.1 _ _ hp0)) ?_ ?_⟩
    · rintro i x H' hx ⟨s1, as', hD1, ho1⟩
      obtain ⟨hi, rfl⟩ := vInts_range hx
      refine ⟨rfl, tyes ?_⟩
      refine ⟨_, rfl, _, rfl, _, rfl, _, rfl, _, rfl, wr, i, r, bs, rfl, hR.same (s0.trans s1), by omega, by omega, fun x q0 H2 s3 hB _ => ?_⟩
      refine ⟨fa, x, g, i, behind wr bs i, rfl, ⟨df, s3 _ _ (s1 _ _ (s0 _ _ hf))⟩, hw, ⟨q0, hB⟩, ?_, fun y q H3 s4 hB3 hq => ?_⟩
      · rw [behind_row wr i kk (by omega) hrow]
        exact hk
      have hqD : q ≠ D := fun z => by
        rw [z, s3 _ _ hD1] at hq
        cases hq
      obtain ⟨as2, p1, p2⟩ := push ho1 (s3.trans s4) hD1 hB3 hqD
      refine ⟨_, s4 _ _ (s3 _ _ hD1), ?_, same_up (s1.trans (s3.trans s4)) hD, as2, p1, ?_⟩
      · have e1 := ho1.1
        rw [List.length_take] at e1
        rw [List.length_map]
        exact line1000 (by omega)
      · have e2 : (rowsAhead g wr bs)[i]? = some (begun g i (behind wr bs i)) := by
          unfold rowsAhead
          rw [List.getElem?_map, List.getElem?_range hi]
          rfl
        rw [take_more e2]
        exact p2
    · rintro H' ⟨s1, as', hD1, ho1⟩
      have e1 : ((rowsAhead g wr bs).take (vInts (List.range 41)).length) = rowsAhead g wr bs := List.take_of_length_le (by simp [rowsAhead, vInts])
      rw [e1] at ho1
      exact k D H' (s0.trans s1) (objs_rows hD1 ho1)
end
end CL

namespace CL
open PySem PySem.Spec PyProof.Rows L2
open Sj01 (Field Best Canal apart)
/-! ## a list == [] -/
def rEq0 (K : PySem.W.Frag) : R2 := fun x y H Q => ∃ a b xs, x = .ref a ∧ y = .ref b ∧ SqL K H a xs ∧ SqL K H b [] ∧ Q (.bl xs.isEmpty) H
theorem op_eq0 {X : Cx} (hu : X.A.units < cLine) : OpR X (compareOp .Eq) (rEq0 X.K) := by
  intro pins s σ H x y v u Q I rx ry h
  obtain ⟨a, b, xs, rfl, rfl, ha, hb, q⟩ := h
  obtain rfl : v = .ref a := rx
  obtain rfl : u = .ref b := ry
  obtain ⟨its, r, pl, hz⟩ := I.list ha
  obtain ⟨its2, r2, pl2, hz2⟩ := I.list hb
  have e2 : its2 = [] := List.length_eq_zero_iff.mp r2.length.symm
  subst e2
  cases xs with
  | nil =>
    have e1 : its = [] := List.length_eq_zero_iff.mp r.length.symm
    subst e1
    refine SeqAt.eq_listAt (e := fun _ => true) pl.isList pl2.isList rfl hu (fun j h1 _ => ?_) ⟨.bl true, H, I, rfl, q⟩
    exact absurd h1 (Nat.not_lt_zero j)
  | cons z zs =>
    refine SeqAt.eq_list_lengthsAt pl.isList pl2.isList ?_ hu ⟨.bl false, H, I, rfl, q⟩
    have e1 := r.length
    rw [List.length_cons] at e1
    rw [List.size_toArray, List.size_toArray, ← e1]
    rfl
def spBest (CF CB : Addr) : Sp := fun vs H Q _ => ∃ (fl : Addr) (wr : Nat) (fs : List Field), vs = [.ref fl, vI wr] ∧ Flds CF H fl fs ∧ (∀ f ∈ fs, f.weight ≤ 100) ∧ fs.length ≤ 8 ∧
  ∀ (x : Addr) (H' : Hp), Same H H' → BAt CB H' x (bestPlan wr fs) → Q (.ref x) H'
theorem rowsFrom_cons (wr : Nat) (f : Field) {l : List Field} (h : l ≠ []) : rowsFrom wr (f :: l) = rowsAhead f wr (rowsFrom wr l) := by
  cases l with
  | nil => exact absurd rfl h
  | cons g r => rfl
theorem cut_last (xs : List V) : cutV xs none (some (-1)) = xs.take (xs.length - 1) := by
  unfold cutV
  show (xs.drop 0).take ((if (-1 : Int) < 0 then ((-1 : Int) + (xs.length : Int)).toNat else min (-1 : Int).toNat xs.length) - 0) = _
  rw [if_pos (by decide), List.drop_zero]
  congr 1
  omega
section
variable {P : Program} {w : World} {K : PySem.W.Frag} {mg : Str → Option Value} {base : Heap} {CF CB : Addr}
theorem scBp : FnScope ["fields", "weir", "rows", "field"] ["fields", "weir"] (defScope sBest) := ⟨rfl, rfl, rfl, by decide +kernel, rfl, by decide +kernel, by decide +kernel⟩
theorem ok_best {f : Addr} {fd : FuncData} (F : Fun K "best_plan" "best_plan" sBest f fd) (mrev : mg "reversed" = none)
    (gL : Fn P w K mg base "last_rows" 4 ["field"] (spLast CF CB)) (gA : Fn P w K mg base "rows_ahead" 5 ["field", "weir", "rows"] (spAhead CF CB)) (gT : Fn P w K mg base "together" 3 ["rows"] (spTog CB))
    (gB : Mkr P w K mg base "Best" CB 1 ["self", "cost", "many", "plan"] (spBInit CB)) : FnOk P w K mg base CX0 6 f fd ["fields", "weir"] (spBest CF CB) := by
  obtain ⟨fL, fdL, mL, kL, bL, GL⟩ := gL
  obtain ⟨fA, fdA, mA, kA, bA, GA⟩ := gA
  obtain ⟨fT, fdT, mT, kT, bT, GT⟩ := gT
  obtain ⟨mB, fB, fdB, MB, bB, GB⟩ := gB
  refine F.ok scBp (fun vs H Q E h => ?_) (fun cdv A outer s H vs Q E hr h => ⟨_, pss_cons (ps_if (pt_cmpR (op_eq0 hr.units0) (pv 0) (pe_lst pa_nil) (nomark _)) (pss_one (ps_ret (pe_make MB GB (hr.mono (by decide)) rfl mB bB .nil pass0 (pa_cons pe_int (pa_cons pe_int (pa_cons (pe_lst pa_nil) pa_nil)))))) pss_nil)
    (pss_cons (ps_set (i := 2) scBp.nd rfl (Or.inl rfl) (pe_call GL (hr.mono (by decide)) rfl mL kL bL .nil pass0 (pa_cons (pe_ix ix_list (pv 0) (pe_un un_neg pe_int) (fun _ _ => rfl)) pa_nil)))
    (pss_cons (ps_for PassesOwn.never rfl (pi_reversed (by rfl) mrev (pa_cons (pe_slice sl_list (pv 0) po_none (po_some (pe_un un_neg pe_int))) pa_nil)) (pg_name (i := 3) scBp.nd rfl (Or.inl rfl))
      (pss_one (ps_set (i := 2) scBp.nd rfl (Or.inl rfl) (pe_call GA hr rfl mA kA bA .nil pass0 (pa_cons (pv 3) (pa_cons (pv 1) (pa_cons (pv 2) pa_nil)))))))
    (pss_one (ps_ret (pe_call GT (hr.mono (by decide)) rfl mT kT bT .nil pass0 (pa_cons (pv 2) pa_nil)))))), ?_⟩)
  · obtain ⟨fl, wr, fs, rfl, _⟩ := h
    rfl
  · obtain ⟨fl, wr, fs, rfl, ⟨as, ha, ho⟩, hw, hl, k⟩ := h
    refine ⟨_, rfl, (by show 0 ≤ sizeLine; decide), fun p hp => ?_⟩
    have s0 : Same H (upd H p (.lst [])) := same_upd hp
    refine ⟨fl, p, _, rfl, rfl, SqL.of (s0 _ _ ha), SqL.of upd_same, _, rfl, ?_⟩
    generalize upd H p (.lst []) = H0 at s0
    have ha0 := s0 _ _ ha
    have ho0 : Objs (FAt CF) H0 as fs := ho.mono fun a x z => z.same s0
    by_cases hfs : fs = []
    · have eas : as = [] := List.length_eq_zero_iff.mp (by rw [ho.1, hfs]; rfl)
      subst hfs eas
      refine iteT ?_
      refine ⟨(by show 0 ≤ sizeLine; decide), fun l hl0 => ?_⟩
      intro x dx nx nd ne
      refine ⟨x, dx, l, 0, 1, rfl, upd_same, fun H2 h kp => ⟨rfl, ?_⟩⟩
      have s2 : Same (upd H0 l (.lst [])) H2 := Same.made nx nd kp
      exact k x H2 (s0.trans ((same_upd hl0).trans s2)) ⟨l, dx, h, s2 _ _ upd_same⟩
    · have hpos : 0 < fs.length := List.length_pos_iff.mpr hfs
      have eemp : (as.map V.ref).isEmpty = false := by
        rw [List.isEmpty_eq_false_iff]
        intro z
        have := congrArg List.length z
        rw [List.length_map, ho.1] at this
        exact absurd this (Nat.ne_of_gt hpos)
      rw [eemp]
      refine iteF ?_
      -- rows = last_rows(fields[-1])
      obtain ⟨ini, la, eas⟩ : ∃ ini la, as = ini ++ [la] := by
        rcases List.eq_nil_or_concat as with z | ⟨ini, la, z⟩
        · rw [z] at eemp
          cases eemp
        · exact ⟨ini, la, by rw [z]; simp⟩
      have hini : ini.length + 1 = fs.length := by
        rw [← ho.1, eas]
        simp
      have hla : as[ini.length]? = some la := by
        rw [eas]
        simp
      obtain ⟨lf, hlf, hLF⟩ := ho0.at' hla
      have eat : atI (as.map V.ref) (-1) = some (.ref la) := by
        rw [eas, List.map_append]
        exact atI_last _ _
      refine ⟨_, rfl, _, rfl, fl, _, _, _, rfl, rfl, SqL.of ha0, eat, la, lf, rfl, hLF, hw lf (List.mem_of_getElem? hlf), fun r H1 s1 hR => ?_⟩
      -- the loop
      refine ⟨_, rfl, _, rfl, _, rfl, fl, _, rfl, SqL.of (s1 _ _ ha0), fun p3 hp3 => ?_⟩
      have s3 : Same H1 (upd H1 p3 (.lst (cutV (as.map V.ref) none (some (-1))))) := same_upd hp3
      have e3 : cutV (as.map V.ref) none (some (-1)) = ini.map V.ref := by
        rw [cut_last, eas]
        simp
      have hp4 : upd H1 p3 (.lst (cutV (as.map V.ref) none (some (-1)))) p3 = some (.lst (ini.map V.ref)) := by
        rw [upd_same, e3]
      refine ⟨p3, ini.map V.ref, rfl, SqL.of hp4, ?_⟩
      generalize upd H1 p3 (.lst (cutV (as.map V.ref) none (some (-1)))) = H3 at s3 hp4
      have s03 : Same H H3 := s0.trans (s1.trans s3)
      have elast : fs.drop (ini.length - 0) = [lf] := by
        obtain ⟨h1, h2⟩ := List.getElem?_eq_some_iff.mp hlf
        rw [Nat.sub_zero, List.drop_eq_getElem_cons h1, h2, List.drop_eq_nil_of_le (by omega)]
      refine for_it (walk_rev (K := K) (a := p3) (xs := ini.map V.ref)) (fun i σ H' => ∃ (r : Addr) (v : Option V), σ = [some (.ref fl), some (vI wr), some (.ref r), v] ∧ Same H3 H' ∧ CL.Rows CB H' r (rowsFrom wr (fs.drop (ini.length - i)))) ⟨r, none, rfl, Same.refl _, ?_⟩ (fun i σ H' _ ⟨_, _, _, s5, _⟩ => SqL.of (s5 _ _ hp4)) ?_ ?_
      · rw [elast]
        exact hR.same s3
      · rintro i x σ H' H5 hi ⟨r1, v, rfl, s5, hR1⟩ ⟨rfl, hx⟩
        rw [List.length_map] at hi hx
        obtain ⟨a, ha1, rfl⟩ := refs_of hx
        have hj : ini.length - 1 - i < ini.length := by omega
        have hat : as[ini.length - 1 - i]? = some a := by
          rw [eas, List.getElem?_append_left hj]
          exact ha1
        obtain ⟨g, hg, hG⟩ := ho.at' hat
        obtain ⟨q1, q2⟩ := List.getElem?_eq_some_iff.mp hg
        have ej : ini.length - 1 - i + 1 = ini.length - i := by omega
        have edrop : fs.drop (ini.length - (i + 1)) = g :: fs.drop (ini.length - i) := by
          rw [show ini.length - (i + 1) = ini.length - 1 - i by omega, List.drop_eq_getElem_cons q1, q2, ej]
        have hne : fs.drop (ini.length - i) ≠ [] := by
          intro z
          have := congrArg List.length z
          rw [List.length_drop] at this
          simp at this
          omega
        refine ⟨_, rfl, _, rfl, _, rfl, a, r1, g, wr, (fs.drop (ini.length - i)).length, rowsFrom wr (fs.drop (ini.length - i)), rfl, hG.same (s03.trans s5), hw g (List.mem_of_getElem? hg), hR1, rowsFrom_len wr _ hne, ?_, rowsFrom_row wr _, fun r2 H6 s6 hR2 => ?_⟩
        · rw [List.length_drop]
          omega
        · refine ⟨r2, some (.ref a), rfl, s5.trans s6, ?_⟩
          rw [edrop, rowsFrom_cons wr g hne]
          exact hR2
      · rintro σ H' ⟨r1, v, rfl, s5, hR1⟩
        rw [List.length_map, Nat.sub_self, List.drop_zero] at hR1
        have hlen := rowsFrom_len wr fs hfs
        refine ⟨_, rfl, r1, _, rfl, hR1, ?_, by omega, fun x q H6 s6 hB _ => ?_⟩
        · intro z
          rw [z] at hlen
          cases hlen
        · refine k x H6 (s03.trans (s5.trans s6)) ⟨q, ?_⟩
          unfold bestPlan
          rw [if_neg hfs]
          exact hB
end
end CL

namespace CL
open PySem PySem.Spec PyProof.Rows L2
open Sj01 (Field Best Canal apart)
def toldIs (fs : List Field) (l : List Nat) : Bool := l.length == fs.length && l.all fun n => decide (n ≤ 40)
def harmIs (fs : List Field) (l : List Nat) : Nat := ((fs.zip l).map fun x => harm x.1 x.2).sum
def spIsPlan (CF : Addr) : Sp := fun vs H Q _ => ∃ (fl pl : Addr) (fs : List Field) (l : List Nat), vs = [.ref fl, .ref pl] ∧ Flds CF H fl fs ∧ H pl = some (.lst (vInts l)) ∧ l.length ≤ 1000 ∧
  ∀ H' : Hp, Same H H' → Q (.bl (toldIs fs l)) H'
def vO : Option Nat → V
  | none => .non
  | some n => vI n
def spRises : Sp := fun vs H Q _ => ∃ (pl : Addr) (l : List Nat), vs = [.ref pl] ∧ H pl = some (.lst (vInts l)) ∧ l.length ≤ 1000 ∧ Q (vO (Sj01.rises 0 l)) H
def spHarmOf (CF : Addr) : Sp := fun vs H Q _ => ∃ (fl pl : Addr) (fs : List Field) (l : List Nat), vs = [.ref fl, .ref pl] ∧ Flds CF H fl fs ∧ (∀ f ∈ fs, f.weight ≤ 100) ∧ H pl = some (.lst (vInts l)) ∧ l.length ≤ 1000 ∧
  ∀ H' : Hp, Same H H' → Q (vI (harmIs fs l)) H'
def spWeirs : Sp := fun vs H Q _ => ∃ (pl : Addr) (l : List Nat), vs = [.ref pl] ∧ H pl = some (.lst (vInts l)) ∧ l.length ≤ 1000 ∧ ∀ H' : Hp, Same H H' → Q (vI (Sj01.falls l)) H'
def spFlatH (CF : Addr) : Sp := fun vs H Q _ => ∃ (fl : Addr) (fs : List Field), vs = [.ref fl] ∧ Flds CF H fl fs ∧ (∀ f ∈ fs, f.weight ≤ 100) ∧ fs.length ≤ 8 ∧
  ∀ (p : Addr) (H' : Hp), Same H H' → H' p = some (.lst (vInts ((List.range 41).map (flatHarm fs)))) → Q (.ref p) H'
def spFlattest (CF : Addr) : Sp := fun vs H Q _ => ∃ (fl : Addr) (fs : List Field), vs = [.ref fl] ∧ Flds CF H fl fs ∧ (∀ f ∈ fs, f.weight ≤ 100) ∧ fs.length ≤ 8 ∧
  ∀ (t : Addr) (H' : Hp) (m k j : Nat), Same H H' → tog (flatRows fs) = ⟨m, k, [j]⟩ → H' t = some (.tup [vI m, vI k, vI j]) → Q (.ref t) H'
def rLen (K : PySem.W.Frag) : List V → Hp → VK → Prop := fun xs H Q => ∃ p ys, xs = [.ref p] ∧ (SqL K H p ys ∨ SqT K H p ys) ∧ Q (.int ys.length) H
theorem cr_len {X : Cx} : CallR X (.builtin "len") (rLen X.K) := call_len_seq
section
variable {P : Program} {w : World} {K : PySem.W.Frag} {mg : Str → Option Value} {base : Heap} {CF CB : Addr}
/-! ## is_plan -/
theorem all_bl : ∀ (l : List Nat), ((l.map fun n => decide (n ≤ 40)).all id) = l.all fun n => decide (n ≤ 40)
  | [] => rfl
  | x :: r => by
    rw [List.map_cons, List.all_cons, all_bl r, List.all_cons]
    rfl
theorem scIP : FnScope ["fields", "plan", "level"] ["fields", "plan"] (defScope sIsPlan) := ⟨rfl, rfl, rfl, by decide +kernel, rfl, by decide +kernel, by decide +kernel⟩
theorem ok_isplan {f : Addr} {fd : FuncData} (F : Fun K "is_plan" "is_plan" sIsPlan f fd) (mlen : mg "len" = none) (mall : mg "all" = none)
    (gI : Fn P w K mg base "is_level" 1 ["number"] spIsLevel) : FnOk P w K mg base CX0 2 f fd ["fields", "plan"] (spIsPlan CF) := by
  obtain ⟨fI, fdI, mI, kI, bI, GI⟩ := gI
  refine F.ok scIP (fun vs H Q E h => ?_) (fun cdv A outer s H vs Q E hr h => ⟨_, pss_one (ps_ret (pe_and (pe_cmpR op_eq (pe_callB cr_len (by rfl) mlen PySem.boot_len (pa_cons (pv 1) pa_nil)) (pe_callB cr_len (by rfl) mlen PySem.boot_len (pa_cons (pv 0) pa_nil)) (nomark _))
    (pe_one (pe_callB (cr_all rfl) (by rfl) mall (by decide +kernel) (pa_cons (pe_lc (own := [("level", 2)]) (g := gName 2) (tt := tYes) (te := tCall spIsLevel [] E0 (tCons (tVar 2) tNil)) rfl scIP.nd (pi_list (pv 1)) (blkOk_by (own := [("level", 2)]) (N := ["fields", "plan", "level"]) (sc := defScope sIsPlan) (by decide +kernel)) (fun _ _ _ _ _ => pg_name (i := 2) scIP.nd rfl (Or.inl rfl)) (fun _ _ _ _ _ => pts_nil) (fun _ _ _ _ _ => pe_call GI hr rfl mI kI bI .nil pass0 (pa_cons (pv 2) pa_nil))) pa_nil))))), ?_⟩)
  · obtain ⟨fl, pl, fs, l, rfl, _⟩ := h
    rfl
  · obtain ⟨fl, pl, fs, l, rfl, ⟨as, ha, ho⟩, hp, hl, k⟩ := h
    refine ⟨_, rfl, pl, _, rfl, .inl (SqL.of hp), _, rfl, fl, _, rfl, .inl (SqL.of ha), rfl, _, rfl, ?_⟩
    refine ite2 (fun hc => ?_) (fun hc => ?_)
    · have ec : l.length = fs.length := by
        have := V.int.inj (of_decide_eq_true hc)
        rw [vInts_len, List.length_map, ho.1] at this
        omega
      refine ⟨_, rfl, pl, rfl, ⟨_, SqL.of hp⟩, fun D hD => lc_list (K := K) (a := pl) (xs := vInts l) (fun i H' => Same H H' ∧ H' D = some (.lst (((l.take i).map fun n => decide (n ≤ 40)).map V.bl))) ⟨same_upd hD, upd_same⟩ (fun i H' _ p => SqL.of (p.1 _ _ hp)) ?_ ?_⟩
      · rintro i x H' hx ⟨s1, hD1⟩
        obtain ⟨n, hn, rfl⟩ := vInts_of hx
        refine ⟨rfl, tyes ?_⟩
        refine ⟨_, rfl, n, rfl, _, hD1, ?_, same_up s1 hD, ?_⟩
        · rw [List.length_map, List.length_map, List.length_take]
          exact line1000 (by omega)
        · rw [upd_same, take_more hn, List.map_append, List.map_append]
          rfl
      · rintro H' ⟨s1, hD1⟩
        rw [vInts_len, List.take_length] at hD1
        refine ⟨D, _, rfl, SqL.of hD1, ?_⟩
        refine q_of ?_ (k H' s1)
        unfold toldIs
        rw [all_bl, ec, beq_self_eq_true, Bool.true_and]
    · have ec : ¬ l.length = fs.length := fun z => hc (decide_eq_true (by rw [vInts_len, List.length_map, ho.1, z]))
      refine q_of ?_ (k H (Same.refl H))
      unfold toldIs
      rw [beq_eq_false_iff_ne.mpr ec, Bool.false_and]
/-! ## rises -/
theorem scRi : FnScope ["plan", "k"] ["plan"] (defScope sRises) := ⟨rfl, rfl, rfl, by decide +kernel, rfl, by decide +kernel, by decide +kernel⟩
theorem ok_rises {f : Addr} {fd : FuncData} (F : Fun K "rises" "rises" sRises f fd) (mlen : mg "len" = none) (mr : mg "range" = none) : FnOk P w K mg base CX0 1 f fd ["plan"] spRises := by
  refine F.ok scRi (fun vs H Q E h => ?_) (fun cdv A outer s H vs Q E hr h => ⟨_, pss_cons (ps_for PassesOwn.never rfl (pi_range2 (by rfl) mr (pa_cons pe_int (pa_cons (pe_callB cr_len (by rfl) mlen PySem.boot_len (pa_cons (pv 0) pa_nil)) pa_nil))) (pg_name (i := 1) scRi.nd rfl (Or.inl rfl))
    (pss_one (ps_if (pt_cmpR op_gt (pe_ix ix_list (pv 0) (pv 1) (fun _ _ => rfl)) (pe_ix ix_list (pv 0) (pe_op op_sub (pv 1) pe_int) (fun _ _ => rfl)) (nomark _)) (pss_one (ps_ret (pv 1))) pss_nil)))
    (pss_one (ps_ret pe_non)), ?_⟩)
  · obtain ⟨pl, l, rfl, _⟩ := h
    rfl
  · obtain ⟨pl, l, rfl, hp, hl, k⟩ := h
    refine ⟨_, rfl, pl, _, rfl, .inl (SqL.of hp), _, _, rfl, ⟨by decide, by decide, ?_, ?_⟩, ?_⟩
    · rw [vInts_len]
      omega
    · rw [vInts_len]
      omega
    rw [vInts_len]
    refine for_range (lo := 1) (n := ((l.length : Int) - 1).toNat) (fun i σ H' => H' = H ∧ (∃ v : Option V, σ = [some (.ref pl), v]) ∧ Sj01.rises 0 l = Sj01.rises i (l.drop i)) ⟨rfl, ⟨none, rfl⟩, rfl⟩ ?_ ?_
    · rintro i σ H' hi ⟨rfl, ⟨v, rfl⟩, e⟩
      have hi1 : i + 1 < l.length := by omega
      have a1 : l[i]? = some l[i] := List.getElem?_eq_getElem (by omega)
      have a2 : l[i + 1]? = some l[i + 1] := List.getElem?_eq_getElem hi1
      refine ⟨_, rfl, _, rfl, pl, _, _, _, rfl, rfl, SqL.of hp, at_of (j := i + 1) (by omega) (vInts_at a2), _, rfl, _, rfl, _, _, rfl, rfl, pl, _, _, _, rfl, rfl, SqL.of hp, at_of (j := i) (by show (1 + (i : Int)) - 1 = i; omega) (vInts_at a1), _, _, rfl, rfl, _, rfl, ?_⟩
      have rt := rises_turn a1 a2
      refine ite2 (fun hc => ?_) (fun hc => ?_)
      · have ec : l[i] < l[i + 1] := by
          have := of_decide_eq_true hc
          omega
        rw [if_pos ec] at rt
        refine ⟨_, rfl, ?_⟩
        rw [e, rt] at k
        refine q_of ?_ k
        show V.int ((i + 1 : Nat) : Int) = V.int (1 + (i : Int))
        congr 1
        omega
      · have ec : ¬ l[i] < l[i + 1] := fun z => hc (decide_eq_true (by omega))
        rw [if_neg ec] at rt
        exact ⟨rfl, ⟨_, rfl⟩, e.trans rt⟩
    · rintro σ H' ⟨rfl, ⟨v, rfl⟩, e⟩
      rw [rises_end (by omega)] at e
      rw [e] at k
      exact k
/-! ## harm_of -/
theorem scHo : FnScope ["fields", "plan", "field", "level"] ["fields", "plan"] (defScope sHarmOf) := ⟨rfl, rfl, rfl, by decide +kernel, rfl, by decide +kernel, by decide +kernel⟩
theorem ok_harmof {f : Addr} {fd : FuncData} (F : Fun K "harm_of" "harm_of" sHarmOf f fd) (clF : Cls K CF) (ms : mg "sum" = none) (mz : mg "zip" = none)
    (gH : Mt P w K mg base CF "harm" 1 ["self", "level"] (spHarm CF)) : FnOk P w K mg base CX0 2 f fd ["fields", "plan"] (spHarmOf CF) := by
  obtain ⟨fH, fdH, mH, bH, GH⟩ := gH
  refine F.ok scHo (fun vs H Q E h => ?_) (fun cdv A outer s H vs Q E hr h => ⟨_, pss_one (ps_ret (pe_callB (cr_sum rfl) (by rfl) ms (by decide +kernel) (pa_cons (pe_lc (own := [("field", 2), ("level", 3)]) (g := gTup K 2 (gCons (gName 2) (gCons (gName 3) gNil))) (tt := tYes) (te := tMeth CF "harm" (spHarm CF) [] E0 (tVar 2) (tCons (tVar 3) tNil)) rfl scHo.nd (pi_zip (by rfl) mz (pa_cons (pv 0) (pa_cons (pv 1) pa_nil))) (blkOk_by (own := [("field", 2), ("level", 3)]) (N := ["fields", "plan", "field", "level"]) (sc := defScope sHarmOf) (by decide +kernel)) (fun _ _ _ _ _ => pg_tup rfl (pgs_cons (pg_name (i := 2) scHo.nd rfl (Or.inl rfl)) (pgs_cons (pg_name (i := 3) scHo.nd rfl (Or.inl rfl)) pgs_nil))) (fun _ _ _ _ _ => pts_nil) (fun _ _ _ _ _ => pe_meth (pv 2) clF mH GH hr bH .nil pass0 (pa_cons (pv 3) pa_nil))) pa_nil))), ?_⟩)
  · obtain ⟨fl, pl, fs, l, rfl, _⟩ := h
    rfl
  · obtain ⟨fl, pl, fs, l, rfl, ⟨as, ha, ho⟩, hw, hp, hl, k⟩ := h
    have elen : min (as.map V.ref).length (vInts l).length = (fs.zip l).length := by
      rw [List.length_map, vInts_len, ho.1, List.length_zip]
    refine ⟨_, rfl, _, rfl, fl, pl, _, _, rfl, SqL.of ha, SqL.of hp, fun D hD => lc_it (walk_zip (K := K) (a := fl) (b := pl) (xs := as.map V.ref) (ys := vInts l) rfl) (fun i H' => Same H H' ∧ H' D = some (.lst (vInts (((fs.zip l).take i).map fun x => harm x.1 x.2)))) ⟨same_upd hD, upd_same⟩ (fun i H' _ z => ⟨SqL.of (z.1 _ _ ha), SqL.of (z.1 _ _ hp)⟩) ?_ ?_⟩
    · rintro i x H' H2 hi ⟨s1, hD1⟩ ⟨Tp, x1, y1, rfl, hT, rfl, hx, hy⟩
      obtain ⟨a, ha1, rfl⟩ := refs_of hx
      obtain ⟨n, hn, rfl⟩ := vInts_of hy
      obtain ⟨g, hg, ⟨dg, hG⟩⟩ := ho.at' ha1
      have s2 : Same H' (upd H' Tp (.tup [.ref a, vI n])) := same_upd hT
      refine ⟨Tp, _, rfl, SqT.of upd_same, rfl, _, _, rfl, _, _, rfl, rfl, rfl, tyes ?_⟩
      refine ⟨_, rfl, a, dg, _, rfl, s2 _ _ (s1 _ _ hG), fF_harm g, _, rfl, a, g, n, rfl, ⟨dg, s2 _ _ (s1 _ _ hG)⟩, hw g (List.mem_of_getElem? hg), _, s2 _ _ hD1, ?_, same_up (s1.trans s2) hD, ?_⟩
      · rw [vInts_len, List.length_map, List.length_take, List.length_zip]
        exact line1000 (by omega)
      · have ez : (fs.zip l)[i]? = some (g, n) := by
          rw [List.getElem?_zip_eq_some]
          exact ⟨hg, hn⟩
        rw [upd_same, take_more ez]
        unfold vInts
        rw [List.map_append, List.map_append]
        rfl
    · rintro H' ⟨s1, hD1⟩
      rw [elen, List.take_length, ← vInts_nats] at hD1
      refine ⟨D, _, rfl, SqL.of hD1, ?_⟩
      refine q_of ?_ (k H' s1)
      rw [sum_nats]
      rfl
/-! ## weirs_of -/
theorem scWo : FnScope ["plan", "k"] ["plan"] (defScope sWeirs) := ⟨rfl, rfl, rfl, by decide +kernel, rfl, by decide +kernel, by decide +kernel⟩
theorem ok_weirs {f : Addr} {fd : FuncData} (F : Fun K "weirs_of" "weirs_of" sWeirs f fd) (mlen : mg "len" = none) (mr : mg "range" = none) : FnOk P w K mg base CX0 1 f fd ["plan"] spWeirs := by
  refine F.ok scWo (fun vs H Q E h => ?_) (fun cdv A outer s H vs Q E hr h => ⟨_, pss_one (ps_ret (pe_callB cr_len (by rfl) mlen PySem.boot_len (pa_cons (pe_lc (own := [("k", 1)]) (g := gName 1) (tt := tTest (tOp rNe (tOp (rIxL K) (tVar 0) (tVar 1)) (tOp (rIxL K) (tVar 0) (tOp (rI0 fun i j => .int (i - j)) (tVar 1) (tC (.int 1)))))) (te := tVar 1) rfl scWo.nd (pi_range2 (by rfl) mr (pa_cons pe_int (pa_cons (pe_callB cr_len (by rfl) mlen PySem.boot_len (pa_cons (pv 0) pa_nil)) pa_nil))) (blkOk_by (own := [("k", 1)]) (N := ["plan", "k"]) (sc := defScope sWeirs) (by decide +kernel)) (fun _ _ _ _ _ => pg_name (i := 1) scWo.nd rfl (Or.inl rfl)) (fun _ _ _ _ _ => pts_one (pt_cmpR op_ne (pe_ix ix_list (pv 0) (pv 1) (fun _ _ => rfl)) (pe_ix ix_list (pv 0) (pe_op op_sub (pv 1) pe_int) (fun _ _ => rfl)) (nomark _))) (fun _ _ _ _ _ => pv 1)) pa_nil))), ?_⟩)
  · obtain ⟨pl, l, rfl, _⟩ := h
    rfl
  · obtain ⟨pl, l, rfl, hp, hl, k⟩ := h
    refine ⟨_, rfl, pl, _, rfl, .inl (SqL.of hp), _, _, rfl, ⟨by decide, by decide, ?_, ?_⟩, fun D hD => ?_⟩
    · rw [vInts_len]
      omega
    · rw [vInts_len]
      omega
    rw [vInts_len]
    refine lc_range (lo := 1) (n := ((l.length : Int) - 1).toNat) (fun i H' => Same H H' ∧ ∃ ks : List V, H' D = some (.lst ks) ∧ ks.length ≤ i ∧ ks.length + Sj01.falls (l.drop i) = Sj01.falls l) ⟨same_upd hD, [], upd_same, Nat.le_refl _, ?_⟩ ?_ ?_
    · show 0 + Sj01.falls l = Sj01.falls l
      omega
    · rintro i H' hi ⟨s1, ks, hD1, hk, e⟩
      have hi1 : i + 1 < l.length := by omega
      have a1 : l[i]? = some l[i] := List.getElem?_eq_getElem (by omega)
      have a2 : l[i + 1]? = some l[i + 1] := List.getElem?_eq_getElem hi1
      refine ⟨rfl, ?_⟩
      refine ⟨_, rfl, _, rfl, pl, _, _, _, rfl, rfl, SqL.of (s1 _ _ hp), at_of (j := i + 1) (by omega) (vInts_at a2), _, rfl, _, rfl, _, _, rfl, rfl, pl, _, _, _, rfl, rfl, SqL.of (s1 _ _ hp), at_of (j := i) (by show (1 + (i : Int)) - 1 = i; omega) (vInts_at a1), rfl, _, rfl, ?_⟩
      have ft := falls_turn a1 a2
      refine ite2 (fun hc => ?_) (fun hc => ?_)
      · have ec : ¬ l[i] = l[i + 1] := fun z => by
          rw [decide_eq_true (show vI l[i + 1] = vI l[i] by rw [z])] at hc
          cases hc
        rw [if_neg ec] at ft
        refine ⟨_, rfl, ks, hD1, line1000 (by omega), same_up s1 hD, ks ++ [.int (1 + (i : Int))], upd_same, ?_, ?_⟩
        · rw [List.length_append, List.length_singleton]
          omega
        · rw [List.length_append, List.length_singleton]
          omega
      · have ec : l[i] = l[i + 1] := by
          have hd : decide (vI l[i + 1] = vI l[i]) = true := by
            cases z : decide (vI l[i + 1] = vI l[i]) with
            | true => rfl
            | false =>
              rw [z] at hc
              exact absurd rfl hc
          exact (vI_inj (of_decide_eq_true hd)).symm
        rw [if_pos ec] at ft
        exact ⟨s1, ks, hD1, by omega, by omega⟩
    · rintro H' ⟨s1, ks, hD1, hk, e⟩
      rw [falls_end (by omega)] at e
      refine ⟨D, ks, rfl, .inl (SqL.of hD1), ?_⟩
      refine q_of ?_ (k H' s1)
      show vI (Sj01.falls l) = vI ks.length
      rw [← e]
      rfl
end
end CL

namespace CL
open PySem PySem.Spec PyProof.Rows L2
open Sj01 (Field Best Canal apart)
theorem first_at : ∀ {l : List Nat} {n : Nat}, n ∈ l → ∃ j : Nat, l[j]? = some n ∧ ∀ (i x : Nat), i < j → l[i]? = some x → x ≠ n
  | [], _, h => by cases h
  | y :: l, n, h => by
    by_cases c : y = n
    · exact ⟨0, by rw [c]; rfl, fun i x hi => absurd hi (Nat.not_lt_zero i)⟩
    · have hm : n ∈ l := by
        rcases List.mem_cons.mp h with z | z
        · exact absurd z.symm c
        · exact z
      obtain ⟨j, h1, h2⟩ := first_at hm
      refine ⟨j + 1, h1, fun i x hi hx => ?_⟩
      cases i with
      | zero =>
        have : y = x := Option.some.inj hx
        rw [← this]
        exact c
      | succ i => exact h2 i x (by omega) hx
theorem count_nats (n : Nat) : ∀ l : List Nat, (nats l).count (n : Int) = l.count n
  | [] => rfl
  | x :: l => by
    show ((x : Int) :: nats l).count (n : Int) = (x :: l).count n
    rw [List.count_cons, List.count_cons, count_nats n l]
    congr 1
    by_cases c : x = n
    · rw [c]
      simp
    · have c2 : ¬ (x : Int) = (n : Int) := by omega
      rw [if_neg (by simpa using c2), if_neg (by simpa using c)]
theorem rep_ints (k n : Nat) : (List.replicate k [vI n]).flatten = vInts (List.replicate k n) := by
  induction k with
  | zero => rfl
  | succ k ih =>
    rw [List.replicate_succ, List.flatten_cons, ih, List.replicate_succ]
    rfl
section
variable {P : Program} {w : World} {K : PySem.W.Frag} {mg : Str → Option Value} {base : Heap} {CF CB : Addr}
theorem scFh : FnScope ["fields", "level"] ["fields"] (defScope sFlatH) := ⟨rfl, rfl, rfl, by decide +kernel, rfl, by decide +kernel, by decide +kernel⟩
theorem ok_flath {f : Addr} {fd : FuncData} (F : Fun K "flat_harms" "flat_harms" sFlatH f fd) (mlen : mg "len" = none)
    (gV : Fn P w K mg base "levels" 1 [] spLevels) (gO : Fn P w K mg base "harm_of" 2 ["fields", "plan"] (spHarmOf CF)) : FnOk P w K mg base CX0 3 f fd ["fields"] (spFlatH CF) := by
  obtain ⟨fV, fdV, mV, kV, bV, GV⟩ := gV
  obtain ⟨fO, fdO, mO, kO, bO, GO⟩ := gO
  refine F.ok scFh (fun vs H Q E h => ?_) (fun cdv A outer s H vs Q E hr h => ⟨_, pss_one (ps_ret (pe_lc (own := [("level", 1)]) (g := gName 1) (tt := tYes) (te := tCall (spHarmOf CF) [] E0 (tCons (tVar 0) (tCons (tOp rRep (tLst (tCons (tVar 1) tNil)) (tCB (rLen K) (tCons (tVar 0) tNil))) tNil))) rfl scFh.nd (pi_list (pe_call0 GV (hr.mono (by decide)) rfl mV kV bV .nil pass0)) (blkOk_by (own := [("level", 1)]) (N := ["fields", "level"]) (sc := defScope sFlatH) (by decide +kernel)) (fun _ _ _ _ _ => pg_name (i := 1) scFh.nd rfl (Or.inl rfl)) (fun _ _ _ _ _ => pts_nil) (fun _ _ _ _ _ => pe_call GO hr rfl mO kO bO .nil pass0 (pa_cons (pv 0) (pa_cons (pe_op op_rep (pe_lst (pa_cons (pv 1) pa_nil)) (pe_callB cr_len (by rfl) mlen PySem.boot_len (pa_cons (pv 0) pa_nil))) pa_nil))))), ?_⟩)
  · obtain ⟨fl, fs, rfl, _⟩ := h
    rfl
  · obtain ⟨fl, fs, rfl, hF, hw, hl, k⟩ := h
    obtain ⟨as, ha, ho⟩ := id hF
    refine ⟨rfl, fun p hp => ?_⟩
    have s0 : Same H (upd H p (.lst (vInts (List.range 41)))) := same_upd hp
    have hp0 : upd H p (.lst (vInts (List.range 41))) p = some (.lst (vInts (List.range 41))) := upd_same
    generalize upd H p (.lst (vInts (List.range 41))) = H0 at s0 hp0
    refine ⟨p, rfl, ⟨_, SqL.of hp0⟩, fun D hD => lc_list (K := K) (a := p) (xs := vInts (List.range 41)) (fun i H' => Same H0 H' ∧ H' D = some (.lst (vInts (((List.range 41).take i).map (flatHarm fs)))))
      ⟨same_upd hD, upd_same⟩ (fun i H' _ z => SqL.of (z.1 _ _ hp0)) ?_ ?_⟩
    · rintro i x H' hx ⟨s1, hD1⟩
      obtain ⟨hi, rfl⟩ := vInts_range hx
      refine ⟨rfl, tyes ?_⟩
      refine ⟨_, rfl, _, rfl, (by show 1 ≤ sizeLine; decide), fun l hl0 => ?_⟩
      have s2 : Same H' (upd H' l (.lst [vI i])) := same_upd hl0
      have ha2 := s2 _ _ (s1 _ _ (s0 _ _ ha))
      refine ⟨_, rfl, fl, _, rfl, .inl (SqL.of ha2), l, _, _, rfl, rfl, upd_same, ?_, ?_, ?_, fun p2 hp2 => ?_⟩
      · rw [List.length_map, ho.1]
        omega
      · rw [List.length_map, ho.1]
        omega
      · rw [List.length_map, ho.1]
        show 1 * ((fs.length : Int)).toNat ≤ sizeLine
        exact line2000 (by omega)
      · have s3 := same_upd (o := .lst (List.replicate ((as.map V.ref).length : Int).toNat [vI i]).flatten) hp2
        have e3 : (List.replicate ((as.map V.ref).length : Int).toNat [vI i]).flatten = vInts (List.replicate fs.length i) := by
          rw [List.length_map, ho.1, Int.toNat_natCast, rep_ints]
        refine ⟨fl, p2, fs, List.replicate fs.length i, rfl, hF.same (s0.trans (s1.trans (s2.trans s3))), hw, upd_same.trans (by rw [e3]), ?_, fun H4 s4 => ?_⟩
        · rw [List.length_replicate]
          omega
        · refine ⟨_, s4 _ _ (s3 _ _ (s2 _ _ hD1)), ?_, same_up (s1.trans (s2.trans (s3.trans s4))) hD, ?_⟩
          · rw [vInts_len, List.length_map, List.length_take, List.length_range]
            exact line1000 (by omega)
          · rw [upd_same, take_more (List.getElem?_range hi)]
            unfold vInts
            rw [List.map_append, List.map_append]
            rfl
    · rintro H' ⟨s1, hD1⟩
      have e1 : ((List.range 41).take (vInts (List.range 41)).length) = List.range 41 := List.take_of_length_le (by simp [vInts])
      rw [e1] at hD1
      exact k D H' (s0.trans s1) hD1
theorem scFt : FnScope ["fields", "harms", "least"] ["fields"] (defScope sFlattest) := ⟨rfl, rfl, rfl, by decide +kernel, rfl, by decide +kernel, by decide +kernel⟩
theorem ok_flattest {f : Addr} {fd : FuncData} (F : Fun K "flattest" "flattest" sFlattest f fd) (mm : mg "min" = none)
    (gH : Fn P w K mg base "flat_harms" 3 ["fields"] (spFlatH CF)) : FnOk P w K mg base CX0 4 f fd ["fields"] (spFlattest CF) := by
  obtain ⟨fH, fdH, mH, kH, bH, GH⟩ := gH
  refine F.ok scFt (fun vs H Q E h => ?_) (fun cdv A outer s H vs Q E hr h => ⟨_, pss_cons (ps_set (i := 1) scFt.nd rfl (Or.inl rfl) (pe_call GH hr rfl mH kH bH .nil pass0 (pa_cons (pv 0) pa_nil)))
    (pss_cons (ps_set (i := 2) scFt.nd rfl (Or.inl rfl) (pe_callB (cr_min rfl) (by rfl) mm (by decide +kernel) (pa_cons (pv 1) pa_nil)))
    (pss_one (ps_ret (pe_tup (pa_cons (pv 2) (pa_cons (pe_bm PySem.F.plainAttrs_list PySem.F.slot_list_count PySem.F.type_list_count mt_lcount (pv 1) (pa_cons (pv 2) pa_nil)) (pa_cons (pe_bm PySem.F.plainAttrs_list PySem.F.slot_list_index PySem.F.type_list_index mt_index (pv 1) (pa_cons (pv 2) pa_nil)) pa_nil))))))), ?_⟩)
  · obtain ⟨fl, fs, rfl, _⟩ := h
    rfl
  · obtain ⟨fl, fs, rfl, hF, hw, hl, k⟩ := h
    refine ⟨_, rfl, fl, fs, rfl, hF, hw, hl, fun p H1 s1 hp => ?_⟩
    have hp2 : H1 p = some (.lst ((nats ((List.range 41).map (flatHarm fs))).map V.int)) := by
      rw [vInts_nats]
      exact hp
    refine ⟨_, rfl, p, _, rfl, SqL.of hp2, (by unfold nats; rw [List.length_map, List.length_map, List.length_range]; decide), fun m hm hle => ?_⟩
    obtain ⟨n, hn, rfl⟩ := List.mem_map.mp hm
    have hle2 : ∀ y ∈ (List.range 41).map (flatHarm fs), n ≤ y := fun y hy => by
      have := hle (y : Int) (List.mem_map.mpr ⟨y, hy, rfl⟩)
      omega
    obtain ⟨j, hj, hf⟩ := first_at hn
    refine ⟨_, rfl, _, rfl, .inl ⟨rfl, _, SqL.of hp2⟩, _, rfl, p, _, _, rfl, rfl, SqL.of hp2, ?_⟩
    have hjv := vInts_at hj
    refine ⟨_, rfl, .inl ⟨rfl, _, SqL.of hp2⟩, _, rfl, p, vInts ((List.range 41).map (flatHarm fs)), _, j, vI n, rfl, rfl, SqL.of hp, rfl, ?_, hjv, ?_, fun i z hi hz => ?_, ?_⟩
    · unfold vInts
      rw [List.all_map, List.all_eq_true]
      intro y _
      rfl
    · show eqV (.int (n : Int)) (.int (n : Int)) = true
      simp [eqV]
    · obtain ⟨y, hy, rfl⟩ := vInts_of hz
      have := hf i y hi hy
      show eqV (.int (y : Int)) (.int (n : Int)) = false
      simp [eqV]
      omega
    · refine ⟨(by show 3 ≤ sizeLine; decide), fun t ht => ?_⟩
      have hj41 : j < 41 := by
        have := (List.getElem?_eq_some_iff.mp hj).1
        rw [List.length_map, List.length_range] at this
        exact this
      have hjf : ∀ i, i < 41 → ((List.range 41).map (flatHarm fs))[i]? = some (flatHarm fs i) := fun i hi => by
        rw [List.getElem?_map, List.getElem?_range hi]
        rfl
      have e := flat_by fs (m := n) (j := j) hle2 hj41 (Option.some.inj ((hjf j hj41).symm.trans hj)) (fun i hi => hf i _ hi (hjf i (by omega)))
      refine k t _ n _ j (s1.trans (same_upd ht)) e ?_
      rw [upd_same, count_nats]
      rfl
end
end CL

namespace CL
open PySem PySem.Spec PyProof.Rows L2
open Sj01 (Field Best Canal apart)
def cF (c : Canal) (q : Addr) : List (Str × V) := [("weir", vI c.weir), ("fields", .ref q)]
def CanAt (CC CF : Addr) (H : Hp) (a q : Addr) (c : Canal) : Prop := (∃ dx, H a = some (.ins CC dx (cF c q))) ∧ Flds CF H q c.fields
theorem CanAt.same {CC CF : Addr} {H H' : Hp} {a q : Addr} {c : Canal} (h : CanAt CC CF H a q c) (s : Same H H') : CanAt CC CF H' a q c := by
  obtain ⟨⟨dx, h1⟩, h2⟩ := h
  exact ⟨⟨dx, s _ _ h1⟩, h2.same s⟩
theorem cF_weir (c : Canal) (q : Addr) : (cF c q).lookup ("weir" : Str) = some (vI c.weir) := lk_here
theorem cF_fields (c : Canal) (q : Addr) : (cF c q).lookup ("fields" : Str) = some (.ref q) := (lk_past (by decide +kernel)).trans lk_here
theorem cF_none (c : Canal) (q : Addr) {m : Str} (h1 : (m == "weir") = false) (h2 : (m == "fields") = false) : (cF c q).lookup m = none := (lk_past h1).trans ((lk_past h2).trans rfl)
/-- what a call of the canal's method leaves -/
def Post (CC CF : Addr) (H : Hp) (a q : Addr) (c : Canal) (x : Cl) (Q : VK) : Prop := ∀ (r q' : Addr) (H' : Hp), CanAt CC CF H' a q' (go c x).1 → (q' = q ∨ H q' = none) → H r = none → H' r = some (.lst ((go c x).2.map V.int)) →
  (∀ b o, H b = some o → b ≠ a → b ≠ q → H' b = some o) → Q (.ref r) H'
theorem Post.still {CC CF : Addr} {H : Hp} {a q : Addr} {c : Canal} {x : Cl} {Q : VK} {vs : List Int} (p : Post CC CF H a q c x Q) (hc : CanAt CC CF H a q c) (e : go c x = (c, vs)) {r : Addr} {H' : Hp} (s : Same H H') (hr : H r = none) (h : H' r = some (.lst (vs.map V.int))) : Q (.ref r) H' := by
  refine p r q H' ?_ (.inl rfl) hr ?_ fun b o z _ _ => s _ _ z
  · rw [e]
    exact hc.same s
  · rw [e]
    exact h
def spCInit (CC CF : Addr) : Sp := fun vs H Q _ => ∃ (p dx : Addr), vs = [.ref p] ∧ H p = some (.ins CC dx []) ∧
  ∀ (q : Addr) (H' : Hp), H q = none → CanAt CC CF H' p q Sj01.init → (∀ b o, H b = some o → b ≠ p → H' b = some o) → Q .non H'
def spCBegins (CC CF : Addr) : Sp := fun vs H Q _ => ∃ (a q : Addr) (c : Canal) (wr : Nat), vs = [.ref a, vI wr] ∧ CanAt CC CF H a q c ∧ Post CC CF H a q c (0, [wr]) Q
def spCField (CC CF : Addr) : Sp := fun vs H Q _ => ∃ (a q : Addr) (c : Canal) (wn wt : Nat), vs = [.ref a, vI wn, vI wt] ∧ CanAt CC CF H a q c ∧ Ok c ∧ Post CC CF H a q c (1, [wn, wt]) Q
def spCCheck (CC CF : Addr) : Sp := fun vs H Q _ => ∃ (a q n : Addr) (c : Canal) (l : List Nat), vs = [.ref a, .ref n] ∧ CanAt CC CF H a q c ∧ Ok c ∧ H n = some (.lst (vInts l)) ∧ l.length ≤ 10 ∧ Post CC CF H a q c (2, l) Q
def spCBest (CC CF : Addr) : Sp := fun vs H Q _ => ∃ (a q : Addr) (c : Canal), vs = [.ref a] ∧ CanAt CC CF H a q c ∧ Ok c ∧ Post CC CF H a q c (3, []) Q
def spCFlat (CC CF : Addr) : Sp := fun vs H Q _ => ∃ (a q : Addr) (c : Canal), vs = [.ref a] ∧ CanAt CC CF H a q c ∧ Ok c ∧ Post CC CF H a q c (4, []) Q
def spCAnswer (CC CF : Addr) : Sp := fun vs H Q _ => ∃ (a q n : Addr) (c : Canal) (x : Cl), vs = [.ref a, vI x.1, .ref n] ∧ CanAt CC CF H a q c ∧ Ok c ∧ H n = some (.lst (vInts x.2)) ∧ Okc x ∧ Post CC CF H a q c x Q
structure TC (K : PySem.W.Frag) (C : Addr) : Prop where
  cl : Cls K C
  nW : NoAttr K C "weir"
  nF : NoAttr K C "fields"
section
variable {P : Program} {w : World} {K : PySem.W.Frag} {mg : Str → Option Value} {base : Heap} {CF CB CC : Addr}
theorem scCI : FnScope ["self"] ["self"] (defScope sCInit) := ⟨rfl, rfl, rfl, by decide +kernel, rfl, by decide +kernel, by decide +kernel⟩
theorem ok_cinit {f : Addr} {fd : FuncData} (F : Fun K "__init__" "Canal.__init__" sCInit f fd) (T : TC K CC) : FnOk P w K mg base CX0 1 f fd ["self"] (spCInit CC CF) := by
  refine F.ok scCI (fun vs H Q E h => ?_) (fun cdv A outer s H vs Q E hr h => ⟨_, pss_cons (ps_fld (pv 0) pe_int rfl) (pss_one (ps_fld (pv 0) (pe_lst pa_nil) rfl)), ?_⟩)
  · obtain ⟨p, dx, rfl, _⟩ := h
    rfl
  · obtain ⟨p, dx, rfl, hp, k⟩ := h
    refine ⟨_, rfl, p, CC, dx, [], rfl, hp, T.cl, T.nW, (by show 0 < 1000; decide), ?_⟩
    refine ⟨(by show 0 ≤ sizeLine; decide), fun q hq => ?_⟩
    have hpq : p ≠ q := ne_of_none upd_same hq
    have hq0 : H q = none := by
      rw [upd_ne hpq.symm] at hq
      exact hq
    refine ⟨_, rfl, p, CC, dx, _, rfl, (upd_ne hpq).trans upd_same, T.cl, T.nF, (by show 1 < 1000; decide), ?_⟩
    refine k q _ hq0 ⟨⟨dx, Eq.trans upd_same (congrArg (fun q => some (HO.ins CC dx q)) ((put_past (by decide +kernel)).trans rfl))⟩, [], ?_, Objs.nil⟩ fun b o e hb => ?_
    · rw [upd_ne hpq.symm]
      exact upd_same
    · rw [upd_ne hb, upd_ne (ne_of_none e hq0), upd_ne hb]
      exact e
theorem scCb : FnScope ["self", "weir"] ["self", "weir"] (defScope sCBegins) := ⟨rfl, rfl, rfl, by decide +kernel, rfl, by decide +kernel, by decide +kernel⟩
theorem ok_cbegins {f : Addr} {fd : FuncData} {t t2 : Tok} (F : Fun K "begins" "Canal.begins" sCBegins f fd) (T : TC K CC) (m1 : mg "MOST_WEIR" = some (.int 1000 t)) (m2 : mg "BAD" = some (.int (-1) t2)) : FnOk P w K mg base CX0 1 f fd ["self", "weir"] (spCBegins CC CF) := by
  refine F.ok scCb (fun vs H Q E h => ?_) (fun cdv A outer s H vs Q E hr h => ⟨_, pss_cons (ps_if (pt_cmpR op_gt (pv 1) (pe_glob (v := .int 1000) rfl m1 ⟨_, rfl⟩) (nomark _)) (pss_one (ps_ret (pe_lst (pa_cons (pe_glob (v := .int (-1)) rfl m2 ⟨_, rfl⟩) pa_nil)))) pss_nil)
    (pss_cons (ps_fld (pv 0) (pv 1) rfl) (pss_cons (ps_fld (pv 0) (pe_lst pa_nil) rfl) (pss_one (ps_ret (pe_lst (pa_cons pe_int pa_nil)))))), ?_⟩)
  · obtain ⟨a, q, c, wr, rfl, _⟩ := h
    rfl
  · obtain ⟨a, q, c, wr, rfl, hc, k⟩ := h
    refine ⟨_, rfl, _, _, rfl, rfl, _, rfl, ?_⟩
    refine ite2 (fun hd => ?_) (fun hd => ?_)
    · have ec : 1000 < wr := by
        have := of_decide_eq_true hd
        omega
      refine ⟨(by show 1 ≤ sizeLine; decide), fun p hp => ?_⟩
      exact k.still hc (by rw [go_begins, if_pos ec]) (same_upd hp) hp upd_same
    · have ec : ¬ 1000 < wr := fun z => hd (decide_eq_true (by omega))
      obtain ⟨⟨dx, h1⟩, hF⟩ := hc
      refine ⟨_, rfl, _, rfl, a, CC, dx, _, rfl, h1, T.cl, T.nW, (by show 2 < 1000; decide), ?_⟩
      refine ⟨(by show 0 ≤ sizeLine; decide), fun q2 hq => ?_⟩
      have haq : a ≠ q2 := ne_of_none upd_same hq
      have hq0 : H q2 = none := by
        rw [upd_ne haq.symm] at hq
        exact hq
      refine ⟨_, rfl, a, CC, dx, _, rfl, (upd_ne haq).trans upd_same, T.cl, T.nF, (by show 2 < 1000; decide), ?_⟩
      refine ⟨(by show 1 ≤ sizeLine; decide), fun r hr1 => ?_⟩
      generalize hH4 : upd (upd (upd H a _) q2 _) a _ = H4 at hr1 ⊢
      have e1 : putF "fields" (.ref q2) (putF "weir" (vI wr) (cF c q)) = cF ⟨wr, []⟩ q2 := (congrArg (putF "fields" (V.ref q2)) (put_here (r := [("fields", V.ref q)]))).trans ((put_past (by decide +kernel)).trans (congrArg _ put_here))
      have h4a : H4 a = some (.ins CC dx (cF ⟨wr, []⟩ q2)) := by
        rw [← hH4, ← e1]
        exact upd_same
      have h4q : H4 q2 = some (.lst []) := by
        rw [← hH4, upd_ne haq.symm]
        exact upd_same
      have h4k : ∀ b o, H b = some o → b ≠ a → H4 b = some o := fun b o e hb => by
        rw [← hH4, upd_ne hb, upd_ne (ne_of_none e hq0), upd_ne hb]
        exact e
      have hr0 : H r = none := by
        cases z : H r with
        | none => rfl
        | some o =>
          have hra : r ≠ a := fun y => by
            rw [y, h4a] at hr1
            cases hr1
          rw [h4k r o z hra] at hr1
          cases hr1
      have eg : go c (0, [wr]) = (⟨wr, []⟩, [0]) := by rw [go_begins, if_neg ec]
      have s4 : Same H4 (upd H4 r (.lst [.int 0])) := same_upd hr1
      refine k r q2 _ ?_ (.inr hq0) hr0 ?_ fun b o e hb _ => s4 _ _ (h4k b o e hb)
      · rw [eg]
        exact ⟨⟨dx, s4 _ _ h4a⟩, [], s4 _ _ h4q, Objs.nil⟩
      · rw [eg]
        exact upd_same
theorem scCf : FnScope ["self", "wanted", "weight"] ["self", "wanted", "weight"] (defScope sCField) := ⟨rfl, rfl, rfl, by decide +kernel, rfl, by decide +kernel, by decide +kernel⟩
theorem ok_cfield {f : Addr} {fd : FuncData} {t t2 t3 : Tok} (F : Fun K "field" "Canal.field" sCField f fd) (T : TC K CC) (m1 : mg "MOST_FIELDS" = some (.int 8 t)) (m2 : mg "BAD" = some (.int (-1) t2)) (m3 : mg "FULL" = some (.int (-5) t3)) (mlen : mg "len" = none)
    (gL : Fn P w K mg base "is_level" 1 ["number"] spIsLevel) (gW : Fn P w K mg base "is_weight" 1 ["number"] spIsWeight) (gF : Mkr P w K mg base "Field" CF 1 ["self", "wanted", "weight"] (spFInit CF)) : FnOk P w K mg base CX0 3 f fd ["self", "wanted", "weight"] (spCField CC CF) := by
  obtain ⟨fL, fdL, mL, kL, bL, GL⟩ := gL
  obtain ⟨fW, fdW, mW, kW, bW, GW⟩ := gW
  obtain ⟨mF, fF', fdF, MF, bF, GF⟩ := gF
  refine F.ok scCf (fun vs H Q E h => ?_) (fun cdv A outer s H vs Q E hr h => ⟨_, pss_cons (ps_if (PW.pt (pw_or (pt_not (pt_val (pe_call GL (hr.mono (by decide)) rfl mL kL bL .nil pass0 (pa_cons (pv 1) pa_nil)))) (pw_or1 (pt_not (pt_val (pe_call GW (hr.mono (by decide)) rfl mW kW bW .nil pass0 (pa_cons (pv 2) pa_nil))))))) (pss_one (ps_ret (pe_lst (pa_cons (pe_glob (v := .int (-1)) rfl m2 ⟨_, rfl⟩) pa_nil)))) pss_nil)
    (pss_cons (ps_if (pt_cmpR op_eq (pe_callB cr_len (by rfl) mlen PySem.boot_len (pa_cons (pe_fld (pv 0) rfl) pa_nil)) (pe_glob (v := .int 8) rfl m1 ⟨_, rfl⟩) (nomark _)) (pss_one (ps_ret (pe_lst (pa_cons (pe_glob (v := .int (-5)) rfl m3 ⟨_, rfl⟩) pa_nil)))) pss_nil)
    (pss_cons (ps_expr (pe_bm PySem.F.plainAttrs_list PySem.F.slot_list_append PySem.F.type_list_append mt_append (pe_fld (pv 0) rfl) (pa_cons (pe_make MF GF hr rfl mF bF .nil pass0 (pa_cons (pv 1) (pa_cons (pv 2) pa_nil))) pa_nil)))
    (pss_one (ps_ret (pe_lst (pa_cons (pe_op op_sub (pe_callB cr_len (by rfl) mlen PySem.boot_len (pa_cons (pe_fld (pv 0) rfl) pa_nil)) pe_int) pa_nil)))))), ?_⟩)
  · obtain ⟨a, q, c, wn, wt, rfl, _⟩ := h
    rfl
  · obtain ⟨a, q, c, wn, wt, rfl, hc, ok, k⟩ := h
    have bad : 40 < wn ∨ 100 < wt → ∀ p, H p = none → Q (.ref p) (upd H p (.lst [.int (-1)])) := fun hb p hp =>
      k.still hc (by rw [go_field, if_pos hb]) (same_upd hp) hp upd_same
    refine ⟨_, rfl, wn, rfl, _, rfl, ?_⟩
    refine ite2 (fun h1 => ?_) (fun h1 => ?_)
    · have hb : 40 < wn := by
        cases z : decide (wn ≤ 40) with
        | true =>
          rw [z] at h1
          cases h1
        | false =>
          have := of_decide_eq_false z
          omega
      exact iteT ⟨(by show 1 ≤ sizeLine; decide), bad (.inl hb)⟩
    have hb1 : wn ≤ 40 := by
      cases z : decide (wn ≤ 40) with
      | true => exact of_decide_eq_true z
      | false =>
        rw [z] at h1
        exact absurd rfl h1
    refine ⟨_, rfl, wt, rfl, _, rfl, ?_⟩
    refine ite2 (fun h2 => ?_) (fun h2 => ?_)
    · have hb : 100 < wt := by
        cases z : decide (wt ≤ 100) with
        | true =>
          rw [z] at h2
          cases h2
        | false =>
          have := of_decide_eq_false z
          omega
      exact ⟨(by show 1 ≤ sizeLine; decide), bad (.inr hb)⟩
    have hb2 : wt ≤ 100 := by
      cases z : decide (wt ≤ 100) with
      | true => exact of_decide_eq_true z
      | false =>
        rw [z] at h2
        exact absurd rfl h2
    have hnb : ¬ (40 < wn ∨ 100 < wt) := by omega
    obtain ⟨⟨dx, ha⟩, as, hq, ho⟩ := id hc
    refine ⟨_, rfl, a, CC, dx, _, _, rfl, ha, T.cl, T.nF, cF_fields c q, q, _, rfl, .inl (SqL.of hq), rfl, _, rfl, ?_⟩
    refine ite2 (fun h3 => ?_) (fun h3 => ?_)
    · have e8 : 8 ≤ c.fields.length := by
        have := V.int.inj (of_decide_eq_true h3)
        rw [List.length_map, ho.1] at this
        omega
      exact ⟨(by show 1 ≤ sizeLine; decide), fun p hp => k.still hc (by rw [go_field, if_neg hnb, if_pos e8]) (same_upd hp) hp upd_same⟩
    · have e8 : ¬ 8 ≤ c.fields.length := fun z => h3 (decide_eq_true (by
        have := ok.len
        rw [List.length_map, ho.1, show c.fields.length = 8 by omega]
        rfl))
      have eg : go c (1, [wn, wt]) = ({ c with fields := c.fields ++ [⟨wn, wt⟩] }, [(c.fields.length : Int)]) := by rw [go_field, if_neg hnb, if_neg e8]
      refine ⟨_, rfl, a, CC, dx, _, _, rfl, ha, T.cl, T.nF, cF_fields c q, .inl ⟨rfl, _, SqL.of hq⟩, _, rfl, _, rfl, ?_⟩
      intro x dx2 nx nd ne
      refine ⟨x, dx2, ⟨wn, wt⟩, rfl, upd_same, fun H2 hF2 kp => ⟨rfl, ?_⟩⟩
      have s2 : Same H H2 := Same.made nx nd kp
      have hq2 := s2 _ _ hq
      refine ⟨q, _, _, rfl, rfl, hq2, ?_, ?_⟩
      · rw [List.length_map, ho.1]
        exact line1000 (by have := ok.len; omega)
      have haq : a ≠ q := ne_of ha hq (by intro z; cases z)
      have hxq : x ≠ q := fun z => by
        rw [z, hq] at nx
        cases nx
      generalize hH3 : upd H2 q (.lst (as.map V.ref ++ [.ref x])) = H3
      have h3a : H3 a = some (.ins CC dx (cF c q)) := by
        rw [← hH3, upd_ne haq]
        exact s2 _ _ ha
      have h3q : H3 q = some (.lst ((as ++ [x]).map V.ref)) := by
        rw [← hH3, upd_same, List.map_append]
        rfl
      have h3k : ∀ b o, H b = some o → b ≠ q → H3 b = some o := fun b o e hb => by
        rw [← hH3, upd_ne hb]
        exact s2 _ _ e
      have ho3 : Objs (FAt CF) H3 (as ++ [x]) (c.fields ++ [⟨wn, wt⟩]) := by
        refine Objs.snoc (ho.mono fun b y ⟨d, z⟩ => ⟨d, h3k b _ z (ne_of z hq (by intro z; cases z))⟩) ?_
        obtain ⟨d, z⟩ := hF2
        refine ⟨d, ?_⟩
        rw [← hH3, upd_ne hxq]
        exact z
      refine ⟨_, rfl, a, CC, dx, _, _, rfl, h3a, T.cl, T.nF, cF_fields c q, q, _, rfl, .inl (SqL.of h3q), _, _, rfl, rfl, (by show 1 ≤ sizeLine; decide), fun r hr1 => ?_⟩
      have s4 := same_upd (o := .lst [.int ((((as ++ [x]).map V.ref).length : Int) - 1)]) hr1
      have hr0 : H r = none := by
        cases z : H r with
        | none => rfl
        | some o =>
          have hrq : r ≠ q := fun y => by
            rw [y, h3q] at hr1
            cases hr1
          rw [h3k r o z hrq] at hr1
          cases hr1
      refine k r q _ ?_ (.inl rfl) hr0 ?_ fun b o e _ hb => s4 _ _ (h3k b o e hb)
      · rw [eg]
        exact ⟨⟨dx, s4 _ _ h3a⟩, as ++ [x], s4 _ _ h3q, ho3.mono fun b y z => z.same s4⟩
      · rw [eg]
        refine upd_same.trans ?_
        show some (HO.lst [V.int ((((as ++ [x]).map V.ref).length : Int) - 1)]) = some (HO.lst [V.int (c.fields.length : Int)])
        have e5 : (((as ++ [x]).map V.ref).length : Int) - 1 = (c.fields.length : Int) := by
          rw [List.length_map, List.length_append, ho.1, List.length_singleton]
          omega
        rw [e5]
end
end CL

namespace CL
open PySem PySem.Spec PyProof.Rows L2
open Sj01 (Field Best Canal apart)
section
variable {P : Program} {w : World} {K : PySem.W.Frag} {mg : Str → Option Value} {base : Heap} {CF CB CC : Addr}
theorem Ok.weights {c : Canal} (h : Ok c) : ∀ f ∈ c.fields, f.weight ≤ 100 := fun f hf => (h.fld f hf).2
theorem scCc : FnScope ["self", "plan", "above", "harm", "weirs"] ["self", "plan"] (defScope sCCheck) := ⟨rfl, rfl, rfl, by decide +kernel, rfl, by decide +kernel, by decide +kernel⟩
theorem ok_ccheck {f : Addr} {fd : FuncData} {t2 t3 : Tok} (F : Fun K "check" "Canal.check" sCCheck f fd) (T : TC K CC) (m2 : mg "BAD" = some (.int (-1) t2)) (m3 : mg "RISES" = some (.int (-6) t3))
    (gP : Fn P w K mg base "is_plan" 2 ["fields", "plan"] (spIsPlan CF)) (gR : Fn P w K mg base "rises" 1 ["plan"] spRises) (gO : Fn P w K mg base "harm_of" 2 ["fields", "plan"] (spHarmOf CF)) (gW : Fn P w K mg base "weirs_of" 1 ["plan"] spWeirs) : FnOk P w K mg base CX0 3 f fd ["self", "plan"] (spCCheck CC CF) := by
  obtain ⟨fP, fdP, mP, kP, bP, GP⟩ := gP
  obtain ⟨fR, fdR, mR, kR, bR, GR⟩ := gR
  obtain ⟨fO, fdO, mO, kO, bO, GO⟩ := gO
  obtain ⟨fW, fdW, mW, kW, bW, GW⟩ := gW
  refine F.ok scCc (fun vs H Q E h => ?_) (fun cdv A outer s H vs Q E hr h => ⟨_, pss_cons (ps_if (pt_not (pt_val (pe_call GP hr rfl mP kP bP .nil pass0 (pa_cons (pe_fld (pv 0) rfl) (pa_cons (pv 1) pa_nil))))) (pss_one (ps_ret (pe_lst (pa_cons (pe_glob (v := .int (-1)) rfl m2 ⟨_, rfl⟩) pa_nil)))) pss_nil)
    (pss_cons (ps_set (i := 2) scCc.nd rfl (Or.inl rfl) (pe_call GR (hr.mono (by decide)) rfl mR kR bR .nil pass0 (pa_cons (pv 1) pa_nil)))
    (pss_cons (ps_if (pt_cmpR op_notN (pv 2) pe_non (nomark _)) (pss_one (ps_ret (pe_lst (pa_cons (pe_glob (v := .int (-6)) rfl m3 ⟨_, rfl⟩) (pa_cons (pv 2) pa_nil))))) pss_nil)
    (pss_cons (ps_set (i := 3) scCc.nd rfl (Or.inl rfl) (pe_call GO hr rfl mO kO bO .nil pass0 (pa_cons (pe_fld (pv 0) rfl) (pa_cons (pv 1) pa_nil))))
    (pss_cons (ps_set (i := 4) scCc.nd rfl (Or.inl rfl) (pe_call GW (hr.mono (by decide)) rfl mW kW bW .nil pass0 (pa_cons (pv 1) pa_nil)))
    (pss_one (ps_ret (pe_lst (pa_cons (pe_op op_add (pv 3) (pe_op op_mul (pe_fld (pv 0) rfl) (pv 4))) (pa_cons (pv 3) (pa_cons (pv 4) pa_nil)))))))))), ?_⟩)
  · obtain ⟨a, q, n, c, l, rfl, _⟩ := h
    rfl
  · obtain ⟨a, q, n, c, l, rfl, hc, ok, hn, hl, k⟩ := h
    obtain ⟨⟨dx, ha⟩, hF⟩ := id hc
    have eg := go_check c hl
    refine ⟨_, rfl, a, CC, dx, _, _, rfl, ha, T.cl, T.nF, cF_fields c q, _, rfl, q, n, c.fields, l, rfl, hF, hn, by omega, fun H1 s1 => ?_⟩
    refine ⟨_, rfl, ?_⟩
    have et : toldIs c.fields l = c.told l := rfl
    rw [et]
    cases ht : c.told l with
    | false =>
      rw [if_pos ht] at eg
      refine iteT ?_
      exact ⟨(by show 1 ≤ sizeLine; decide), fun p hp => k.still hc eg (s1.trans (same_upd hp)) (s1.free hp) upd_same⟩
    | true =>
      rw [if_neg (by rw [ht]; decide)] at eg
      refine iteF ?_
      refine ⟨_, rfl, n, l, rfl, s1 _ _ hn, by omega, ?_⟩
      refine ⟨_, rfl, rfl, _, rfl, ?_⟩
      cases hrs : Sj01.rises 0 l with
      | some i =>
        rw [hrs] at eg
        refine iteT ?_
        exact ⟨_, rfl, (by show 2 ≤ sizeLine; decide), fun p hp => k.still hc eg (s1.trans (same_upd hp)) (s1.free hp) upd_same⟩
      | none =>
        rw [hrs] at eg
        refine iteF ?_
        refine ⟨_, rfl, a, CC, dx, _, _, rfl, s1 _ _ ha, T.cl, T.nF, cF_fields c q, _, rfl, q, n, c.fields, l, rfl, hF.same s1, ok.weights, s1 _ _ hn, by omega, fun H2 s2 => ?_⟩
        refine ⟨_, rfl, n, l, rfl, s2 _ _ (s1 _ _ hn), by omega, fun H3 s3 => ?_⟩
        have s13 : Same H H3 := s1.trans (s2.trans s3)
        refine ⟨_, rfl, _, rfl, a, CC, dx, _, _, rfl, s13 _ _ ha, T.cl, T.nW, cF_weir c q, _, rfl, _, _, rfl, rfl, .inl ⟨by have := ok.weir; omega, by have := ok.weir; omega⟩, _, _, rfl, rfl, _, rfl, _, rfl, (by show 3 ≤ sizeLine; decide), fun p hp => ?_⟩
        exact k.still hc eg (s13.trans (same_upd hp)) (s13.free hp) upd_same
theorem scCB : FnScope ["self", "found"] ["self"] (defScope sCBest) := ⟨rfl, rfl, rfl, by decide +kernel, rfl, by decide +kernel, by decide +kernel⟩
theorem ok_cbest {f : Addr} {fd : FuncData} (F : Fun K "best" "Canal.best" sCBest f fd) (T : TC K CC) (T2 : TB K CB) (gB : Fn P w K mg base "best_plan" 6 ["fields", "weir"] (spBest CF CB)) : FnOk P w K mg base CX0 7 f fd ["self"] (spCBest CC CF) := by
  obtain ⟨fB, fdB, mB, kB, bB, GB⟩ := gB
  refine F.ok scCB (fun vs H Q E h => ?_) (fun cdv A outer s H vs Q E hr h => ⟨_, pss_cons (ps_set (i := 1) scCB.nd rfl (Or.inl rfl) (pe_call GB hr rfl mB kB bB .nil pass0 (pa_cons (pe_fld (pv 0) rfl) (pa_cons (pe_fld (pv 0) rfl) pa_nil))))
    (pss_one (ps_ret (pe_op op_cat (pe_lst (pa_cons (pe_fld (pv 1) rfl) (pa_cons (pe_fld (pv 1) rfl) pa_nil))) (pe_fld (pv 1) rfl)))), ?_⟩)
  · obtain ⟨a, q, c, rfl, _⟩ := h
    rfl
  · obtain ⟨a, q, c, rfl, hc, ok, k⟩ := h
    obtain ⟨⟨dx, ha⟩, hF⟩ := id hc
    refine ⟨_, rfl, a, CC, dx, _, _, rfl, ha, T.cl, T.nF, cF_fields c q, _, rfl, a, CC, dx, _, _, rfl, ha, T.cl, T.nW, cF_weir c q, q, c.weir, c.fields, rfl, hF, ok.weights, ok.len, fun x H1 s1 hB => ?_⟩
    obtain ⟨p, db, h1, h2⟩ := hB
    refine ⟨_, rfl, x, CB, db, _, _, rfl, h1, T2.cl, T2.nC, bF_cost _ p, _, rfl, x, CB, db, _, _, rfl, h1, T2.cl, T2.nM, bF_many _ p, (by show 2 ≤ sizeLine; decide), fun l hl => ?_⟩
    have s2 := same_upd (o := .lst [vI (bestPlan c.weir c.fields).cost, vI (bestPlan c.weir c.fields).many]) hl
    refine ⟨_, rfl, x, CB, db, _, _, rfl, s2 _ _ h1, T2.cl, T2.nP, bF_plan _ p, l, p, _, _, rfl, rfl, upd_same, s2 _ _ h2, ?_, fun r hr1 => ?_⟩
    · show 2 + (vInts _).length ≤ sizeLine
      rw [vInts_len, bestPlan_row]
      exact line2000 (by have := ok.len; omega)
    · refine k.still hc (go_best c) (s1.trans (s2.trans (same_upd hr1))) ((s1.trans s2).free hr1) (upd_same.trans ?_)
      show some (HO.lst (vI _ :: vI _ :: vInts _)) = some (HO.lst (V.int _ :: V.int _ :: (nats _).map V.int))
      rw [vInts_nats]
      rfl
theorem scCF : FnScope ["self"] ["self"] (defScope sCFlat) := ⟨rfl, rfl, rfl, by decide +kernel, rfl, by decide +kernel, by decide +kernel⟩
theorem ok_cflat {f : Addr} {fd : FuncData} (F : Fun K "flat" "Canal.flat" sCFlat f fd) (T : TC K CC) (ml : mg "list" = none) (gF : Fn P w K mg base "flattest" 4 ["fields"] (spFlattest CF)) : FnOk P w K mg base CX0 5 f fd ["self"] (spCFlat CC CF) := by
  obtain ⟨fB, fdB, mB, kB, bB, GB⟩ := gF
  refine F.ok scCF (fun vs H Q E h => ?_) (fun cdv A outer s H vs Q E hr h => ⟨_, pss_one (ps_ret (pe_callTy call_list_of (by rfl) ml (by decide +kernel) (pa_cons (pe_call GB hr rfl mB kB bB .nil pass0 (pa_cons (pe_fld (pv 0) rfl) pa_nil)) pa_nil))), ?_⟩)
  · obtain ⟨a, q, c, rfl, _⟩ := h
    rfl
  · obtain ⟨a, q, c, rfl, hc, ok, k⟩ := h
    obtain ⟨⟨dx, ha⟩, hF⟩ := id hc
    refine ⟨_, rfl, a, CC, dx, _, _, rfl, ha, T.cl, T.nF, cF_fields c q, q, c.fields, rfl, hF, ok.weights, ok.len, fun t H1 m n j s1 e ht => ?_⟩
    refine ⟨t, _, rfl, .inr (SqT.of ht), fun r hr1 => ?_⟩
    exact k.still hc (go_flat c e) (s1.trans (same_upd hr1)) (s1.free hr1) upd_same
theorem scCA : FnScope ["self", "call", "n"] ["self", "call", "n"] (defScope sCAnswer) := ⟨rfl, rfl, rfl, by decide +kernel, rfl, by decide +kernel, by decide +kernel⟩
theorem ok_canswer {f : Addr} {fd : FuncData} {t0 t1 t2 t3 : Tok} (F : Fun K "answer" "Canal.answer" sCAnswer f fd) (T : TC K CC) (m0 : mg "BEGINS" = some (.int 0 t0)) (m1 : mg "FIELD" = some (.int 1 t1)) (m2 : mg "CHECK" = some (.int 2 t2)) (m3 : mg "BEST" = some (.int 3 t3))
    (g0 : Mt P w K mg base CC "begins" 1 ["self", "weir"] (spCBegins CC CF)) (g1 : Mt P w K mg base CC "field" 3 ["self", "wanted", "weight"] (spCField CC CF)) (g2 : Mt P w K mg base CC "check" 3 ["self", "plan"] (spCCheck CC CF))
    (g3 : Mt P w K mg base CC "best" 7 ["self"] (spCBest CC CF)) (g4 : Mt P w K mg base CC "flat" 5 ["self"] (spCFlat CC CF)) : FnOk P w K mg base CX0 8 f fd ["self", "call", "n"] (spCAnswer CC CF) := by
  obtain ⟨f0, fd0, M0, b0, G0⟩ := g0
  obtain ⟨f1, fd1, M1, b1, G1⟩ := g1
  obtain ⟨f2, fd2, M2, b2, G2⟩ := g2
  obtain ⟨f3, fd3, M3, b3, G3⟩ := g3
  obtain ⟨f4, fd4, M4, b4, G4⟩ := g4
  refine F.ok scCA (fun vs H Q E h => ?_) (fun cdv A outer s H vs Q E hr h => ⟨_, pss_cons (ps_if (pt_cmpR op_eq (pv 1) (pe_glob (v := .int 0) rfl m0 ⟨_, rfl⟩) (nomark _)) (pss_one (ps_ret (pe_meth (pv 0) T.cl M0 G0 (hr.mono (by decide)) b0 .nil pass0 (pa_cons (pe_ix ix_list (pv 2) pe_int (fun _ _ => rfl)) pa_nil)))) pss_nil)
    (pss_cons (ps_if (pt_cmpR op_eq (pv 1) (pe_glob (v := .int 1) rfl m1 ⟨_, rfl⟩) (nomark _)) (pss_one (ps_ret (pe_meth (pv 0) T.cl M1 G1 (hr.mono (by decide)) b1 .nil pass0 (pa_cons (pe_ix ix_list (pv 2) pe_int (fun _ _ => rfl)) (pa_cons (pe_ix ix_list (pv 2) pe_int (fun _ _ => rfl)) pa_nil))))) pss_nil)
    (pss_cons (ps_if (pt_cmpR op_eq (pv 1) (pe_glob (v := .int 2) rfl m2 ⟨_, rfl⟩) (nomark _)) (pss_one (ps_ret (pe_meth (pv 0) T.cl M2 G2 (hr.mono (by decide)) b2 .nil pass0 (pa_cons (pv 2) pa_nil)))) pss_nil)
    (pss_cons (ps_if (pt_cmpR op_eq (pv 1) (pe_glob (v := .int 3) rfl m3 ⟨_, rfl⟩) (nomark _)) (pss_one (ps_ret (pe_meth0 (pv 0) T.cl M3 G3 hr b3 .nil pass0))) pss_nil)
    (pss_one (ps_ret (pe_meth0 (pv 0) T.cl M4 G4 (hr.mono (by decide)) b4 .nil pass0)))))), ?_⟩)
  · obtain ⟨a, q, n, c, x, rfl, _⟩ := h
    rfl
  · obtain ⟨a, q, n, c, x, rfl, hc, ok, hn, ox, k⟩ := h
    obtain ⟨⟨dx, ha⟩, hF⟩ := id hc
    have tr : ∀ {A B : Prop} {i j : Nat} (_ : i = j) (_ : A), if decide (V.int (i : Int) = V.int (j : Int)) = true then A else B := fun {A B i j} e h => by
      rw [if_pos (decide_eq_true (by rw [e]))]
      exact h
    have fl : ∀ {A B : Prop} {i j : Nat} (_ : i ≠ j) (_ : B), if decide (V.int (i : Int) = V.int (j : Int)) = true then A else B := fun {A B i j} e h => by
      rw [if_neg (fun z : decide (V.int (i : Int) = V.int (j : Int)) = true => e (vI_inj (of_decide_eq_true z)))]
      exact h
    cases ox with
    | begins wr =>
      refine ⟨_, rfl, rfl, _, rfl, tr (i := 0) (j := 0) rfl ?_⟩
      exact ⟨_, rfl, a, dx, _, rfl, ha, cF_none c q (by decide +kernel) (by decide +kernel), _, rfl, n, _, _, _, rfl, rfl, SqL.of hn, atI_nat (j := 0) rfl, a, q, c, wr, rfl, hc, k⟩
    | field wn wt =>
      refine ⟨_, rfl, rfl, _, rfl, fl (i := 1) (j := 0) (by decide) ?_⟩
      refine ⟨_, rfl, rfl, _, rfl, tr (i := 1) (j := 1) rfl ?_⟩
      exact ⟨_, rfl, a, dx, _, rfl, ha, cF_none c q (by decide +kernel) (by decide +kernel), _, rfl, n, _, _, _, rfl, rfl, SqL.of hn, atI_nat (j := 0) rfl, _, rfl, n, _, _, _, rfl, rfl, SqL.of hn, atI_nat (j := 1) rfl, a, q, c, wn, wt, rfl, hc, ok, k⟩
    | check l hl =>
      refine ⟨_, rfl, rfl, _, rfl, fl (i := 2) (j := 0) (by decide) ?_⟩
      refine ⟨_, rfl, rfl, _, rfl, fl (i := 2) (j := 1) (by decide) ?_⟩
      refine ⟨_, rfl, rfl, _, rfl, tr (i := 2) (j := 2) rfl ?_⟩
      exact ⟨_, rfl, a, dx, _, rfl, ha, cF_none c q (by decide +kernel) (by decide +kernel), _, rfl, a, q, n, c, l, rfl, hc, ok, hn, hl, k⟩
    | best =>
      refine ⟨_, rfl, rfl, _, rfl, fl (i := 3) (j := 0) (by decide) ?_⟩
      refine ⟨_, rfl, rfl, _, rfl, fl (i := 3) (j := 1) (by decide) ?_⟩
      refine ⟨_, rfl, rfl, _, rfl, fl (i := 3) (j := 2) (by decide) ?_⟩
      refine ⟨_, rfl, rfl, _, rfl, tr (i := 3) (j := 3) rfl ?_⟩
      exact ⟨_, rfl, a, dx, _, rfl, ha, cF_none c q (by decide +kernel) (by decide +kernel), a, q, c, rfl, hc, ok, k⟩
    | flat =>
      refine ⟨_, rfl, rfl, _, rfl, fl (i := 4) (j := 0) (by decide) ?_⟩
      refine ⟨_, rfl, rfl, _, rfl, fl (i := 4) (j := 1) (by decide) ?_⟩
      refine ⟨_, rfl, rfl, _, rfl, fl (i := 4) (j := 2) (by decide) ?_⟩
      refine ⟨_, rfl, rfl, _, rfl, fl (i := 4) (j := 3) (by decide) ?_⟩
      exact ⟨_, rfl, a, dx, _, rfl, ha, cF_none c q (by decide +kernel) (by decide +kernel), a, q, c, rfl, hc, ok, k⟩
end
end CL

namespace CL
open PySem PySem.Spec PyProof.Rows L2
open Sj01 (Field Best Canal apart)
/-! ## where a call stands in the list -/
theorem enc_at0 (d : List Int) (x : Cl) (t : List Int) : (d ++ (enc x ++ t))[d.length]? = some (x.1 : Int) := by
  rw [List.getElem?_append_right (Nat.le_refl _), Nat.sub_self]
  rfl
theorem enc_at1 (d : List Int) (x : Cl) (t : List Int) : (d ++ (enc x ++ t))[d.length + 1]? = some (x.2.length : Int) := by
  rw [List.getElem?_append_right (Nat.le_add_right _ _), Nat.add_sub_cancel_left]
  rfl
theorem enc_cut (d : List Int) (x : Cl) (t : List Int) : ((d ++ (enc x ++ t)).drop (d.length + 2)).take x.2.length = nats x.2 := by
  rw [← List.drop_drop, List.drop_left]
  show ((nats x.2 ++ [0]) ++ t).take x.2.length = nats x.2
  have el : (nats x.2).length = x.2.length := List.length_map _
  rw [List.append_assoc, ← el, List.take_left]
theorem ints_at {l : List Int} {i : Nat} {z : Int} (h : l[i]? = some z) : (l.map V.int)[i]? = some (.int z) := by
  rw [List.getElem?_map, h]
  rfl
theorem cut_ints (l : List Int) (i k : Nat) (h : i + k ≤ l.length) : cutV (l.map V.int) (some (i : Int)) (some ((i + k : Nat) : Int)) = ((l.drop i).take k).map V.int := by
  unfold cutV
  rw [HT.sIx_nat, HT.sIx_nat, List.length_map, Nat.min_eq_left (by omega), Nat.min_eq_left (by omega), Nat.add_sub_cancel_left, List.map_take, List.map_drop]
def spAns (K : PySem.W.Frag) : Sp := fun vs H Q _ => ∃ (a0 : Addr) (xs : List Cl), vs = [.ref a0] ∧ SqL K H a0 ((encs xs).map V.int) ∧ (∀ x ∈ xs, Okc x) ∧ (encs xs).length ≤ 2000 ∧
  ∀ (H' : Hp) (p : Addr), H' p = some (.lst ((outs Sj01.init xs).map V.int)) → Q (.ref p) H'
/-- what is left to be gone through -/
def left (n : Nat) (σ : List (Option V)) : Nat := match σ[3]? with
  | some (some (V.int i)) => ((n : Int) - i).toNat
  | _ => 0
theorem left_at (n m : Nat) (v0 v1 v2 v4 v5 v6 : Option V) : left n [v0, v1, v2, some (vI m), v4, v5, v6] = n - m := by
  show ((n : Int) - (m : Int)).toNat = n - m
  omega
section
variable {P : Program} {w : World} {K : PySem.W.Frag} {mg : Str → Option Value} {base : Heap} {CF CB CC : Addr}
theorem scAn : FnScope ["calls", "canal", "found", "at", "begin", "behind", "row"] ["calls"] (defScope sAnswers) := ⟨rfl, rfl, rfl, by decide +kernel, rfl, by decide +kernel, by decide +kernel⟩
theorem ok_answers {f : Addr} {fd : FuncData} (F : Fun K "answers" "answers" sAnswers f fd) (T : TC K CC) (mlen : mg "len" = none)
    (gC : Mkr P w K mg base "Canal" CC 1 ["self"] (spCInit CC CF)) (gA : Mt P w K mg base CC "answer" 8 ["self", "call", "n"] (spCAnswer CC CF)) : FnOk P w K mg base CX0 9 f fd ["calls"] (spAns K) := by
  obtain ⟨mC, fC, fdC, MC, bC, GC⟩ := gC
  obtain ⟨fA, fdA, mA, bA, GA⟩ := gA
  refine F.ok scAn (fun vs H Q E h => ?_) (fun cdv A outer s H vs Q E hr h => ⟨_, pss_cons (ps_set (i := 1) scAn.nd rfl (Or.inl rfl) (pe_make0 MC GC (hr.mono (by decide)) rfl mC bC .nil pass0))
    (pss_cons (ps_set (i := 2) scAn.nd rfl (Or.inl rfl) (pe_lst pa_nil))
    (pss_cons (ps_set (i := 3) scAn.nd rfl (Or.inl rfl) pe_int)
    (pss_cons (ps_while PassesOwn.never (pt_cmpR op_lt (pv 3) (pe_callB cr_len (by rfl) mlen PySem.boot_len (pa_cons (pv 0) pa_nil)) (nomark _))
      (pss_cons (ps_set (i := 4) scAn.nd rfl (Or.inl rfl) (pe_op op_add (pv 3) pe_int))
      (pss_cons (ps_set (i := 5) scAn.nd rfl (Or.inl rfl) (pe_op op_add (pv 4) (pe_ix ix_list (pv 0) (pe_op op_add (pv 3) pe_int) (fun _ _ => rfl))))
      (pss_cons (ps_set (i := 6) scAn.nd rfl (Or.inl rfl) (pe_meth (pv 1) T.cl mA GA hr bA .nil pass0 (pa_cons (pe_ix ix_list (pv 0) (pv 3) (fun _ _ => rfl)) (pa_cons (pe_slice sl_list (pv 0) (po_some (pv 4)) (po_some (pv 5))) pa_nil))))
      (pss_cons (ps_expr (pe_bm PySem.F.plainAttrs_list PySem.F.slot_list_append PySem.F.type_list_append mt_append (pv 2) (pa_cons (pe_callB cr_len (by rfl) mlen PySem.boot_len (pa_cons (pv 6) pa_nil)) pa_nil)))
      (pss_cons (ps_expr (pe_bm PySem.F.plainAttrs_list PySem.F.slot_list_extend PySem.F.type_list_extend mt_extend (pv 2) (pa_cons (pv 6) pa_nil)))
      (pss_one (ps_set (i := 3) scAn.nd rfl (Or.inl rfl) (pe_op op_add (pv 5) pe_int)))))))))
    (pss_one (ps_ret (pv 2)))))), ?_⟩)
  · obtain ⟨a0, xs, rfl, _⟩ := h
    rfl
  · obtain ⟨a0, xs, rfl, hS, hok, hlen, k⟩ := h
    -- canal = Canal()
    intro a dx na nd ne
    refine ⟨a, dx, rfl, upd_same, fun q H1 hq hC kp => ⟨rfl, ?_⟩⟩
    have s1 : Same H H1 := Same.made na nd kp
    have hqa : q ≠ a := fun z => by
      rw [z, upd_same] at hq
      cases hq
    have hqd : q ≠ dx := fun z => by
      rw [z, upd_ne ne, upd_same] at hq
      cases hq
    have hq0 : H q = none := by
      rw [upd_ne hqa, upd_ne hqd] at hq
      exact hq
    -- found = []; at = 0
    refine ⟨(by show 0 ≤ sizeLine; decide), fun fo hfo => ?_⟩
    have hfo0 : H fo = none := s1.free hfo
    have s2 : Same H1 (upd H1 fo (.lst [])) := same_upd hfo
    have hfq : fo ≠ q := fun z => by
      obtain ⟨_, as, hz, _⟩ := hC
      rw [z, hz] at hfo
      cases hfo
    refine while_by (fun σ H' => ∃ (done rest : List Cl) (v4 v5 v6 : Option V) (q : Addr), xs = done ++ rest ∧ σ = [some (.ref a0), some (.ref a), some (.ref fo), some (vI (encs done).length), v4, v5, v6] ∧
      Same H H' ∧ H q = none ∧ fo ≠ q ∧ CanAt CC CF H' a q (after Sj01.init done) ∧ H' fo = some (.lst ((outs Sj01.init done).map V.int))) (fun σ _ => left (encs xs).length σ)
      ⟨[], xs, none, none, none, q, rfl, rfl, s1.trans s2, hq0, hfq, hC.same s2, upd_same⟩ ?_ ?_
    · rintro σ H' ⟨done, rest, v4, v5, v6, q, hx, rfl, s5, hq5, hfq5, hC5, hf5⟩
      refine ⟨_, rfl, _, rfl, a0, _, rfl, .inl (s5.seq hS), _, _, rfl, rfl, _, rfl, ?_⟩
      rw [List.length_map]
      cases rest with
      | nil =>
        rw [List.append_nil] at hx
        subst hx
        rw [decide_eq_false (Int.lt_irrefl _)]
        refine iteF ?_
        exact ⟨_, rfl, k H' fo hf5⟩
      | cons x r =>
        have hS5 := s5.seq hS
        have el : encs xs = encs done ++ (enc x ++ encs r) := by
          rw [hx, encs_append]
          rfl
        have hl0 : (encs xs).length = (encs done).length + (x.2.length + 3) + (encs r).length := by
          rw [el, List.length_append, List.length_append, enc_len]
          omega
        rw [decide_eq_true (show ((encs done).length : Int) < ((encs xs).length : Int) by omega)]
        refine iteT ?_
        generalize hn : (encs done).length = n at *
        have a0' : (encs xs)[n]? = some (x.1 : Int) := by
          rw [el, ← hn]
          exact enc_at0 _ _ _
        have a1' : (encs xs)[n + 1]? = some (x.2.length : Int) := by
          rw [el, ← hn]
          exact enc_at1 _ _ _
        have acut : cutV ((encs xs).map V.int) (some ((n : Int) + 2)) (some ((n : Int) + 2 + (x.2.length : Int))) = vInts x.2 := by
          have e1 := cut_ints (encs xs) (n + 2) x.2.length (by omega)
          have e2 : ((encs xs).drop (n + 2)).take x.2.length = nats x.2 := by
            rw [el, ← hn]
            exact enc_cut _ _ _
          rw [e2, vInts_nats] at e1
          exact e1
        have okd : ∀ y ∈ done, Okc y := fun y hy => hok y (by rw [hx]; exact List.mem_append_left _ hy)
        have okx : Okc x := hok x (by rw [hx]; exact List.mem_append_right _ List.mem_cons_self)
        have okc : Ok (after Sj01.init done) := after_ok done _ ok_init okd
        have hlr := go_len okc okx
        have hlo := outs_len done _ ok_init okd
        have hld := encs_len done
        rw [hn] at hld
        -- begin, behind
        refine ⟨_, rfl, _, _, rfl, rfl, ?_⟩
        refine ⟨_, rfl, _, rfl, _, rfl, _, _, rfl, rfl, a0, _, _, _, rfl, rfl, hS5, at_of (j := n + 1) (by show (n : Int) + 1 = _; omega) (ints_at a1'), _, _, rfl, rfl, ?_⟩
        -- row = canal.answer(calls[at], calls[begin:behind])
        obtain ⟨⟨dc, hac⟩, hFl⟩ := id hC5
        refine ⟨_, rfl, a, dc, _, rfl, hac, cF_none _ q (by decide +kernel) (by decide +kernel), _, rfl, _, rfl, a0, _, _, _, rfl, rfl, hS5, at_of (j := n) rfl (ints_at a0'), _, rfl, _, rfl, _, rfl, _, rfl, _, rfl, a0, _, rfl, hS5, fun p4 hp4 => ?_⟩
        have s6 : Same H' (upd H' p4 (.lst (cutV ((encs xs).map V.int) (some ((n : Int) + 2)) (some ((n : Int) + 2 + (x.2.length : Int)))))) := same_upd hp4
        refine ⟨a, q, p4, after Sj01.init done, x, rfl, hC5.same s6, okc, upd_same.trans (congrArg (fun z => some (HO.lst z)) acut), okx, fun rr q' H7 hC7 hq7 hrr hr7 hk7 => ?_⟩
        generalize upd H' p4 (.lst (cutV ((encs xs).map V.int) (some ((n : Int) + 2)) (some ((n : Int) + 2 + (x.2.length : Int))))) = H6 at s6 hq7 hrr hk7
        have hf6 := s6 _ _ hf5
        have hfa : fo ≠ a := ne_of hf5 hac (by intro z; cases z)
        have hf7 : H7 fo = some (.lst ((outs Sj01.init done).map V.int)) := hk7 _ _ hf6 hfa hfq5
        have hrf : rr ≠ fo := fun z => by
          rw [z, hf6] at hrr
          cases hrr
        have s7 : Same H H7 := fun b o e => hk7 b o (s6 _ _ (s5 _ _ e)) (ne_of_none e na) (ne_of_none e hq5)
        have hq8 : H q' = none := by
          rcases hq7 with z | z
          · rw [z]
            exact hq5
          · exact (s5.trans s6).free z
        have hfq8 : fo ≠ q' := by
          rcases hq7 with z | z
          · rw [z]
            exact hfq5
          · exact ne_of_none hf6 z
        -- found.append(len(row)); found.extend(row)
        generalize hgo : go (after Sj01.init done) x = gg at hC7 hr7 hlr
        have hol : (outs Sj01.init done).length ≤ 8000 := by omega
        refine ⟨_, rfl, .inl ⟨rfl, _, SqL.of hf7⟩, _, rfl, rr, _, rfl, .inl (SqL.of hr7), fo, _, _, rfl, rfl, hf7, ?_, ?_⟩
        · rw [List.length_map]
          exact Nat.lt_of_le_of_lt hol (by decide)
        refine ⟨_, rfl, .inl ⟨rfl, _, SqL.of upd_same⟩, _, rfl, fo, rr, _, _, rfl, rfl, upd_same, (upd_ne hrf).trans hr7, ?_, ?_⟩
        · rw [List.length_append, List.length_map, List.length_map, List.length_singleton]
          exact Nat.le_trans (show _ ≤ 9000 by omega) (by decide)
        -- at = behind + 1
        refine ⟨_, rfl, _, _, rfl, rfl, ?_⟩
        rw [upd_upd]
        have eat : (encs (done ++ [x])).length = n + x.2.length + 3 := by
          rw [encs_append, List.length_append, hn]
          show n + (enc x ++ []).length = _
          rw [List.append_nil, enc_len]
          omega
        have evat : V.int ((n : Int) + 2 + (x.2.length : Int) + 1) = vI (encs (done ++ [x])).length := by
          unfold vI
          rw [eat]
          congr 1
          omega
        have efo : (outs Sj01.init done).map V.int ++ [V.int ((gg.2.map V.int).length : Int)] ++ gg.2.map V.int = (outs Sj01.init (done ++ [x])).map V.int := by
          rw [outs_snoc, hgo, List.map_append, List.length_map, List.append_assoc]
          rfl
        have hC9 : CanAt CC CF (upd H7 fo (.lst ((outs Sj01.init done).map V.int ++ [V.int ((gg.2.map V.int).length : Int)] ++ gg.2.map V.int))) a q' gg.1 := by
          obtain ⟨⟨d9, h9⟩, as9, hq9, ho9⟩ := hC7
          refine ⟨⟨d9, by rw [upd_ne hfa.symm]; exact h9⟩, as9, by rw [upd_ne hfq8.symm]; exact hq9, ho9.mono fun b y ⟨d, z⟩ => ⟨d, ?_⟩⟩
          rw [upd_ne (ne_of z hf7 (by intro z; cases z))]
          exact z
        refine ⟨⟨done ++ [x], r, some (V.int ((n : Int) + 2)), some (V.int ((n : Int) + 2 + (x.2.length : Int))), some (.ref rr), q', ?_, ?_, same_up s7 hfo0, hq8, hfq8, ?_, ?_⟩, ?_⟩
        · rw [hx, List.append_assoc]
          rfl
        · rw [← evat]
          rfl
        · rw [after_snoc, hgo]
          exact hC9
        · rw [upd_same, efo]
        · show left (encs xs).length [some (.ref a0), some (.ref a), some (.ref fo), some (V.int ((n : Int) + 2 + (x.2.length : Int) + 1)), some (V.int ((n : Int) + 2)), some (V.int ((n : Int) + 2 + (x.2.length : Int))), some (.ref rr)] < left (encs xs).length [some (.ref a0), some (.ref a), some (.ref fo), some (vI n), v4, v5, v6]
          rw [evat, left_at, left_at, eat]
          omega
    · rintro σ H' Q1 Q2 hQ ⟨v, h1, v0, h2, p, ys, h3, h4, i, j, h5, h6, kk, h7, h8⟩
      exact ⟨v, h1, v0, h2, p, ys, h3, h4, i, j, h5, h6, kk, h7, hQ _ _ h8⟩
end
end CL

namespace CL
open PySem PySem.Spec PyProof.Rows L2
open PySem.W (Codec)
open Sj01 (Field Best Canal apart)
/-! ## the end: what the top has written -/
theorem all_mk {P : Program} {w : World} {K : PySem.W.Frag} {h : Heap} {mg : Str → Option Value} {fa CF CB CC f1 f2 f3 f4 f5 f6 f7 f8 f9 f10 f11 f12 f13 f14 f15 f16 f17 f18 f19 f20 f21 f22 f23 f24 f25 f26 f27 f28 : Addr} (X : K.In h) (G : h.Ns mainGlobals mg) (hfa : mg "answers" = some (.ref fa))
    {od1 an1 od2 an2 od3 an3 od4 an4 od5 an5 od6 an6 od7 an7 od8 an8 od9 an9 od10 an10 od11 an11 od12 an12 od13 an13 od14 an14 od15 an15 od16 an16 od17 an17 od18 an18 od19 an19 od20 an20 od21 an21 od22 an22 od23 an23 od24 an24 od25 an25 od26 an26 od27 an27 od28 an28 : Option Addr} {sl1 sl2 sl3 sl4 sl5 sl6 sl7 sl8 sl9 sl10 sl11 sl12 sl13 sl14 sl15 sl16 sl17 sl18 sl19 sl20 sl21 sl22 sl23 sl24 sl25 sl26 sl27 sl28 : Array (Option Value)} {oc1 kV1 dc1 pm1 cd1 ct1 oc2 kV2 dc2 pm2 cd2 ct2 oc3 kV3 dc3 pm3 cd3 ct3 oc4 kV4 dc4 pm4 cd4 ct4 oc5 kV5 dc5 pm5 cd5 ct5 oc6 kV6 dc6 pm6 cd6 ct6 oc7 kV7 dc7 pm7 cd7 ct7 oc8 kV8 dc8 pm8 cd8 ct8 oc9 kV9 dc9 pm9 cd9 ct9 oc10 kV10 dc10 pm10 cd10 ct10 oc11 kV11 dc11 pm11 cd11 ct11 oc12 kV12 dc12 pm12 cd12 ct12 oc13 kV13 dc13 pm13 cd13 ct13 oc14 kV14 dc14 pm14 cd14 ct14 oc15 kV15 dc15 pm15 cd15 ct15 oc16 kV16 dc16 pm16 cd16 ct16 oc17 kV17 dc17 pm17 cd17 ct17 oc18 kV18 dc18 pm18 cd18 ct18 oc19 kV19 dc19 pm19 cd19 ct19 oc20 kV20 dc20 pm20 cd20 ct20 oc21 kV21 dc21 pm21 cd21 ct21 oc22 kV22 dc22 pm22 cd22 ct22 oc23 kV23 dc23 pm23 cd23 ct23 oc24 kV24 dc24 pm24 cd24 ct24 oc25 kV25 dc25 pm25 cd25 ct25 oc26 kV26 dc26 pm26 cd26 ct26 oc27 kV27 dc27 pm27 cd27 ct27 oc28 kV28 dc28 pm28 cd28 ct28 : Value} {t0 t1 t2 t3 t4 t5 t6 t7 t8 t9 t10 : Tok}
    (aCF : PySem.W.nsIn K mainGlobals "Field" = some (some (.ref CF)))
    (aCB : PySem.W.nsIn K mainGlobals "Best" = some (some (.ref CB)))
    (aCC : PySem.W.nsIn K mainGlobals "Canal" = some (some (.ref CC)))
    (a1 : PySem.W.findIn K (.ref CF) "__init__" = some (some (.ref f1))) (i1 : PySem.W.isFn K (.ref f1) = true) (l1 : K.lookup f1 = some ⟨oc1, od1, .func (PySem.W.fnOf "__init__" "Field.__init__" (defArgs sFInit) (defBody sFInit) (defScope sFInit) .none kV1 dc1 pm1 an1 cd1 ct1), sl1⟩) (c1 : PySem.W.codeIn K cd1 "Field.__init__" = true) (k1 : PySem.W.keepIn K (.ref f1) = true)
    (a2 : PySem.W.findIn K (.ref CF) "harm" = some (some (.ref f2))) (i2 : PySem.W.isFn K (.ref f2) = true) (l2 : K.lookup f2 = some ⟨oc2, od2, .func (PySem.W.fnOf "harm" "Field.harm" (defArgs sHarm) (defBody sHarm) (defScope sHarm) .none kV2 dc2 pm2 an2 cd2 ct2), sl2⟩) (c2 : PySem.W.codeIn K cd2 "Field.harm" = true) (k2 : PySem.W.keepIn K (.ref f2) = true)
    (a3 : PySem.W.nsIn K mainGlobals "is_level" = some (some (.ref f3))) (l3 : K.lookup f3 = some ⟨oc3, od3, .func (PySem.W.fnOf "is_level" "is_level" (defArgs sIsLevel) (defBody sIsLevel) (defScope sIsLevel) .none kV3 dc3 pm3 an3 cd3 ct3), sl3⟩) (c3 : PySem.W.codeIn K cd3 "is_level" = true) (k3 : PySem.W.keepIn K (.ref f3) = true)
    (a4 : PySem.W.nsIn K mainGlobals "is_weight" = some (some (.ref f4))) (l4 : K.lookup f4 = some ⟨oc4, od4, .func (PySem.W.fnOf "is_weight" "is_weight" (defArgs sIsWeight) (defBody sIsWeight) (defScope sIsWeight) .none kV4 dc4 pm4 an4 cd4 ct4), sl4⟩) (c4 : PySem.W.codeIn K cd4 "is_weight" = true) (k4 : PySem.W.keepIn K (.ref f4) = true)
    (a5 : PySem.W.nsIn K mainGlobals "levels" = some (some (.ref f5))) (l5 : K.lookup f5 = some ⟨oc5, od5, .func (PySem.W.fnOf "levels" "levels" (defArgs sLevels) (defBody sLevels) (defScope sLevels) .none kV5 dc5 pm5 an5 cd5 ct5), sl5⟩) (c5 : PySem.W.codeIn K cd5 "levels" = true) (k5 : PySem.W.keepIn K (.ref f5) = true)
    (a6 : PySem.W.findIn K (.ref CB) "__init__" = some (some (.ref f6))) (i6 : PySem.W.isFn K (.ref f6) = true) (l6 : K.lookup f6 = some ⟨oc6, od6, .func (PySem.W.fnOf "__init__" "Best.__init__" (defArgs sBInit) (defBody sBInit) (defScope sBInit) .none kV6 dc6 pm6 an6 cd6 ct6), sl6⟩) (c6 : PySem.W.codeIn K cd6 "Best.__init__" = true) (k6 : PySem.W.keepIn K (.ref f6) = true)
    (a7 : PySem.W.nsIn K mainGlobals "least_cost" = some (some (.ref f7))) (l7 : K.lookup f7 = some ⟨oc7, od7, .func (PySem.W.fnOf "least_cost" "least_cost" (defArgs sLeast) (defBody sLeast) (defScope sLeast) .none kV7 dc7 pm7 an7 cd7 ct7), sl7⟩) (c7 : PySem.W.codeIn K cd7 "least_cost" = true) (k7 : PySem.W.keepIn K (.ref f7) = true)
    (a8 : PySem.W.nsIn K mainGlobals "together" = some (some (.ref f8))) (l8 : K.lookup f8 = some ⟨oc8, od8, .func (PySem.W.fnOf "together" "together" (defArgs sTog) (defBody sTog) (defScope sTog) .none kV8 dc8 pm8 an8 cd8 ct8), sl8⟩) (c8 : PySem.W.codeIn K cd8 "together" = true) (k8 : PySem.W.keepIn K (.ref f8) = true)
    (a9 : PySem.W.nsIn K mainGlobals "begun" = some (some (.ref f9))) (l9 : K.lookup f9 = some ⟨oc9, od9, .func (PySem.W.fnOf "begun" "begun" (defArgs sBegun) (defBody sBegun) (defScope sBegun) .none kV9 dc9 pm9 an9 cd9 ct9), sl9⟩) (c9 : PySem.W.codeIn K cd9 "begun" = true) (k9 : PySem.W.keepIn K (.ref f9) = true)
    (a10 : PySem.W.nsIn K mainGlobals "with_weir" = some (some (.ref f10))) (l10 : K.lookup f10 = some ⟨oc10, od10, .func (PySem.W.fnOf "with_weir" "with_weir" (defArgs sWeir) (defBody sWeir) (defScope sWeir) .none kV10 dc10 pm10 an10 cd10 ct10), sl10⟩) (c10 : PySem.W.codeIn K cd10 "with_weir" = true) (k10 : PySem.W.keepIn K (.ref f10) = true)
    (a11 : PySem.W.nsIn K mainGlobals "behind_level" = some (some (.ref f11))) (l11 : K.lookup f11 = some ⟨oc11, od11, .func (PySem.W.fnOf "behind_level" "behind_level" (defArgs sBehind) (defBody sBehind) (defScope sBehind) .none kV11 dc11 pm11 an11 cd11 ct11), sl11⟩) (c11 : PySem.W.codeIn K cd11 "behind_level" = true) (k11 : PySem.W.keepIn K (.ref f11) = true)
    (a12 : PySem.W.nsIn K mainGlobals "last_rows" = some (some (.ref f12))) (l12 : K.lookup f12 = some ⟨oc12, od12, .func (PySem.W.fnOf "last_rows" "last_rows" (defArgs sLast) (defBody sLast) (defScope sLast) .none kV12 dc12 pm12 an12 cd12 ct12), sl12⟩) (c12 : PySem.W.codeIn K cd12 "last_rows" = true) (k12 : PySem.W.keepIn K (.ref f12) = true)
    (a13 : PySem.W.nsIn K mainGlobals "rows_ahead" = some (some (.ref f13))) (l13 : K.lookup f13 = some ⟨oc13, od13, .func (PySem.W.fnOf "rows_ahead" "rows_ahead" (defArgs sAhead) (defBody sAhead) (defScope sAhead) .none kV13 dc13 pm13 an13 cd13 ct13), sl13⟩) (c13 : PySem.W.codeIn K cd13 "rows_ahead" = true) (k13 : PySem.W.keepIn K (.ref f13) = true)
    (a14 : PySem.W.nsIn K mainGlobals "best_plan" = some (some (.ref f14))) (l14 : K.lookup f14 = some ⟨oc14, od14, .func (PySem.W.fnOf "best_plan" "best_plan" (defArgs sBest) (defBody sBest) (defScope sBest) .none kV14 dc14 pm14 an14 cd14 ct14), sl14⟩) (c14 : PySem.W.codeIn K cd14 "best_plan" = true) (k14 : PySem.W.keepIn K (.ref f14) = true)
    (a15 : PySem.W.nsIn K mainGlobals "is_plan" = some (some (.ref f15))) (l15 : K.lookup f15 = some ⟨oc15, od15, .func (PySem.W.fnOf "is_plan" "is_plan" (defArgs sIsPlan) (defBody sIsPlan) (defScope sIsPlan) .none kV15 dc15 pm15 an15 cd15 ct15), sl15⟩) (c15 : PySem.W.codeIn K cd15 "is_plan" = true) (k15 : PySem.W.keepIn K (.ref f15) = true)
    (a16 : PySem.W.nsIn K mainGlobals "rises" = some (some (.ref f16))) (l16 : K.lookup f16 = some ⟨oc16, od16, .func (PySem.W.fnOf "rises" "rises" (defArgs sRises) (defBody sRises) (defScope sRises) .none kV16 dc16 pm16 an16 cd16 ct16), sl16⟩) (c16 : PySem.W.codeIn K cd16 "rises" = true) (k16 : PySem.W.keepIn K (.ref f16) = true)
    (a17 : PySem.W.nsIn K mainGlobals "harm_of" = some (some (.ref f17))) (l17 : K.lookup f17 = some ⟨oc17, od17, .func (PySem.W.fnOf "harm_of" "harm_of" (defArgs sHarmOf) (defBody sHarmOf) (defScope sHarmOf) .none kV17 dc17 pm17 an17 cd17 ct17), sl17⟩) (c17 : PySem.W.codeIn K cd17 "harm_of" = true) (k17 : PySem.W.keepIn K (.ref f17) = true)
    (a18 : PySem.W.nsIn K mainGlobals "weirs_of" = some (some (.ref f18))) (l18 : K.lookup f18 = some ⟨oc18, od18, .func (PySem.W.fnOf "weirs_of" "weirs_of" (defArgs sWeirs) (defBody sWeirs) (defScope sWeirs) .none kV18 dc18 pm18 an18 cd18 ct18), sl18⟩) (c18 : PySem.W.codeIn K cd18 "weirs_of" = true) (k18 : PySem.W.keepIn K (.ref f18) = true)
    (a19 : PySem.W.nsIn K mainGlobals "flat_harms" = some (some (.ref f19))) (l19 : K.lookup f19 = some ⟨oc19, od19, .func (PySem.W.fnOf "flat_harms" "flat_harms" (defArgs sFlatH) (defBody sFlatH) (defScope sFlatH) .none kV19 dc19 pm19 an19 cd19 ct19), sl19⟩) (c19 : PySem.W.codeIn K cd19 "flat_harms" = true) (k19 : PySem.W.keepIn K (.ref f19) = true)
    (a20 : PySem.W.nsIn K mainGlobals "flattest" = some (some (.ref f20))) (l20 : K.lookup f20 = some ⟨oc20, od20, .func (PySem.W.fnOf "flattest" "flattest" (defArgs sFlattest) (defBody sFlattest) (defScope sFlattest) .none kV20 dc20 pm20 an20 cd20 ct20), sl20⟩) (c20 : PySem.W.codeIn K cd20 "flattest" = true) (k20 : PySem.W.keepIn K (.ref f20) = true)
    (a21 : PySem.W.findIn K (.ref CC) "__init__" = some (some (.ref f21))) (i21 : PySem.W.isFn K (.ref f21) = true) (l21 : K.lookup f21 = some ⟨oc21, od21, .func (PySem.W.fnOf "__init__" "Canal.__init__" (defArgs sCInit) (defBody sCInit) (defScope sCInit) .none kV21 dc21 pm21 an21 cd21 ct21), sl21⟩) (c21 : PySem.W.codeIn K cd21 "Canal.__init__" = true) (k21 : PySem.W.keepIn K (.ref f21) = true)
    (a22 : PySem.W.findIn K (.ref CC) "begins" = some (some (.ref f22))) (i22 : PySem.W.isFn K (.ref f22) = true) (l22 : K.lookup f22 = some ⟨oc22, od22, .func (PySem.W.fnOf "begins" "Canal.begins" (defArgs sCBegins) (defBody sCBegins) (defScope sCBegins) .none kV22 dc22 pm22 an22 cd22 ct22), sl22⟩) (c22 : PySem.W.codeIn K cd22 "Canal.begins" = true) (k22 : PySem.W.keepIn K (.ref f22) = true)
    (a23 : PySem.W.findIn K (.ref CC) "field" = some (some (.ref f23))) (i23 : PySem.W.isFn K (.ref f23) = true) (l23 : K.lookup f23 = some ⟨oc23, od23, .func (PySem.W.fnOf "field" "Canal.field" (defArgs sCField) (defBody sCField) (defScope sCField) .none kV23 dc23 pm23 an23 cd23 ct23), sl23⟩) (c23 : PySem.W.codeIn K cd23 "Canal.field" = true) (k23 : PySem.W.keepIn K (.ref f23) = true)
    (a24 : PySem.W.findIn K (.ref CC) "check" = some (some (.ref f24))) (i24 : PySem.W.isFn K (.ref f24) = true) (l24 : K.lookup f24 = some ⟨oc24, od24, .func (PySem.W.fnOf "check" "Canal.check" (defArgs sCCheck) (defBody sCCheck) (defScope sCCheck) .none kV24 dc24 pm24 an24 cd24 ct24), sl24⟩) (c24 : PySem.W.codeIn K cd24 "Canal.check" = true) (k24 : PySem.W.keepIn K (.ref f24) = true)
    (a25 : PySem.W.findIn K (.ref CC) "best" = some (some (.ref f25))) (i25 : PySem.W.isFn K (.ref f25) = true) (l25 : K.lookup f25 = some ⟨oc25, od25, .func (PySem.W.fnOf "best" "Canal.best" (defArgs sCBest) (defBody sCBest) (defScope sCBest) .none kV25 dc25 pm25 an25 cd25 ct25), sl25⟩) (c25 : PySem.W.codeIn K cd25 "Canal.best" = true) (k25 : PySem.W.keepIn K (.ref f25) = true)
    (a26 : PySem.W.findIn K (.ref CC) "flat" = some (some (.ref f26))) (i26 : PySem.W.isFn K (.ref f26) = true) (l26 : K.lookup f26 = some ⟨oc26, od26, .func (PySem.W.fnOf "flat" "Canal.flat" (defArgs sCFlat) (defBody sCFlat) (defScope sCFlat) .none kV26 dc26 pm26 an26 cd26 ct26), sl26⟩) (c26 : PySem.W.codeIn K cd26 "Canal.flat" = true) (k26 : PySem.W.keepIn K (.ref f26) = true)
    (a27 : PySem.W.findIn K (.ref CC) "answer" = some (some (.ref f27))) (i27 : PySem.W.isFn K (.ref f27) = true) (l27 : K.lookup f27 = some ⟨oc27, od27, .func (PySem.W.fnOf "answer" "Canal.answer" (defArgs sCAnswer) (defBody sCAnswer) (defScope sCAnswer) .none kV27 dc27 pm27 an27 cd27 ct27), sl27⟩) (c27 : PySem.W.codeIn K cd27 "Canal.answer" = true) (k27 : PySem.W.keepIn K (.ref f27) = true)
    (a28 : PySem.W.nsIn K mainGlobals "answers" = some (some (.ref f28))) (l28 : K.lookup f28 = some ⟨oc28, od28, .func (PySem.W.fnOf "answers" "answers" (defArgs sAnswers) (defBody sAnswers) (defScope sAnswers) .none kV28 dc28 pm28 an28 cd28 ct28), sl28⟩) (c28 : PySem.W.codeIn K cd28 "answers" = true) (k28 : PySem.W.keepIn K (.ref f28) = true)
    (pgCF : PySem.W.plainGet K CF Str.empty = true) (hdCF : PySem.W.hasDictIn K CF = true) (poCF : PySem.W.plainOver K CF = true) (saCF : PySem.W.findIn K (.ref CF) "__setattr__" = some (some (.builtin "object.__setattr__"))) (mkCF : PySem.W.makesIn K CF = true) (kcCF : PySem.W.keepIn K (.ref CF) = true)
    (nCF0 : PySem.W.findIn K (.ref CF) "wanted" = some none) (nCF1 : PySem.W.findIn K (.ref CF) "weight" = some none)
    (pgCB : PySem.W.plainGet K CB Str.empty = true) (hdCB : PySem.W.hasDictIn K CB = true) (poCB : PySem.W.plainOver K CB = true) (saCB : PySem.W.findIn K (.ref CB) "__setattr__" = some (some (.builtin "object.__setattr__"))) (mkCB : PySem.W.makesIn K CB = true) (kcCB : PySem.W.keepIn K (.ref CB) = true)
    (nCB0 : PySem.W.findIn K (.ref CB) "cost" = some none) (nCB1 : PySem.W.findIn K (.ref CB) "many" = some none) (nCB2 : PySem.W.findIn K (.ref CB) "plan" = some none)
    (pgCC : PySem.W.plainGet K CC Str.empty = true) (hdCC : PySem.W.hasDictIn K CC = true) (poCC : PySem.W.plainOver K CC = true) (saCC : PySem.W.findIn K (.ref CC) "__setattr__" = some (some (.builtin "object.__setattr__"))) (mkCC : PySem.W.makesIn K CC = true) (kcCC : PySem.W.keepIn K (.ref CC) = true)
    (nCC0 : PySem.W.findIn K (.ref CC) "weir" = some none) (nCC1 : PySem.W.findIn K (.ref CC) "fields" = some none)
    (v0 : PySem.W.nsIn K mainGlobals "MOST_LEVEL" = some (some (.int 40 t0)))
    (v1 : PySem.W.nsIn K mainGlobals "MOST_WEIGHT" = some (some (.int 100 t1)))
    (v2 : PySem.W.nsIn K mainGlobals "BAD" = some (some (.int (-1) t2)))
    (v3 : PySem.W.nsIn K mainGlobals "FULL" = some (some (.int (-5) t3)))
    (v4 : PySem.W.nsIn K mainGlobals "RISES" = some (some (.int (-6) t4)))
    (v5 : PySem.W.nsIn K mainGlobals "MOST_WEIR" = some (some (.int 1000 t5)))
    (v6 : PySem.W.nsIn K mainGlobals "MOST_FIELDS" = some (some (.int 8 t6)))
    (v7 : PySem.W.nsIn K mainGlobals "BEGINS" = some (some (.int 0 t7)))
    (v8 : PySem.W.nsIn K mainGlobals "FIELD" = some (some (.int 1 t8)))
    (v9 : PySem.W.nsIn K mainGlobals "CHECK" = some (some (.int 2 t9)))
    (v10 : PySem.W.nsIn K mainGlobals "BEST" = some (some (.int 3 t10)))
    (z0 : PySem.W.nsIn K mainGlobals "abs" = some none)
    (z1 : PySem.W.nsIn K mainGlobals "list" = some none)
    (z2 : PySem.W.nsIn K mainGlobals "range" = some none)
    (z3 : PySem.W.nsIn K mainGlobals "min" = some none)
    (z4 : PySem.W.nsIn K mainGlobals "sum" = some none)
    (z5 : PySem.W.nsIn K mainGlobals "len" = some none)
    (z6 : PySem.W.nsIn K mainGlobals "all" = some none)
    (z7 : PySem.W.nsIn K mainGlobals "zip" = some none)
    (z8 : PySem.W.nsIn K mainGlobals "reversed" = some none) :
    ∃ fd : FuncData, (∀ (s : Shared) (us : List Value), us.length = (["calls"] : List Str).length → BindsTo s fd ⟨us, []⟩ ((["calls"] : List Str).zip us)) ∧ ∀ base : Heap, K.In base → base.Ns mainGlobals mg → FnOk P w K mg base CX0 9 fa fd ["calls"] (spAns K) := by
  have e := hfa.symm.trans (PySem.W.mg_of X G a28)
  cases e
  have F1 := fun_mk (st := sFInit) l1 c1 k1
  have F2 := fun_mk (st := sHarm) l2 c2 k2
  have F3 := fun_mk (st := sIsLevel) l3 c3 k3
  have F4 := fun_mk (st := sIsWeight) l4 c4 k4
  have F5 := fun_mk (st := sLevels) l5 c5 k5
  have F6 := fun_mk (st := sBInit) l6 c6 k6
  have F7 := fun_mk (st := sLeast) l7 c7 k7
  have F8 := fun_mk (st := sTog) l8 c8 k8
  have F9 := fun_mk (st := sBegun) l9 c9 k9
  have F10 := fun_mk (st := sWeir) l10 c10 k10
  have F11 := fun_mk (st := sBehind) l11 c11 k11
  have F12 := fun_mk (st := sLast) l12 c12 k12
  have F13 := fun_mk (st := sAhead) l13 c13 k13
  have F14 := fun_mk (st := sBest) l14 c14 k14
  have F15 := fun_mk (st := sIsPlan) l15 c15 k15
  have F16 := fun_mk (st := sRises) l16 c16 k16
  have F17 := fun_mk (st := sHarmOf) l17 c17 k17
  have F18 := fun_mk (st := sWeirs) l18 c18 k18
  have F19 := fun_mk (st := sFlatH) l19 c19 k19
  have F20 := fun_mk (st := sFlattest) l20 c20 k20
  have F21 := fun_mk (st := sCInit) l21 c21 k21
  have F22 := fun_mk (st := sCBegins) l22 c22 k22
  have F23 := fun_mk (st := sCField) l23 c23 k23
  have F24 := fun_mk (st := sCCheck) l24 c24 k24
  have F25 := fun_mk (st := sCBest) l25 c25 k25
  have F26 := fun_mk (st := sCFlat) l26 c26 k26
  have F27 := fun_mk (st := sCAnswer) l27 c27 k27
  have F28 := fun_mk (st := sAnswers) l28 c28 k28
  have b1 := F1.binds (ps := ["self", "wanted", "weight"]) fun _ _ _ _ _ _ us hl => match us, hl with | [_, _, _], _ => rfl
  have b2 := F2.binds (ps := ["self", "level"]) fun _ _ _ _ _ _ us hl => match us, hl with | [_, _], _ => rfl
  have b3 := F3.binds (ps := ["number"]) fun _ _ _ _ _ _ us hl => match us, hl with | [_], _ => rfl
  have b4 := F4.binds (ps := ["number"]) fun _ _ _ _ _ _ us hl => match us, hl with | [_], _ => rfl
  have b5 := F5.binds (ps := []) fun _ _ _ _ _ _ us hl => match us, hl with | [], _ => rfl
  have b6 := F6.binds (ps := ["self", "cost", "many", "plan"]) fun _ _ _ _ _ _ us hl => match us, hl with | [_, _, _, _], _ => rfl
  have b7 := F7.binds (ps := ["rows"]) fun _ _ _ _ _ _ us hl => match us, hl with | [_], _ => rfl
  have b8 := F8.binds (ps := ["rows"]) fun _ _ _ _ _ _ us hl => match us, hl with | [_], _ => rfl
  have b9 := F9.binds (ps := ["field", "level", "behind"]) fun _ _ _ _ _ _ us hl => match us, hl with | [_, _, _], _ => rfl
  have b10 := F10.binds (ps := ["weir", "one", "level", "lower"]) fun _ _ _ _ _ _ us hl => match us, hl with | [_, _, _, _], _ => rfl
  have b11 := F11.binds (ps := ["weir", "rows", "level"]) fun _ _ _ _ _ _ us hl => match us, hl with | [_, _, _], _ => rfl
  have b12 := F12.binds (ps := ["field"]) fun _ _ _ _ _ _ us hl => match us, hl with | [_], _ => rfl
  have b13 := F13.binds (ps := ["field", "weir", "rows"]) fun _ _ _ _ _ _ us hl => match us, hl with | [_, _, _], _ => rfl
  have b14 := F14.binds (ps := ["fields", "weir"]) fun _ _ _ _ _ _ us hl => match us, hl with | [_, _], _ => rfl
  have b15 := F15.binds (ps := ["fields", "plan"]) fun _ _ _ _ _ _ us hl => match us, hl with | [_, _], _ => rfl
  have b16 := F16.binds (ps := ["plan"]) fun _ _ _ _ _ _ us hl => match us, hl with | [_], _ => rfl
  have b17 := F17.binds (ps := ["fields", "plan"]) fun _ _ _ _ _ _ us hl => match us, hl with | [_, _], _ => rfl
  have b18 := F18.binds (ps := ["plan"]) fun _ _ _ _ _ _ us hl => match us, hl with | [_], _ => rfl
  have b19 := F19.binds (ps := ["fields"]) fun _ _ _ _ _ _ us hl => match us, hl with | [_], _ => rfl
  have b20 := F20.binds (ps := ["fields"]) fun _ _ _ _ _ _ us hl => match us, hl with | [_], _ => rfl
  have b21 := F21.binds (ps := ["self"]) fun _ _ _ _ _ _ us hl => match us, hl with | [_], _ => rfl
  have b22 := F22.binds (ps := ["self", "weir"]) fun _ _ _ _ _ _ us hl => match us, hl with | [_, _], _ => rfl
  have b23 := F23.binds (ps := ["self", "wanted", "weight"]) fun _ _ _ _ _ _ us hl => match us, hl with | [_, _, _], _ => rfl
  have b24 := F24.binds (ps := ["self", "plan"]) fun _ _ _ _ _ _ us hl => match us, hl with | [_, _], _ => rfl
  have b25 := F25.binds (ps := ["self"]) fun _ _ _ _ _ _ us hl => match us, hl with | [_], _ => rfl
  have b26 := F26.binds (ps := ["self"]) fun _ _ _ _ _ _ us hl => match us, hl with | [_], _ => rfl
  have b27 := F27.binds (ps := ["self", "call", "n"]) fun _ _ _ _ _ _ us hl => match us, hl with | [_, _, _], _ => rfl
  have clCF : Cls K CF := ⟨pgCF, hdCF, poCF, saCF⟩
  have gCF := PySem.W.mg_of X G aCF
  have clCB : Cls K CB := ⟨pgCB, hdCB, poCB, saCB⟩
  have gCB := PySem.W.mg_of X G aCB
  have clCC : Cls K CC := ⟨pgCC, hdCC, poCC, saCC⟩
  have gCC := PySem.W.mg_of X G aCC
  have mMOST_LEVEL := PySem.W.mg_of X G v0
  have mMOST_WEIGHT := PySem.W.mg_of X G v1
  have mBAD := PySem.W.mg_of X G v2
  have mFULL := PySem.W.mg_of X G v3
  have mRISES := PySem.W.mg_of X G v4
  have mMOST_WEIR := PySem.W.mg_of X G v5
  have mMOST_FIELDS := PySem.W.mg_of X G v6
  have mBEGINS := PySem.W.mg_of X G v7
  have mFIELD := PySem.W.mg_of X G v8
  have mCHECK := PySem.W.mg_of X G v9
  have mBEST := PySem.W.mg_of X G v10
  have yabs := PySem.W.mg_none_of X G z0
  have ylist := PySem.W.mg_none_of X G z1
  have yrange := PySem.W.mg_none_of X G z2
  have ymin := PySem.W.mg_none_of X G z3
  have ysum := PySem.W.mg_none_of X G z4
  have ylen := PySem.W.mg_none_of X G z5
  have yall := PySem.W.mg_none_of X G z6
  have yzip := PySem.W.mg_none_of X G z7
  have yreversed := PySem.W.mg_none_of X G z8
  have TBs : TB K CB := ⟨clCB, nCB0, nCB1, nCB2⟩
  have TCs : TC K CC := ⟨clCC, nCC0, nCC1⟩
  refine ⟨PySem.W.fnOf "answers" "answers" (defArgs sAnswers) (defBody sAnswers) (defScope sAnswers) .none kV28 dc28 pm28 an28 cd28 ct28, fun s us hu => match us, hu with | [_], _ => .of_eq rfl, fun base _ _ => ?_⟩
  have gF : Mkr P w K mg base "Field" CF 1 ["self", "wanted", "weight"] (spFInit CF) := ⟨gCF, f1, _, ⟨mkCF, a1, i1, kcCF⟩, b1, ok_finit F1 clCF nCF0 nCF1⟩
  have gH : Mt P w K mg base CF "harm" 1 ["self", "level"] (spHarm CF) := ⟨f2, _, ⟨a2, i2, k2⟩, b2, ok_harm F2 clCF nCF0 nCF1 yabs⟩
  have gIL : Fn P w K mg base "is_level" 1 ["number"] spIsLevel := ⟨f3, _, PySem.W.mg_of X G a3, k3, b3, ok_islevel F3 mMOST_LEVEL⟩
  have gIW : Fn P w K mg base "is_weight" 1 ["number"] spIsWeight := ⟨f4, _, PySem.W.mg_of X G a4, k4, b4, ok_isweight F4 mMOST_WEIGHT⟩
  have gLV : Fn P w K mg base "levels" 1 [] spLevels := ⟨f5, _, PySem.W.mg_of X G a5, k5, b5, ok_levels F5 mMOST_LEVEL ylist yrange⟩
  have gB : Mkr P w K mg base "Best" CB 1 ["self", "cost", "many", "plan"] (spBInit CB) := ⟨gCB, f6, _, ⟨mkCB, a6, i6, kcCB⟩, b6, ok_binit F6 clCB nCB0 nCB1 nCB2⟩
  have gLE : Fn P w K mg base "least_cost" 1 ["rows"] (spLeast CB) := ⟨f7, _, PySem.W.mg_of X G a7, k7, b7, ok_least F7 TBs ymin⟩
  have gTO : Fn P w K mg base "together" 3 ["rows"] (spTog CB) := ⟨f8, _, PySem.W.mg_of X G a8, k8, b8, ok_tog F8 TBs ysum ylist gLE gB⟩
  have gBE : Fn P w K mg base "begun" 3 ["field", "level", "behind"] (spBegun CF CB) := ⟨f9, _, PySem.W.mg_of X G a9, k9, b9, ok_begun F9 TBs clCF gH gB⟩
  have gWE : Fn P w K mg base "with_weir" 3 ["weir", "one", "level", "lower"] (spWeir CB) := ⟨f10, _, PySem.W.mg_of X G a10, k10, b10, ok_weir F10 TBs gB⟩
  have gBL : Fn P w K mg base "behind_level" 4 ["weir", "rows", "level"] (spBehind CB) := ⟨f11, _, PySem.W.mg_of X G a11, k11, b11, ok_behind F11 yrange gWE gTO⟩
  have gLA : Fn P w K mg base "last_rows" 4 ["field"] (spLast CF CB) := ⟨f12, _, PySem.W.mg_of X G a12, k12, b12, ok_last F12 gLV gBE gB⟩
  have gAH : Fn P w K mg base "rows_ahead" 5 ["field", "weir", "rows"] (spAhead CF CB) := ⟨f13, _, PySem.W.mg_of X G a13, k13, b13, ok_ahead F13 gLV gBE gBL⟩
  have gBP : Fn P w K mg base "best_plan" 6 ["fields", "weir"] (spBest CF CB) := ⟨f14, _, PySem.W.mg_of X G a14, k14, b14, ok_best F14 yreversed gLA gAH gTO gB⟩
  have gIP : Fn P w K mg base "is_plan" 2 ["fields", "plan"] (spIsPlan CF) := ⟨f15, _, PySem.W.mg_of X G a15, k15, b15, ok_isplan F15 ylen yall gIL⟩
  have gRI : Fn P w K mg base "rises" 1 ["plan"] spRises := ⟨f16, _, PySem.W.mg_of X G a16, k16, b16, ok_rises F16 ylen yrange⟩
  have gHO : Fn P w K mg base "harm_of" 2 ["fields", "plan"] (spHarmOf CF) := ⟨f17, _, PySem.W.mg_of X G a17, k17, b17, ok_harmof F17 clCF ysum yzip gH⟩
  have gWO : Fn P w K mg base "weirs_of" 1 ["plan"] spWeirs := ⟨f18, _, PySem.W.mg_of X G a18, k18, b18, ok_weirs F18 ylen yrange⟩
  have gFH : Fn P w K mg base "flat_harms" 3 ["fields"] (spFlatH CF) := ⟨f19, _, PySem.W.mg_of X G a19, k19, b19, ok_flath F19 ylen gLV gHO⟩
  have gFT : Fn P w K mg base "flattest" 4 ["fields"] (spFlattest CF) := ⟨f20, _, PySem.W.mg_of X G a20, k20, b20, ok_flattest F20 ymin gFH⟩
  have gC : Mkr P w K mg base "Canal" CC 1 ["self"] (spCInit CC CF) := ⟨gCC, f21, _, ⟨mkCC, a21, i21, kcCC⟩, b21, ok_cinit F21 TCs⟩
  have gC0 : Mt P w K mg base CC "begins" 1 ["self", "weir"] (spCBegins CC CF) := ⟨f22, _, ⟨a22, i22, k22⟩, b22, ok_cbegins F22 TCs mMOST_WEIR mBAD⟩
  have gC1 : Mt P w K mg base CC "field" 3 ["self", "wanted", "weight"] (spCField CC CF) := ⟨f23, _, ⟨a23, i23, k23⟩, b23, ok_cfield F23 TCs mMOST_FIELDS mBAD mFULL ylen gIL gIW gF⟩
  have gC2 : Mt P w K mg base CC "check" 3 ["self", "plan"] (spCCheck CC CF) := ⟨f24, _, ⟨a24, i24, k24⟩, b24, ok_ccheck F24 TCs mBAD mRISES gIP gRI gHO gWO⟩
  have gC3 : Mt P w K mg base CC "best" 7 ["self"] (spCBest CC CF) := ⟨f25, _, ⟨a25, i25, k25⟩, b25, ok_cbest F25 TCs TBs gBP⟩
  have gC4 : Mt P w K mg base CC "flat" 5 ["self"] (spCFlat CC CF) := ⟨f26, _, ⟨a26, i26, k26⟩, b26, ok_cflat F26 TCs ylist gFT⟩
  have gCA : Mt P w K mg base CC "answer" 8 ["self", "call", "n"] (spCAnswer CC CF) := ⟨f27, _, ⟨a27, i27, k27⟩, b27, ok_canswer F27 TCs mBEGINS mFIELD mCHECK mBEST gC0 gC1 gC2 gC3 gC4⟩
  exact ok_answers F28 TCs ylen gC gCA
end CL
open PySem PySem.W PyProof.Rows
set_option maxRecDepth 100000 in
set_option maxHeartbeats 0 in
theorem PySem.Challenge.cw_canallevels_s01_answers_holds : PySem.Challenge.rw_canallevels_s01_answers.Holds := by
  w_on; k_headS; (case hw => exact ⟨[.list [.int 4, .int 0, .int 0]], by decide +kernel, by decide +kernel⟩)
  k_fillS
  refine L2.walk_specK (r := PySem.Challenge.rw_canallevels_s01_answers) (k := 9) (CX := L2.CX0) (ps := ["calls"]) (sp := CL.spAns) (by decide +kernel) rfl rfl ⟨rfl, by decide, by decide⟩ (fun w h Y => PySem.W.kIn_of Y) ?F ?S (fun _ _ _ _ z => z)
  case F =>
    intro w mg fa h Y KX G hmg
    refine' CL.all_mk KX G hmg ?aCF ?aCB ?aCC ?a1 ?i1 ?l1 ?c1 ?k1 ?a2 ?i2 ?l2 ?c2 ?k2 ?a3 ?l3 ?c3 ?k3 ?a4 ?l4 ?c4 ?k4 ?a5 ?l5 ?c5 ?k5 ?a6 ?i6 ?l6 ?c6 ?k6 ?a7 ?l7 ?c7 ?k7 ?a8 ?l8 ?c8 ?k8 ?a9 ?l9 ?c9 ?k9 ?a10 ?l10 ?c10 ?k10 ?a11 ?l11 ?c11 ?k11 ?a12 ?l12 ?c12 ?k12 ?a13 ?l13 ?c13 ?k13 ?a14 ?l14 ?c14 ?k14 ?a15 ?l15 ?c15 ?k15 ?a16 ?l16 ?c16 ?k16 ?a17 ?l17 ?c17 ?k17 ?a18 ?l18 ?c18 ?k18 ?a19 ?l19 ?c19 ?k19 ?a20 ?l20 ?c20 ?k20 ?a21 ?i21 ?l21 ?c21 ?k21 ?a22 ?i22 ?l22 ?c22 ?k22 ?a23 ?i23 ?l23 ?c23 ?k23 ?a24 ?i24 ?l24 ?c24 ?k24 ?a25 ?i25 ?l25 ?c25 ?k25 ?a26 ?i26 ?l26 ?c26 ?k26 ?a27 ?i27 ?l27 ?c27 ?k27 ?a28 ?l28 ?c28 ?k28 ?pgCF ?hdCF ?poCF ?saCF ?mkCF ?kcCF ?nCF0 ?nCF1 ?pgCB ?hdCB ?poCB ?saCB ?mkCB ?kcCB ?nCB0 ?nCB1 ?nCB2 ?pgCC ?hdCC ?poCC ?saCC ?mkCC ?kcCC ?nCC0 ?nCC1 ?v0 ?v1 ?v2 ?v3 ?v4 ?v5 ?v6 ?v7 ?v8 ?v9 ?v10 ?z0 ?z1 ?z2 ?z3 ?z4 ?z5 ?z6 ?z7 ?z8
    (case aCF => k_is)
    (case aCB => k_is)
    (case aCC => k_is)
    (case a1 => k_is)
    (case i1 => k_is)
    (case l1 => k_is)
    (case c1 => k_is)
    (case k1 => k_is)
    (case a2 => k_is)
    (case i2 => k_is)
    (case l2 => k_is)
    (case c2 => k_is)
    (case k2 => k_is)
    (case a3 => k_is)
    (case l3 => k_is)
    (case c3 => k_is)
    (case k3 => k_is)
    (case a4 => k_is)
    (case l4 => k_is)
    (case c4 => k_is)
    (case k4 => k_is)
    (case a5 => k_is)
    (case l5 => k_is)
    (case c5 => k_is)
    (case k5 => k_is)
    (case a6 => k_is)
    (case i6 => k_is)
    (case l6 => k_is)
    (case c6 => k_is)
    (case k6 => k_is)
    (case a7 => k_is)
    (case l7 => k_is)
    (case c7 => k_is)
    (case k7 => k_is)
    (case a8 => k_is)
    (case l8 => k_is)
    (case c8 => k_is)
    (case k8 => k_is)
    (case a9 => k_is)
    (case l9 => k_is)
    (case c9 => k_is)
    (case k9 => k_is)
    (case a10 => k_is)
    (case l10 => k_is)
    (case c10 => k_is)
    (case k10 => k_is)
    (case a11 => k_is)
    (case l11 => k_is)
    (case c11 => k_is)
    (case k11 => k_is)
    (case a12 => k_is)
    (case l12 => k_is)
    (case c12 => k_is)
    (case k12 => k_is)
    (case a13 => k_is)
    (case l13 => k_is)
    (case c13 => k_is)
    (case k13 => k_is)
    (case a14 => k_is)
    (case l14 => k_is)
    (case c14 => k_is)
    (case k14 => k_is)
    (case a15 => k_is)
    (case l15 => k_is)
    (case c15 => k_is)
    (case k15 => k_is)
    (case a16 => k_is)
    (case l16 => k_is)
    (case c16 => k_is)
    (case k16 => k_is)
    (case a17 => k_is)
    (case l17 => k_is)
    (case c17 => k_is)
    (case k17 => k_is)
    (case a18 => k_is)
    (case l18 => k_is)
    (case c18 => k_is)
    (case k18 => k_is)
    (case a19 => k_is)
    (case l19 => k_is)
    (case c19 => k_is)
    (case k19 => k_is)
    (case a20 => k_is)
    (case l20 => k_is)
    (case c20 => k_is)
    (case k20 => k_is)
    (case a21 => k_is)
    (case i21 => k_is)
    (case l21 => k_is)
    (case c21 => k_is)
    (case k21 => k_is)
    (case a22 => k_is)
    (case i22 => k_is)
    (case l22 => k_is)
    (case c22 => k_is)
    (case k22 => k_is)
    (case a23 => k_is)
    (case i23 => k_is)
    (case l23 => k_is)
    (case c23 => k_is)
    (case k23 => k_is)
    (case a24 => k_is)
    (case i24 => k_is)
    (case l24 => k_is)
    (case c24 => k_is)
    (case k24 => k_is)
    (case a25 => k_is)
    (case i25 => k_is)
    (case l25 => k_is)
    (case c25 => k_is)
    (case k25 => k_is)
    (case a26 => k_is)
    (case i26 => k_is)
    (case l26 => k_is)
    (case c26 => k_is)
    (case k26 => k_is)
    (case a27 => k_is)
    (case i27 => k_is)
    (case l27 => k_is)
    (case c27 => k_is)
    (case k27 => k_is)
    (case a28 => k_is)
    (case l28 => k_is)
    (case c28 => k_is)
    (case k28 => k_is)
    (case pgCF => k_is)
    (case hdCF => k_is)
    (case poCF => k_is)
    (case saCF => k_is)
    (case mkCF => k_is)
    (case kcCF => k_is)
    (case nCF0 => k_is)
    (case nCF1 => k_is)
    (case pgCB => k_is)
    (case hdCB => k_is)
    (case poCB => k_is)
    (case saCB => k_is)
    (case mkCB => k_is)
    (case kcCB => k_is)
    (case nCB0 => k_is)
    (case nCB1 => k_is)
    (case nCB2 => k_is)
    (case pgCC => k_is)
    (case hdCC => k_is)
    (case poCC => k_is)
    (case saCC => k_is)
    (case mkCC => k_is)
    (case kcCC => k_is)
    (case nCC0 => k_is)
    (case nCC1 => k_is)
    (case v0 => k_is)
    (case v1 => k_is)
    (case v2 => k_is)
    (case v3 => k_is)
    (case v4 => k_is)
    (case v5 => k_is)
    (case v6 => k_is)
    (case v7 => k_is)
    (case v8 => k_is)
    (case v9 => k_is)
    (case v10 => k_is)
    (case z0 => k_is)
    (case z1 => k_is)
    (case z2 => k_is)
    (case z3 => k_is)
    (case z4 => k_is)
    (case z5 => k_is)
    (case z6 => k_is)
    (case z7 => k_is)
    (case z8 => k_is)
  case S =>
    intro K H xs a hO hwi hask hx
    cases hx with
    | cons h1 h2 =>
      cases h2
      cases h1 with
      | lst hs ha =>
        have e := L2.ints_dw a.1 _ ha
        subst e
        have q : ((Codec.inLen 0 2000 a.1 && a.1.all (Codec.inInt 0 4294967295)) && true) = true := hwi
        rw [Bool.and_eq_true, Bool.and_eq_true] at q
        have hnn : ∀ z ∈ a.1, (0 : Int) ≤ z := fun z hz => (Codec.inInt_iff.mp (List.all_eq_true.mp q.1.2 z hz)).1
        obtain ⟨ys, oy, ey, ea⟩ := CL.asked_inv (l := a.1) hask hnn
        refine ⟨_, ys, rfl, ?_, oy, ?_, fun H' p hp => ?_⟩
        · rw [← ey]
          exact hs
        · rw [← ey]
          exact (Codec.inNat_iff.mp q.1.1).2
        · rw [← ea] at hp
          exact .lst (L2.SqL.of hp) (L2.dw_ints _)
#print axioms PySem.Challenge.cw_canallevels_s01_answers_holds
