import PyProof.Rows.All
import Wide.All
import OpenK.AllK
import Wide.FinOn
import PyProof.EqAt
import PyProof.EqKinds
import PyProof.TupleCall
import Open.SpecLaws
import KE.OsGo
import HandS.ForSpec
import HandS.Evl
import HandS.Iter
import HandS.Zip
import HandS.TupMul
import HandS.Wide
import HandS.TryMany
import HandS.ExcCtx
import HandS.Hot
import HandS.HotCalls
import HandS.SuiteRaise
import HandS.RaiseFrom
import HandS.ExcInit
import HandS.ExcInitHot
import HandS.ExcField
import HandS.Walk
import PySem.Challenge.RW_loopleaps_s01_answers
set_option Elab.async false
set_option linter.all false
/-! Part A: moves, iterates, the even growth of values. -/
namespace LL
open VaaclBase (Values Given Move Test Branch Loop valueAt given moved still holds allHold chosen branchAt okTest)
open Vaacld (Pattern andThen moveOf beginnings wholeMove follows rowsFrom evenAt minus)

structure WfGiven (n : Nat) (g : Given) : Prop where
  src : ∀ i, g.source = some i → i < n
  lo : -99 ≤ g.add
  hi : g.add ≤ 99
structure WfMove (n : Nat) (m : Move) : Prop where
  len : m.length = n
  all : ∀ g ∈ m, ∀ i, g.source = some i → i < n
structure WfBranch (n : Nat) (b : Branch) : Prop where
  tests : ∀ t ∈ b.guard, okTest n t = true
  many : b.guard.length ≤ 3
  len : b.move.length = n
  gifts : ∀ g ∈ b.move, WfGiven n g
structure WfLoop (n : Nat) (l : Loop) : Prop where
  pos : 1 ≤ n
  four : n ≤ 4
  one : 1 ≤ l.length
  three : l.length ≤ 3
  all : ∀ b ∈ l, WfBranch n b
theorem WfBranch.wm {n : Nat} {b : Branch} (h : WfBranch n b) : WfMove n b.move := ⟨h.len, fun g hg => (h.gifts g hg).src⟩

/-! values -/
theorem va_lt {s : Values} {i : Nat} (h : i < s.length) : valueAt s i = s[i] := by
  unfold valueAt
  rw [List.getElem?_eq_getElem h]
  rfl
theorem va_ge {s : Values} {i : Nat} (h : s.length ≤ i) : valueAt s i = 0 := by
  unfold valueAt
  rw [List.getElem?_eq_none_iff.mpr h]
  rfl
theorem va_ext {s t : Values} (hl : s.length = t.length) (h : ∀ i, i < s.length → valueAt s i = valueAt t i) : s = t := by
  apply List.ext_getElem hl
  intro i h1 h2
  have e := h i h1
  rw [va_lt h1, va_lt h2] at e
  exact e
theorem moved_len (m : Move) (s : Values) : (moved m s).length = m.length := by
  unfold moved
  exact List.length_map ..
theorem va_moved {m : Move} {s : Values} {i : Nat} (h : i < m.length) : valueAt (moved m s) i = given s m[i] := by
  rw [va_lt (by rw [moved_len]; exact h)]
  unfold moved
  exact List.getElem_map ..
theorem moved_still {n : Nat} {s : Values} (h : s.length = n) : moved (still n) s = s := by
  have hl : (still n).length = n := by unfold still; rw [List.length_map, List.length_range]
  refine va_ext (by rw [moved_len, hl, h]) fun i hi => ?_
  rw [moved_len, hl] at hi
  rw [va_moved (by rw [hl]; exact hi)]
  unfold still given
  rw [List.getElem_map, List.getElem_range]
  show valueAt s i + 0 = valueAt s i
  omega
theorem still_wf (n : Nat) : WfMove n (still n) := by
  refine ⟨by unfold still; rw [List.length_map, List.length_range], fun g hg i hi => ?_⟩
  unfold still at hg
  obtain ⟨j, hj, rfl⟩ := List.mem_map.mp hg
  have := List.mem_range.mp hj
  cases hi
  exact this
theorem given_andThen {m : Move} {s : Values} {g : Given} (h : ∀ i, g.source = some i → i < m.length) :
    given s (match g.source with
      | none => g
      | some j => let h := (m[j]?).getD ⟨none, 0⟩
        ⟨h.source, h.add + g.add⟩) = given (moved m s) g := by
  obtain ⟨so, ad⟩ := g
  cases so with
  | none => rfl
  | some j =>
    have hj : j < m.length := h j rfl
    show given s ⟨((m[j]?).getD ⟨none, 0⟩).source, ((m[j]?).getD ⟨none, 0⟩).add + ad⟩ = valueAt (moved m s) j + ad
    rw [va_moved hj, List.getElem?_eq_getElem hj]
    show (m[j].source.map (valueAt s)).getD 0 + (m[j].add + ad) = (m[j].source.map (valueAt s)).getD 0 + m[j].add + ad
    omega
theorem moved_andThen {m k : Move} {s : Values} (h : ∀ g ∈ k, ∀ i, g.source = some i → i < m.length) : moved (andThen m k) s = moved k (moved m s) := by
  unfold andThen
  show List.map (given s) (List.map _ k) = List.map (given (moved m s)) k
  rw [List.map_map]
  apply List.map_congr_left
  intro g hg
  exact given_andThen (h g hg)
theorem andThen_wf {n : Nat} {m k : Move} (hm : WfMove n m) (hk : WfMove n k) : WfMove n (andThen m k) := by
  refine ⟨by unfold andThen; rw [List.length_map]; exact hk.len, fun g hg i hi => ?_⟩
  unfold andThen at hg
  obtain ⟨g0, hg0, rfl⟩ := List.mem_map.mp hg
  obtain ⟨so, ad⟩ := g0
  cases so with
  | none => cases hi
  | some j =>
    have hj : j < m.length := by rw [hm.len]; exact hk.all _ hg0 j rfl
    have hi' : ((m[j]?).getD ⟨none, 0⟩).source = some i := hi
    rw [List.getElem?_eq_getElem hj] at hi'
    exact hm.all m[j] (List.getElem_mem hj) i hi'

/-! a pattern done once -/
def behindOnce (l : Loop) (p : List Nat) (s : Values) : Values := p.foldl (fun s b => moved (moveOf l b) s) s
theorem behindOnce_cons (l : Loop) (b : Nat) (p : List Nat) (s : Values) : behindOnce l (b :: p) s = behindOnce l p (moved (moveOf l b) s) := rfl
theorem behindOnce_snoc (l : Loop) (b : Nat) (p : List Nat) (s : Values) : behindOnce l (p ++ [b]) s = moved (moveOf l b) (behindOnce l p s) := by
  unfold behindOnce
  rw [List.foldl_append]
  rfl
/-- all branches of a pattern are the loop's -/
def PatOk (l : Loop) (p : List Nat) : Prop := ∀ b ∈ p, b < l.length
theorem moveOf_wf {n : Nat} {l : Loop} (h : WfLoop n l) {b : Nat} (hb : b < l.length) : WfMove n (moveOf l b) := by
  unfold moveOf branchAt
  rw [List.getElem?_eq_getElem hb]
  exact (h.all _ (List.getElem_mem hb)).wm
theorem behindOnce_len {n : Nat} {l : Loop} (h : WfLoop n l) : ∀ (p : List Nat) (s : Values), PatOk l p → s.length = n → (behindOnce l p s).length = n
  | [], s, _, hs => hs
  | b :: p, s, hp, hs => by
    rw [behindOnce_cons]
    refine behindOnce_len h p _ (fun c hc => hp c (List.mem_cons_of_mem _ hc)) ?_
    rw [moved_len]
    exact (moveOf_wf h (hp b List.mem_cons_self)).len
theorem fold_wf {n : Nat} {l : Loop} (h : WfLoop n l) : ∀ (p : List Nat) (m : Move), PatOk l p → WfMove n m → WfMove n (p.foldl (fun m b => andThen m (moveOf l b)) m)
  | [], m, _, hm => hm
  | b :: p, m, hp, hm => fold_wf h p _ (fun c hc => hp c (List.mem_cons_of_mem _ hc)) (andThen_wf hm (moveOf_wf h (hp b List.mem_cons_self)))
theorem fold_moved {n : Nat} {l : Loop} (h : WfLoop n l) : ∀ (p : List Nat) (m : Move) (s : Values), PatOk l p → WfMove n m → moved (p.foldl (fun m b => andThen m (moveOf l b)) m) s = behindOnce l p (moved m s)
  | [], m, s, _, hm => rfl
  | b :: p, m, s, hp, hm => by
    have hb := moveOf_wf h (hp b List.mem_cons_self)
    rw [List.foldl_cons, fold_moved h p _ s (fun c hc => hp c (List.mem_cons_of_mem _ hc)) (andThen_wf hm hb), behindOnce_cons, moved_andThen fun g hg i hi => by rw [hm.len]; exact hb.all g hg i hi]
theorem whole_wf {n : Nat} {l : Loop} (h : WfLoop n l) {p : List Nat} (hp : PatOk l p) : WfMove n (wholeMove l n p) := fold_wf h p _ hp (still_wf n)
theorem whole_moved {n : Nat} {l : Loop} (h : WfLoop n l) {p : List Nat} (hp : PatOk l p) {s : Values} (hs : s.length = n) : moved (wholeMove l n p) s = behindOnce l p s := by
  unfold wholeMove
  rw [fold_moved h p _ s hp (still_wf n), moved_still hs]

/-! followed once -/
def followed (l : Loop) : List Nat → Values → Bool
  | [], _ => true
  | b :: r, s => (chosen l s == some b) && followed l r (moved (moveOf l b) s)
theorem followed_iff (l : Loop) : ∀ (p : List Nat) (s : Values), followed l p s = true ↔ ∀ i (h : i < p.length), chosen l (behindOnce l (p.take i) s) = some p[i]
  | [], s => ⟨fun _ i h => absurd h (Nat.not_lt_zero i), fun _ => rfl⟩
  | b :: r, s => by
    unfold followed
    rw [Bool.and_eq_true, beq_iff_eq, followed_iff l r]
    constructor
    · rintro ⟨h0, h1⟩ i hi
      cases i with
      | zero => exact h0
      | succ i => exact h1 i (Nat.lt_of_succ_lt_succ hi)
    · intro h
      refine ⟨h 0 (Nat.succ_pos _), fun i hi => ?_⟩
      exact h (i + 1) (Nat.succ_lt_succ hi)
theorem beginnings_len (l : Loop) (n : Nat) (p : List Nat) : (beginnings l n p).length = p.length := by
  unfold beginnings
  rw [List.length_map, List.length_range]
theorem beginnings_at {n : Nat} {l : Loop} (h : WfLoop n l) {p : List Nat} (hp : PatOk l p) {i : Nat} (hi : i < (beginnings l n p).length) {s : Values} (hs : s.length = n) : moved (beginnings l n p)[i] s = behindOnce l (p.take i) s := by
  have e : (beginnings l n p)[i] = (p.take i).foldl (fun m b => andThen m (moveOf l b)) (still n) := by
    have e2 : (beginnings l n p)[i]? = some ((p.take i).foldl (fun m b => andThen m (moveOf l b)) (still n)) := by
      rw [beginnings_len] at hi
      unfold beginnings
      rw [List.getElem?_map, List.getElem?_range hi]
      rfl
    exact (List.getElem?_eq_some_iff.mp e2).2
  rw [e, fold_moved h _ _ s (fun c hc => hp c (List.mem_of_mem_take hc)) (still_wf n), moved_still hs]
theorem beginnings_wf {n : Nat} {l : Loop} (h : WfLoop n l) {p : List Nat} (hp : PatOk l p) : ∀ m ∈ beginnings l n p, WfMove n m := by
  intro m hm
  unfold beginnings at hm
  obtain ⟨i, _, rfl⟩ := List.mem_map.mp hm
  exact fold_wf h _ _ (fun c hc => hp c (List.mem_of_mem_take hc)) (still_wf n)
theorem follows_iff {n : Nat} {l : Loop} (h : WfLoop n l) {p : List Nat} (hp : PatOk l p) {s : Values} (hs : s.length = n) : follows l (beginnings l n p) p s = followed l p s := by
  rw [Bool.eq_iff_iff, followed_iff]
  unfold follows
  rw [List.all_eq_true]
  constructor
  · intro hall i hi
    have hb : i < (beginnings l n p).length := by rw [beginnings_len]; exact hi
    have hz : i < ((beginnings l n p).zip p).length := by rw [List.length_zip, beginnings_len]; omega
    have := hall ((beginnings l n p).zip p)[i] (List.getElem_mem hz)
    rw [List.getElem_zip] at this
    rw [beq_iff_eq] at this
    rw [← beginnings_at h hp hb hs]
    exact this
  · intro hall x hx
    obtain ⟨i, hi, rfl⟩ := List.getElem_of_mem hx
    rw [List.length_zip, beginnings_len] at hi
    have hi' : i < p.length := by omega
    have hb : i < (beginnings l n p).length := by rw [beginnings_len]; exact hi'
    rw [List.getElem_zip, beq_iff_eq]
    show chosen l (moved (beginnings l n p)[i] s) = some p[i]
    rw [beginnings_at h hp hb hs]
    exact hall i hi'

/-! iterates -/
def iter (m : Move) : Nat → Values → Values
  | 0, s => s
  | k + 1, s => moved m (iter m k s)
theorem iter_succ' (m : Move) : ∀ (k : Nat) (s : Values), iter m (k + 1) s = iter m k (moved m s)
  | 0, _ => rfl
  | k + 1, s => by
    show moved m (iter m (k + 1) s) = moved m (iter m k (moved m s))
    rw [iter_succ' m k s]
theorem iter_len {n : Nat} {m : Move} (h : WfMove n m) {s : Values} (hs : s.length = n) : ∀ k, (iter m k s).length = n
  | 0 => hs
  | k + 1 => by
    show (moved m (iter m k s)).length = n
    rw [moved_len]
    exact h.len
theorem rows_at (m : Move) : ∀ (k N : Nat) (s : Values), k ≤ N → (rowsFrom m N s)[k]? = some (iter m k s)
  | 0, 0, s, _ => rfl
  | 0, N + 1, s, _ => rfl
  | k + 1, 0, s, h => absurd h (Nat.not_succ_le_zero k)
  | k + 1, N + 1, s, h => by
    show (s :: rowsFrom m N (moved m s))[k + 1]? = _
    rw [List.getElem?_cons_succ, rows_at m k N (moved m s) (Nat.le_of_succ_le_succ h), iter_succ']

/-! the ring: five places, 4 stands for none -/
def stepF (a b c d x : Nat) : Nat := match x with
  | 0 => a
  | 1 => b
  | 2 => c
  | 3 => d
  | _ => 4
def itF (f : Nat → Nat) : Nat → Nat → Nat
  | 0, x => x
  | k + 1, x => itF f k (f x)
set_option maxRecDepth 100000 in
theorem ring : ∀ a, a < 5 → ∀ b, b < 5 → ∀ c, c < 5 → ∀ d, d < 5 → ∀ i, i < 5 → itF (stepF a b c d) 16 i = itF (stepF a b c d) 4 i := by
  decide +kernel
theorem itF_add (f : Nat → Nat) : ∀ (j k x : Nat), itF f (j + k) x = itF f k (itF f j x)
  | 0, k, x => by rw [Nat.zero_add]; rfl
  | j + 1, k, x => by
    rw [Nat.succ_add]
    show itF f (j + k) (f x) = itF f k (itF f j (f x))
    exact itF_add f j k (f x)
theorem itF_out (f : Nat → Nat) (k x : Nat) : f (itF f k x) = itF f (k + 1) x := by
  have := itF_add f k 1 x
  rw [this]
  rfl
theorem itF_lt {f : Nat → Nat} (hf : ∀ i, i < 5 → f i < 5) : ∀ (k x : Nat), x < 5 → itF f k x < 5
  | 0, x, h => h
  | k + 1, x, h => itF_lt hf k (f x) (hf x h)
theorem ring_of {f : Nat → Nat} (hf : ∀ i, i < 5 → f i < 5) (h4 : f 4 = 4) : ∀ i, i < 5 → itF f 16 i = itF f 4 i := by
  have e : ∀ (k x : Nat), x < 5 → itF f k x = itF (stepF (f 0) (f 1) (f 2) (f 3)) k x := by
    intro k
    induction k with
    | zero => intro x _; rfl
    | succ k ih =>
      intro x hx
      show itF f k (f x) = itF _ k (stepF _ _ _ _ x)
      have e1 : f x = stepF (f 0) (f 1) (f 2) (f 3) x := by
        match x, hx with
        | 0, _ => rfl
        | 1, _ => rfl
        | 2, _ => rfl
        | 3, _ => rfl
        | 4, _ => exact h4
      rw [← e1]
      exact ih (f x) (hf x hx)
  intro i hi
  rw [e 16 i hi, e 4 i hi]
  exact ring _ (hf 0 (by decide)) _ (hf 1 (by decide)) _ (hf 2 (by decide)) _ (hf 3 (by decide)) i hi
/-- sums along a way -/
def sumF (f : Nat → Nat) (c : Nat → Int) : Nat → Nat → Int
  | 0, _ => 0
  | k + 1, x => c x + sumF f c k (f x)
theorem sumF_out (f : Nat → Nat) (c : Nat → Int) : ∀ (k x : Nat), sumF f c (k + 1) x = sumF f c k x + c (itF f k x)
  | 0, x => by show c x + 0 = 0 + c x; omega
  | k + 1, x => by
    show c x + sumF f c (k + 1) (f x) = c x + sumF f c k (f x) + c (itF f k (f x))
    rw [sumF_out f c k (f x)]
    omega
section
variable {f : Nat → Nat} {c : Nat → Int} {x : Nat → Nat → Int}
theorem x_sum (hx : ∀ k i, i < 5 → x (k + 1) i = x k (f i) + c i) (hf : ∀ i, i < 5 → f i < 5) : ∀ (k i : Nat), i < 5 → x k i = sumF f c k i + x 0 (itF f k i)
  | 0, i, _ => by show x 0 i = 0 + x 0 i; omega
  | k + 1, i, hi => by
    rw [hx k i hi, x_sum hx hf k (f i) (hf i hi)]
    show sumF f c k (f i) + x 0 (itF f k (f i)) + c i = c i + sumF f c k (f i) + x 0 (itF f k (f i))
    omega
/-- behind four steps: twelve steps more add always as much -/
theorem x_even (hx : ∀ k i, i < 5 → x (k + 1) i = x k (f i) + c i) (hf : ∀ i, i < 5 → f i < 5) (h4 : f 4 = 4) (k i : Nat) (hi : i < 5) (hk : 4 ≤ k) : x (k + 13) i - x (k + 1) i = x (k + 12) i - x k i := by
  have e0 : ∀ k i, i < 5 → x (k + 1 + 12) i - x (k + 1) i = x (k + 12) (f i) - x k (f i) := fun k i hi => by
    have h1 := hx (k + 12) i hi
    have h2 := hx k i hi
    have h3 : k + 1 + 12 = k + 12 + 1 := by omega
    rw [h3]
    omega
  have e1 : ∀ k i, i < 5 → x (k + 12) i - x k i = x 12 (itF f k i) - x 0 (itF f k i) := by
    intro k
    induction k with
    | zero => intro i _; rfl
    | succ k ih =>
      intro i hi
      rw [e0 k i hi, ih (f i) (hf i hi)]
      rfl
  have e2 : x (k + 13) i - x (k + 1) i = x 12 (itF f (k + 1) i) - x 0 (itF f (k + 1) i) := e1 (k + 1) i hi
  rw [e2, e1 k i hi]
  have hj := itF_lt hf k i hi
  have back : itF f 12 (itF f k i) = itF f k i := by
    obtain ⟨j, rfl⟩ : ∃ j, k = 4 + j := ⟨k - 4, by omega⟩
    have r := ring_of hf h4 i hi
    have e16 : itF f 16 i = itF f 12 (itF f 4 i) := itF_add f 4 12 i
    rw [itF_add f 4 j i, ← itF_add f j 12, Nat.add_comm j 12, itF_add f 12 j, ← e16, r]
  have fwd : itF f (k + 1) i = f (itF f k i) := (itF_out f k i).symm
  rw [fwd]
  have hj' := hf _ hj
  rw [x_sum hx hf 12 _ hj, x_sum hx hf 12 _ hj', back]
  have back' : itF f 12 (f (itF f k i)) = f (itF f k i) := by
    have a : itF f 12 (f (itF f k i)) = itF f 13 (itF f k i) := rfl
    rw [a, ← itF_out f 12, back]
  rw [back']
  have s1 : sumF f c 13 (itF f k i) = sumF f c 12 (itF f k i) + c (itF f 12 (itF f k i)) := sumF_out f c 12 (itF f k i)
  rw [back] at s1
  have s2 : sumF f c 13 (itF f k i) = c (itF f k i) + sumF f c 12 (f (itF f k i)) := rfl
  omega
end
/-- where a counter's value comes from; 4: from nowhere -/
def srcF (m : Move) (i : Nat) : Nat := match (m[i]?).bind (·.source) with
  | some j => j
  | none => 4
def addF (m : Move) (i : Nat) : Int := match m[i]? with
  | some g => g.add
  | none => 0
theorem va_step {n : Nat} {m : Move} (h : WfMove n m) (hn : n ≤ 4) {s : Values} (hs : s.length = n) (i : Nat) : valueAt (moved m s) i = valueAt s (srcF m i) + addF m i := by
  by_cases hi : i < n
  · have hi' : i < m.length := by rw [h.len]; exact hi
    rw [va_moved hi']
    unfold srcF addF given
    rw [List.getElem?_eq_getElem hi', Option.bind_some]
    cases e : m[i].source with
    | none => show 0 + m[i].add = valueAt s 4 + m[i].add; rw [va_ge (by omega)]
    | some j => rfl
  · have hi' : m.length ≤ i := by rw [h.len]; omega
    rw [va_ge (by rw [moved_len]; exact hi')]
    unfold srcF addF
    rw [List.getElem?_eq_none_iff.mpr hi']
    show 0 = valueAt s 4 + 0
    rw [va_ge (by omega)]
    rfl
theorem srcF_lt {n : Nat} {m : Move} (h : WfMove n m) (hn : n ≤ 4) (i : Nat) : srcF m i < 5 := by
  unfold srcF
  by_cases hi : i < m.length
  · rw [List.getElem?_eq_getElem hi, Option.bind_some]
    cases e : m[i].source with
    | none => show 4 < 5; decide
    | some j => show j < 5; have := h.all _ (List.getElem_mem hi) j e; omega
  · rw [List.getElem?_eq_none_iff.mpr (by omega)]
    show 4 < 5
    decide
theorem srcF_4 {n : Nat} {m : Move} (h : WfMove n m) (hn : n ≤ 4) : srcF m 4 = 4 := by
  unfold srcF
  rw [List.getElem?_eq_none_iff.mpr (by rw [h.len]; exact hn)]
  rfl
/-- how much twelve times add -/
def gain (m : Move) (s : Values) (i : Nat) : Int := valueAt (iter m 16 s) i - valueAt (iter m 4 s) i
theorem va_twelve {n : Nat} {m : Move} (h : WfMove n m) (hn : n ≤ 4) {s : Values} (hs : s.length = n) (i : Nat) : ∀ k, 4 ≤ k → valueAt (iter m (k + 12) s) i = valueAt (iter m k s) i + gain m s i := by
  by_cases hi : i < 5
  · have key := x_even (f := srcF m) (c := addF m) (x := fun k i => valueAt (iter m k s) i) (fun k i _ => va_step h hn (iter_len h hs k) i) (fun i _ => srcF_lt h hn i) (srcF_4 h hn)
    intro k hk
    obtain ⟨j, rfl⟩ : ∃ j, k = 4 + j := ⟨k - 4, by omega⟩
    induction j with
    | zero => unfold gain; show valueAt (iter m 16 s) i = valueAt (iter m 4 s) i + _; omega
    | succ j ih =>
      have e := key (4 + j) i hi (by omega)
      have := ih (by omega)
      have e' : valueAt (iter m (4 + j + 13) s) i - valueAt (iter m (4 + j + 1) s) i = valueAt (iter m (4 + j + 12) s) i - valueAt (iter m (4 + j) s) i := e
      have a1 : 4 + (j + 1) + 12 = 4 + j + 13 := by omega
      have a2 : 4 + (j + 1) = 4 + j + 1 := by omega
      rw [a1, a2]
      omega
  · intro k _
    unfold gain
    have z : ∀ k, valueAt (iter m k s) i = 0 := fun k => va_ge (by rw [iter_len h hs]; omega)
    rw [z, z, z, z]
    rfl
theorem va_many {n : Nat} {m : Move} (h : WfMove n m) (hn : n ≤ 4) {s : Values} (hs : s.length = n) (i k : Nat) (hk : 4 ≤ k) : ∀ q : Nat, valueAt (iter m (k + 12 * q) s) i = valueAt (iter m k s) i + (q : Int) * gain m s i
  | 0 => by show valueAt (iter m k s) i = valueAt (iter m k s) i + (0 : Int) * _; rw [Int.zero_mul]; omega
  | q + 1 => by
    have a1 : k + 12 * (q + 1) = k + 12 * q + 12 := by omega
    rw [a1, va_twelve h hn hs i _ (by omega), va_many h hn hs i k hk q]
    have : ((q + 1 : Nat) : Int) * gain m s i = (q : Int) * gain m s i + gain m s i := by
      rw [Int.natCast_add, Int.add_mul]
      show _ + (1 : Int) * _ = _
      omega
    omega

/-! values that go up evenly -/
theorem even_len {a d : Values} {n : Nat} (ha : a.length = n) (hd : d.length = n) (q : Nat) : (evenAt a d q).length = n := by
  unfold evenAt
  rw [List.length_map, List.length_zip, ha, hd]
  omega
theorem va_even {a d : Values} (h : a.length = d.length) (q i : Nat) : valueAt (evenAt a d q) i = valueAt a i + (q : Int) * valueAt d i := by
  by_cases hi : i < a.length
  · rw [va_lt (by rw [even_len rfl h.symm]; exact hi), va_lt hi, va_lt (h ▸ hi)]
    unfold evenAt
    rw [List.getElem_map, List.getElem_zip]
  · rw [va_ge (by rw [even_len rfl h.symm]; omega), va_ge (by omega), va_ge (by omega), Int.mul_zero]
    rfl
theorem minus_len {a b : Values} {n : Nat} (ha : a.length = n) (hb : b.length = n) : (minus a b).length = n := by
  unfold minus
  rw [List.length_map, List.length_zip, ha, hb]
  omega
theorem va_minus {a b : Values} (h : a.length = b.length) (i : Nat) : valueAt (minus a b) i = valueAt a i - valueAt b i := by
  by_cases hi : i < a.length
  · rw [va_lt (by rw [minus_len rfl h.symm]; exact hi), va_lt hi, va_lt (h ▸ hi)]
    unfold minus
    rw [List.getElem_map, List.getElem_zip]
  · rw [va_ge (by rw [minus_len rfl h.symm]; omega), va_ge (by omega), va_ge (by omega)]
    rfl
/-- the row behind k, and how much r more times add (r a multiple of twelve) -/
theorem va_stride {n : Nat} {m : Move} (h : WfMove n m) (hn : n ≤ 4) {s : Values} (hs : s.length = n) (e k : Nat) (hk : 4 ≤ k) (i : Nat) : valueAt (minus (iter m (k + 12 * e) s) (iter m k s)) i = (e : Int) * gain m s i := by
  rw [va_minus (by rw [iter_len h hs, iter_len h hs]), va_many h hn hs i k hk e]
  omega
theorem even_iter {n : Nat} {m : Move} (h : WfMove n m) (hn : n ≤ 4) {s : Values} (hs : s.length = n) (e k : Nat) (hk : 4 ≤ k) (q : Nat) : evenAt (iter m k s) (minus (iter m (k + 12 * e) s) (iter m k s)) q = iter m (k + q * (12 * e)) s := by
  have l1 := iter_len h hs k
  have l2 := iter_len h hs (k + 12 * e)
  have l3 := minus_len l2 l1
  refine va_ext ((even_len l1 l3 q).trans (iter_len h hs _).symm) fun i _ => ?_
  rw [va_even (l1.trans l3.symm), va_stride h hn hs e k hk i]
  have a1 : k + q * (12 * e) = k + 12 * (q * e) := by rw [← Nat.mul_assoc, ← Nat.mul_assoc, Nat.mul_comm q 12, Nat.mul_assoc]
  rw [a1, va_many h hn hs i k hk (q * e), Int.natCast_mul, Int.mul_assoc]
/-- a move done to values that go up evenly -/
theorem va_moved_even {n : Nat} {m : Move} (h : WfMove n m) (hn : n ≤ 4) {a d : Values} (ha : a.length = n) (hd : d.length = n) (q i : Nat) : valueAt (moved m (evenAt a d q)) i = valueAt (moved m a) i + (q : Int) * valueAt d (srcF m i) := by
  rw [va_step h hn (even_len ha hd q), va_step h hn ha, va_even (ha.trans hd.symm)]
  omega
end LL

/-! Part B: the first time at which a pattern isn't followed; the specification's way finds it. -/
namespace LL
open VaaclBase (Values Given Move Test Branch Loop valueAt given moved still holds allHold chosen branchAt okTest)
open Vaacld (Pattern andThen moveOf beginnings wholeMove follows rowsFrom evenAt minus turnsAt turnsOf turnsIn allTests lesser breakIn timesOf strideOf isRem)

/-- o is the first number at which P is false, none if there's none -/
def IsFirst (P : Nat → Bool) : Option Nat → Prop
  | none => ∀ t, P t = true
  | some q => P q = false ∧ ∀ t, t < q → P t = true
theorem first_unique {P : Nat → Bool} : ∀ {o u : Option Nat}, IsFirst P o → IsFirst P u → o = u
  | none, none, _, _ => rfl
  | none, some q, h, g => by
    have a := h q
    rw [g.1] at a
    cases a
  | some q, none, h, g => by
    have a := g q
    rw [h.1] at a
    cases a
  | some q, some u, h, g => by
    rcases Nat.lt_trichotomy q u with c | c | c
    · have := g.2 q c; rw [h.1] at this; exact absurd this (by decide)
    · rw [c]
    · have := h.2 u c; rw [g.1] at this; exact absurd this (by decide)
/-- of any P there's one -/
theorem first_of {P : Nat → Bool} {q : Nat} (h : P q = false) : ∃ u, u ≤ q ∧ P u = false ∧ ∀ t, t < u → P t = true := by
  induction q using Nat.strongRecOn with
  | _ q ih =>
    by_cases c : ∃ t, t < q ∧ P t = false
    · obtain ⟨t, ht, hp⟩ := c
      obtain ⟨u, hu, r⟩ := ih t ht hp
      exact ⟨u, by omega, r⟩
    · refine ⟨q, Nat.le_refl q, h, fun t ht => ?_⟩
      cases e : P t with
      | true => rfl
      | false => exact absurd ⟨t, ht, e⟩ c
/-- the least of what g gives below r -/
def minOf (g : Nat → Option Nat) (r : Nat) : Option Nat := (List.range r).foldl (fun o k => match g k with
  | none => o
  | some x => lesser o x) none
/-- what a fold by lesser tells -/
def LeastOf (S : Nat → Prop) : Option Nat → Prop
  | none => ∀ x, ¬ S x
  | some x => S x ∧ ∀ y, S y → x ≤ y
theorem lesser_least {S : Nat → Prop} {o : Option Nat} (h : LeastOf S o) (n : Nat) : LeastOf (fun x => S x ∨ x = n) (lesser o n) := by
  cases o with
  | none =>
    refine ⟨Or.inr rfl, fun y hy => ?_⟩
    rcases hy with hy | hy
    · exact absurd hy (h y)
    · exact Nat.le_of_eq hy.symm
  | some x =>
    show LeastOf _ (some (Nat.min x n))
    obtain ⟨h1, h2⟩ := h
    have hm : Nat.min x n = min x n := rfl
    rw [hm]
    refine ⟨?_, fun y hy => ?_⟩
    · by_cases c : x ≤ n
      · rw [Nat.min_eq_left c]; exact Or.inl h1
      · rw [Nat.min_eq_right (by omega)]; exact Or.inr rfl
    · rcases hy with hy | hy
      · have := h2 y hy; omega
      · omega
theorem LeastOf.congr {S T : Nat → Prop} {o : Option Nat} (h : LeastOf S o) (e : ∀ x, S x ↔ T x) : LeastOf T o := by
  cases o with
  | none => exact fun x hx => h x ((e x).mpr hx)
  | some x => exact ⟨(e x).mp h.1, fun y hy => h.2 y ((e y).mpr hy)⟩
theorem minOf_succ (g : Nat → Option Nat) (r : Nat) : minOf g (r + 1) = match g r with
  | none => minOf g r
  | some x => lesser (minOf g r) x := by
  unfold minOf
  rw [List.range_succ, List.foldl_append]
  rfl
theorem minOf_least (g : Nat → Option Nat) : ∀ r, LeastOf (fun x => ∃ k, k < r ∧ g k = some x) (minOf g r)
  | 0 => fun x hx => by obtain ⟨k, hk, _⟩ := hx; exact absurd hk (Nat.not_lt_zero k)
  | r + 1 => by
    rw [minOf_succ]
    have ih := minOf_least g r
    cases e : g r with
    | none =>
      refine ih.congr fun x => ⟨fun ⟨k, hk, hg⟩ => ⟨k, by omega, hg⟩, fun ⟨k, hk, hg⟩ => ⟨k, ?_, hg⟩⟩
      have : k ≠ r := fun z => by rw [z, e] at hg; cases hg
      omega
    | some y =>
      refine (lesser_least ih y).congr fun x => ⟨fun h => ?_, fun ⟨k, hk, hg⟩ => ?_⟩
      · rcases h with ⟨k, hk, hg⟩ | h
        · exact ⟨k, by omega, hg⟩
        · exact ⟨r, by omega, by rw [e, h]⟩
      · by_cases c : k = r
        · rw [c, e] at hg; exact Or.inr (Option.some.inj hg).symm
        · exact Or.inl ⟨k, by omega, hg⟩
/-- the residues of B on, each with its own first: the least of them is the first -/
theorem first_by {P : Nat → Bool} {B r : Nat} (hr : 0 < r) (Q : Nat → Option Nat) (hB : ∀ t, t < B → P t = true) (hQ : ∀ k, k < r → IsFirst (fun q => P (B + k + q * r)) (Q k)) :
    IsFirst P (minOf (fun k => (Q k).map fun q => B + k + q * r) r) := by
  have L := minOf_least (fun k => (Q k).map fun q => B + k + q * r) r
  have split : ∀ t, B ≤ t → t = B + (t - B) % r + (t - B) / r * r := fun t ht => by
    have := Nat.mod_add_div (t - B) r
    rw [Nat.mul_comm] at this
    omega
  cases e : minOf (fun k => (Q k).map fun q => B + k + q * r) r with
  | none =>
    rw [e] at L
    intro t
    by_cases c : t < B
    · exact hB t c
    · have hk : (t - B) % r < r := Nat.mod_lt _ hr
      have h := hQ _ hk
      cases eq : Q ((t - B) % r) with
      | none =>
        rw [eq] at h
        have := h ((t - B) / r)
        have this : P (B + (t - B) % r + (t - B) / r * r) = true := this
        rw [← split t (by omega)] at this
        exact this
      | some q => exact absurd ⟨_, hk, by rw [eq]; rfl⟩ (L (B + (t - B) % r + q * r))
  | some x =>
    rw [e] at L
    obtain ⟨⟨k, hk, hx⟩, hl⟩ := L
    cases eq : Q k with
    | none => rw [eq] at hx; cases hx
    | some q =>
      rw [eq] at hx
      have hx : B + k + q * r = x := Option.some.inj hx
      have h := hQ k hk
      rw [eq] at h
      refine ⟨by rw [← hx]; exact h.1, fun t ht => ?_⟩
      by_cases c : t < B
      · exact hB t c
      · have hk' : (t - B) % r < r := Nat.mod_lt _ hr
        have h' := hQ _ hk'
        have st := split t (by omega)
        cases eq' : Q ((t - B) % r) with
        | none =>
          rw [eq'] at h'
          have this : P (B + (t - B) % r + (t - B) / r * r) = true := h' ((t - B) / r)
          rw [← st] at this
          exact this
        | some q' =>
          rw [eq'] at h'
          have := hl (B + (t - B) % r + q' * r) ⟨_, hk', by rw [eq']; rfl⟩
          have hlt : (t - B) / r < q' := by
            refine Nat.lt_of_not_le fun z => ?_
            have := Nat.mul_le_mul_right r z
            omega
          have this : P (B + (t - B) % r + (t - B) / r * r) = true := h'.2 _ hlt
          rw [← st] at this
          exact this

/-! tests of values that go up evenly -/
theorem turnsAt_of {a d c : Int} {q : Nat} (h : decide (a + (q : Int) * d ≤ c) ≠ decide (a + ((q + 1 : Nat) : Int) * d ≤ c)) : q + 1 ∈ turnsAt a d c := by
  have e : ((q + 1 : Nat) : Int) * d = (q : Int) * d + d := by
    rw [Int.natCast_add, Int.add_mul]
    show _ + (1 : Int) * _ = _
    omega
  rw [e] at h
  unfold turnsAt
  by_cases d0 : d = 0
  · subst d0
    simp at h
  · rw [if_neg d0]
    by_cases dp : 0 < d
    · rw [if_pos dp]
      have h1 : a + (q : Int) * d ≤ c ∧ ¬ a + ((q : Int) * d + d) ≤ c := by
        by_cases x : a + (q : Int) * d ≤ c
        · refine ⟨x, fun y => h ?_⟩
          rw [decide_eq_true x, decide_eq_true y]
        · exfalso
          refine h ?_
          rw [decide_eq_false x, decide_eq_false (by omega)]
      have nn : 0 ≤ (q : Int) * d := Int.mul_nonneg (by omega) (by omega)
      rw [if_pos (by omega), List.mem_singleton]
      have : (c - a) / d = (q : Int) := by
        have k1 : (q : Int) * d ≤ c - a := by omega
        have k2 : c - a < ((q : Int) + 1) * d := by rw [Int.add_mul]; omega
        exact Int.le_antisymm (by have := Int.ediv_lt_of_lt_mul dp k2; omega) (Int.le_ediv_of_mul_le dp k1)
      rw [this]
      omega
    · rw [if_neg dp]
      have dn : 0 < 0 - d := by omega
      have h1 : ¬ a + (q : Int) * d ≤ c ∧ a + ((q : Int) * d + d) ≤ c := by
        by_cases x : a + (q : Int) * d ≤ c
        · exfalso
          refine h ?_
          rw [decide_eq_true x, decide_eq_true (by omega)]
        · refine ⟨x, ?_⟩
          by_cases y : a + ((q : Int) * d + d) ≤ c
          · exact y
          · exfalso
            refine h ?_
            rw [decide_eq_false x, decide_eq_false y]
      have nn : 0 ≤ (q : Int) * (0 - d) := Int.mul_nonneg (by omega) (by omega)
      have en : (q : Int) * (0 - d) = - ((q : Int) * d) := by rw [Int.mul_sub]; omega
      rw [if_pos (by omega), List.mem_singleton]
      have : (a - c + (0 - d) - 1) / (0 - d) = (q : Int) + 1 := by
        have k1 : ((q : Int) + 1) * (0 - d) ≤ a - c + (0 - d) - 1 := by rw [Int.add_mul]; omega
        have k2 : a - c + (0 - d) - 1 < ((q : Int) + 1 + 1) * (0 - d) := by rw [Int.add_mul, Int.add_mul]; omega
        exact Int.le_antisymm (by have := Int.ediv_lt_of_lt_mul dn k2; omega) (Int.le_ediv_of_mul_le dn k1)
      rw [this]
      omega
/-- values by their places -/
def Line (u v : Values) (f : Nat → Values) : Prop := ∀ q x, valueAt (f q) x = valueAt u x + (q : Int) * valueAt v x
/-- a test that changes does so where it turns; remainders don't change where all add multiples -/
theorem holds_turns {u v : Values} {f : Nat → Values} (L : Line u v f) {t : Test} {q : Nat} (hr : ∀ x m r, t = .rem x m r → (m : Int) ∣ valueAt v x) (h : holds (f q) t ≠ holds (f (q + 1)) t) : q + 1 ∈ turnsOf u v t := by
  cases t with
  | atMost x c =>
    refine turnsAt_of fun e => h ?_
    show decide (valueAt (f q) x ≤ c) = decide (valueAt (f (q + 1)) x ≤ c)
    rw [L q x, L (q + 1) x]
    exact e
  | atLeast x c =>
    refine turnsAt_of fun e => h ?_
    show decide (c ≤ valueAt (f q) x) = decide (c ≤ valueAt (f (q + 1)) x)
    rw [L q x, L (q + 1) x]
    by_cases z : valueAt u x + (q : Int) * valueAt v x ≤ c - 1
    · by_cases y : valueAt u x + ((q + 1 : Nat) : Int) * valueAt v x ≤ c - 1
      · rw [decide_eq_false (by omega), decide_eq_false (by omega)]
      · rw [decide_eq_true z, decide_eq_false y] at e; cases e
    · by_cases y : valueAt u x + ((q + 1 : Nat) : Int) * valueAt v x ≤ c - 1
      · rw [decide_eq_false z, decide_eq_true y] at e; cases e
      · rw [decide_eq_true (by omega), decide_eq_true (by omega)]
  | below x y c =>
    have e1 : ∀ q : Nat, valueAt (f q) x ≤ valueAt (f q) y + c ↔ (valueAt u x - valueAt u y) + (q : Int) * (valueAt v x - valueAt v y) ≤ c := fun q => by
      rw [L q x, L q y, Int.mul_sub]
      omega
    refine turnsAt_of fun e => h ?_
    show decide (valueAt (f q) x ≤ valueAt (f q) y + c) = decide (valueAt (f (q + 1)) x ≤ valueAt (f (q + 1)) y + c)
    rw [decide_eq_decide.mpr (e1 q), decide_eq_decide.mpr (e1 (q + 1))]
    exact e
  | rem x m r =>
    exfalso
    apply h
    show (valueAt (f q) x % (m : Int) == (r : Int)) = (valueAt (f (q + 1)) x % (m : Int) == (r : Int))
    have d := hr x m r rfl
    have k : ∀ q : Nat, valueAt (f q) x % (m : Int) = valueAt u x % (m : Int) := fun q => by
      rw [L q x]
      obtain ⟨z, hz⟩ := d
      rw [hz]
      have : (q : Int) * ((m : Int) * z) = (m : Int) * ((q : Int) * z) := by
        rw [← Int.mul_assoc, Int.mul_comm (q : Int) (m : Int), Int.mul_assoc]
      rw [this]
      exact Int.add_mul_emod_self_left _ _ _
    rw [k q, k (q + 1)]
theorem chosen_congr {l : Loop} {s t : Values} (h : ∀ b ∈ l, ∀ g ∈ b.guard, holds s g = holds t g) : chosen l s = chosen l t := by
  unfold chosen
  induction l with
  | nil => rfl
  | cons b r ih =>
    have e : allHold s b.guard = allHold t b.guard := by
      unfold allHold
      rw [Bool.eq_iff_iff, List.all_eq_true, List.all_eq_true]
      exact ⟨fun z g hg => by rw [← h b List.mem_cons_self g hg]; exact z g hg, fun z g hg => by rw [h b List.mem_cons_self g hg]; exact z g hg⟩
    rw [List.findIdx?_cons, List.findIdx?_cons, e, ih fun c hc => h c (List.mem_cons_of_mem _ hc)]

section
variable {n : Nat} {l : Loop} {p : List Nat}
/-- what is done with the values a + q d -/
theorem line_of (h : WfLoop n l) {m : Move} (hm : WfMove n m) {a d : Values} (ha : a.length = n) (hd : d.length = n) : Line (moved m a) (minus (moved m (evenAt a d 1)) (moved m a)) (fun q => moved m (evenAt a d q)) := by
  intro q x
  rw [va_minus (by rw [moved_len, moved_len]), va_moved_even hm h.four ha hd q x, va_moved_even hm h.four ha hd 1 x]
  have : ((1 : Nat) : Int) * valueAt d (srcF m x) = valueAt d (srcF m x) := Int.one_mul _
  rw [this]
  have e : valueAt (moved m a) x + valueAt d (srcF m x) - valueAt (moved m a) x = valueAt d (srcF m x) := by omega
  rw [e]
theorem turn_in (h : WfLoop n l) {ms : List Move} (hms : ∀ m ∈ ms, WfMove n m) {a d : Values} (ha : a.length = n) (hd : d.length = n) (hr : ∀ x m r, (∃ b ∈ l, Test.rem x m r ∈ b.guard) → ∀ i, (m : Int) ∣ valueAt d i)
    {q : Nat} (h0 : follows l ms p (evenAt a d q) = true) (h1 : follows l ms p (evenAt a d (q + 1)) = false) : q + 1 ∈ turnsIn l ms a d := by
  unfold follows at h0 h1
  rw [List.all_eq_true] at h0
  have ⟨x, hx, hn⟩ : ∃ x ∈ ms.zip p, ¬ (chosen l (moved x.1 (evenAt a d (q + 1))) == some x.2) = true := by
    by_cases c : ∃ x ∈ ms.zip p, ¬ (chosen l (moved x.1 (evenAt a d (q + 1))) == some x.2) = true
    · exact c
    · exfalso
      have : (ms.zip p).all (fun x => chosen l (moved x.1 (evenAt a d (q + 1))) == some x.2) = true := by
        rw [List.all_eq_true]
        intro x hx
        cases e : (chosen l (moved x.1 (evenAt a d (q + 1))) == some x.2) with
        | true => rfl
        | false => exact absurd ⟨x, hx, by rw [e]; decide⟩ c
      rw [this] at h1
      cases h1
  have hp := h0 x hx
  have hm : x.1 ∈ ms := (List.of_mem_zip hx).1
  have hw := hms x.1 hm
  have L := line_of h hw ha hd
  have ⟨b, hb, g, hg, hh⟩ : ∃ b ∈ l, ∃ g ∈ b.guard, holds (moved x.1 (evenAt a d q)) g ≠ holds (moved x.1 (evenAt a d (q + 1))) g := by
    by_cases c : ∃ b ∈ l, ∃ g ∈ b.guard, holds (moved x.1 (evenAt a d q)) g ≠ holds (moved x.1 (evenAt a d (q + 1))) g
    · exact c
    · exfalso
      apply hn
      rw [← chosen_congr (l := l) (s := moved x.1 (evenAt a d q)) fun b hb g hg => ?_]
      · exact hp
      · by_cases e : holds (moved x.1 (evenAt a d q)) g = holds (moved x.1 (evenAt a d (q + 1))) g
        · exact e
        · exact absurd ⟨b, hb, g, hg, e⟩ c
  have T := holds_turns L (t := g) (q := q) (fun x' m r e => by
    rw [va_minus (by rw [moved_len, moved_len]), va_moved_even hw h.four ha hd 1 x']
    have : ((1 : Nat) : Int) * valueAt d (srcF x.1 x') = valueAt d (srcF x.1 x') := Int.one_mul _
    rw [this]
    have e2 : valueAt (moved x.1 a) x' + valueAt d (srcF x.1 x') - valueAt (moved x.1 a) x' = valueAt d (srcF x.1 x') := by omega
    rw [e2]
    exact hr x' m r ⟨b, hb, e ▸ hg⟩ _) hh
  unfold turnsIn
  refine List.mem_cons_of_mem _ (List.mem_flatMap.mpr ⟨x.1, hm, List.mem_flatMap.mpr ⟨g, ?_, T⟩⟩)
  unfold allTests
  exact List.mem_flatMap.mpr ⟨b, hb, hg⟩
theorem foldBreak {F : Nat → Bool} : ∀ (ts : List Nat) (o : Option Nat) (S : Nat → Prop), LeastOf S o →
    LeastOf (fun x => S x ∨ (x ∈ ts ∧ F x = false)) (ts.foldl (fun o q => if F q = true then o else lesser o q) o)
  | [], o, S, h => h.congr fun x => ⟨fun z => Or.inl z, fun z => z.elim id fun y => (nomatch y.1)⟩
  | t :: ts, o, S, h => by
    rw [List.foldl_cons]
    by_cases c : F t = true
    · rw [if_pos c]
      refine (foldBreak ts o S h).congr fun x => ⟨fun z => z.elim Or.inl fun y => Or.inr ⟨List.mem_cons_of_mem _ y.1, y.2⟩, fun z => z.elim Or.inl fun y => ?_⟩
      rcases List.mem_cons.mp y.1 with e | e
      · rw [e, c] at y; exact absurd y.2 (by decide)
      · exact Or.inr ⟨e, y.2⟩
    · rw [if_neg c]
      refine (foldBreak ts _ _ (lesser_least h t)).congr fun x => ⟨fun z => ?_, fun z => ?_⟩
      · rcases z with (z | z) | z
        · exact Or.inl z
        · rw [z]
          refine Or.inr ⟨List.mem_cons_self, ?_⟩
          cases e : F t with
          | true => exact absurd e c
          | false => rfl
        · exact Or.inr ⟨List.mem_cons_of_mem _ z.1, z.2⟩
      · rcases z with z | z
        · exact Or.inl (Or.inl z)
        · rcases List.mem_cons.mp z.1 with e | e
          · exact Or.inl (Or.inr e)
          · exact Or.inr ⟨e, z.2⟩
theorem break_least (ms : List Move) (a d : Values) : LeastOf (fun x => x ∈ turnsIn l ms a d ∧ follows l ms p (evenAt a d x) = false) (breakIn l ms p a d) := by
  unfold breakIn
  refine (foldBreak (F := fun q => follows l ms p (evenAt a d q)) (turnsIn l ms a d) none (fun _ => False) (fun _ z => z)).congr fun x => ⟨fun z => z.elim False.elim id, Or.inr⟩
theorem break_first (h : WfLoop n l) {ms : List Move} (hms : ∀ m ∈ ms, WfMove n m) {a d : Values} (ha : a.length = n) (hd : d.length = n) (hr : ∀ x m r, (∃ b ∈ l, Test.rem x m r ∈ b.guard) → ∀ i, (m : Int) ∣ valueAt d i) :
    IsFirst (fun q => follows l ms p (evenAt a d q)) (breakIn l ms p a d) := by
  have B := break_least (l := l) (p := p) ms a d
  have first_in : ∀ q, follows l ms p (evenAt a d q) = false → (∀ t, t < q → follows l ms p (evenAt a d t) = true) → q ∈ turnsIn l ms a d := by
    intro q hq hb
    cases q with
    | zero => unfold turnsIn; exact List.mem_cons_self
    | succ q => exact turn_in h hms ha hd hr (hb q (Nat.lt_succ_self q)) hq
  cases e : breakIn l ms p a d with
  | none =>
    rw [e] at B
    intro t
    cases c : follows l ms p (evenAt a d t) with
    | true => exact c
    | false =>
      obtain ⟨u, _, hu, hlt⟩ := first_of (P := fun q => follows l ms p (evenAt a d q)) c
      exact absurd ⟨first_in u hu hlt, hu⟩ (B u)
  | some q =>
    rw [e] at B
    refine ⟨B.1.2, fun t ht => ?_⟩
    cases c : follows l ms p (evenAt a d t) with
    | true => exact c
    | false =>
      obtain ⟨u, hut, hu, hlt⟩ := first_of (P := fun q => follows l ms p (evenAt a d q)) c
      have := B.2 u ⟨first_in u hu hlt, hu⟩
      omega
end
/-- the specification's «how often» -/
theorem find_range {F : Nat → Bool} : ∀ (r : Nat), (∀ k, (List.range r).find? F = some k → F k = true ∧ k < r ∧ ∀ t, t < k → F t = false) ∧ ((List.range r).find? F = none → ∀ t, t < r → F t = false)
  | 0 => ⟨fun k h => (nomatch h), fun _ t ht => absurd ht (Nat.not_lt_zero t)⟩
  | r + 1 => by
    obtain ⟨i1, i2⟩ := find_range (F := F) r
    rw [List.range_succ, List.find?_append]
    cases e : (List.range r).find? F with
    | some k =>
      refine ⟨fun k' hk' => ?_, fun z => nomatch z⟩
      have : k = k' := Option.some.inj hk'
      subst this
      obtain ⟨a, b, c⟩ := i1 k e
      exact ⟨a, by omega, c⟩
    | none =>
      have j := i2 e
      cases c : F r with
      | true =>
        refine ⟨fun k' hk' => ?_, fun z => ?_⟩
        · have hk' : (List.find? F [r]) = some k' := hk'
          rw [List.find?_cons, c] at hk'
          have : r = k' := Option.some.inj hk'
          subst this
          exact ⟨c, Nat.lt_succ_self r, j⟩
        · have z : (List.find? F [r]) = none := z
          rw [List.find?_cons, c] at z
          cases z
      | false =>
        refine ⟨fun k' hk' => ?_, fun _ t ht => ?_⟩
        · have hk' : (List.find? F [r]) = some k' := hk'
          rw [List.find?_cons, c] at hk'
          cases hk'
        · by_cases h : t = r
          · rw [h]; exact c
          · exact j t (by omega)
theorem modulus_12 {m : Nat} (h : VaaclBase.MODULI.contains m = true) : (m : Int) ∣ 12 := by
  have : m ∈ [2, 3, 4, 6] := List.contains_iff_mem.mp h
  simp at this
  rcases this with rfl | rfl | rfl | rfl
  · exact ⟨6, rfl⟩
  · exact ⟨4, rfl⟩
  · exact ⟨3, rfl⟩
  · exact ⟨2, rfl⟩
theorem rem_twelve {n : Nat} {l : Loop} (h : WfLoop n l) {x m r : Nat} (hb : ∃ b ∈ l, Test.rem x m r ∈ b.guard) : (m : Int) ∣ 12 ∧ 0 < m ∧ r < m := by
  obtain ⟨b, hb, hg⟩ := hb
  have := (h.all b hb).tests _ hg
  unfold okTest at this
  rw [Bool.and_eq_true, Bool.and_eq_true] at this
  have hrm := of_decide_eq_true this.2.2
  exact ⟨modulus_12 this.2.1, by omega, hrm⟩
/-- the whole move of a pattern, done so often -/
def after (l : Loop) (n : Nat) (p : List Nat) (t : Nat) (s : Values) : Values := iter (wholeMove l n p) t s
theorem after_succ {n : Nat} {l : Loop} (h : WfLoop n l) {p : List Nat} (hp : PatOk l p) {s : Values} (hs : s.length = n) (t : Nat) : after l n p (t + 1) s = behindOnce l p (after l n p t s) := by
  show moved (wholeMove l n p) (after l n p t s) = _
  exact whole_moved h hp (iter_len (whole_wf h hp) hs t)
theorem after_len {n : Nat} {l : Loop} (h : WfLoop n l) {p : List Nat} (hp : PatOk l p) {s : Values} (hs : s.length = n) (t : Nat) : (after l n p t s).length = n := iter_len (whole_wf h hp) hs t
theorem timesOf_first {n : Nat} {l : Loop} (h : WfLoop n l) {p : List Nat} (hp : PatOk l p) {s : Values} (hs : s.length = n) : IsFirst (fun t => followed l p (after l n p t s)) (timesOf l p s) := by
  have hw := whole_wf h hp
  obtain ⟨e, he, hrem⟩ : ∃ e, strideOf l = 12 * e ∧ ∀ x m r, (∃ b ∈ l, Test.rem x m r ∈ b.guard) → (m : Int) ∣ (e : Int) := by
    unfold strideOf
    by_cases c : (l.any fun b => b.guard.any isRem) = true
    · refine ⟨12, by rw [if_pos c]; rfl, fun x m r hb => (rem_twelve h hb).1⟩
    · refine ⟨1, by rw [if_neg c]; rfl, fun x m r hb => ?_⟩
      exfalso
      apply c
      obtain ⟨b, hb, hg⟩ := hb
      exact List.any_eq_true.mpr ⟨b, hb, List.any_eq_true.mpr ⟨_, hg, rfl⟩⟩
  have epos : 0 < strideOf l := by
    unfold strideOf
    by_cases c : (l.any fun b => b.guard.any isRem) = true
    · rw [if_pos c]; decide
    · rw [if_neg c]; decide
  have rowAt : ∀ k, k ≤ 4 + 2 * strideOf l → (rowsFrom (wholeMove l n p) (Vaacld.FIRST + 2 * strideOf l) s)[k]? = some (after l n p k s) := fun k hk => rows_at _ k _ s hk
  have F : ∀ k, k < 4 → (((rowsFrom (wholeMove l n p) (Vaacld.FIRST + 2 * strideOf l) s)[k]?).any fun x => !follows l (beginnings l n p) p x) = !followed l p (after l n p k s) := fun k hk => by
    rw [rowAt k (by omega)]
    show (!follows l (beginnings l n p) p (after l n p k s)) = _
    rw [follows_iff h hp (after_len h hp hs k)]
  unfold timesOf
  rw [hs]
  dsimp only
  obtain ⟨f1, f2⟩ := find_range (F := fun k => ((rowsFrom (wholeMove l n p) (Vaacld.FIRST + 2 * strideOf l) s)[k]?).any fun x => !follows l (beginnings l n p) p x) 4
  cases ef : (List.range Vaacld.FIRST).find? (fun k => ((rowsFrom (wholeMove l n p) (Vaacld.FIRST + 2 * strideOf l) s)[k]?).any fun x => !follows l (beginnings l n p) p x) with
  | some k =>
    dsimp only
    obtain ⟨g1, g2, g3⟩ := f1 k ef
    refine ⟨?_, fun t ht => ?_⟩
    · rw [F k g2] at g1
      show followed l p (after l n p k s) = false
      cases z : followed l p (after l n p k s) with
      | true => rw [z] at g1; cases g1
      | false => rfl
    · have g := g3 t ht
      rw [F t (by omega)] at g
      show followed l p (after l n p t s) = true
      cases z : followed l p (after l n p t s) with
      | true => rfl
      | false => rw [z] at g; cases g
  | none =>
    dsimp only
    have g := f2 ef
    have hB : ∀ t, t < 4 → followed l p (after l n p t s) = true := fun t ht => by
      have q := g t ht
      rw [F t ht] at q
      cases z : followed l p (after l n p t s) with
      | true => rfl
      | false => rw [z] at q; cases q
    have main := first_by (P := fun t => followed l p (after l n p t s)) (B := 4) epos (fun k => breakIn l (beginnings l n p) p (after l n p (4 + k) s) (minus (after l n p (4 + k + strideOf l) s) (after l n p (4 + k) s))) hB (fun k hk => by
      have la := after_len h hp hs (4 + k)
      have lb := after_len h hp hs (4 + k + strideOf l)
      have ld := minus_len lb la
      have bf := break_first (p := p) h (beginnings_wf h hp) la ld (fun x m r hb i => by
        unfold after
        rw [he, va_stride hw h.four hs e (4 + k) (by omega) i]
        exact Int.dvd_trans (hrem x m r hb) (Int.dvd_mul_right _ _))
      have ev : ∀ q, followed l p (after l n p (4 + k + q * strideOf l) s) = follows l (beginnings l n p) p (evenAt (after l n p (4 + k) s) (minus (after l n p (4 + k + strideOf l) s) (after l n p (4 + k) s)) q) := fun q => by
        rw [follows_iff h hp (even_len la ld q)]
        unfold after
        rw [he, even_iter hw h.four hs e (4 + k) (by omega) q]
      have ef : (fun q => followed l p (after l n p (4 + k + q * strideOf l) s)) = fun q => follows l (beginnings l n p) p (evenAt (after l n p (4 + k) s) (minus (after l n p (4 + k + strideOf l) s) (after l n p (4 + k) s)) q) := funext ev
      rw [ef]
      exact bf)
    have same : (List.range (strideOf l)).foldl (fun o k => match (rowsFrom (wholeMove l n p) (Vaacld.FIRST + 2 * strideOf l) s)[Vaacld.FIRST + k]?, (rowsFrom (wholeMove l n p) (Vaacld.FIRST + 2 * strideOf l) s)[Vaacld.FIRST + k + strideOf l]? with
      | some a, some b => (match breakIn l (beginnings l n p) p a (minus b a) with
        | none => o
        | some q => lesser o (Vaacld.FIRST + k + q * strideOf l))
      | _, _ => o) none = minOf (fun k => (breakIn l (beginnings l n p) p (after l n p (4 + k) s) (minus (after l n p (4 + k + strideOf l) s) (after l n p (4 + k) s))).map fun q => 4 + k + q * strideOf l) (strideOf l) := by
      unfold minOf
      refine fold_range_congr fun o k hk => ?_
      have r1 := rowAt (4 + k) (by omega)
      have r2 := rowAt (4 + k + strideOf l) (by omega)
      have r1' : (rowsFrom (wholeMove l n p) (Vaacld.FIRST + 2 * strideOf l) s)[Vaacld.FIRST + k]? = some (after l n p (4 + k) s) := r1
      have r2' : (rowsFrom (wholeMove l n p) (Vaacld.FIRST + 2 * strideOf l) s)[Vaacld.FIRST + k + strideOf l]? = some (after l n p (4 + k + strideOf l) s) := r2
      rw [r1', r2']
      dsimp only
      cases breakIn l (beginnings l n p) p (after l n p (4 + k) s) (minus (after l n p (4 + k + strideOf l) s) (after l n p (4 + k) s)) with
      | none => rfl
      | some q => rfl
    exact Eq.mpr (congrArg (IsFirst _) same) main
where
  fold_range_congr {α : Type} {f g : α → Nat → α} {r : Nat} {o : α} (h : ∀ o k, k < r → f o k = g o k) : (List.range r).foldl f o = (List.range r).foldl g o := by
    have key : ∀ (ks : List Nat) (o : α), (∀ k ∈ ks, k < r) → ks.foldl f o = ks.foldl g o := by
      intro ks
      induction ks with
      | nil => intro o _; rfl
      | cons k ks ih =>
        intro o hk
        rw [List.foldl_cons, List.foldl_cons, h o k (hk k List.mem_cons_self)]
        exact ih _ fun j hj => hk j (List.mem_cons_of_mem _ hj)
    exact key _ o fun k hk => List.mem_range.mp hk
end LL

/-! Part C: what the program reckons: clauses, where they fail, how often; it's the same. -/
namespace LL
open VaaclBase (Values Given Move Test Branch Loop valueAt given moved still holds allHold chosen branchAt okTest)
open Vaacld (Pattern andThen moveOf beginnings wholeMove follows rowsFrom evenAt minus lesser timesOf patternAt branchesFrom manyFrom)

/-- Test.excess, Test.lack -/
def excess (s : Values) : Test → Int
  | .atMost x c => valueAt s x - c
  | .atLeast x c => c - valueAt s x
  | .below x y c => valueAt s x - valueAt s y - c
  | .rem x m r => if valueAt s x % (m : Int) = (r : Int) then 0 else 1
def lack (s : Values) (t : Test) : Int := 1 - excess s t
theorem excess_holds (s : Values) (t : Test) : decide (excess s t ≤ 0) = holds s t := by
  cases t with
  | atMost x c =>
    show decide (valueAt s x - c ≤ 0) = decide (valueAt s x ≤ c)
    exact decide_eq_decide.mpr (by omega)
  | atLeast x c =>
    show decide (c - valueAt s x ≤ 0) = decide (c ≤ valueAt s x)
    exact decide_eq_decide.mpr (by omega)
  | below x y c =>
    show decide (valueAt s x - valueAt s y - c ≤ 0) = decide (valueAt s x ≤ valueAt s y + c)
    exact decide_eq_decide.mpr (by omega)
  | rem x m r =>
    show decide ((if valueAt s x % (m : Int) = (r : Int) then (0 : Int) else 1) ≤ 0) = (valueAt s x % (m : Int) == (r : Int))
    by_cases c : valueAt s x % (m : Int) = (r : Int)
    · rw [if_pos c, c]; simp
    · rw [if_neg c]
      have : (valueAt s x % (m : Int) == (r : Int)) = false := by
        cases e : (valueAt s x % (m : Int) == (r : Int)) with
        | true => exact absurd (beq_iff_eq.mp e) c
        | false => rfl
      rw [this]
      rfl
def guardAt (l : Loop) (b : Nat) : List Test := (branchAt l b).guard
def clausesAt (l : Loop) (b : Nat) (s : Values) : List (List Int) := (guardAt l b).map (fun t => [excess s t]) ++ (l.take b).map fun c => c.guard.map (lack s)
def allClauses (l : Loop) : List Nat → Values → List (List Int)
  | [], _ => []
  | b :: r, s => clausesAt l b s ++ allClauses l r (moved (moveOf l b) s)
theorem allClauses_snoc (l : Loop) (b : Nat) : ∀ (p : List Nat) (s : Values), allClauses l (p ++ [b]) s = allClauses l p s ++ clausesAt l b (behindOnce l p s)
  | [], s => by
    show clausesAt l b s ++ [] = [] ++ clausesAt l b s
    rw [List.append_nil, List.nil_append]
  | c :: p, s => by
    show clausesAt l c s ++ allClauses l (p ++ [b]) _ = clausesAt l c s ++ allClauses l p _ ++ _
    rw [allClauses_snoc l b p, List.append_assoc]
    rfl
/-- one number at most 0 -/
def clauseOk (c : List Int) : Bool := c.any fun x => decide (x ≤ 0)
def isFollowed (cs : List (List Int)) : Bool := cs.all clauseOk
theorem chosen_iff {l : Loop} {b : Nat} {s : Values} (hb : b < l.length) : (chosen l s == some b) = isFollowed (clausesAt l b s) := by
  unfold chosen isFollowed clausesAt guardAt branchAt
  rw [List.getElem?_eq_getElem hb, Option.getD_some]
  rw [Bool.eq_iff_iff, beq_iff_eq, List.findIdx?_eq_some_iff_getElem, List.all_append, Bool.and_eq_true, List.all_map, List.all_map, List.all_eq_true, List.all_eq_true]
  have h1 : ∀ t, clauseOk [excess s t] = holds s t := fun t => by
    show (decide (excess s t ≤ 0) || false) = holds s t
    rw [Bool.or_false, excess_holds]
  have h2 : ∀ t, decide (lack s t ≤ 0) = !holds s t := fun t => by
    rw [← excess_holds]
    unfold lack
    by_cases c : excess s t ≤ 0
    · rw [decide_eq_true c, decide_eq_false (by omega)]; rfl
    · rw [decide_eq_false c, decide_eq_true (by omega)]; rfl
  have h3 : ∀ g : List Test, clauseOk (g.map (lack s)) = !allHold s g := fun g => by
    unfold clauseOk allHold
    rw [List.any_map, List.not_all_eq_any_not]
    congr 1
    funext t
    exact h2 t
  constructor
  · rintro ⟨_, ha, hb'⟩
    refine ⟨fun t ht => ?_, fun c hc => ?_⟩
    · show clauseOk [excess s t] = true
      rw [h1]
      unfold allHold at ha
      exact List.all_eq_true.mp ha t ht
    · show clauseOk (c.guard.map (lack s)) = true
      rw [h3]
      obtain ⟨i, hi, rfl⟩ := List.getElem_of_mem hc
      rw [List.length_take] at hi
      rw [List.getElem_take]
      have := hb' i (by omega)
      cases e : allHold s l[i].guard with
      | true => exact absurd e this
      | false => rfl
  · rintro ⟨ha, hb'⟩
    refine ⟨hb, ?_, fun j hj => ?_⟩
    · unfold allHold
      rw [List.all_eq_true]
      intro t ht
      rw [← h1]
      exact ha t ht
    · have hm : l[j] ∈ l.take b := by
        have : j < (l.take b).length := by rw [List.length_take]; omega
        have e := List.getElem_mem this
        rw [List.getElem_take] at e
        exact e
      have q : clauseOk (l[j].guard.map (lack s)) = true := hb' _ hm
      rw [h3] at q
      intro z
      have z : allHold s l[j].guard = true := z
      rw [z] at q
      cases q
theorem isFollowed_all (l : Loop) : ∀ (p : List Nat) (s : Values), PatOk l p → isFollowed (allClauses l p s) = followed l p s
  | [], _, _ => rfl
  | b :: r, s, hp => by
    show isFollowed (clausesAt l b s ++ allClauses l r _) = ((chosen l s == some b) && followed l r _)
    rw [chosen_iff (hp b List.mem_cons_self), ← isFollowed_all l r _ fun c hc => hp c (List.mem_cons_of_mem _ hc)]
    unfold isFollowed
    rw [List.all_append]

/-! where a clause fails -/
def firstAbove (a d : Int) : Option Int × Option Int :=
  if 0 < d then (some (max 0 ((0 - a).fdiv d + 1)), none)
  else if a ≤ 0 then (none, none)
  else if d = 0 then (some 0, none)
  else (some 0, some ((a - d - 1).fdiv (0 - d)))
/-- what firstAbove says: from the one on, below the other -/
def InSpan (o : Option Int × Option Int) (q : Nat) : Prop := match o with
  | (none, _) => False
  | (some f, none) => f ≤ (q : Int)
  | (some f, some g) => f ≤ (q : Int) ∧ (q : Int) < g
theorem firstAbove_span (a d : Int) (q : Nat) : 0 < a + (q : Int) * d ↔ InSpan (firstAbove a d) q := by
  unfold firstAbove
  by_cases dp : 0 < d
  · rw [if_pos dp]
    show _ ↔ max 0 ((0 - a).fdiv d + 1) ≤ (q : Int)
    rw [Int.fdiv_eq_ediv_of_nonneg _ (Int.le_of_lt dp)]
    have h : (0 - a) / d < (q : Int) ↔ 0 - a < (q : Int) * d := Int.ediv_lt_iff_lt_mul dp
    constructor
    · intro z
      have := h.mpr (by omega)
      omega
    · intro z
      have := h.mp (by omega)
      omega
  · rw [if_neg dp]
    by_cases an : a ≤ 0
    · rw [if_pos an]
      show _ ↔ False
      refine ⟨fun z => ?_, False.elim⟩
      have : 0 ≤ (q : Int) * (0 - d) := Int.mul_nonneg (by omega) (by omega)
      rw [Int.mul_sub] at this
      omega
    · rw [if_neg an]
      by_cases d0 : d = 0
      · rw [if_pos d0, d0]
        show _ ↔ (0 : Int) ≤ (q : Int)
        rw [Int.mul_zero]
        omega
      · rw [if_neg d0]
        show _ ↔ (0 : Int) ≤ (q : Int) ∧ (q : Int) < (a - d - 1).fdiv (0 - d)
        have dn : 0 < 0 - d := by omega
        rw [Int.fdiv_eq_ediv_of_nonneg _ (Int.le_of_lt dn)]
        have h : (q : Int) + 1 ≤ (a - d - 1) / (0 - d) ↔ ((q : Int) + 1) * (0 - d) ≤ a - d - 1 := Int.le_ediv_iff_mul_le dn
        have e : ((q : Int) + 1) * (0 - d) = 0 - (q : Int) * d - d := by rw [Int.add_mul, Int.mul_sub]; omega
        rw [e] at h
        constructor
        · intro z
          exact ⟨by omega, by have := h.mpr (by omega); omega⟩
        · rintro ⟨_, z⟩
          have := h.mp (by omega)
          omega
theorem firstAbove_le {a d f : Int} {g : Option Int} (h : firstAbove a d = (some f, g)) : 0 ≤ f ∧ f ≤ a.natAbs + 1 := by
  unfold firstAbove at h
  by_cases dp : 0 < d
  · rw [if_pos dp] at h
    injection h with h _
    injection h with h
    rw [Int.fdiv_eq_ediv_of_nonneg _ (Int.le_of_lt dp)] at h
    have : (0 - a) / d ≤ a.natAbs := by
      have h1 : (0 - a) / d < (a.natAbs : Int) + 1 := by
        rw [Int.ediv_lt_iff_lt_mul dp]
        have : ((a.natAbs : Int) + 1) * 1 ≤ ((a.natAbs : Int) + 1) * d := Int.mul_le_mul_of_nonneg_left (by omega) (by omega)
        omega
      omega
    omega
  · rw [if_neg dp] at h
    by_cases an : a ≤ 0
    · rw [if_pos an] at h; injection h with h _; cases h
    · rw [if_neg an] at h
      by_cases d0 : d = 0
      · rw [if_pos d0] at h; injection h with h _; injection h with h; omega
      · rw [if_neg d0] at h; injection h with h _; injection h with h; omega
/-- the loop's state: none where it has returned None -/
def spanStep (o : Option (Int × Option Int)) (x : Int × Int) : Option (Int × Option Int) := match o with
  | none => none
  | some (b, e) => match firstAbove x.1 (x.2 - x.1) with
    | (none, _) => none
    | (some f, none) => some (max b f, e)
    | (some f, some g) => some (max b f, some (match e with
      | none => g
      | some y => min y g))
def spanOf (xs : List (Int × Int)) : Option (Int × Option Int) := xs.foldl spanStep (some (0, none))
def clauseFails (xs : List (Int × Int)) : Option Int := match spanOf xs with
  | none => none
  | some (b, none) => some b
  | some (b, some e) => if b < e then some b else none
def InO (o : Option (Int × Option Int)) (q : Nat) : Prop := match o with
  | none => False
  | some (b, none) => b ≤ (q : Int)
  | some (b, some e) => b ≤ (q : Int) ∧ (q : Int) < e
def linAt (x : Int × Int) (q : Nat) : Int := x.1 + (q : Int) * (x.2 - x.1)
theorem spanStep_in (o : Option (Int × Option Int)) (x : Int × Int) (q : Nat) : InO (spanStep o x) q ↔ InO o q ∧ 0 < linAt x q := by
  unfold linAt
  rw [firstAbove_span]
  unfold spanStep
  cases o with
  | none => exact ⟨fun z => z.elim, fun z => z.1.elim⟩
  | some o =>
    obtain ⟨b, e⟩ := o
    cases h : firstAbove x.1 (x.2 - x.1) with
    | mk f g =>
      cases f with
      | none => exact ⟨fun z => z.elim, fun z => z.2.elim⟩
      | some f =>
        cases g with
        | none =>
          cases e with
          | none =>
            show max b f ≤ (q : Int) ↔ b ≤ (q : Int) ∧ f ≤ (q : Int)
            omega
          | some y =>
            show (max b f ≤ (q : Int) ∧ (q : Int) < y) ↔ (b ≤ (q : Int) ∧ (q : Int) < y) ∧ f ≤ (q : Int)
            omega
        | some g =>
          cases e with
          | none =>
            show (max b f ≤ (q : Int) ∧ (q : Int) < g) ↔ b ≤ (q : Int) ∧ (f ≤ (q : Int) ∧ (q : Int) < g)
            omega
          | some y =>
            show (max b f ≤ (q : Int) ∧ (q : Int) < min y g) ↔ (b ≤ (q : Int) ∧ (q : Int) < y) ∧ (f ≤ (q : Int) ∧ (q : Int) < g)
            omega
theorem span_in : ∀ (xs : List (Int × Int)) (o : Option (Int × Option Int)) (q : Nat), InO (xs.foldl spanStep o) q ↔ InO o q ∧ ∀ x ∈ xs, 0 < linAt x q
  | [], o, q => ⟨fun h => ⟨h, fun x hx => (nomatch hx)⟩, fun h => h.1⟩
  | x :: xs, o, q => by
    rw [List.foldl_cons, span_in xs, spanStep_in]
    constructor
    · rintro ⟨⟨a, b⟩, c⟩
      refine ⟨a, fun y hy => ?_⟩
      rcases List.mem_cons.mp hy with e | e
      · rw [e]; exact b
      · exact c y e
    · rintro ⟨a, b⟩
      exact ⟨⟨a, b x List.mem_cons_self⟩, fun y hy => b y (List.mem_cons_of_mem _ hy)⟩
/-- begin is at least 0 and at most a bound of the numbers -/
def LowO (B : Int) (o : Option (Int × Option Int)) : Prop := ∀ b e, o = some (b, e) → 0 ≤ b ∧ b ≤ B
theorem span_low {B : Int} : ∀ (xs : List (Int × Int)) (o : Option (Int × Option Int)), LowO B o → (∀ x ∈ xs, (x.1.natAbs : Int) + 1 ≤ B) → LowO B (xs.foldl spanStep o)
  | [], o, h, _ => h
  | x :: xs, o, h, hx => by
    rw [List.foldl_cons]
    refine span_low xs _ (fun b e hb => ?_) fun y hy => hx y (List.mem_cons_of_mem _ hy)
    unfold spanStep at hb
    cases o with
    | none => cases hb
    | some o =>
      obtain ⟨b0, e0⟩ := o
      have hB := h b0 e0 rfl
      have hX := hx x List.mem_cons_self
      cases hf : firstAbove x.1 (x.2 - x.1) with
      | mk f g =>
        rw [hf] at hb
        cases f with
        | none => cases hb
        | some f =>
          have hl := firstAbove_le hf
          cases g with
          | none =>
            injection hb with hb
            injection hb with hb _
            omega
          | some g =>
            injection hb with hb
            injection hb with hb _
            omega
theorem clauseFails_le {B : Int} {xs : List (Int × Int)} {f : Int} (hB : 0 ≤ B) (hx : ∀ x ∈ xs, (x.1.natAbs : Int) + 1 ≤ B) (h : clauseFails xs = some f) : 0 ≤ f ∧ f ≤ B := by
  have L : LowO B (spanOf xs) := span_low xs _ (fun b e hb => by injection hb with hb; injection hb with hb _; omega) hx
  unfold clauseFails at h
  cases e : spanOf xs with
  | none => rw [e] at h; cases h
  | some o =>
    obtain ⟨b, y⟩ := o
    rw [e] at h
    have := L b y e
    cases y with
    | none => injection h with h; omega
    | some y =>
      by_cases c : b < y
      · have h : (if b < y then some b else none) = some f := h
        rw [if_pos c] at h; injection h with h; omega
      · have h : (if b < y then some b else none) = some f := h
        rw [if_neg c] at h; cases h
theorem clauseFails_first (xs : List (Int × Int)) : IsFirst (fun q => clauseOk (xs.map fun x => linAt x q)) ((clauseFails xs).map Int.toNat) := by
  have key : ∀ q : Nat, clauseOk (xs.map fun x => linAt x q) = false ↔ InO (spanOf xs) q := fun q => by
    unfold spanOf
    rw [span_in]
    unfold clauseOk
    rw [List.any_map, List.any_eq_false]
    constructor
    · intro h
      refine ⟨by show (0 : Int) ≤ (q : Int); omega, fun x hx => ?_⟩
      have := h x hx
      have this : ¬ decide (linAt x q ≤ 0) = true := this
      rw [decide_eq_true_iff] at this
      omega
    · rintro ⟨_, h⟩ x hx
      show ¬ decide (linAt x q ≤ 0) = true
      rw [decide_eq_true_iff]
      have := h x hx
      omega
  have L : LowO (((xs.map fun x => (x.1.natAbs : Int) + 1).foldl (fun a b => max a b) 0)) (spanOf xs) := by
    refine span_low xs _ (fun b e hb => ?_) fun x hx => ?_
    · injection hb with hb
      injection hb with hb _
      have : ∀ (l : List Int) (a : Int), a ≤ l.foldl (fun a b => max a b) a := by
        intro l
        induction l with
        | nil => intro a; exact Int.le_refl a
        | cons y l ih => intro a; rw [List.foldl_cons]; exact Int.le_trans (Int.le_max_left a y) (ih _)
      have := this (xs.map fun x => (x.1.natAbs : Int) + 1) 0
      omega
    · have : ∀ (l : List Int) (a z : Int), z ∈ l → z ≤ l.foldl (fun a b => max a b) a := by
        intro l
        induction l with
        | nil => intro a z hz; exact (nomatch hz)
        | cons y l ih =>
          intro a z hz
          rw [List.foldl_cons]
          have mono : ∀ (l : List Int) (a : Int), a ≤ l.foldl (fun a b => max a b) a := by
            intro l
            induction l with
            | nil => intro a; exact Int.le_refl a
            | cons y l ih => intro a; rw [List.foldl_cons]; exact Int.le_trans (Int.le_max_left a y) (ih _)
          rcases List.mem_cons.mp hz with e | e
          · rw [e]; exact Int.le_trans (Int.le_max_right a y) (mono l _)
          · exact ih _ z e
      exact this _ _ _ (List.mem_map_of_mem (f := fun x : Int × Int => (x.1.natAbs : Int) + 1) hx)
  have yes : ∀ q, ¬ InO (spanOf xs) q → clauseOk (xs.map fun x => linAt x q) = true := fun q h => by
    cases e : clauseOk (xs.map fun x => linAt x q) with
    | true => rfl
    | false => exact absurd ((key q).mp e) h
  unfold clauseFails
  cases e : spanOf xs with
  | none =>
    intro t
    exact yes t (by rw [e]; exact id)
  | some o =>
    obtain ⟨b, y⟩ := o
    have hb := L b y e
    cases y with
    | none =>
      refine ⟨(key _).mpr ?_, fun t ht => yes t ?_⟩
      · rw [e]; show b ≤ ((b.toNat : Nat) : Int); omega
      · rw [e]; show ¬ b ≤ (t : Int); omega
    | some y =>
      by_cases c : b < y
      · show IsFirst _ (Option.map Int.toNat (if b < y then some b else none))
        rw [if_pos c]
        refine ⟨(key _).mpr ?_, fun t ht => yes t ?_⟩
        · rw [e]; show b ≤ ((b.toNat : Nat) : Int) ∧ ((b.toNat : Nat) : Int) < y; omega
        · rw [e]; show ¬ (b ≤ (t : Int) ∧ (t : Int) < y); omega
      · show IsFirst _ (Option.map Int.toNat (if b < y then some b else none))
        rw [if_neg c]
        intro t
        refine yes t ?_
        rw [e]
        show ¬ (b ≤ (t : Int) ∧ (t : Int) < y)
        omega
/-- the least of two, none is above all -/
def failStep (o : Option Int) (c : List (Int × Int)) : Option Int := match clauseFails c with
  | none => o
  | some f => match o with
    | none => some f
    | some g => if f < g then some f else some g
def failsOf (cs : List (List (Int × Int))) : Option Int := cs.foldl failStep none
theorem failsOf_le {B : Int} (hB : 0 ≤ B) : ∀ (cs : List (List (Int × Int))) (o : Option Int), (∀ f, o = some f → 0 ≤ f ∧ f ≤ B) → (∀ c ∈ cs, ∀ x ∈ c, (x.1.natAbs : Int) + 1 ≤ B) → ∀ f, cs.foldl failStep o = some f → 0 ≤ f ∧ f ≤ B
  | [], o, h, _, f, hf => h f hf
  | c :: cs, o, h, hc, f, hf => by
    rw [List.foldl_cons] at hf
    refine failsOf_le hB cs _ (fun g hg => ?_) (fun d hd => hc d (List.mem_cons_of_mem _ hd)) f hf
    unfold failStep at hg
    cases e : clauseFails c with
    | none => rw [e] at hg; exact h g hg
    | some y =>
      have hy := clauseFails_le hB (hc c List.mem_cons_self) e
      rw [e] at hg
      cases o with
      | none => injection hg with hg; omega
      | some z =>
        have hz := h z rfl
        by_cases k : y < z
        · have hg : (if y < z then some y else some z) = some g := hg
          rw [if_pos k] at hg; injection hg with hg; omega
        · have hg : (if y < z then some y else some z) = some g := hg
          rw [if_neg k] at hg; injection hg with hg; omega
def less2 (o u : Option Nat) : Option Nat := match u with
  | none => o
  | some f => match o with
    | none => some f
    | some g => if f < g then some f else some g
theorem first_and {P R : Nat → Bool} {o u : Option Nat} (h : IsFirst P o) (g : IsFirst R u) : IsFirst (fun q => P q && R q) (less2 o u) := by
  unfold less2
  cases u with
  | none =>
    have g : ∀ t, R t = true := g
    have : (fun q => P q && R q) = P := by funext q; rw [g q, Bool.and_true]
    rw [this]
    exact h
  | some f =>
    cases o with
    | none =>
      have h : ∀ t, P t = true := h
      have : (fun q => P q && R q) = R := by funext q; rw [h q, Bool.true_and]
      rw [this]
      exact g
    | some x =>
      obtain ⟨h1, h2⟩ := h
      obtain ⟨g1, g2⟩ := g
      show IsFirst _ (if f < x then some f else some x)
      by_cases c : f < x
      · rw [if_pos c]
        refine ⟨?_, fun t ht => ?_⟩
        · show (P f && R f) = false
          rw [g1, Bool.and_false]
        · show (P t && R t) = true
          rw [h2 t (by omega), g2 t ht]; rfl
      · rw [if_neg c]
        refine ⟨?_, fun t ht => ?_⟩
        · show (P x && R x) = false
          rw [h1]; rfl
        · show (P t && R t) = true
          rw [h2 t ht, g2 t (by omega)]; rfl
theorem failsOf_first : ∀ (cs : List (List (Int × Int))) (o : Option Int) (P : Nat → Bool), (∀ f, o = some f → 0 ≤ f) → IsFirst P (o.map Int.toNat) →
    IsFirst (fun q => P q && isFollowed (cs.map fun c => c.map fun x => linAt x q)) ((cs.foldl failStep o).map Int.toNat)
  | [], o, P, _, h => by
    have : (fun q => P q && isFollowed (([] : List (List (Int × Int))).map fun c => c.map fun x => linAt x q)) = P := by
      funext q
      exact Bool.and_true _
    rw [this]
    exact h
  | c :: cs, o, P, ho, h => by
    rw [List.foldl_cons]
    have step := first_and h (clauseFails_first c)
    have nonneg : ∀ f, clauseFails c = some f → 0 ≤ f := fun f hf => (clauseFails_le (B := ((c.map fun x => (x.1.natAbs : Int) + 1).foldl (fun a b => max a b) 0)) (by
        have : ∀ (l : List Int) (a : Int), a ≤ l.foldl (fun a b => max a b) a := by
          intro l
          induction l with
          | nil => intro a; exact Int.le_refl a
          | cons y l ih => intro a; rw [List.foldl_cons]; exact Int.le_trans (Int.le_max_left a y) (ih _)
        exact this _ 0) (fun x hx => by
        have : ∀ (l : List Int) (a z : Int), z ∈ l → z ≤ l.foldl (fun a b => max a b) a := by
          intro l
          induction l with
          | nil => intro a z hz; exact (nomatch hz)
          | cons y l ih =>
            intro a z hz
            rw [List.foldl_cons]
            have mono : ∀ (l : List Int) (a : Int), a ≤ l.foldl (fun a b => max a b) a := by
              intro l
              induction l with
              | nil => intro a; exact Int.le_refl a
              | cons y l ih => intro a; rw [List.foldl_cons]; exact Int.le_trans (Int.le_max_left a y) (ih _)
            rcases List.mem_cons.mp hz with e | e
            · rw [e]; exact Int.le_trans (Int.le_max_right a y) (mono l _)
            · exact ih _ z e
        exact this _ _ _ (List.mem_map_of_mem (f := fun x : Int × Int => (x.1.natAbs : Int) + 1) hx)) hf).1
    have ho' : ∀ f, failStep o c = some f → 0 ≤ f := fun f hf => by
      unfold failStep at hf
      cases e : clauseFails c with
      | none => rw [e] at hf; exact ho f hf
      | some y =>
        have := nonneg y e
        rw [e] at hf
        cases o with
        | none => injection hf with hf; omega
        | some z =>
          have hz := ho z rfl
          have hf : (if y < z then some y else some z) = some f := hf
          by_cases k : y < z
          · rw [if_pos k] at hf; injection hf with hf; omega
          · rw [if_neg k] at hf; injection hf with hf; omega
    have eq : (failStep o c).map Int.toNat = less2 (o.map Int.toNat) ((clauseFails c).map Int.toNat) := by
      unfold failStep less2
      cases e : clauseFails c with
      | none => rfl
      | some y =>
        cases o with
        | none => rfl
        | some z =>
          have h1 := nonneg y e
          have h2 := ho z rfl
          show Option.map Int.toNat (if y < z then some y else some z) = (if y.toNat < z.toNat then some y.toNat else some z.toNat)
          by_cases k : y < z
          · rw [if_pos k, if_pos (by omega)]; rfl
          · rw [if_neg k, if_neg (by omega)]; rfl
    have ih := failsOf_first cs (failStep o c) (fun q => P q && clauseOk (c.map fun x => linAt x q)) ho' (by rw [eq]; exact step)
    have : (fun q => P q && isFollowed ((c :: cs).map fun c => c.map fun x => linAt x q)) = fun q => (P q && clauseOk (c.map fun x => linAt x q)) && isFollowed (cs.map fun c => c.map fun x => linAt x q) := by
      funext q
      show (P q && (clauseOk _ && _)) = _
      rw [Bool.and_assoc]
      rfl
    rw [this]
    exact ih
end LL

/-! Part D: the clauses go up evenly; how often; bounds; behind; the specification's leap. -/
namespace LL
open VaaclBase (Values Given Move Test Branch Loop valueAt given moved still holds allHold chosen branchAt okTest)
open Vaacld (Pattern andThen moveOf beginnings wholeMove follows rowsFrom evenAt minus lesser timesOf patternAt branchesFrom manyFrom)

/-- values at times, that go up evenly, by multiples of twelve -/
structure LineS (n : Nat) (f : Nat → Values) : Prop where
  len : ∀ q, (f q).length = n
  line : ∀ q x, valueAt (f q) x = valueAt (f 0) x + (q : Int) * (valueAt (f 1) x - valueAt (f 0) x)
  twelve : ∀ x, (12 : Int) ∣ valueAt (f 1) x - valueAt (f 0) x
theorem LineS.mv {n : Nat} {m : Move} {f : Nat → Values} (hm : WfMove n m) (hn : n ≤ 4) (L : LineS n f) : LineS n (fun q => moved m (f q)) := by
  have e : ∀ q x, valueAt (moved m (f q)) x = valueAt (f q) (srcF m x) + addF m x := fun q x => va_step hm hn (L.len q) x
  refine ⟨fun q => by rw [moved_len]; exact hm.len, fun q x => ?_, fun x => ?_⟩
  · rw [e q, e 0, e 1, L.line q]
    have : valueAt (f 1) (srcF m x) + addF m x - (valueAt (f 0) (srcF m x) + addF m x) = valueAt (f 1) (srcF m x) - valueAt (f 0) (srcF m x) := by omega
    rw [this]
    omega
  · rw [e 0, e 1]
    have : valueAt (f 1) (srcF m x) + addF m x - (valueAt (f 0) (srcF m x) + addF m x) = valueAt (f 1) (srcF m x) - valueAt (f 0) (srcF m x) := by omega
    rw [this]
    exact L.twelve _
theorem excess_line {n : Nat} {f : Nat → Values} (L : LineS n f) {t : Test} (ok : okTest n t = true) (q : Nat) : excess (f q) t = linAt (excess (f 0) t, excess (f 1) t) q := by
  unfold linAt
  dsimp only
  cases t with
  | atMost x c =>
    show valueAt (f q) x - c = valueAt (f 0) x - c + (q : Int) * (valueAt (f 1) x - c - (valueAt (f 0) x - c))
    rw [L.line q]
    have : valueAt (f 1) x - c - (valueAt (f 0) x - c) = valueAt (f 1) x - valueAt (f 0) x := by omega
    rw [this]
    omega
  | atLeast x c =>
    show c - valueAt (f q) x = c - valueAt (f 0) x + (q : Int) * (c - valueAt (f 1) x - (c - valueAt (f 0) x))
    rw [L.line q]
    have : c - valueAt (f 1) x - (c - valueAt (f 0) x) = - (valueAt (f 1) x - valueAt (f 0) x) := by omega
    rw [this, Int.mul_neg]
    omega
  | below x y c =>
    show valueAt (f q) x - valueAt (f q) y - c = valueAt (f 0) x - valueAt (f 0) y - c + (q : Int) * (valueAt (f 1) x - valueAt (f 1) y - c - (valueAt (f 0) x - valueAt (f 0) y - c))
    rw [L.line q x, L.line q y]
    have : valueAt (f 1) x - valueAt (f 1) y - c - (valueAt (f 0) x - valueAt (f 0) y - c) = (valueAt (f 1) x - valueAt (f 0) x) - (valueAt (f 1) y - valueAt (f 0) y) := by omega
    rw [this, Int.mul_sub (q : Int) (valueAt (f 1) x - valueAt (f 0) x) (valueAt (f 1) y - valueAt (f 0) y)]
    omega
  | rem x m r =>
    have hm : (m : Int) ∣ 12 := by
      unfold okTest at ok
      rw [Bool.and_eq_true, Bool.and_eq_true] at ok
      exact modulus_12 ok.2.1
    have k : ∀ q : Nat, valueAt (f q) x % (m : Int) = valueAt (f 0) x % (m : Int) := fun q => by
      rw [L.line q x]
      obtain ⟨z, hz⟩ := Int.dvd_trans hm (L.twelve x)
      rw [hz]
      have : (q : Int) * ((m : Int) * z) = (m : Int) * ((q : Int) * z) := by
        rw [← Int.mul_assoc, Int.mul_comm (q : Int) (m : Int), Int.mul_assoc]
      rw [this]
      exact Int.add_mul_emod_self_left _ _ _
    have e : ∀ q, excess (f q) (.rem x m r) = excess (f 0) (.rem x m r) := fun q => by
      show (if valueAt (f q) x % (m : Int) = (r : Int) then (0 : Int) else 1) = (if valueAt (f 0) x % (m : Int) = (r : Int) then (0 : Int) else 1)
      rw [k q]
    rw [e q, e 1, Int.sub_self, Int.mul_zero]
    omega
theorem lack_line {n : Nat} {f : Nat → Values} (L : LineS n f) {t : Test} (ok : okTest n t = true) (q : Nat) : lack (f q) t = linAt (lack (f 0) t, lack (f 1) t) q := by
  unfold lack
  rw [excess_line L ok q]
  unfold linAt
  dsimp only
  have : 1 - excess (f 1) t - (1 - excess (f 0) t) = - (excess (f 1) t - excess (f 0) t) := by omega
  rw [this, Int.mul_neg]
  omega
def zipC (cs ds : List (List Int)) : List (List (Int × Int)) := (cs.zip ds).map fun x => x.1.zip x.2
theorem zipC_append {a b c d : List (List Int)} (h : a.length = c.length) : zipC (a ++ b) (c ++ d) = zipC a c ++ zipC b d := by
  unfold zipC
  rw [List.zip_append h, List.map_append]
theorem zip_maps {α β γ : Type} (f : α → β) (g : α → γ) : ∀ l : List α, (l.map f).zip (l.map g) = l.map fun x => (f x, g x)
  | [] => rfl
  | x :: r => by
    show (f x, g x) :: (r.map f).zip (r.map g) = (f x, g x) :: _
    rw [zip_maps f g r]
theorem clausesAt_len (l : Loop) (b : Nat) (s t : Values) : (clausesAt l b s).length = (clausesAt l b t).length := by
  unfold clausesAt
  rw [List.length_append, List.length_append, List.length_map, List.length_map, List.length_map, List.length_map]
theorem allClauses_len (l : Loop) : ∀ (p : List Nat) (s t : Values), (allClauses l p s).length = (allClauses l p t).length
  | [], _, _ => rfl
  | b :: p, s, t => by
    show (clausesAt l b s ++ allClauses l p _).length = (clausesAt l b t ++ allClauses l p _).length
    rw [List.length_append, List.length_append, clausesAt_len l b s t, allClauses_len l p]
theorem zipC_clausesAt (l : Loop) (b : Nat) (s t : Values) : zipC (clausesAt l b s) (clausesAt l b t) = (guardAt l b).map (fun g => [(excess s g, excess t g)]) ++ (l.take b).map fun c => c.guard.map fun g => (lack s g, lack t g) := by
  unfold clausesAt
  rw [zipC_append (by rw [List.length_map, List.length_map])]
  unfold zipC
  rw [zip_maps, zip_maps, List.map_map, List.map_map]
  congr 1
  apply List.map_congr_left
  intro c _
  show (c.guard.map (lack s)).zip (c.guard.map (lack t)) = _
  exact zip_maps _ _ _
theorem zipC_len (l : Loop) : ∀ (p : List Nat) (s t : Values), ∀ x ∈ (allClauses l p s).zip (allClauses l p t), x.1.length = x.2.length
  | [], _, _, x, hx => (nomatch hx)
  | b :: p, s, t, x, hx => by
    have hx : x ∈ (clausesAt l b s ++ allClauses l p _).zip (clausesAt l b t ++ allClauses l p _) := hx
    rw [List.zip_append (clausesAt_len l b s t)] at hx
    rcases List.mem_append.mp hx with hx | hx
    · unfold clausesAt at hx
      rw [List.zip_append (by rw [List.length_map, List.length_map]), zip_maps, zip_maps] at hx
      rcases List.mem_append.mp hx with hx | hx
      · obtain ⟨g, _, rfl⟩ := List.mem_map.mp hx; rfl
      · obtain ⟨c, _, rfl⟩ := List.mem_map.mp hx
        show (c.guard.map _).length = (c.guard.map _).length
        rw [List.length_map, List.length_map]
    · exact zipC_len l p _ _ x hx
theorem guardAt_ok {n : Nat} {l : Loop} (h : WfLoop n l) {b : Nat} (hb : b < l.length) : ∀ t ∈ guardAt l b, okTest n t = true := by
  unfold guardAt branchAt
  rw [List.getElem?_eq_getElem hb]
  exact (h.all _ (List.getElem_mem hb)).tests
theorem allClauses_line {n : Nat} {l : Loop} (h : WfLoop n l) : ∀ (p : List Nat) (f : Nat → Values), PatOk l p → LineS n f → ∀ q, allClauses l p (f q) = (zipC (allClauses l p (f 0)) (allClauses l p (f 1))).map fun c => c.map fun x => linAt x q
  | [], _, _, _, _ => rfl
  | b :: p, f, hp, L, q => by
    have hb := hp b List.mem_cons_self
    show clausesAt l b (f q) ++ allClauses l p (moved (moveOf l b) (f q)) = (zipC (clausesAt l b (f 0) ++ allClauses l p (moved (moveOf l b) (f 0))) (clausesAt l b (f 1) ++ allClauses l p (moved (moveOf l b) (f 1)))).map _
    rw [zipC_append (clausesAt_len l b _ _), List.map_append, ← allClauses_line h p (fun q => moved (moveOf l b) (f q)) (fun c hc => hp c (List.mem_cons_of_mem _ hc)) (L.mv (moveOf_wf h hb) h.four) q, zipC_clausesAt]
    congr 1
    rw [List.map_append, List.map_map, List.map_map]
    unfold clausesAt
    congr 1
    · apply List.map_congr_left
      intro g hg
      show [excess (f q) g] = [linAt (excess (f 0) g, excess (f 1) g) q]
      rw [excess_line L (guardAt_ok h hb g hg) q]
    · apply List.map_congr_left
      intro c hc
      show c.guard.map (lack (f q)) = (c.guard.map fun g => (lack (f 0) g, lack (f 1) g)).map _
      rw [List.map_map]
      apply List.map_congr_left
      intro g hg
      exact lack_line L ((h.all c (List.mem_of_mem_take hc)).tests g hg) q
section
variable {n : Nat} {l : Loop} {p : List Nat} {s : Values}
theorem after_line (h : WfLoop n l) (hp : PatOk l p) (hs : s.length = n) {t : Nat} (ht : 4 ≤ t) : LineS n (fun q => after l n p (t + q * 144) s) := by
  have hw := whole_wf h hp
  have e : ∀ q : Nat, t + q * 144 = t + 12 * (12 * q) := fun q => by omega
  have v : ∀ q x, valueAt (after l n p (t + q * 144) s) x = valueAt (after l n p t s) x + ((12 * q : Nat) : Int) * gain (wholeMove l n p) s x := fun q x => by
    unfold after
    rw [e q]
    exact va_many hw h.four hs x t ht (12 * q)
  refine ⟨fun q => after_len h hp hs _, fun q x => ?_, fun x => ?_⟩
  · rw [v q, v 0, v 1]
    have e0 : ((12 * 0 : Nat) : Int) * gain (wholeMove l n p) s x = 0 := by rw [Nat.mul_zero]; exact Int.zero_mul _
    have e1 : ((12 * 1 : Nat) : Int) = 12 := rfl
    have eq : ((12 * q : Nat) : Int) = (q : Int) * 12 := by omega
    rw [e0, e1, eq]
    have : valueAt (after l n p t s) x + 12 * gain (wholeMove l n p) s x - (valueAt (after l n p t s) x + 0) = 12 * gain (wholeMove l n p) s x := by omega
    rw [this, Int.mul_assoc]
    omega
  · rw [v 0, v 1]
    have e0 : ((12 * 0 : Nat) : Int) * gain (wholeMove l n p) s x = 0 := by rw [Nat.mul_zero]; exact Int.zero_mul _
    have e1 : ((12 * 1 : Nat) : Int) = 12 := rfl
    rw [e0, e1]
    refine ⟨gain (wholeMove l n p) s x, ?_⟩
    omega
/-- Doing.fails_from -/
def failsFrom (l : Loop) (n : Nat) (p : List Nat) (s : Values) (t : Nat) : Option Int := failsOf (zipC (allClauses l p (after l n p t s)) (allClauses l p (after l n p (t + 144) s)))
theorem failsFrom_first (h : WfLoop n l) (hp : PatOk l p) (hs : s.length = n) {t : Nat} (ht : 4 ≤ t) : IsFirst (fun q => followed l p (after l n p (t + q * 144) s)) ((failsFrom l n p s t).map Int.toNat) := by
  have L := after_line h hp hs ht
  have F := failsOf_first (zipC (allClauses l p (after l n p t s)) (allClauses l p (after l n p (t + 144) s))) none (fun _ => true) (fun f hf => (nomatch hf)) (fun _ => rfl)
  have e : (fun q => true && isFollowed ((zipC (allClauses l p (after l n p t s)) (allClauses l p (after l n p (t + 144) s))).map fun c => c.map fun x => linAt x q)) = fun q => followed l p (after l n p (t + q * 144) s) := by
    funext q
    rw [Bool.true_and]
    have A := allClauses_line h p _ hp L q
    have a0 : after l n p (t + 0 * 144) s = after l n p t s := by rw [Nat.zero_mul, Nat.add_zero]
    have a1 : after l n p (t + 1 * 144) s = after l n p (t + 144) s := by rw [Nat.one_mul]
    have A : allClauses l p (after l n p (t + q * 144) s) = (zipC (allClauses l p (after l n p (t + 0 * 144) s)) (allClauses l p (after l n p (t + 1 * 144) s))).map fun c => c.map fun x => linAt x q := A
    rw [a0, a1] at A
    rw [← A, isFollowed_all l p _ hp]
  rw [e] at F
  exact F

/-! bounds -/
def Bnd (B : Int) (s : Values) : Prop := ∀ i, -B ≤ valueAt s i ∧ valueAt s i ≤ B
theorem Bnd.mono {B C : Int} {s : Values} (h : Bnd B s) (hb : B ≤ C) : Bnd C s := fun i => ⟨by have := (h i).1; omega, by have := (h i).2; omega⟩
theorem bnd_moved {B : Int} (h : WfLoop n l) {b : Nat} (hb : b < l.length) (hs : s.length = n) (hB : 0 ≤ B) (k : Bnd B s) : Bnd (B + 99) (moved (moveOf l b) s) := by
  have hm := moveOf_wf h hb
  intro i
  rw [va_step hm h.four hs i]
  have a : -99 ≤ addF (moveOf l b) i ∧ addF (moveOf l b) i ≤ 99 := by
    unfold addF moveOf branchAt
    rw [List.getElem?_eq_getElem hb, Option.getD_some]
    by_cases hi : i < l[b].move.length
    · rw [List.getElem?_eq_getElem hi]
      have := (h.all _ (List.getElem_mem hb)).gifts _ (List.getElem_mem hi)
      exact ⟨this.lo, this.hi⟩
    · rw [List.getElem?_eq_none_iff.mpr (by omega)]
      decide
  have := k (srcF (moveOf l b) i)
  omega
theorem bnd_once {B : Int} (h : WfLoop n l) : ∀ (p : List Nat) (s : Values), PatOk l p → s.length = n → 0 ≤ B → Bnd B s → Bnd (B + 99 * (p.length : Int)) (behindOnce l p s)
  | [], s, _, _, _, k => k.mono (by show B ≤ B + 99 * ((0 : Nat) : Int); omega)
  | b :: p, s, hp, hs, hB, k => by
    have hb := hp b List.mem_cons_self
    rw [behindOnce_cons]
    have := bnd_once (B := B + 99) h p (moved (moveOf l b) s) (fun c hc => hp c (List.mem_cons_of_mem _ hc)) (by rw [moved_len]; exact (moveOf_wf h hb).len) (by omega) (bnd_moved h hb hs hB k)
    refine this.mono ?_
    rw [List.length_cons]
    omega
theorem bnd_after {B : Int} (h : WfLoop n l) (hp : PatOk l p) (hs : s.length = n) (h3 : p.length ≤ 3) (hB : 0 ≤ B) (k : Bnd B s) : ∀ t : Nat, Bnd (B + 297 * (t : Int)) (after l n p t s)
  | 0 => k.mono (by show B ≤ B + 297 * ((0 : Nat) : Int); omega)
  | t + 1 => by
    rw [after_succ h hp hs t]
    have := bnd_once h p (after l n p t s) hp (after_len h hp hs t) (B := B + 297 * (t : Int)) (by omega) (bnd_after h hp hs h3 hB k t)
    refine this.mono ?_
    omega
theorem bnd_excess {B : Int} (k : Bnd B s) (hB : 0 ≤ B) {t : Test} (ok : okTest n t = true) : (excess s t).natAbs ≤ (2 * B + 1000000).toNat ∧ (lack s t).natAbs ≤ (2 * B + 1000000).toNat := by
  unfold lack
  cases t with
  | atMost x c =>
    unfold okTest VaaclBase.LIMIT at ok
    rw [Bool.and_eq_true, Bool.and_eq_true] at ok
    have o1 := of_decide_eq_true ok.2.1
    have o2 := of_decide_eq_true ok.2.2
    have := k x
    show (valueAt s x - c).natAbs ≤ _ ∧ (1 - (valueAt s x - c)).natAbs ≤ _
    omega
  | atLeast x c =>
    unfold okTest VaaclBase.LIMIT at ok
    rw [Bool.and_eq_true, Bool.and_eq_true] at ok
    have o1 := of_decide_eq_true ok.2.1
    have o2 := of_decide_eq_true ok.2.2
    have := k x
    show (c - valueAt s x).natAbs ≤ _ ∧ (1 - (c - valueAt s x)).natAbs ≤ _
    omega
  | below x y c =>
    unfold okTest VaaclBase.LIMIT at ok
    rw [Bool.and_eq_true, Bool.and_eq_true, Bool.and_eq_true] at ok
    have o1 := of_decide_eq_true ok.2.2.1
    have o2 := of_decide_eq_true ok.2.2.2
    have := k x
    have := k y
    show (valueAt s x - valueAt s y - c).natAbs ≤ _ ∧ (1 - (valueAt s x - valueAt s y - c)).natAbs ≤ _
    omega
  | rem x m r =>
    show (if valueAt s x % (m : Int) = (r : Int) then (0 : Int) else 1).natAbs ≤ _ ∧ (1 - (if valueAt s x % (m : Int) = (r : Int) then (0 : Int) else 1)).natAbs ≤ _
    split <;> omega
theorem bnd_clauses {B : Int} (h : WfLoop n l) : ∀ (p : List Nat) (s : Values), PatOk l p → s.length = n → 0 ≤ B → Bnd B s → ∀ c ∈ allClauses l p s, ∀ x ∈ c, x.natAbs ≤ (2 * (B + 99 * (p.length : Int)) + 1000000).toNat
  | [], _, _, _, _, _, c, hc => (nomatch hc)
  | b :: p, s, hp, hs, hB, k, c, hc => by
    have hb := hp b List.mem_cons_self
    have hc : c ∈ clausesAt l b s ++ allClauses l p (moved (moveOf l b) s) := hc
    rcases List.mem_append.mp hc with hc | hc
    · intro x hx
      have big : (2 * B + 1000000).toNat ≤ (2 * (B + 99 * ((b :: p).length : Int)) + 1000000).toNat := by omega
      refine Nat.le_trans ?_ big
      unfold clausesAt at hc
      rcases List.mem_append.mp hc with hc | hc
      · obtain ⟨g, hg, rfl⟩ := List.mem_map.mp hc
        rw [List.mem_singleton.mp hx]
        exact (bnd_excess k hB (guardAt_ok h hb g hg)).1
      · obtain ⟨d, hd, rfl⟩ := List.mem_map.mp hc
        obtain ⟨g, hg, rfl⟩ := List.mem_map.mp hx
        exact (bnd_excess k hB ((h.all d (List.mem_of_mem_take hd)).tests g hg)).2
    · have := bnd_clauses (B := B + 99) h p (moved (moveOf l b) s) (fun c hc => hp c (List.mem_cons_of_mem _ hc)) (by rw [moved_len]; exact (moveOf_wf h hb).len) (by omega) (bnd_moved h hb hs hB k) c hc
      intro x hx
      refine Nat.le_trans (this x hx) ?_
      rw [List.length_cons]
      omega

/-! how often -/
def howStep (l : Loop) (n : Nat) (p : List Nat) (s : Values) (t : Nat) (found : Option Int) : Option Int := match failsFrom l n p s t with
  | none => found
  | some o => match found with
    | none => some ((t : Int) + o * 144)
    | some x => if (t : Int) + o * 144 < x then some ((t : Int) + o * 144) else some x
def howFold (l : Loop) (n : Nat) (p : List Nat) (s : Values) : Nat → Option Int
  | 0 => none
  | k + 1 => howStep l n p s (4 + k) (howFold l n p s k)
def howMost : Int := 10 ^ 15
/-- values within 10 ^ 12 -/
theorem failsFrom_le (h : WfLoop n l) (hp : PatOk l p) (hs : s.length = n) (h3 : p.length ≤ 3) (k : Bnd (10 ^ 12) s) {t : Nat} (ht : t ≤ 148) {f : Int} (hf : failsFrom l n p s t = some f) : 0 ≤ f ∧ f ≤ 3 * 10 ^ 12 := by
  refine failsOf_le (B := 3 * 10 ^ 12) (by decide) _ none (fun f hf => (nomatch hf)) (fun c hc x hx => ?_) f hf
  unfold zipC at hc
  obtain ⟨y, hy, rfl⟩ := List.mem_map.mp hc
  have h1 := (List.of_mem_zip hy).1
  have h2 := (List.of_mem_zip hx).1
  have b := bnd_clauses h p (after l n p t s) hp (after_len h hp hs t) (by omega) (bnd_after h hp hs h3 (by decide) k t) _ h1 _ h2
  omega
theorem howFold_is (h : WfLoop n l) (hp : PatOk l p) (hs : s.length = n) (h3 : p.length ≤ 3) (k : Bnd (10 ^ 12) s) : ∀ r, r ≤ 144 →
    howFold l n p s r = (minOf (fun k => ((failsFrom l n p s (4 + k)).map Int.toNat).map fun q => 4 + k + q * 144) r).map Int.ofNat
  | 0, _ => rfl
  | r + 1, hr => by
    rw [minOf_succ]
    show howStep l n p s (4 + r) (howFold l n p s r) = _
    rw [howFold_is h hp hs h3 k r (by omega)]
    unfold howStep
    cases e : failsFrom l n p s (4 + r) with
    | none => rfl
    | some o =>
      have ho := failsFrom_le h hp hs h3 k (by omega) e
      have eo : ((4 + r : Nat) : Int) + o * 144 = ((4 + r + o.toNat * 144 : Nat) : Int) := by omega
      show (match Option.map Int.ofNat (minOf _ r) with
        | none => some (((4 + r : Nat) : Int) + o * 144)
        | some x => if ((4 + r : Nat) : Int) + o * 144 < x then some (((4 + r : Nat) : Int) + o * 144) else some x) = Option.map Int.ofNat (lesser (minOf _ r) (4 + r + o.toNat * 144))
      rw [eo]
      cases minOf (fun k => ((failsFrom l n p s (4 + k)).map Int.toNat).map fun q => 4 + k + q * 144) r with
      | none => rfl
      | some x =>
        show (if ((4 + r + o.toNat * 144 : Nat) : Int) < (x : Int) then some ((4 + r + o.toNat * 144 : Nat) : Int) else some (x : Int)) = some ((Nat.min x (4 + r + o.toNat * 144) : Nat) : Int)
        have em : Nat.min x (4 + r + o.toNat * 144) = min x (4 + r + o.toNat * 144) := rfl
        rw [em]
        by_cases c : ((4 + r + o.toNat * 144 : Nat) : Int) < (x : Int)
        · rw [if_pos c, Nat.min_eq_right (by omega)]
        · rw [if_neg c, Nat.min_eq_left (by omega)]
theorem howFold_le (h : WfLoop n l) (hp : PatOk l p) (hs : s.length = n) (h3 : p.length ≤ 3) (k : Bnd (10 ^ 12) s) : ∀ r, r ≤ 144 → ∀ x, howFold l n p s r = some x → 0 ≤ x ∧ x ≤ howMost
  | 0, _, x, hx => (nomatch hx)
  | r + 1, hr, x, hx => by
    have ih := howFold_le h hp hs h3 k r (by omega)
    have hx : howStep l n p s (4 + r) (howFold l n p s r) = some x := hx
    unfold howStep at hx
    cases e : failsFrom l n p s (4 + r) with
    | none => rw [e] at hx; exact ih x hx
    | some o =>
      have ho := failsFrom_le h hp hs h3 k (by omega) e
      have big : 0 ≤ ((4 + r : Nat) : Int) + o * 144 ∧ ((4 + r : Nat) : Int) + o * 144 ≤ howMost := by unfold howMost; omega
      rw [e] at hx
      cases e2 : howFold l n p s r with
      | none =>
        rw [e2] at hx
        have hx : some (((4 + r : Nat) : Int) + o * 144) = some x := hx
        injection hx with hx
        rw [← hx]
        exact big
      | some y =>
        rw [e2] at hx
        have hx : (if ((4 + r : Nat) : Int) + o * 144 < y then some (((4 + r : Nat) : Int) + o * 144) else some y) = some x := hx
        by_cases c : ((4 + r : Nat) : Int) + o * 144 < y
        · rw [if_pos c] at hx
          injection hx with hx
          rw [← hx]
          exact big
        · rw [if_neg c] at hx
          injection hx with hx
          rw [← hx]
          exact ih y e2
/-- the first fails_within -/
theorem within_is (h : WfLoop n l) (hp : PatOk l p) (hs : s.length = n) {t : Nat} (hf : followed l p (after l n p t s) = false) (hlt : ∀ u, u < t → followed l p (after l n p u s) = true) : timesOf l p s = some t :=
  first_unique (timesOf_first h hp hs) (show IsFirst _ (some t) from ⟨hf, hlt⟩)
/-- none within: the fold -/
theorem later_is (h : WfLoop n l) (hp : PatOk l p) (hs : s.length = n) (h3 : p.length ≤ 3) (k : Bnd (10 ^ 12) s) (hlt : ∀ u, u < 148 → followed l p (after l n p u s) = true) : howFold l n p s 144 = (timesOf l p s).map Int.ofNat := by
  rw [howFold_is h hp hs h3 k 144 (by decide)]
  congr 1
  refine first_unique ?_ (timesOf_first h hp hs)
  exact first_by (P := fun t => followed l p (after l n p t s)) (B := 4) (r := 144) (by decide) (fun k => (failsFrom l n p s (4 + k)).map Int.toNat) (fun t ht => hlt t (by omega)) (fun k _ => failsFrom_first h hp hs (by omega))
theorem times_le (h : WfLoop n l) (hp : PatOk l p) (hs : s.length = n) (h3 : p.length ≤ 3) (k : Bnd (10 ^ 12) s) {q : Nat} (hq : timesOf l p s = some q) : (q : Int) ≤ howMost := by
  by_cases c : ∃ u, u < 148 ∧ followed l p (after l n p u s) = false
  · obtain ⟨u, hu, hf⟩ := c
    obtain ⟨v, hv, hf, hlt⟩ := first_of (P := fun t => followed l p (after l n p t s)) hf
    have := within_is h hp hs hf hlt
    rw [hq] at this
    injection this with this
    unfold howMost
    omega
  · have hlt : ∀ u, u < 148 → followed l p (after l n p u s) = true := fun u hu => by
      cases e : followed l p (after l n p u s) with
      | true => rfl
      | false => exact absurd ⟨u, hu, e⟩ c
    have e := later_is h hp hs h3 k hlt
    rw [hq] at e
    exact (howFold_le h hp hs h3 k 144 (by decide) _ e).2

/-! behind so many times -/
/-- Doing.behind -/
theorem behind_is (h : WfLoop n l) (hp : PatOk l p) (hs : s.length = n) {t : Nat} (ht : 148 ≤ t) :
    evenAt (after l n p (t - (t - 4) / 144 * 144) s) (minus (after l n p (t - (t - 4) / 144 * 144 + 144) s) (after l n p (t - (t - 4) / 144 * 144) s)) ((t - 4) / 144) = after l n p t s := by
  have e := even_iter (whole_wf h hp) h.four hs 12 (t - (t - 4) / 144 * 144) (by omega) ((t - 4) / 144)
  unfold after
  have e1 : t - (t - 4) / 144 * 144 + 12 * 12 = t - (t - 4) / 144 * 144 + 144 := rfl
  rw [e1] at e
  rw [e]
  congr 1
  omega
theorem many_iter {m : Move} (hm : WfMove n m) : ∀ (f q : Nat) (s : Values), s.length = n → q < 2 ^ f → manyFrom f m q s = iter m q s := by
  intro f
  induction f generalizing m with
  | zero =>
    intro q s _ hq
    have : q = 0 := by have : (2 : Nat) ^ 0 = 1 := rfl; omega
    subst this
    rfl
  | succ f ih =>
    intro q s hs hq
    have dbl : ∀ (k : Nat) (s : Values), s.length = n → iter (andThen m m) k s = iter m (2 * k) s := by
      intro k
      induction k with
      | zero => intro s _; rfl
      | succ k ihk =>
        intro s hs
        show moved (andThen m m) (iter (andThen m m) k s) = _
        rw [ihk s hs, moved_andThen fun g hg i hi => by rw [hm.len]; exact hm.all g hg i hi]
        rfl
    have hw := andThen_wf hm hm
    show (if q = 0 then s else manyFrom f (andThen m m) (q / 2) (if q % 2 = 1 then moved m s else s)) = iter m q s
    by_cases c : q = 0
    · rw [if_pos c, c]; rfl
    · rw [if_neg c]
      have hq2 : q / 2 < 2 ^ f := by have : (2 : Nat) ^ (f + 1) = 2 ^ f * 2 := rfl; omega
      by_cases o : q % 2 = 1
      · rw [if_pos o, ih hw (q / 2) (moved m s) (by rw [moved_len]; exact hm.len) hq2, dbl _ _ (by rw [moved_len]; exact hm.len), ← iter_succ']
        congr 1
        omega
      · rw [if_neg o, ih hw (q / 2) s hs hq2, dbl _ _ hs]
        congr 1
        omega
end
end LL

set_option maxRecDepth 100000
set_option maxHeartbeats 4000000
/-! Part W0: words over the hand layer: a def, a method, a class as one fact; readings that give a value with a property. -/
namespace LW
open PySem PySem.Spec PyProof.Rows L2
open Evl (Ex Ev EvT EvL EvU EvA EvO fresh_back)

/-! ### a def, a method, a class with its __init__, as one fact each -/
structure FnG (P : Program) (w : World) (K : PySem.W.Frag) (mg : Str → Option Value) (base : Heap) (CX : CXT) (k : Nat) (x : Str) (ps : List Str) (sp : Sp) : Prop where
  ex : ∃ (f : Addr) (fd : FuncData), mg x = some (.ref f) ∧ PySem.W.keepIn K (.ref f) = true ∧ FnOk P w K mg base CX k f fd ps sp ∧ Binds K fd ps []
structure MtG (P : Program) (w : World) (K : PySem.W.Frag) (mg : Str → Option Value) (base : Heap) (CX : CXT) (k : Nat) (C : Addr) (m : Str) (ps : List Str) (sp : Sp) : Prop where
  ex : ∃ (f : Addr) (fd : FuncData), Cls K C ∧ Meth K C m f ∧ FnOk P w K mg base CX k f fd ps sp ∧ Binds K fd ps []
structure MkG (P : Program) (w : World) (K : PySem.W.Frag) (mg : Str → Option Value) (base : Heap) (CX : CXT) (k : Nat) (C : Addr) (x : Str) (ps : List Str) (sp : Sp) : Prop where
  ex : ∃ (f : Addr) (fd : FuncData), mg x = some (.ref C) ∧ Mk K C f ∧ FnOk P w K mg base CX k f fd ps sp ∧ Binds K fd ps []
/-- the same as they stand in the text -/
def FnD (K : PySem.W.Frag) (mg : Str → Option Value) (x : Str) (st : Stmt) : Prop := ∃ (f : Addr) (fd : FuncData), mg x = some (.ref f) ∧ Fun K x x st f fd
def MtD (K : PySem.W.Frag) (C : Addr) (m qual : Str) (st : Stmt) : Prop := ∃ (f : Addr) (fd : FuncData), Cls K C ∧ Meth K C m f ∧ Fun K m qual st f fd
def MkD (K : PySem.W.Frag) (mg : Str → Option Value) (C : Addr) (x qual : Str) (st : Stmt) : Prop := ∃ (f : Addr) (fd : FuncData), mg x = some (.ref C) ∧ Mk K C f ∧ Fun K "__init__" qual st f fd
section
variable {X : Cx} {CX : CXT} {k : Nat} {C : Addr} {ps : List Str} {sp : Sp} {E : XK} {x m : Str} {p pos apos : Pos} {e o : Expr} {es : List Expr} {ta : TE} {t : TA}
theorem pe_callG (G : FnG X.prog X.w X.K X.mg X.base CX k x ps sp) (hr : Room k X.A) (hx : Passes CX X E) (hg : Gl X x) (ha : PA X (e :: es) t)
    (hdb : (x == ("__debug__" : Str)) = false := by decide) (he : starEach (e :: es) X.env = (false, eval e X.env) :: starEach es X.env := by rfl) (hpl : (backTo pos (starEach es X.env)).any (·.1) = false := by rfl) :
    PE X (.Call (.Name x p) (e :: es) [] pos) (tCall sp [] E t) := by
  obtain ⟨f, fd, hm, hk, F, b⟩ := G.ex
  exact pe_call F hr hg hm hk b .nil hx ha hdb he hpl
theorem pe_methG {pl : Sem Bool} (G : MtG X.prog X.w X.K X.mg X.base CX k C m ps sp) (hr : Room k X.A) (hx : Passes CX X E) (he : PE X o ta) (ha : PA X (e :: es) t)
    (hst : starEach (e :: es) X.env = (false, eval e X.env) :: starEach es X.env := by rfl) (hpl : (backTo pos (starEach es X.env)).any (·.1) = false := by rfl)
    (ht : eval (.Call (.Attribute o m apos) (e :: es) [] pos) X.env = (do
      let ov ← eval o X.env
      standAt apos.atName
      let (f, first) ← holding [ov] (getMethod ov m pl)
      callWith pos f first (backTo pos (starEach (e :: es) X.env)) (backToKw pos (keywordEach [] X.env))) := by rfl) :
    PE X (.Call (.Attribute o m apos) (e :: es) [] pos) (tMeth C m sp [] E ta t) := by
  obtain ⟨f, fd, c, hm, F, b⟩ := G.ex
  exact pe_meth he c hm F hr b .nil hx ha hst hpl ht
theorem pe_methG0 {pl : Sem Bool} (G : MtG X.prog X.w X.K X.mg X.base CX k C m ps sp) (hr : Room k X.A) (hx : Passes CX X E) (he : PE X o ta)
    (ht : eval (.Call (.Attribute o m apos) [] [] pos) X.env = (do
      let ov ← eval o X.env
      standAt apos.atName
      let (f, first) ← holding [ov] (getMethod ov m pl)
      callWith pos f first (backTo pos (starEach [] X.env)) (backToKw pos (keywordEach [] X.env))) := by rfl) :
    PE X (.Call (.Attribute o m apos) [] [] pos) (tMeth C m sp [] E ta tNil) := by
  obtain ⟨f, fd, c, hm, F, b⟩ := G.ex
  exact pe_meth0 he c hm F hr b .nil hx ht
theorem pe_makeG (G : MkG X.prog X.w X.K X.mg X.base CX k C x ps sp) (hr : Room (k + 1) X.A) (hx : Passes CX X E) (hg : Gl X x) (ha : PA X (e :: es) t)
    (hdb : (x == ("__debug__" : Str)) = false := by decide) (he : starEach (e :: es) X.env = (false, eval e X.env) :: starEach es X.env := by rfl) (hpl : (backTo pos (starEach es X.env)).any (·.1) = false := by rfl) :
    PE X (.Call (.Name x p) (e :: es) [] pos) (tMake C sp [] E t) := by
  obtain ⟨f, fd, hm, M, F, b⟩ := G.ex
  exact pe_make M F hr hg hm b .nil hx ha hdb he hpl
theorem pe_makeG0 (G : MkG X.prog X.w X.K X.mg X.base CX k C x ps sp) (hr : Room (k + 1) X.A) (hx : Passes CX X E) (hg : Gl X x)
    (hdb : (x == ("__debug__" : Str)) = false := by decide) : PE X (.Call (.Name x p) [] [] pos) (tMake C sp [] E tNil) := by
  obtain ⟨f, fd, hm, M, F, b⟩ := G.ex
  exact pe_make0 M F hr hg hm b .nil hx hdb
/-- a module's whole number; a module's tuple -/
def IntG (mg : Str → Option Value) (x : Str) (i : Int) : Prop := ∃ t, mg x = some (.int i t)
def TupG (K : PySem.W.Frag) (mg : Str → Option Value) (x : Str) (xs : List V) : Prop := ∃ a, mg x = some (.ref a) ∧ ∀ H, SqT K H a xs
theorem pe_gi {i : Int} (h : IntG X.mg x i) (hg : Gl X x) (hd : (x == ("__debug__" : Str)) = false := by decide) : PE X (.Name x p) (tC (.int i)) := by
  obtain ⟨t, h⟩ := h
  exact pe_glob hg h ⟨_, rfl⟩ hd
def tGT (K : PySem.W.Frag) (xs : List V) : TE := fun _ H Q => ∀ a, (∀ H, SqT K H a xs) → Q (.ref a) H
theorem pe_gt {xs : List V} (h : TupG X.K X.mg x xs) (hg : Gl X x) (hd : (x == ("__debug__" : Str)) = false := by decide) : PE X (.Name x p) (tGT X.K xs) := by
  obtain ⟨a, h, s⟩ := h
  refine ⟨fun pins st σ H Q I q => (pe_glob (v := .ref a) hg h rfl hd).run pins st σ H Q I (q a s)⟩
/-- either of two readings -/
def tEither (t u : TE) : TE := fun σ H Q => t σ H Q ∨ u σ H Q
theorem pe_either {t u : TE} (h : PE X e t) (g : PE X e u) : PE X e (tEither t u) := ⟨fun pins s σ H Q I q => q.elim (h.run pins s σ H Q I) (g.run pins s σ H Q I)⟩
end
section
variable {P : Program} {w : World} {K : PySem.W.Frag} {mg : Str → Option Value} {base : Heap}
/-- as Fun.okX, for a def whose exceptions have no context -/
theorem okN {x qual : Str} {st : Stmt} {f : Addr} {fd : FuncData} {N ps : List Str} {k : Nat} {sp : Sp} (F : Fun K x qual st f fd) (S : FnScope N ps (defScope st)) (len : ∀ vs H Q E, sp vs H Q E → vs.length = ps.length)
    (hbody : ∀ (cdv : Value) (A : Around) (outer : List Env) (s : Shared) (H : Hp) (vs : List V) (Q : VK) (E : XK), Room k (A.deeper (envOfC qual (defScope st) s.heap.objs.size f cdv)) → sp vs H Q E →
      ∃ t, PSs (cxOf (L2N.CX P w) P w K mg base N qual (defScope st) f cdv A outer s H E) (defBody st) t ∧ t { nx := fun _ H' => Q .non H', rt := Q } (start N vs) H) : FnOk P w K mg base (L2N.CX P w) (k + 1) f fd ps sp := by
  obtain ⟨oc, od, kV, doc, pm, an, cdv, ct, osl, rfl, lk, hcd⟩ := F.ex
  exact fn_of lk hcd S len fun A outer s H vs Q E hr hsp => hbody cdv A outer s H vs Q E hr hsp
end
end LW

set_option maxRecDepth 100000
set_option maxHeartbeats 4000000
/-! Part W1: what readings give. -/
namespace LW
open PySem PySem.Spec PyProof.Rows L2
open Evl (Ex Ev EvT EvL EvU EvA EvO fresh_back ex_l ex_t)

/-! ### values with a property -/
def EvP (te : TE) (σ : L2.St) (H : Hp) (P : V → Hp → Prop) : Prop := ∀ H1, Ex H H1 → ∀ Q : VK, (∀ v H2, Ex H1 H2 → P v H2 → Q v H2) → te σ H1 Q
/-- P holds of a part of H' that is new since Hs -/
def NewAt (Hs H' : Hp) (P : Hp → Prop) : Prop := ∃ H0 : Hp, (∀ b o, Hs b = some o → H0 b = none) ∧ Ex H0 H' ∧ P H0
def EvN (te : TE) (σ : L2.St) (H : Hp) (P : V → Hp → Prop) : Prop := ∀ H1, Ex H H1 → ∀ Q : VK, (∀ v H2, Ex H1 H2 → NewAt H1 H2 (P v) → Q v H2) → te σ H1 Q
/-- promises of these forms -/
def SpP {A : Type} (args : A → List V) (pre : A → Hp → Prop) (post : A → V → Hp → Prop) : Sp := fun vs H Q _ => ∃ i, vs = args i ∧ pre i H ∧ ∀ v H', Ex H H' → post i v H' → Q v H'
def SpN {A : Type} (args : A → List V) (pre : A → Hp → Prop) (post : A → V → Hp → Prop) : Sp := fun vs H Q _ => ∃ i, vs = args i ∧ pre i H ∧ ∀ v H', Ex H H' → NewAt H H' (post i v) → Q v H'
/-- a property that more objects don't change -/
def Mono (P : Hp → Prop) : Prop := ∀ H H', Ex H H' → P H → P H'
theorem NewAt.weak {Hs H' : Hp} {P : Hp → Prop} (h : NewAt Hs H' P) (m : Mono P) : P H' := by
  obtain ⟨H0, _, e, p⟩ := h
  exact m _ _ e p
/-- what stands behind: all that is new, or stood, is kept but what stood at the beginning -/
theorem NewAt.on {Hs H' H2 : Hp} {P : Hp → Prop} (h : NewAt Hs H' P) (k : ∀ b o, Hs b = none → H' b = some o → H2 b = some o) : NewAt Hs H2 P := by
  obtain ⟨H0, f, e, p⟩ := h
  refine ⟨H0, f, fun b o hb => k b o ?_ (e b o hb), p⟩
  cases q : Hs b with
  | none => rfl
  | some u => rw [f b u q] at hb; cases hb
theorem NewAt.later {Hs H' H2 : Hp} {P : Hp → Prop} (h : NewAt Hs H' P) (e : Ex H' H2) : NewAt Hs H2 P := h.on fun b o _ q => e b o q
theorem NewAt.earlier {Hs Ht H' : Hp} {P : Hp → Prop} (h : NewAt Ht H' P) (e : Ex Hs Ht) : NewAt Hs H' P := by
  obtain ⟨H0, f, e0, p⟩ := h
  exact ⟨H0, fun b o hb => f b o (e b o hb), e0, p⟩
theorem NewAt.imp {Hs H' : Hp} {P R : Hp → Prop} (h : NewAt Hs H' P) (k : ∀ H, P H → R H) : NewAt Hs H' R := by
  obtain ⟨H0, f, e, p⟩ := h
  exact ⟨H0, f, e, k _ p⟩
theorem NewAt.triv {Hs H' : Hp} {P : Hp → Prop} (h : ∀ H, P H) : NewAt Hs H' P := ⟨fun _ => none, fun _ _ _ => rfl, fun b o q => (by cases q), h _⟩
def uni (A B : Hp) : Hp := fun b => match A b with
  | some o => some o
  | none => B b
theorem uni_l (A B : Hp) : Ex A (uni A B) := fun b o h => by unfold uni; rw [h]
theorem uni_r {A B H : Hp} (a : Ex A H) (b : Ex B H) : Ex B (uni A B) := fun c o h => by
  unfold uni
  cases q : A c with
  | none => exact h
  | some u =>
    have h1 := a c u q
    rw [b c o h] at h1
    cases h1
    rfl
theorem uni_ex {A B H : Hp} (a : Ex A H) (b : Ex B H) : Ex (uni A B) H := fun c o h => by
  unfold uni at h
  cases q : A c with
  | none => rw [q] at h; exact b c o h
  | some u => rw [q] at h; cases h; exact a c _ q
theorem NewAt.and {Hs H' : Hp} {P R : Hp → Prop} (h : NewAt Hs H' P) (g : NewAt Hs H' R) (mP : Mono P) (mR : Mono R) : NewAt Hs H' (fun H => P H ∧ R H) := by
  obtain ⟨A, fa, ea, pa⟩ := h
  obtain ⟨B, fb, eb, pb⟩ := g
  refine ⟨uni A B, fun b o hb => ?_, uni_ex ea eb, mP _ _ (uni_l A B) pa, mR _ _ (uni_r ea eb) pb⟩
  unfold uni
  rw [fa b o hb]
  exact fb b o hb
theorem NewAt.obj {Hs H' : Hp} {a : Addr} {o : HO} (h : H' a = some o) (f : Hs a = none) : NewAt Hs H' (fun H => H a = some o) := by
  refine ⟨fun b => if b = a then some o else none, fun b u hb => ?_, fun b u hb => ?_, if_pos rfl⟩
  · by_cases e : b = a
    · rw [e, f] at hb; cases hb
    · exact if_neg e
  · by_cases e : b = a
    · have hb : (if b = a then some o else none) = some u := hb
      rw [if_pos e] at hb
      cases hb
      rw [e]; exact h
    · have hb : (if b = a then some o else none) = some u := hb
      rw [if_neg e] at hb; cases hb

section
variable {K : PySem.W.Frag} {σ : L2.St} {H H' : Hp} {ta tb te to : TE} {t u : TT} {x y z v : V} {r : R2} {P R : V → Hp → Prop} {vs : List V} {tr : TA} {E : XK}
theorem ev_p (h : Ev te σ H v) : EvP te σ H (fun u _ => u = v) := fun H1 e Q q => h H1 e Q fun H2 e2 => q v H2 e2 rfl
theorem EvP.toEv (h : EvP te σ H (fun u _ => u = v)) : Ev te σ H v := fun H1 e Q q => h H1 e Q fun u H2 e2 p => by rw [p]; exact q H2 e2
theorem EvP.mono (e : Ex H H') (h : EvP te σ H P) : EvP te σ H' P := fun H1 a Q q => h H1 (e.trans a) Q q
theorem EvN.mono (e : Ex H H') (h : EvN te σ H P) : EvN te σ H' P := fun H1 a Q q => h H1 (e.trans a) Q q
theorem EvP.imp (h : EvP te σ H P) (k : ∀ v H, P v H → R v H) : EvP te σ H R := fun H1 e Q q => h H1 e Q fun v H2 e2 p => q v H2 e2 (k v H2 p)
theorem EvN.imp (h : EvN te σ H P) (k : ∀ v H, P v H → R v H) : EvN te σ H R := fun H1 e Q q => h H1 e Q fun v H2 e2 p => q v H2 e2 (p.imp (k v))
theorem EvN.p (h : EvN te σ H P) (m : ∀ v, Mono (P v)) : EvP te σ H P := fun H1 e Q q => h H1 e Q fun v H2 e2 n => q v H2 e2 (n.weak (m v))
/-- the value as it stands, with what is known of it -/
theorem ev_pw (h : Ev te σ H v) (k : ∀ H1, Ex H H1 → P v H1) : EvP te σ H P := fun H1 e Q q => h H1 e Q fun H2 e2 => q v H2 e2 (k H2 (e.trans e2))
theorem ev_fld {a C dx : Addr} {fs : List (Str × V)} {f : Str} (h : Ev ta σ H (.ref a)) (ho : H a = some (.ins C dx fs)) (hc : Cls K C) (hn : NoAttr K C f) (hl : fs.lookup f = some v) : Ev (tFld K ta f) σ H v := fun H1 e Q q =>
  h H1 e _ fun H2 e2 => ⟨a, C, dx, fs, v, rfl, (e.trans e2) a _ ho, hc, hn, hl, q H2 e2⟩
theorem ev_is (h : Ev te σ H x) (e : x = y) : Ev te σ H y := e ▸ h
/-- comparisons of ints as values -/
theorem ev_add {i j : Int} (ha : Ev ta σ H (.int i)) (hb : Ev tb σ H (.int j)) : Ev (tOp (rI0 fun i j => .int (i + j)) ta tb) σ H (.int (i + j)) := Evl.ev_op ha hb Evl.rv_I0
theorem ev_i0 {g : Int → Int → V} {i j : Int} (ha : Ev ta σ H (.int i)) (hb : Ev tb σ H (.int j)) : Ev (tOp (rI0 g) ta tb) σ H (g i j) := Evl.ev_op ha hb Evl.rv_I0
theorem ev_iC {C : Int → Int → Prop} {g : Int → Int → V} {i j : Int} (ha : Ev ta σ H (.int i)) (hb : Ev tb σ H (.int j)) (hc : C i j) : Ev (tOp (rI C g) ta tb) σ H (g i j) := Evl.ev_op ha hb (Evl.rv_I hc)
theorem ev_eq {i j : Int} (ha : Ev ta σ H (.int i)) (hb : Ev tb σ H (.int j)) : Ev (tOp rEq ta tb) σ H (.bl (decide (i = j))) := by
  have e : decide (i = j) = decide (V.int i = V.int j) := decide_eq_decide.mpr ⟨fun e => by rw [e], fun e => V.int.inj e⟩
  rw [e]
  exact Evl.ev_op ha hb (Evl.rv_eq rfl)
theorem ev_ne {i j : Int} (ha : Ev ta σ H (.int i)) (hb : Ev tb σ H (.int j)) : Ev (tOp rNe ta tb) σ H (.bl (!decide (i = j))) := by
  have e : decide (i = j) = decide (V.int i = V.int j) := decide_eq_decide.mpr ⟨fun e => by rw [e], fun e => V.int.inj e⟩
  rw [e]
  exact Evl.ev_op ha hb (Evl.rv_ne rfl)
theorem ev_isN (ha : Ev ta σ H x) : Ev (tOp (fun x y H Q => y = .non ∧ Q (.bl (decide (x = .non))) H) ta (tC .non)) σ H (.bl (decide (x = .non))) := fun H1 e Q q => ha H1 e _ fun H2 e2 => ⟨rfl, q H2 e2⟩
theorem ev_notN (ha : Ev ta σ H x) : Ev (tOp (fun x y H Q => y = .non ∧ Q (.bl (!decide (x = .non))) H) ta (tC .non)) σ H (.bl (!decide (x = .non))) := fun H1 e Q q => ha H1 e _ fun H2 e2 => ⟨rfl, q H2 e2⟩
theorem ev_neg {i : Int} (ha : Ev ta σ H (.int i)) : Ev (tUn (rU fun i => .int (-i)) ta) σ H (.int (-i)) := Evl.ev_un ha Evl.ru_neg
theorem ev_ixT {p : Addr} {xs : List V} {i : Int} (ha : Ev ta σ H (.ref p)) (hb : Ev tb σ H (.int i)) (h : SqT K H p xs) (hi : atI xs i = some v) : Ev (tOp (rIxT K) ta tb) σ H v := Evl.ev_op ha hb (Evl.rv_ixT h hi)
theorem ev_ixL {p : Addr} {xs : List V} {i : Int} (ha : Ev ta σ H (.ref p)) (hb : Ev tb σ H (.int i)) (h : SqL K H p xs) (hi : atI xs i = some v) : Ev (tOp (rIxL K) ta tb) σ H v := Evl.ev_op ha hb (Evl.rv_ixL h hi)
theorem ev_len {p : Addr} {xs : List V} (ha : Ev ta σ H (.ref p)) (h : SqL K H p xs ∨ SqT K H p xs) : Ev (tCB (fun xs H Q => ∃ p ys, xs = [.ref p] ∧ (SqL K H p ys ∨ SqT K H p ys) ∧ Q (.int ys.length) H) (tCons ta tNil)) σ H (.int (xs.length : Int)) := fun H1 e Q q =>
  ha H1 e _ fun H2 e2 => ⟨p, xs, rfl, h.elim (fun h => Or.inl (ex_l (e.trans e2) h)) (fun h => Or.inr (ex_t (e.trans e2) h)), q H2 e2⟩
/-- calls -/
theorem ep_call {A : Type} {args : A → List V} {pre : A → Hp → Prop} {post : A → V → Hp → Prop} (ha : EvA tr σ H vs) (i : A) (hv : vs = args i) (hp : ∀ H1, Ex H H1 → pre i H1) : EvP (tCall (SpP args pre post) [] E tr) σ H (post i) := fun H1 e Q q =>
  ha H1 e _ fun H2 e2 => ⟨i, by rw [List.append_nil]; exact hv, hp H2 (e.trans e2), fun v H' e3 hP => q v H' (e2.trans e3) hP⟩
theorem ep_meth {A : Type} {args : A → List V} {pre : A → Hp → Prop} {post : A → V → Hp → Prop} {a C dx : Addr} {fs : List (Str × V)} {m : Str} (ho : Ev to σ H (.ref a)) (hH : H a = some (.ins C dx fs)) (hl : fs.lookup m = none) (ha : EvA tr σ H vs) (i : A) (hv : .ref a :: vs = args i) (hp : ∀ H1, Ex H H1 → pre i H1) :
    EvP (tMeth C m (SpP args pre post) [] E to tr) σ H (post i) := fun H1 e Q q =>
  ho H1 e _ fun H2 e2 => ⟨a, dx, fs, rfl, (e.trans e2) a _ hH, hl, ha H2 (e.trans e2) _ fun H3 e3 => ⟨i, by rw [List.append_nil]; exact hv, hp H3 ((e.trans e2).trans e3), fun v H' e4 hP => q v H' ((e2.trans e3).trans e4) hP⟩⟩
theorem en_call {A : Type} {args : A → List V} {pre : A → Hp → Prop} {post : A → V → Hp → Prop} (ha : EvA tr σ H vs) (i : A) (hv : vs = args i) (hp : ∀ H1, Ex H H1 → pre i H1) : EvN (tCall (SpN args pre post) [] E tr) σ H (post i) := fun H1 e Q q =>
  ha H1 e _ fun H2 e2 => ⟨i, by rw [List.append_nil]; exact hv, hp H2 (e.trans e2), fun v H' e3 hP => q v H' (e2.trans e3) (hP.earlier e2)⟩
theorem en_meth {A : Type} {args : A → List V} {pre : A → Hp → Prop} {post : A → V → Hp → Prop} {a C dx : Addr} {fs : List (Str × V)} {m : Str} (ho : Ev to σ H (.ref a)) (hH : H a = some (.ins C dx fs)) (hl : fs.lookup m = none) (ha : EvA tr σ H vs) (i : A) (hv : .ref a :: vs = args i) (hp : ∀ H1, Ex H H1 → pre i H1) :
    EvN (tMeth C m (SpN args pre post) [] E to tr) σ H (post i) := fun H1 e Q q =>
  ho H1 e _ fun H2 e2 => ⟨a, dx, fs, rfl, (e.trans e2) a _ hH, hl, ha H2 (e.trans e2) _ fun H3 e3 => ⟨i, by rw [List.append_nil]; exact hv, hp H3 ((e.trans e2).trans e3), fun v H' e4 hP => q v H' ((e2.trans e3).trans e4) (hP.earlier (e2.trans e3))⟩⟩
theorem ep_if {b : Bool} (h : EvT t σ H b) (h1 : b = true → EvP ta σ H P) (h2 : b = false → EvP tb σ H P) : EvP (tIf t ta tb) σ H P := fun H1 e Q q => h H1 e _ fun H2 e2 => by
  cases b with
  | true =>
    show ta σ H2 Q
    exact h1 rfl H2 (e.trans e2) Q fun v H3 e3 => q v H3 (e2.trans e3)
  | false =>
    show tb σ H2 Q
    exact h2 rfl H2 (e.trans e2) Q fun v H3 e3 => q v H3 (e2.trans e3)
theorem el_p {xs : List V} (h : EvL te σ H xs) : EvP te σ H (fun v H' => ∃ p, v = .ref p ∧ H' p = some (.lst xs)) := fun H1 e Q q => h H1 e Q fun p H2 _ e2 hp => q _ H2 e2 ⟨p, rfl, hp⟩
theorem eu_p {xs : List V} (h : EvU te σ H xs) : EvP te σ H (fun v H' => ∃ p, v = .ref p ∧ H' p = some (.tup xs)) := fun H1 e Q q => h H1 e Q fun p H2 _ e2 hp => q _ H2 e2 ⟨p, rfl, hp⟩
theorem el_n {xs : List V} (h : EvL te σ H xs) : EvN te σ H (fun v H' => ∃ p, v = .ref p ∧ H' p = some (.lst xs)) := fun H1 e Q q => h H1 e Q fun p H2 hn e2 hp => q _ H2 e2 ((NewAt.obj hp hn).imp fun _ z => ⟨p, rfl, z⟩)
/-- a + b of lists: tracked ones -/
theorem el_cat {xs ys : List V} {p q : Addr} (ha : Ev ta σ H (.ref p)) (hb : Ev tb σ H (.ref q)) (hp : H p = some (.lst xs)) (hq : H q = some (.lst ys)) (hz : xs.length + ys.length ≤ 100000) : EvL (tOp rCat ta tb) σ H (xs ++ ys) := fun H1 e Q k =>
  ha H1 e _ fun H2 e2 => hb H2 (e.trans e2) _ fun H3 e3 => ⟨p, q, xs, ys, rfl, rfl, ((e.trans e2).trans e3) p _ hp, ((e.trans e2).trans e3) q _ hq, Evl.sz_of hz, fun l hl => k l _ (fresh_back (e2.trans e3) hl) ((e2.trans e3).trans (Ex.new hl)) upd_same⟩
theorem el_catLV {xs ys : List V} {q : Addr} (ha : EvL ta σ H xs) (hb : Ev tb σ H (.ref q)) (hq : H q = some (.lst ys)) (hz : xs.length + ys.length ≤ 100000) : EvL (tOp rCat ta tb) σ H (xs ++ ys) := fun H1 e Q k =>
  ha H1 e _ fun p H2 hp0 e2 hp => hb H2 (e.trans e2) _ fun H3 e3 => ⟨p, q, xs, ys, rfl, rfl, e3 p _ hp, ((e.trans e2).trans e3) q _ hq, Evl.sz_of hz, fun l hl => k l _ (fresh_back (e2.trans e3) hl) ((e2.trans e3).trans (Ex.new hl)) upd_same⟩
theorem el_catLL {xs ys : List V} (ha : EvL ta σ H xs) (hb : EvL tb σ H ys) (hz : xs.length + ys.length ≤ 100000) : EvL (tOp rCat ta tb) σ H (xs ++ ys) := fun H1 e Q k =>
  ha H1 e _ fun p H2 hp0 e2 hp => hb H2 (e.trans e2) _ fun q H3 hq0 e3 hq => ⟨p, q, xs, ys, rfl, rfl, e3 p _ hp, hq, Evl.sz_of hz, fun l hl => k l _ (fresh_back (e2.trans e3) hl) ((e2.trans e3).trans (Ex.new hl)) upd_same⟩
theorem el_catVL {xs ys : List V} {p : Addr} (ha : Ev ta σ H (.ref p)) (hp : H p = some (.lst xs)) (hb : EvL tb σ H ys) (hz : xs.length + ys.length ≤ 100000) : EvL (tOp rCat ta tb) σ H (xs ++ ys) := fun H1 e Q k =>
  ha H1 e _ fun H2 e2 => hb H2 (e.trans e2) _ fun q H3 hq0 e3 hq => ⟨p, q, xs, ys, rfl, rfl, ((e.trans e2).trans e3) p _ hp, hq, Evl.sz_of hz, fun l hl => k l _ (fresh_back (e2.trans e3) hl) ((e2.trans e3).trans (Ex.new hl)) upd_same⟩
/-- list(t) -/
theorem el_list {p : Addr} {xs : List V} (ha : Ev ta σ H (.ref p)) (h : SqL K H p xs ∨ SqT K H p xs) : EvL (tCB (fun xs H Q => ∃ p ys, xs = [.ref p] ∧ (SqL K H p ys ∨ SqT K H p ys) ∧ ∀ l, H l = none → Q (.ref l) (upd H l (.lst ys))) (tCons ta tNil)) σ H xs := fun H1 e Q q =>
  ha H1 e _ fun H2 e2 => ⟨p, xs, rfl, h.elim (fun h => Or.inl (ex_l (e.trans e2) h)) (fun h => Or.inr (ex_t (e.trans e2) h)), fun l hl => q l _ (fresh_back e2 hl) (e2.trans (Ex.new hl)) upd_same⟩
/-- tuple(list) -/
theorem eu_tuple {p : Addr} {xs : List V} (ha : Ev ta σ H (.ref p)) (h : SqL K H p xs) : EvU (tCB (fun xs H Q => ∃ p ys, xs = [.ref p] ∧ ((SqL K H p ys ∧ ∀ l, H l = none → Q (.ref l) (upd H l (.tup ys))) ∨ (SqT K H p ys ∧ Q (.ref p) H))) (tCons ta tNil)) σ H xs := fun H1 e Q q =>
  ha H1 e _ fun H2 e2 => ⟨p, xs, rfl, Or.inl ⟨ex_l (e.trans e2) h, fun l hl => q l _ (fresh_back e2 hl) (e2.trans (Ex.new hl)) upd_same⟩⟩
theorem eu_tupleL {xs : List V} (ha : EvL ta σ H xs) : EvU (tCB (fun xs H Q => ∃ p ys, xs = [.ref p] ∧ ((SqL K H p ys ∧ ∀ l, H l = none → Q (.ref l) (upd H l (.tup ys))) ∨ (SqT K H p ys ∧ Q (.ref p) H))) (tCons ta tNil)) σ H xs := fun H1 e Q q =>
  ha H1 e _ fun p H2 hn e2 hp => ⟨p, xs, rfl, Or.inl ⟨SqL.of hp, fun l hl => q l _ (fresh_back e2 hl) (e2.trans (Ex.new hl)) upd_same⟩⟩
/-- built-ins of a new list -/
theorem ev_allL {bs : List Bool} (ha : EvL ta σ H (bs.map V.bl)) : Ev (tCB (rAll K) (tCons ta tNil)) σ H (.bl (bs.all id)) := fun H1 e Q q =>
  ha H1 e _ fun p H2 hn e2 hp => ⟨p, bs, rfl, SqL.of hp, q H2 e2⟩
theorem ev_anyL {bs : List Bool} (ha : EvL ta σ H (bs.map V.bl)) : Ev (tCB (rAny K) (tCons ta tNil)) σ H (.bl (bs.any id)) := fun H1 e Q q =>
  ha H1 e _ fun p H2 hn e2 hp => ⟨p, bs, rfl, SqL.of hp, q H2 e2⟩
theorem ev_sumL {ns : List Int} (ha : EvL ta σ H (ns.map V.int)) : Ev (tCB (rSum K) (tCons ta tNil)) σ H (.int ns.sum) := fun H1 e Q q =>
  ha H1 e _ fun p H2 hn e2 hp => ⟨p, ns, rfl, SqL.of hp, q H2 e2⟩
/-! statements -/
variable {D : Ends} {tu tw tz : TS} {g : TG}
theorem s_retP (h : EvP te σ H P) (k : ∀ v H1, Ex H H1 → P v H1 → D.rt v H1) : tRet te D σ H := h H (Ex.refl H) _ k
theorem s_retN (h : EvN te σ H P) (k : ∀ v H1, Ex H H1 → NewAt H H1 (P v) → D.rt v H1) : tRet te D σ H := h H (Ex.refl H) _ k
theorem q_asgP {i : Nat} (h : EvP te σ H P) (k : ∀ v H1, Ex H H1 → P v H1 → tz D (σ.set i (some v)) H1) : tSeq (tAsg te (gName i)) tz D σ H := h H (Ex.refl H) _ k
theorem q_asgN {i : Nat} (h : EvN te σ H P) (k : ∀ v H1, Ex H H1 → NewAt H H1 (P v) → tz D (σ.set i (some v)) H1) : tSeq (tAsg te (gName i)) tz D σ H := h H (Ex.refl H) _ k
theorem s_asgP {i : Nat} (h : EvP te σ H P) (k : ∀ v H1, Ex H H1 → P v H1 → D.nx (σ.set i (some v)) H1) : tAsg te (gName i) D σ H := h H (Ex.refl H) _ k
theorem q_any {tx : TS} (h : tx { D with nx := tz D } σ H) : tSeq tx tz D σ H := h
/-- x.extend(e), e a list that stands -/
theorem s_ext {l : Addr} {xs ys : List V} (hl : H l = some (.lst xs)) (ha : Ev ta σ H (.ref l)) (h : EvP te σ H (fun v H' => ∃ p, v = .ref p ∧ H' p = some (.lst ys))) (hz : xs.length + ys.length ≤ sizeLine) (k : ∀ H1, Ex H H1 → D.nx σ (upd H1 l (.lst (xs ++ ys)))) :
    tDrop (tBM K "list" rExtend ta (tCons te tNil)) D σ H := ha H (Ex.refl H) _ fun H1 e1 =>
  ⟨Or.inl ⟨rfl, xs, Evl.sq_of (e1 l _ hl)⟩, h H1 e1 _ fun v H2 e2 ⟨p, ev, hp⟩ => by
    subst ev
    exact ⟨l, p, xs, ys, rfl, rfl, e2 l _ (e1 l _ hl), hp, hz, k H2 (e1.trans e2)⟩⟩
theorem et_v {b : Bool} (h : Ev te σ H (.bl b)) : EvT (tTest te) σ H b := Evl.et_test h
theorem et_b {b : Bool} (h : Ev te σ H (.bl b)) : EvT (tB te) σ H b := Evl.et_B h
end

/-! ### for over enumerate, zip -/
section
variable {K : PySem.W.Frag} {σ : L2.St} {H : Hp} {tl tr : TE} {D : Ends} {tu tz : TS} {g : TG}
theorem s_forE {a : Addr} {xs : List V} (h : Ev tl σ H (.ref a)) (hx : SqL K H a xs) (Pv : Nat → L2.St → Hp → Prop) (h0 : ∀ H1, Ex H H1 → Pv 0 σ H1) (hl : ∀ i σ' H', Pv i σ' H' → SqL K H' a xs)
    (hs : ∀ (i : Nat) x T σ' H', xs[i]? = some x → Pv i σ' H' → H' T = none → g (.ref T) σ' (upd H' T (.tup [.int (i : Nat), x])) fun σ2 H2 => tu { D with nx := Pv (i + 1), ct := Pv (i + 1), bk := D.nx } σ2 H2) (hd : ∀ σ' H', Pv xs.length σ' H' → D.nx σ' H') : tFor (iEnum K (tCons tl tNil)) g tu D σ H :=
  h H (Ex.refl H) _ fun H1 e1 => ⟨a, xs, rfl, ex_l e1 hx, fun i m σ H => m = xs.length - i ∧ i ≤ xs.length ∧ Pv i σ H, ⟨xs.length, rfl, Nat.zero_le _, h0 H1 e1⟩, by
    rintro i m σ H ⟨rfl, hi, p⟩
    have q := hl i σ H p
    by_cases hlt : i < xs.length
    · refine .inr ⟨⟨xs, xs[i], q, by simp [hlt]⟩, Pv (i + 1), fun σ' H' p' => ⟨xs.length - (i + 1), by omega, rfl, hlt, p'⟩, fun v H' y => ?_⟩
      obtain ⟨T, x, ev, hT, eH, y⟩ := y
      subst ev eH
      exact hs i x T σ H (y xs q) p hT
    · have e : i = xs.length := by omega
      subst e
      exact .inl ⟨⟨xs, q, Nat.le_refl _⟩, hd σ H p⟩⟩
theorem q_forE {a : Addr} {xs : List V} (h : Ev tl σ H (.ref a)) (hx : SqL K H a xs) (Pv : Nat → L2.St → Hp → Prop) (h0 : ∀ H1, Ex H H1 → Pv 0 σ H1) (hl : ∀ i σ' H', Pv i σ' H' → SqL K H' a xs)
    (hs : ∀ (i : Nat) x T σ' H', xs[i]? = some x → Pv i σ' H' → H' T = none → g (.ref T) σ' (upd H' T (.tup [.int (i : Nat), x])) fun σ2 H2 => tu { D with nx := Pv (i + 1), ct := Pv (i + 1), bk := tz D } σ2 H2) (hd : ∀ σ' H', Pv xs.length σ' H' → tz D σ' H') : tSeq (tFor (iEnum K (tCons tl tNil)) g tu) tz D σ H :=
  s_forE (D := { D with nx := tz D }) h hx Pv h0 hl hs hd
/-- over zip of two lists of one length, told at the heap where both stand -/
theorem s_forZ {xs ys : List V} {P : List V → List V → Hp → Prop} (h : ∀ Q : List V → Hp → Prop, (∀ a b H1, SqL K H1 a xs → SqL K H1 b ys → P [.ref a] [.ref b] H1 → Q [.ref a, .ref b] H1) → tCons tl (tCons tr tNil) σ H Q) (hlen : xs.length = ys.length) (Pv : Addr → Addr → Nat → L2.St → Hp → Prop)
    (h0 : ∀ a b H1, SqL K H1 a xs → SqL K H1 b ys → P [.ref a] [.ref b] H1 → Pv a b 0 σ H1) (hq : ∀ a b i σ' H', Pv a b i σ' H' → SqL K H' a xs ∧ SqL K H' b ys)
    (hs : ∀ a b (i : Nat) (x y : V) (T : Addr) (σ' : L2.St) (H' : Hp), xs[i]? = some x → ys[i]? = some y → Pv a b i σ' H' → H' T = none → g (.ref T) σ' (upd H' T (.tup [x, y])) fun σ2 H2 => tu { D with nx := Pv a b (i + 1), ct := Pv a b (i + 1), bk := D.nx } σ2 H2)
    (hd : ∀ a b σ' H', Pv a b xs.length σ' H' → D.nx σ' H') : tFor (iZip K (tCons tl (tCons tr tNil))) g tu D σ H := by
  unfold tFor iZip
  refine h _ fun a b H1 h1 h2 p => ?_
  exact ⟨a, b, xs, ys, rfl, h1, h2, RZ.for_zipL hlen (Pv a b) (h0 a b H1 h1 h2 p) (hq a b) (hs a b) (hd a b)⟩
theorem q_forZ {xs ys : List V} {P : List V → List V → Hp → Prop} (h : ∀ Q : List V → Hp → Prop, (∀ a b H1, SqL K H1 a xs → SqL K H1 b ys → P [.ref a] [.ref b] H1 → Q [.ref a, .ref b] H1) → tCons tl (tCons tr tNil) σ H Q) (hlen : xs.length = ys.length) (Pv : Addr → Addr → Nat → L2.St → Hp → Prop)
    (h0 : ∀ a b H1, SqL K H1 a xs → SqL K H1 b ys → P [.ref a] [.ref b] H1 → Pv a b 0 σ H1) (hq : ∀ a b i σ' H', Pv a b i σ' H' → SqL K H' a xs ∧ SqL K H' b ys)
    (hs : ∀ a b (i : Nat) (x y : V) (T : Addr) (σ' : L2.St) (H' : Hp), xs[i]? = some x → ys[i]? = some y → Pv a b i σ' H' → H' T = none → g (.ref T) σ' (upd H' T (.tup [x, y])) fun σ2 H2 => tu { D with nx := Pv a b (i + 1), ct := Pv a b (i + 1), bk := tz D } σ2 H2)
    (hd : ∀ a b σ' H', Pv a b xs.length σ' H' → tz D σ' H') : tSeq (tFor (iZip K (tCons tl (tCons tr tNil))) g tu) tz D σ H :=
  s_forZ (D := { D with nx := tz D }) h hlen Pv h0 hq hs hd
end

/-! ### comprehensions -/
theorem Paired.imp2 {α β : Type} {F G : α → β → Prop} : ∀ {l₁ : List α} {l₂ : List β}, Paired F l₁ l₂ → (∀ a b, F a b → G a b) → Paired G l₁ l₂
  | _, _, .nil, _ => .nil
  | _, _, .cons r t, f => .cons (f _ _ r) (Paired.imp2 t f)
theorem paired_get {α β : Type} {F : α → β → Prop} : ∀ {l₁ : List α} {l₂ : List β} {i : Nat} {a : α}, Paired F l₁ l₂ → l₁[i]? = some a → ∃ b, l₂[i]? = some b ∧ F a b
  | _, _, i, _, .nil, e => by simp at e
  | _, _, 0, _, .cons r _, e => by simp at e; subst e; exact ⟨_, rfl, r⟩
  | _, _, i + 1, _, .cons _ t, e => by
    obtain ⟨b, h1, h2⟩ := paired_get (i := i) t (by simpa using e)
    exact ⟨b, by simpa using h1, h2⟩
theorem paired_get2 {α β : Type} {F : α → β → Prop} : ∀ {l₁ : List α} {l₂ : List β} {i : Nat} {b : β}, Paired F l₁ l₂ → l₂[i]? = some b → ∃ a, l₁[i]? = some a ∧ F a b
  | _, _, i, _, .nil, e => by simp at e
  | _, _, 0, _, .cons r _, e => by simp at e; subst e; exact ⟨_, rfl, r⟩
  | _, _, i + 1, _, .cons _ t, e => by
    obtain ⟨b, h1, h2⟩ := paired_get2 (i := i) t (by simpa using e)
    exact ⟨b, by simpa using h1, h2⟩
theorem paired_app {α β : Type} {F : α → β → Prop} : ∀ {a b : List α} {c d : List β}, Paired F a c → Paired F b d → Paired F (a ++ b) (c ++ d)
  | _, _, _, _, .nil, s => s
  | _, _, _, _, .cons r t, s => .cons r (paired_app t s)
theorem paired_take {α β : Type} {F : α → β → Prop} : ∀ {a : List α} {c : List β} (n : Nat), Paired F a c → Paired F (a.take n) (c.take n)
  | _, _, 0, _ => .nil
  | _, _, _ + 1, .nil => .nil
  | _, _, n + 1, .cons r t => .cons r (paired_take n t)
theorem take_snoc {α : Type} {l : List α} {i : Nat} {x : α} (h : l[i]? = some x) : l.take (i + 1) = l.take i ++ [x] := by
  rw [List.take_add_one, h]
  rfl
section
variable {K : PySem.W.Frag} {σ : L2.St} {H : Hp} {tl te : TE} {j : Nat} {vs : List Nat}
/-- over a list of things that stand for the data l: each turn a value -/
theorem el_lcV {α : Type} {a : Addr} {xs : List V} {l : List α} {F : V → α → Prop} (g : α → V) (h : Ev tl σ H (.ref a)) (hx : SqL K H a xs) (hp : Paired F xs l) (hz : xs.length ≤ 40000) (hw : ∀ x, wipe ((wipe σ vs).set j (some x)) vs = wipe σ vs)
    (he : ∀ x d, d ∈ l → F x d → Ev te ((wipe σ vs).set j (some x)) H (g d)) : EvL (tLc (iList K tl) (gName j) tYes te vs) σ H (l.map g) := fun H0 e Q q => h H0 e _ fun H1 e1 => ⟨a, rfl, ⟨xs, ex_l (e.trans e1) hx⟩, fun Dl hD =>
  lc_list (xs := xs) (fun i H' => Ex H1 H' ∧ H' Dl = some (.lst ((l.take i).map g))) ⟨Ex.new hD, upd_same⟩ (fun i H' _ p => ex_l ((e.trans e1).trans p.1) hx)
    (fun i x H' hi ⟨p1, p2⟩ => by
      obtain ⟨d, hd, hf⟩ := paired_get hp hi
      refine ⟨hw x, ?_⟩
      show te ((wipe σ vs).set j (some x)) H' _
      refine he x d (List.mem_of_getElem? hd) hf H' ((e.trans e1).trans p1) _ fun H4 e4 => ⟨(l.take i).map g, e4 Dl _ p2, Evl.sz_lt ?_, (p1.trans e4).mut hD, ?_⟩
      · rw [List.length_map, List.length_take]
        have := (List.getElem?_eq_some_iff.mp hi).1
        omega
      · rw [upd_same, take_snoc hd, List.map_append]
        rfl)
    (fun H' ⟨p1, p2⟩ => q Dl H' (fresh_back e1 hD) (e1.trans p1) (by
      have hl := hp.length
      rw [p2, List.take_of_length_le (by omega)]))⟩
/-- over a tuple -/
theorem el_lcT {α : Type} {a : Addr} {xs : List V} {l : List α} {F : V → α → Prop} (g : α → V) (h : Ev tl σ H (.ref a)) (hx : SqT K H a xs) (hp : Paired F xs l) (hz : xs.length ≤ 40000) (hw : ∀ x, wipe ((wipe σ vs).set j (some x)) vs = wipe σ vs)
    (he : ∀ x d, d ∈ l → F x d → Ev te ((wipe σ vs).set j (some x)) H (g d)) : EvL (tLc (iTup K tl) (gName j) tYes te vs) σ H (l.map g) := fun H0 e Q q => h H0 e _ fun H1 e1 => ⟨a, rfl, ⟨xs, ex_t (e.trans e1) hx⟩, fun Dl hD =>
  lc_tup (xs := xs) (fun i H' => Ex H1 H' ∧ H' Dl = some (.lst ((l.take i).map g))) ⟨Ex.new hD, upd_same⟩ (fun i H' _ p => ex_t ((e.trans e1).trans p.1) hx)
    (fun i x H' hi ⟨p1, p2⟩ => by
      obtain ⟨d, hd, hf⟩ := paired_get hp hi
      refine ⟨hw x, ?_⟩
      show te ((wipe σ vs).set j (some x)) H' _
      refine he x d (List.mem_of_getElem? hd) hf H' ((e.trans e1).trans p1) _ fun H4 e4 => ⟨(l.take i).map g, e4 Dl _ p2, Evl.sz_lt ?_, (p1.trans e4).mut hD, ?_⟩
      · rw [List.length_map, List.length_take]
        have := (List.getElem?_eq_some_iff.mp hi).1
        omega
      · rw [upd_same, take_snoc hd, List.map_append]
        rfl)
    (fun H' ⟨p1, p2⟩ => q Dl H' (fresh_back e1 hD) (e1.trans p1) (by
      have hl := hp.length
      rw [p2, List.take_of_length_le (by omega)]))⟩
end
end LW

set_option maxRecDepth 100000
set_option maxHeartbeats 4000000
/-! Part W2: rules that the layer lacks: (t,) * 1, xs != [] of any list, what no exception leaves. -/
namespace LW
open PySem PySem.Spec PyProof.Rows L2
open Evl (Ex Ev EvT EvL EvU EvA EvO fresh_back ex_l ex_t)
theorem passLN {X : Cx} : Passes (L2N.CX X.prog X.w) X E0 := fun _ _ _ _ _ _ _ h => by
  obtain ⟨_, _, _, _, _, _, _, _, _, _, _, _, z⟩ := h
  exact z.elim
/-! ### a tuple times 1 is that tuple -/
theorem tuple_mul1 (l : Addr) (items : Array Value) (n : Nat) (dd : Option Addr) (sl : Array (Option Value)) (u : Tok) :
    Meets (Builtin.«tuple.__mul__» ⟨[.ref l, .int 1 u], []⟩) (fun _ R s => s.heap.get? l = some { cls := .type "tuple", dict := dd, data := .seq items n, slots := sl } ∧
      R (.ok (.ret (Value.ref l))) s) :=
  .of_wp fun prog w A R s h => by
    obtain ⟨hp, g, d, tk, os⟩ := s
    obtain ⟨hl, h⟩ := h
    have f1 := AutoSeq1.idx_int
    wp_walk using wpAny_loadPart' hl
    exact ⟨_, rfl, h⟩
def rRepX (K : PySem.W.Frag) : R2 := fun x y H Q => ∃ l k xs, x = .ref l ∧ y = .int k ∧ SqT K H l xs ∧ xs ≠ [] ∧ 1 ≤ k ∧ k ≤ 1000 ∧ xs.length ≤ 1000 ∧ (k = 1 → Q (.ref l) H) ∧ (2 ≤ k → ∀ p, H p = none → Q (.ref p) (upd H p (.tup (List.replicate k.toNat xs).flatten)))
section
variable {X : Cx}
theorem op_repX : OpR X (binaryOp .Mult) (rRepX X.K) := by
  intro pins s σ H x y v u Q I rx ry h
  obtain ⟨l, k, xs, ex, ey, hT, hne, h1, h2, hz, q1, q2⟩ := h
  by_cases c : k = 1
  · subst c
    subst ex
    subst ey
    cases rx
    obtain ⟨t, rfl⟩ := ry
    obtain ⟨its, r, ⟨⟨cls, dd, data, sl⟩, ho, hc, n, hd⟩, hs⟩ := I.tuple hT
    simp only at hc hd
    subst hc hd
    refine wpAny_binaryOp_repeat_ref (T := "tuple") (U := "int") (by decide) ⟨_, ho, rfl⟩ (fun s' => typeIs_int s' 1 t) noFill_tuple_mul F.fills_int_mul F.slot_int_rmul repeat_tuple F.slot_int_index.lookup
      (call_meets F.slot_int_rmul (typeIs_int s 1 t) F.entry_int_rmul (F.args_int_rmul_2 _ _) (int_rmul_tuple 1 t l its.toArray n dd sl)
        ⟨ho, rfl, ⟨_, ho, rfl⟩, call_meets F.slot_tuple_mul ⟨_, ho, rfl⟩ F.entry_tuple_mul (F.args_tuple_mul_2 _ _) (tuple_mul1 l its.toArray n dd sl t) ⟨ho, ?_⟩⟩)
    exact ⟨.ref l, H, I, rfl, q1 rfl⟩
  · exact op_repT pins s σ H x y v u Q I rx ry ⟨l, k, xs, ex, ey, hT, hne, by omega, h2, hz, q2 (by omega)⟩
/-! ### xs != [] -/
theorem list_ne_lengthsAt (l b : Addr) (items items2 : Array Value) (n n2 : Nat) (dd dd2 : Option Addr) (sl sl2 : Array (Option Value)) (hc0 : (items.size != items2.size) = true) :
    Meets (Builtin.«list.__ne__» ⟨[.ref l, .ref b], []⟩)
      (fun _ R s => s.heap.get? l = some { cls := .type "list", dict := dd, data := .seq items n, slots := sl } ∧ s.heap.get? b = some { cls := .type "list", dict := dd2, data := .seq items2 n2, slots := sl2 } ∧
        R (.ok (.ret (.bool true))) s) :=
  .of_wp fun prog w A R s h => by
    obtain ⟨hp, g, d, tk, os⟩ := s; obtain ⟨hl, hb, h⟩ := h
    have f3 := AutoSeq1.sub_list_list
    wp_walk using wpAny_loadPart' hl, wpAny_loadPart' hb
    exact ⟨_, rfl, h⟩
def rNeE (K : PySem.W.Frag) : R2 := fun x y H Q => ∃ l b xs, x = .ref l ∧ y = .ref b ∧ SqL K H l xs ∧ SqL K H b [] ∧ Q (.bl (!xs.isEmpty)) H
theorem op_neE (hu : X.A.units + 64 < cLine) : OpR X (compareOp .NotEq) (rNeE X.K) := by
  intro pins s σ H x y v u Q I rx ry h
  obtain ⟨l, b, xs, ex, ey, hx, hy, q⟩ := h
  cases xs with
  | nil =>
    exact op_neD hu pins s σ H x y v u Q I rx ry ⟨.list [], .list [], by rw [ex]; exact .lst hx .nil, by rw [ey]; exact .lst hy .nil, rfl, rfl, q⟩
  | cons a r =>
    subst ex
    subst ey
    cases rx
    cases ry
    obtain ⟨its, rv, ⟨⟨cls, dd, data, sl⟩, n, ho, hc, hdn, hd⟩, _⟩ := I.list hx
    obtain ⟨its2, rv2, ⟨⟨cls2, dd2, data2, sl2⟩, n2, ho2, hc2, hdn2, hd2⟩, _⟩ := I.list hy
    simp only at hc hd hc2 hd2 hdn hdn2
    subst hc hd hc2 hd2 hdn hdn2
    have l1 := rv.length
    have l2 := rv2.length
    have hsz : (its.toArray.size != its2.toArray.size) = true := by
      rw [bne_iff_ne, List.size_toArray, List.size_toArray, ← l1, ← l2]
      simp
    refine richCompare_meets_room (op := .NotEq) ⟨_, ho, rfl⟩ ⟨_, ho2, rfl⟩ F.slot_list_ne F.entry_list_ne (F.args_list_ne_2 _ _) (list_ne_lengthsAt l b its.toArray its2.toArray n n2 none none sl sl2 hsz) ⟨ho, ho2, ?_⟩ (by omega)
    refine ⟨(fun x => nomatch x), ?_⟩
    exact ⟨.bl true, H, I, rfl, q⟩
end
end LW

set_option maxRecDepth 100000
set_option maxHeartbeats 4000000
/-! Part W2b: try .. except X as n: a suite that raises out of the try, from n. -/
namespace LW
open PySem PySem.Spec PyProof.Rows L2 HotX L2H
/-- the context of an except suite, with a wish of its own -/
abbrev suiteXe (X : Cx) (a : Addr) (pn : List (Addr × Obj)) (xe : Value → Shared → Prop) : Cx := { X with A := X.A.mark (some (.ref a)), calm := false, pn := pn, xe := xe }
section
variable {X : Cx} {pins : List (Addr × Obj)} {σ : L2.St} {H : Hp} {s : Shared}
theorem suiteXe_of {a : Addr} {pn pn' : List (Addr × Obj)} {xe : Value → Shared → Prop} (I : Inv (X.suite a pn) pn' σ H s) : Inv (suiteXe X a pn xe) pn' σ H s := Inv.unwish (X := suiteXe X a pn xe) (E := fun _ _ => False) I
theorem unsuiteXe {a : Addr} {q : Addr × Obj} {pn' : List (Addr × Obj)} {xe : Value → Shared → Prop} (I : Inv (suiteXe X a (q :: (X.pn ++ pins)) xe) pn' σ H s) (ok : X.Ok) : Inv X pins σ H s :=
  Inv.unsuite (X := X) (a := a) (q := q) (pn' := pn') (show Inv (X.suite a (q :: (X.pn ++ pins))) pn' σ H s from I.wish fun _ _ => False) ok
theorem cellAt {h h' : Heap} {c : Addr} {v : Option Value} (e : h'.get? c = h.get? c) (z : h.IsCell c v) : h'.IsCell c v := by
  unfold Heap.IsCell at z ⊢
  rw [e]
  exact z
/-- the name of an except clause goes: the invariant behind it -/
theorem gone_inv {i : Nat} {n : Str} {h' : Heap} {v : Option Value} {m : Str → Option Value} {tk : Nat} (I : Inv X pins σ H s) (hN : X.N.Nodup) (hi : X.N[i]? = some n) (hl : X.env.kindOf n = some .local)
    (hlk : ∀ (i : Nat) (x : Str) (v : V), X.N[i]? = some x → σ[i]? = some (some v) → Vis X.env.scope x → ∃ u, RelV v u ∧ Look X.env s.heap m x u)
    (hn' : h'.Ns X.env.locals (fun x => if x = n then v else m x)) (hs2 : ∀ b, b ≠ X.env.locals → h'.get? b = s.heap.get? b) : Inv X pins (σ.set i none) H { s with heap := h', toks := tk } := by
  have neL : ∀ b o, X.s_0.heap.get? b = some o → b ≠ X.env.locals := fun b o e => Nat.ne_of_lt (Nat.lt_of_lt_of_le (Heap.lt_size e) I.ok.above)
  refine ⟨I.ok, I.os, I.bare, ⟨fun b o e n hb hx => ?_, fun b o e n hb hx => ?_, I.base.free, fun b o e hx => ?_, I.base.tups, I.base.frzs, I.base.tbls⟩, ⟨_, hn', fun j y v' e1 e2 e3 => ?_⟩, fun y c e => ?_, I.free, I.freeC, fun p hp => ?_, fun b ob e => ?_, by simpa using I.len⟩
  · exact (hs2 b (neL b o e)).trans (I.base.keep b o e n hb hx)
  · obtain ⟨sl, e1⟩ := I.base.slot b o e n hb hx
    exact ⟨sl, (hs2 b (neL b o e)).trans e1⟩
  · obtain ⟨o', e1⟩ := I.base.there b o e hx
    exact ⟨o', (hs2 b (neL b o e)).trans e1⟩
  · by_cases hj : j = i
    · subst hj
      by_cases hlt : j < σ.length
      · rw [List.getElem?_set_self hlt] at e2; cases e2
      · rw [List.getElem?_eq_none (by simpa using hlt)] at e2; cases e2
    · rw [List.getElem?_set_ne (Ne.symm hj)] at e2
      obtain ⟨u', r', q⟩ := hlk j y v' e1 e2 e3
      refine ⟨u', r', ?_⟩
      rcases q with ⟨k, e⟩ | ⟨k, c, e, z⟩
      · have ny : y ≠ n := fun e => hj (nodup_ix hN e1 (e ▸ hi))
        exact .inl ⟨k, (if_neg ny).trans e⟩
      · exact .inr ⟨k, c, e, cellAt (hs2 c (I.cne y c e)) z⟩
  · obtain ⟨w', z⟩ := I.cell y c e
    exact ⟨w', cellAt (hs2 c (I.cne y c e)) z⟩
  · obtain ⟨e, n, ne, nf, d⟩ := I.pin p hp
    exact ⟨(hs2 p.1 ne).trans e, n, ne, nf, d⟩
  · refine (I.hok b ob e).stay (fun c w' hc q => (hs2 c ?_).trans q) (fun _ q => q) fun _ _ q => q
    intro z
    subst z
    rcases hc with hc | hc
    · rw [← hc, I.free] at e; cases e
    · rw [I.free] at hc; cases hc
theorem frames_of {h h' base : Heap} (k : ∀ b o, h.get? b = some o → (∀ vs, o.data ≠ .fields vs) → ∃ o', h'.get? b = some o' ∧ ∀ vs, o'.data ≠ .fields vs) : ∀ {l : List Env}, h.FunFrames base l → h'.FunFrames base l
  | [], _ => trivial
  | env :: rest, hl => by
    obtain ⟨hk, ⟨L, o, hf, hn, ho, hd⟩, hr⟩ := hl
    obtain ⟨o', ho', hd'⟩ := k L o ho hd
    exact ⟨hk, ⟨L, o', hf, hn, ho', hd'⟩, frames_of k hr⟩
/-- an exception of the suite: noted by the frame -/
theorem sky_held {M : Model} {A : Around} {E₁ : Value → Shared → Prop} {env : Env} {outer : List Env} {L a : Addr} {Z : Obj → Prop} {B : Heap} {s : Shared} {Q : Unit → Shared → Prop} (hZ : HandSPX.Steady Z) (hfr : A.frames = some (env :: outer)) (hf : env.frame = some L)
    (x : L2.Sky B (env :: outer) a Z L s.heap) (hQ : ∀ h', HandSPX.HeldZ B (env :: outer) a Z L h' → s.heap.UpToSlots h' → Q () { s with heap := h' }) : wpAny M A (noteFrame (.ref a) env) Q E₁ s := by
  rcases x with ⟨hB, hn, hl, oe, vs, he, hz, hd, h1⟩ | fl | hh
  · exact HandSPX.look_newZ hZ hfr hl hf he hB hn hd h1 hz hQ
  · exact HandSPX.looks_onZ hZ hfr hf fl hQ
  · exact HandSPX.againZ hf hh.2.2.2 (hQ s.heap hh (Heap.UpToSlots.refl _))
/-- an exception in the air of the suite passes on: noted, the name goes, it flies on -/
theorem goes_on {i : Nat} {n : Str} {W : WX} {pos' : Pos} {a₀ : Addr} {R : Value → Shared → Prop} {E₂ : Value → Shared → Prop} {u : Value} {pins : List (Addr × Obj)} {q : Addr × Obj} {xe : Value → Shared → Prop}
    (hs : X.stack = X.env :: X.outer) (hf : X.env.frame = some X.env.locals) (hN : X.N.Nodup) (hi : X.N[i]? = some n) (hln : X.env.kindOf n = some .local) (ok : X.Ok)
    (tk : L2.Takes X W) (hR : ∀ e s', X.xe e s' → R e s')
    (x : L2.XE (suiteXe X a₀ (q :: (X.pn ++ pins)) xe) (fun c d σ H => W c d (σ.set i none) H) u s) :
    wpAny (model X.prog X.w) (X.A.mark (some (.ref a₀))) (noteFrame u X.env) (fun _ s3 => wpAny (model X.prog X.w) (X.A.mark (some (.ref a₀))) (do bindName X.env n .none; unbindBehindTheSuite X.env n pos')
      (fun _ s4 => wpAny (model X.prog X.w) (X.A.mark (some (.ref a₀))) (passOn "try.except-as" u X.env : Sem Flow) (fun _ _ => False) R s4) E₂ s3) R s := by
  obtain ⟨a, B, sI, pn2, σ', H', cls, d, rfl, I2, nb, up, sky, na, os, ag, w⟩ := x
  have I : Inv X pins σ' H' sI := unsuiteXe I2 ok
  have hfr : (X.A.mark (some (.ref a₀))).frames = some (X.env :: X.outer) := by
    show X.A.frames = _
    rw [ok.frames, hs]
  have sky' : L2.Sky B (X.env :: X.outer) a (Zc cls d) X.env.locals s.heap := by rw [← hs]; exact sky
  refine sky_held Zc.steady hfr hf sky' fun h6 hh6 up6 => ?_
  have J6 : Inv X pins σ' H' { s with heap := h6 } := I.landed nb hh6.1 (up.trans up6) os ag
  -- the state without the exception
  obtain ⟨G6, g1, g2⟩ := restrict h6 fun b => (B.get? b).isSome || decide (b ∈ frs X.stack)
  have gB : ∀ b o, B.get? b = some o → G6.get? b = some o := fun b o e => by
    rw [g1 b (by simp [e])]
    exact hh6.1 b o e
  have gF : ∀ b, b ∈ frs X.stack → G6.get? b = h6.get? b := fun b hb => g1 b (by simp [hb])
  have og : ∀ b o, G6.get? b = some o → h6.get? b = some o ∧ ((B.get? b).isSome = true ∨ b ∈ frs X.stack) := fun b o e => by
    cases z : ((B.get? b).isSome || decide (b ∈ frs X.stack)) with
    | false => rw [g2 b z] at e; cases e
    | true =>
      rw [g1 b z] at e
      exact ⟨e, by simpa [Bool.or_eq_true] using z⟩
  have ug : sI.heap.UpToSlots G6 := fun b o e hnf => by
    by_cases hb : b ∈ frs X.stack
    · obtain ⟨sl, z⟩ := (up.trans up6) b o e hnf
      exact ⟨sl, by rw [gF b hb]; exact z⟩
    · exact ⟨o.slots, gB b o (nb b o e hb)⟩
  have IG : Inv X pins σ' H' { s with heap := G6 } := I.landed (s' := { s with heap := G6 }) nb (fun b o e => gB b o e) ug os ag
  have hL : X.env.locals ∈ frs X.stack := List.mem_filterMap.mpr ⟨X.env, by rw [hs]; exact List.mem_cons_self, hf⟩
  obtain ⟨m, hnG, hlk⟩ := id IG.loc
  have hn6 : h6.Ns X.env.locals m := by
    obtain ⟨o, es, ep, ho, r⟩ := hnG
    exact ⟨o, es, ep, (gF _ hL).symm.trans ho, r⟩
  have hcls : (X.env.scope.kind == .class || (X.env.scope.kind == .module && X.env.locals != X.env.globals)) = false := by rw [I.ok.kind]; rfl
  refine wpAny_nameGoes_keeps (s := { s with heap := h6 }) hln hn6 hcls fun h7 v hn7 hs7 => ?_
  -- the exception stands as it was
  obtain ⟨b1, b2, b3, oe, vs, T, oT, ts, he, hz, hd, h1, hnT, hTe, hT, hdT, h3⟩ := id hh6
  have ffL := (show h6.FunFrames B (X.env :: X.outer) from b3)
  have memL : X.env.locals ∈ frs (X.env :: X.outer) := by rw [← hs]; exact hL
  obtain ⟨nBL, oL, eL, nfL⟩ := ffL.mem memL
  have neL : ∀ {b : Addr} {o : Obj} {vs : Array Value}, h6.get? b = some o → o.data = .fields vs → b ≠ X.env.locals := fun {b o vs} e dd z => by
    rw [z, eL] at e
    cases e
    exact nfL _ dd
  have at7 : ∀ b, b ≠ X.env.locals → h7.get? b = h6.get? b := hs7.2
  have he7 : h7.get? a = some oe := (at7 a (neL he hd)).trans he
  have hT7 : h7.get? T = some oT := (at7 T (neL hT hdT)).trans hT
  have st7 : B.StaysIn h7 := fun b o e => (at7 b fun z => by rw [z, nBL] at e; cases e).trans (b1 b o e)
  have ff7 : h7.FunFrames B (X.env :: X.outer) := by
    refine frames_of (fun b o e hnf => ?_) ffL
    by_cases hb : b = X.env.locals
    · obtain ⟨o7, es7, ep7, ho7, hd7, _⟩ := id hn7
      exact ⟨o7, by rw [hb]; exact ho7, fun vs z => by rw [hd7] at z; cases z⟩
    · exact ⟨o, (at7 b hb).trans e, hnf⟩
  -- the state without it, behind
  obtain ⟨G7, k1, k2⟩ := restrict h7 fun b => (B.get? b).isSome || decide (b ∈ frs X.stack)
  have kB : ∀ b o, B.get? b = some o → G7.get? b = some o := fun b o e => by
    rw [k1 b (by simp [e])]
    exact st7 b o e
  have kF : ∀ b, b ∈ frs X.stack → G7.get? b = h7.get? b := fun b hb => k1 b (by simp [hb])
  have ok7 : ∀ b o, G7.get? b = some o → h7.get? b = some o ∧ ((B.get? b).isSome = true ∨ b ∈ frs X.stack) := fun b o e => by
    cases z : ((B.get? b).isSome || decide (b ∈ frs X.stack)) with
    | false => rw [k2 b z] at e; cases e
    | true =>
      rw [k1 b z] at e
      exact ⟨e, by simpa [Bool.or_eq_true] using z⟩
  have g67 : ∀ b, b ≠ X.env.locals → G7.get? b = G6.get? b := fun b hb => by
    cases z : ((B.get? b).isSome || decide (b ∈ frs X.stack)) with
    | false => rw [k2 b z, g2 b z]
    | true => rw [k1 b z, g1 b z, at7 b hb]
  have hnG7 : G7.Ns X.env.locals (fun x => if x = n then v else m x) := by
    obtain ⟨o, es, ep, ho, r⟩ := hn7
    exact ⟨o, es, ep, (kF _ hL).trans ho, r⟩
  have I7 : Inv X pins (σ'.set i none) H' { s with heap := G7, toks := s.toks + 1 } := gone_inv (s := { s with heap := G6 }) (tk := s.toks + 1) IG hN hi hln hlk hnG7 g67
  -- it passes on
  unfold PySem.passOn
  refine wpAny_bind (wpAny_field (s := { s with heap := h7, toks := s.toks + 1 }) he7 hd h1 ?_)
  rw [if_neg (show ¬ ((Value.ref T == Value.none) = true) from by simp)]
  have tz : HandSPX.TracedZ h7 B a (Zc cls d) (rawInt X.env.locals) := ⟨oe, vs, T, oT, ts, he7, hz, hd, h1, hnT, hTe, hT7, hdT, h3⟩
  have fin : wpAny (model X.prog X.w) (X.A.mark (some (.ref a₀))) (setFlight (.ref a) X.env.frame) (fun _ s4 => wpAny (model X.prog X.w) (X.A.mark (some (.ref a₀))) (throw (.ref a) : Sem Flow) (fun _ _ => False) R s4) R { s with heap := h7, toks := s.toks + 1 } := by
    rw [hf]
    refine HandSPX.setFlight_anyZ (s := { s with heap := h7, toks := s.toks + 1 }) st7 ff7 tz fun h8 e1 e2 e3 up8 => wpAny_throw (hR _ _ (tk _ _ ?_))
    refine ⟨a, B, { s with heap := G7, toks := s.toks + 1 }, pins, σ'.set i none, H', cls, d, rfl, I7, fun b o e hb => ?_, ?_, .inr (.inr (by rw [hs]; exact ⟨e1, b2, e2, e3⟩)), na, rfl, ag, w⟩
    · obtain ⟨e', hh⟩ := ok7 b o e
      rcases hh with hh | hh
      · obtain ⟨o', z⟩ := Option.isSome_iff_exists.mp hh
        have zz := st7 b o' z
        rw [e'] at zz; cases zz
        exact z
      · exact absurd hh hb
    · exact Heap.UpToSlots.trans (Heap.UpToSlots.of_keeps (h' := h7) fun b o e => (ok7 b o e).1) up8
  first
    | exact wpAny_bind (wpAny_pure (wpAny_bind fin))
    | exact wpAny_bind fin
end
end LW

set_option maxRecDepth 100000
set_option maxHeartbeats 4000000
/-! Part W2c: the rules themselves: the try, raise .. from n. -/
namespace LW
open PySem PySem.Spec PyProof.Rows L2 HotX L2H
section
variable {X : Cx} {x n : Str} {c : Value} {i : Nat} {body suite : List Stmt} {b₀ : Stmt} {np pos pos' : Pos} {tb : WX → TS} {ts : Addr → Value → Option Addr → TS} {Wout : WX}
theorem ps_try_asX (hs : X.stack = X.env :: X.outer) (hf : X.env.frame = some X.env.locals) (hN : X.N.Nodup) (hi : X.N[i]? = some n) (hln : X.env.kindOf n = some .local) (hc : Names X x c) (hpa : ∀ hd : Option Value, PassesOwnAt (model X.prog X.w) (X.A.mark hd) X.A X.env X.xe) (tk : L2.Takes X Wout)
    (hb : ∀ (W : WX) (pn : List (Addr × Obj)) (xe : Value → Shared → Prop), L2N.Takes (X.tr pn xe) W → PassesOwn (model X.prog X.w) X.A X.env xe → PSs (X.tr pn xe) body (tb W))
    (hsu : ∀ (a : Addr) (oe : Obj) (cls : Value) (d : Option Addr) (pn : List (Addr × Obj)) (xe : Value → Shared → Prop), L2N.Zn cls d oe → (∃ vs, oe.data = .fields vs) → L2.Takes (suiteXe X a ((a, oe) :: pn) xe) (fun c d σ H => Wout c d (σ.set i none) H) → HotC (suiteXe X a ((a, oe) :: pn) xe) →
      PSs (suiteXe X a ((a, oe) :: pn) xe) (b₀ :: suite) (ts a cls d)) :
    PS X (.Try body [.ExceptHandler (some (.Name x np)) (some n) (b₀ :: suite) pos'] [] [] pos) (fun D σ H => tb (wAs X.K c i ts Wout D) D σ H) := by
  refine ⟨fun pins s σ H D I h => ?_⟩
  have ok := I.ok
  have hfr : X.A.frames = some (X.env :: X.outer) := by rw [ok.frames, hs]
  have hloc : Loc X.env.scope n := .inl hln
  refine wpAny_Try_except ?_
  refine wpAny_mono ((hb (wAs X.K c i ts Wout D) (X.pn ++ pins) (fun e s₁ => wpAny (model X.prog X.w) X.A (noteFrame e X.env) (fun _ s₂ => wpAny (model X.prog X.w) X.A (setFlight e none) (fun _ s₃ =>
    wpAny (model X.prog X.w) X.A (handleBy e X.env [.ExceptHandler (some (.Name x np)) (some n) (b₀ :: suite) pos']) (SP X pins D) X.xe s₃) X.xe s₂) X.xe s₁) (fun u s' xx => ?_) PassesOwn.looking).run [] s σ H D (I.toTry _) h) (fun f s1 hsp => ?_) (fun e s1 he => he)
  · -- the catch
    obtain ⟨a, B, sI, pins', σ', H', cls, d, rfl, J', nb, up, sky, na, os, ag, b, hb1, hyes, hno⟩ := xx
    have J : Inv X pins σ' H' sI := J'.ofTry ok
    have sky' : L2.Sky B (X.env :: X.outer) a (L2N.Zn cls d) X.env.locals s'.heap := by rw [← hs]; exact sky
    show wpAny (model X.prog X.w) X.A (noteFrame (.ref a) X.env) _ _ _
    refine L2N.Sky.land L2N.Zn.steady hfr hf sky' fun h3 fl3 up3 => ?_
    have J3 : Inv X pins σ' H' { s' with heap := h3 } := J.landed nb fl3.1 (up.trans up3) os ag
    obtain ⟨oe3, vs3, he3, hz3, hd3⟩ := fl3.there
    have notFr : ∀ {h : Heap} {o : Obj} {vs : Array Value}, h.FunFrames B (X.env :: X.outer) → h.get? a = some o → o.data = .fields vs → a ∉ frs (X.env :: X.outer) := fun {h o vs} ff e dd hm => by
      obtain ⟨_, o', e', hnf⟩ := ff.mem hm
      rw [e] at e'; cases e'
      exact hnf _ dd
    have nfr := notFr fl3.2.2.1 he3 hd3
    have nL : a ≠ X.env.locals := fun z => nfr (List.mem_filterMap.mpr ⟨X.env, List.mem_cons_self, by rw [hf, z]⟩)
    have nF : a ∉ X.fs := fun hm => by
      obtain ⟨e, he, q⟩ := List.mem_filterMap.mp hm
      exact nfr (List.mem_filterMap.mpr ⟨e, List.mem_cons_of_mem _ he, q⟩)
    have S3 := J3.suite he3 hd3 na nL nF
    refine wpAny_handleBy_cons (codeAny_handlers_test ?_) (by intro q; cases q)
    have LT : PySem.W.Looks (model X.prog X.w) h3 (typeOf (.ref a)) cls := fun A Q E s k q => wpAny_typeOf_ref (k _ _ he3) (by rw [hz3.1]; exact q)
    have LM := PySem.W.exm_one (M := model X.prog X.w) (J3.kIn) LT hb1
    have test : ∀ {Q : Value → Shared → Prop} {E : Value → Shared → Prop}, Q c { s' with heap := h3 } → wpAny (model X.prog X.w) (X.A.mark (some (.ref a))) (eval (.Name x np) X.env) Q E { s' with heap := h3 } := fun {Q E} q => by
      obtain ⟨hg, hdbg, hm | ⟨hm, hv, hnn⟩⟩ := hc
      · exact ld_glob (X := X.suite a ((a, oe3) :: (X.pn ++ pins))) S3 hg hm q hdbg
      · exact ld_blt (X := X.suite a ((a, oe3) :: (X.pn ++ pins))) S3 hg hm hv q hnn hdbg
    refine test (LM.here ?_)
    cases b with
    | true =>
      refine codeAny_handlers_suite_as ?_
      refine HandSPX.lands_againZ fl3 fun h4 fl4 up4 => ?_
      have J4 : Inv X pins σ' H' { s' with heap := h4 } := J.landed nb fl4.1 ((up.trans up3).trans up4) os ag
      obtain ⟨oe4, vs4, he4, hz4, hd4⟩ := fl4.there
      have S4 := J4.suite he4 hd4 na nL nF
      refine store_ok (X := X.suite a ((a, oe4) :: (X.pn ++ pins))) (v := .ref a) S4 hN hi hloc rfl (fun s5 S5 => ?_) (.inr hln)
      refine wpAny_mono ((hsu a oe4 cls d (X.pn ++ pins) _ hz4 ⟨_, hd4⟩ (fun u2 s2 x2 => goes_on (pos' := pos') hs hf hN hi hln ok tk (hpa (some (.ref a))) x2) ⟨(a, oe4), ⟨rfl, vs4, hd4, hz4.2.2 vs4 hd4⟩, List.mem_cons_self⟩).run [] s5 _ H' _ (suiteXe_of S5) (hyes rfl a na)) (fun f s6 hsp => ?_) (fun _ _ z => z)
      have end_ : ∀ {σ6 : L2.St} {H6 : Hp} {xe : Value → Shared → Prop} {Q : Shared → Prop}, Inv (suiteXe X a ((a, oe4) :: (X.pn ++ pins)) xe) [] σ6 H6 s6 → (∀ s7, Inv X pins (σ6.set i none) H6 s7 → Q s7) →
          wpAny (model X.prog X.w) X.A (do bindName X.env n .none; unbindBehindTheSuite X.env n pos') (fun _ s7 => Q s7) X.xe s6 := fun {σ6 H6 xe Q} S6 hq => gone_ok (unsuiteXe S6 ok) hN hi hln hq
      cases f with
      | next =>
        obtain ⟨σ6, H6, S6, q6⟩ := hsp
        exact end_ S6 fun s7 J7 => ⟨_, _, J7, q6⟩
      | brk =>
        obtain ⟨σ6, H6, S6, q6⟩ := hsp
        exact end_ S6 fun s7 J7 => ⟨_, _, J7, q6⟩
      | cont =>
        obtain ⟨σ6, H6, S6, q6⟩ := hsp
        exact end_ S6 fun s7 J7 => ⟨_, _, J7, q6⟩
      | ret u =>
        obtain ⟨v6, σ6, H6, S6, r6, q6⟩ := hsp
        exact end_ S6 fun s7 J7 => ⟨_, _, _, J7, r6, q6⟩
    | false =>
      show wpAny _ X.A (handleBy (.ref a) X.env []) _ _ _
      refine wpAny_handleBy_nil ?_
      obtain ⟨k1, k2, k3, oe, vs, T, oT, ts', he, hz, hd, h1, hr⟩ := id fl3
      unfold PySem.passOn
      refine wpAny_bind (wpAny_field he hd h1 ?_)
      rw [if_neg (show ¬ ((Value.ref T == Value.none) = true) from by simp)]
      have fin : wpAny (model X.prog X.w) X.A (setFlight (.ref a) X.env.frame) (fun _ s4 => wpAny (model X.prog X.w) X.A (throw (.ref a) : Sem Flow) (SP X pins D) X.xe s4) X.xe { s' with heap := h3 } := by
        rw [hf]
        refine HandSPX.setFlight_upZ (flyingZ_imp (fun o z => z.zc) fl3) fun h4 hh4 up4 => wpAny_throw (tk _ _ ?_)
        exact ⟨a, B, sI, pins, σ', H', cls, d, rfl, J, nb, (up.trans up3).trans up4, .inr (.inr (by rw [hs]; exact hh4)), na, os, ag, hno rfl⟩
      first
        | exact wpAny_bind (wpAny_pure (wpAny_bind fin))
        | exact wpAny_bind fin
  · cases f with
    | next =>
      obtain ⟨σ', H', J', q⟩ := hsp
      exact wpAny_execs_nil ⟨σ', H', J'.ofTry ok, q⟩
    | brk =>
      obtain ⟨σ', H', J', q⟩ := hsp
      exact ⟨σ', H', J'.ofTry ok, q⟩
    | cont =>
      obtain ⟨σ', H', J', q⟩ := hsp
      exact ⟨σ', H', J'.ofTry ok, q⟩
    | ret u =>
      obtain ⟨v, σ', H', J', r, q⟩ := hsp
      exact ⟨v, σ', H', J'.ofTry ok, r, q⟩
end
/-! ### raise X(..) from n -/
/-- the heap behind «from n»: field 3 is the cause, field 4 is True -/
def causeFrom (h : Heap) (a x1 : Addr) : Heap := (h.update a (Obj.mapFields (·.setIfInBounds 3 (.ref x1)))).update a (Obj.mapFields (·.setIfInBounds 4 (.bool true)))
theorem causeFrom_at {h : Heap} {a x1 : Addr} {oe : Obj} {vs : Array Value} (ha : h.get? a = some oe) (hd : oe.data = .fields vs) :
    (causeFrom h a x1).get? a = some ((oe.mapFields (·.setIfInBounds 3 (.ref x1))).mapFields (·.setIfInBounds 4 (.bool true))) ∧ ((oe.mapFields (·.setIfInBounds 3 (.ref x1))).mapFields (·.setIfInBounds 4 (.bool true))).data = .fields ((vs.setIfInBounds 3 (.ref x1)).setIfInBounds 4 (.bool true)) := by
  have hd3 := Obj.data_mapFields hd (·.setIfInBounds 3 (.ref x1))
  have ha3 := Heap.get?_update_self (Obj.mapFields (·.setIfInBounds 3 (.ref x1))) ha (Obj.isFreed_of_fields hd3)
  have hd4 := Obj.data_mapFields hd3 (·.setIfInBounds 4 (.bool true))
  exact ⟨Heap.get?_update_self (Obj.mapFields (·.setIfInBounds 4 (.bool true))) ha3 (Obj.isFreed_of_fields hd4), hd4⟩
theorem causeFrom_other {h : Heap} {a b x1 : Addr} (hne : a ≠ b) : (causeFrom h a x1).get? b = h.get? b := by
  unfold causeFrom
  rw [Heap.get?_update_other _ _ hne, Heap.get?_update_other _ _ hne]
theorem raise_made_hotF {prog : Program} {w : World} {A : Around} {E : Value → Shared → Prop} {env : Env} {s : Shared} {x c : Sem Value} {Q : Flow → Shared → Prop} {x1 : Addr}
    (h : wpAny (model prog w) A x (fun v s₁ => (∀ Q' : Value → Shared → Prop, Q' (.ref x1) s₁ → wpAny (model prog w) A c Q' E s₁) ∧ ∃ a oe vs cls o1 vs1 cls1, v = .ref a ∧ s₁.heap.get? a = some oe ∧ oe.cls = cls ∧ oe.data = .fields vs ∧ vs[1]? = some .none ∧ 4 < vs.size ∧ x1 ≠ a ∧ HotAt A x1 s₁.heap ∧
      s₁.heap.get? x1 = some o1 ∧ o1.cls = cls1 ∧ o1.data = .fields vs1 ∧ PySem.W.Looks (model prog w) s₁.heap (isSubtype cls1 (.type "BaseException")) true ∧
      PySem.W.Looks (model prog w) s₁.heap (isSubtype cls (.type "BaseException")) true ∧ PySem.W.Looks (model prog w) (causeFrom s₁.heap a x1) (typeOf cls) (.type "type") ∧
      E (.ref a) { s₁ with heap := (causeFrom s₁.heap a x1).update a (Obj.mapFields (·.setIfInBounds 2 (.ref x1))) }) E s) :
    wpAny (model prog w) A (raiseStmt env (some x) (some c)) Q E s := by
  unfold raiseStmt
  dsimp only
  refine wpAny_bind (wpAny_mono h (fun v s₁ h₁ => ?_) fun _ _ x => x)
  obtain ⟨hcs, a, oe, vs, cls, o1, vs1, cls1, rfl, ha, hcls, hd, h1, hi, hne, hot, ho1, hc1, hd1, L0, L1, L3, hE⟩ := h₁
  have LT : PySem.W.Looks (model prog w) s₁.heap (typeOf (.ref a)) cls := fun A Q E s k q => wpAny_typeOf_ref (k _ _ ha) (by rw [hcls]; exact q)
  have LI : PySem.W.Looks (model prog w) s₁.heap (isInstance (.ref a) (.type "BaseException")) true := LT.andThen L1
  have LT1 : PySem.W.Looks (model prog w) s₁.heap (typeOf (.ref x1)) cls1 := fun A Q E s k q => wpAny_typeOf_ref (k _ _ ho1) (by rw [hc1]; exact q)
  have LI1 : PySem.W.Looks (model prog w) s₁.heap (isInstance (.ref x1) (.type "BaseException")) true := LT1.andThen L0
  have hnt : ∀ {Q' : Bool → Shared → Prop}, Q' false s₁ → wpAny (model prog w) A (isType (.ref a)) Q' E s₁ := by
    intro Q' hq
    simp only [isType, loadHead]
    refine wpAny_bind (wpAny_loadPart ha ?_)
    rw [hd]; exact wpAny_pure hq
  have hnt1 : ∀ {Q' : Bool → Shared → Prop}, Q' false s₁ → wpAny (model prog w) A (isType (.ref x1)) Q' E s₁ := by
    intro Q' hq
    simp only [isType, loadHead]
    refine wpAny_bind (wpAny_loadPart ho1 ?_)
    rw [hd1]; exact wpAny_pure hq
  have hd3 := Obj.data_mapFields hd (·.setIfInBounds 3 (.ref x1))
  have ha3 := Heap.get?_update_self (Obj.mapFields (·.setIfInBounds 3 (.ref x1))) ha (Obj.isFreed_of_fields hd3)
  obtain ⟨ha4, hd4⟩ := causeFrom_at (x1 := x1) ha hd
  have s3 : 3 < vs.size := by omega
  have s4 : 4 < (vs.setIfInBounds 3 (Value.ref x1)).size := by rw [set_size]; exact hi
  have s2 : 2 < ((vs.setIfInBounds 3 (Value.ref x1)).setIfInBounds 4 (Value.bool true)).size := by rw [set_size, set_size]; omega
  have h14 : ((vs.setIfInBounds 3 (Value.ref x1)).setIfInBounds 4 (Value.bool true))[1]? = some Value.none := set_other (by decide) (set_other (by decide) h1)
  have hcls4 : ((oe.mapFields (·.setIfInBounds 3 (.ref x1))).mapFields (·.setIfInBounds 4 (.bool true))).cls = cls := by rw [Obj.cls_mapFields, Obj.cls_mapFields]; exact hcls
  have LT4 : PySem.W.Looks (model prog w) (causeFrom s₁.heap a x1) (typeOf (.ref a)) cls := fun A Q E s k q => wpAny_typeOf_ref (k _ _ ha4) (by rw [hcls4]; exact q)
  have hnt4 : ∀ {Q' : Bool → Shared → Prop}, Q' false { s₁ with heap := causeFrom s₁.heap a x1 } → wpAny (model prog w) A (isType (.ref a)) Q' E { s₁ with heap := causeFrom s₁.heap a x1 } := by
    intro Q' hq
    simp only [isType, loadHead]
    refine wpAny_bind (wpAny_loadPart ha4 ?_)
    rw [hd4]; exact wpAny_pure hq
  have hot4 : HotAt A x1 (causeFrom s₁.heap a x1) := by
    obtain ⟨q1, o, vs', q2, q3, q4⟩ := hot
    exact ⟨q1, o, vs', by rw [causeFrom_other (Ne.symm hne)]; exact q2, q3, q4⟩
  have rest : wpAny (model prog w) A (do
      let b ← isType (.ref a)
      if b = true then do
        let e ← holding [.ref a] (raisedFor (.ref a) (.ref a))
        setFlight e none
        raiseNew e
      else do
        let e ← raisedInstance (.ref a)
        setFlight e none
        raiseNew e : Sem Flow) Q E { s₁ with heap := causeFrom s₁.heap a x1 } := by
    refine wpAny_bind (hnt4 ?_)
    simp only [Bool.false_eq_true, if_false]
    unfold raisedInstance
    refine wpAny_bind (wpAny_bind (LT4.here (wpAny_bind (L3.here ?_))))
    rw [if_pos (beq_self_eq_true _)]
    refine wpAny_pure ?_
    unfold setFlight
    refine wpAny_bind (wpAny_bind (wpAny_field ha4 hd4 h14 ?_))
    rw [if_neg (by decide)]
    refine wpAny_pure ?_
    exact raiseNew_hot hot4 hne ha4 hd4 s2 hE
  refine wpAny_bind (wpAny_holding (hcs _ (wpAny_bind (wpAny_pure ?_))))
  dsimp only
  refine wpAny_bind (wpAny_holding ?_)
  unfold excFromValue isExcClass
  refine wpAny_bind (wpAny_bind (hnt ?_))
  simp only [Bool.false_eq_true, if_false]
  refine wpAny_pure ?_
  simp only [Bool.false_eq_true, if_false]
  refine wpAny_bind (LI.here ?_)
  simp only [if_true]
  refine wpAny_pure ?_
  rw [if_neg (show ¬ ((Value.ref x1 == Value.none) = true) from by simp)]
  refine wpAny_bind (wpAny_holding (wpAny_bind (wpAny_bind (hnt1 ?_))))
  simp only [Bool.false_eq_true, if_false]
  refine wpAny_pure ?_
  simp only [Bool.false_eq_true, if_false]
  refine wpAny_bind (LI1.here ?_)
  simp only [if_true]
  refine wpAny_pure ?_
  refine wpAny_bind (wpAny_setField ha hd s3 (wpAny_bind (wpAny_setField ha3 hd3 s4 ?_)))
  exact rest
/-- raise X(..) from n, in the except suite whose exception n holds -/
theorem ps_raiseHF {X : Cx} {W : WX} {e : Expr} {t : L2.St → Hp → XK → Prop} {i : Nat} {n : Str} {cpos pos : Pos} {a₀ : Addr} {oe₀ : Obj} {vs₀ : Array Value} {cls₀ : Value} (hh : X.A.handled = some (.ref a₀)) (hp : (a₀, oe₀) ∈ X.pn) (hd₀ : oe₀.data = .fields vs₀) (hc₀ : vs₀[2]? = some .none) (hz₀ : oe₀.cls = cls₀)
    (hi : X.N[i]? = some n) (hln : X.env.kindOf n = some .local) (hdb : (n == ("__debug__" : Str)) = false) (tk : L2.Takes X W) (he : PMk5 X e t) :
    PS X (.Raise (some e) (some (.Name n cpos)) pos) (fun _ σ H => Raises X cls₀ ∧ σ[i]? = some (some (.ref a₀)) ∧ t σ H fun cls d H' => W cls d σ H') := by
  refine ⟨fun pins s σ H D I h => ?_⟩
  obtain ⟨r0, hσ, h⟩ := h
  show wpAny _ _ (do standAt pos; raiseStmt X.env (some (do let v ← eval e X.env; standAt pos; pure v)) (some (do let v ← eval (.Name n cpos) X.env; standAt pos; pure v))) _ _ _
  refine wpAny_bind (wpAny_standAt (raise_made_hotF (x1 := a₀) (wpAny_bind (wpAny_mono (he pins s σ H _ I h) (fun u s1 hu => wpAny_bind (wpAny_standAt (wpAny_pure ?_))) fun _ _ x => x))))
  obtain ⟨⟨a, oe, vs, sI, H', cls, d, rfl, J, k, hne, ha, hz, hd, h1, na, os, ag, r, q⟩, h5⟩ := hu
  have hi4 : 4 < vs.size := h5 a oe vs rfl ha hd
  have k4 : ∀ b u, sI.heap.get? b = some u → (causeFrom s1.heap a a₀).get? b = some u := fun b u z => by
    have nab : a ≠ b := fun y => by
      rw [← y, hne] at z
      cases z
    rw [causeFrom_other nab]
    exact k b u z
  obtain ⟨r1, _⟩ := r (model X.prog X.w) s1.heap (J.kIn.keeps k)
  obtain ⟨_, r2⟩ := r (model X.prog X.w) (causeFrom s1.heap a a₀) (J.kIn.keeps k4)
  obtain ⟨r3, _⟩ := r0 (model X.prog X.w) s1.heap (J.kIn.keeps k)
  have P1 := (J.pin (a₀, oe₀) (List.mem_append_left _ hp)).1
  have nap : a₀ ≠ a := fun z => by
    have P1 : sI.heap.get? a₀ = some oe₀ := P1
    rw [z, hne] at P1
    cases P1
  have look : ∃ m, s1.heap.Ns X.env.locals m ∧ m n = some (.ref a₀) := by
    obtain ⟨m, hn, hlk⟩ := J.loc
    obtain ⟨u, ru, lk⟩ := hlk i n (.ref a₀) hi hσ (.inl hln)
    obtain rfl : u = Value.ref a₀ := ru
    refine ⟨m, ?_, ?_⟩
    · obtain ⟨o, es, ep, ho, rr⟩ := hn
      exact ⟨o, es, ep, k _ _ ho, rr⟩
    · rcases lk with ⟨_, hm⟩ | ⟨hk, _⟩
      · exact hm
      · rw [hln] at hk
        rcases hk with hk | hk <;> cases hk
  obtain ⟨m, hn, hm⟩ := look
  have kf : X.env.scope.kind = .function := J.ok.kind
  refine ⟨fun Q' q' => wpAny_bind (wpAny_Name (wpAny_loadName_local kf hln hn hm (wpAny_bind (wpAny_standAt (wpAny_pure q')))) hdb), ?_⟩
  obtain ⟨ha4, hd4⟩ := causeFrom_at (x1 := a₀) ha hd
  have h12 : (((vs.setIfInBounds 3 (Value.ref a₀)).setIfInBounds 4 (Value.bool true)).setIfInBounds 2 (Value.ref a₀))[1]? = some Value.none := set_other (by decide) (set_other (by decide) (set_other (by decide) h1))
  refine ⟨a, oe, vs, cls, oe₀, vs₀, cls₀, rfl, ha, hz.1, hd, h1, hi4, nap, ⟨hh, oe₀, vs₀, k _ _ P1, hd₀, hc₀⟩, k _ _ P1, hz₀, hd₀, r3, r1, r2, tk _ _ (L2.XE.new J (fun b u z => ?_) hne (Heap.get?_update_self _ ha4 (Obj.isFreed_of_fields (Obj.data_mapFields hd4 _)))
    ⟨by rw [Obj.cls_mapFields, Obj.cls_mapFields, Obj.cls_mapFields]; exact hz.1, by rw [HandSPX.dict_mapFields, HandSPX.dict_mapFields, HandSPX.dict_mapFields]; exact hz.2.1⟩ (Obj.data_mapFields hd4 _) h12 na os ag q)⟩
  have nab : a ≠ b := fun y => by
    rw [← y, hne] at z
    cases z
  show ((causeFrom s1.heap a a₀).update a (Obj.mapFields (·.setIfInBounds 2 (.ref a₀)))).get? b = some u
  rw [Heap.get?_update_other _ _ nab]
  exact k4 b u z
end LW

set_option maxRecDepth 100000
set_option maxHeartbeats 4000000

/-! Part W3 -/
namespace LW
open PySem PySem.Spec PyProof.Rows L2 LL
open Evl (Ex Ev EvT EvL EvU EvA EvO fresh_back ex_l ex_t ev_var ev_c s_ret s_retL s_retU q_asg q_asgL q_asgU s_asg s_asgL q_when s_when s_if q_if et_and et_or et_not ea_nil ea_cons el_lst eu_tup ev_if eo_none eo_some el_sl sq_of st_of sz_of s_app s_appL q_app q_appL s_drop q_drop s_forL q_forL q_forLn s_forLn q_while s_while q_forR1 q_forR2 q_forNL q_forNLn q_setL s_setL q_cut)
open VaaclBase (Values Move Test Branch Loop valueAt given moved holds allHold chosen branchAt okTest)

/-- the i-th statement of the program -/
def top (i : Nat) : Stmt := PySem.Challenge.pw_loopleaps_s01_answers.main.body.getD i (.Pass ⟨0, 0, 0, 0⟩)
abbrev s_Test_init : Stmt := inClass (top 6) 0
abbrev s_Test_excess : Stmt := inClass (top 6) 1
abbrev s_Test_lack : Stmt := inClass (top 6) 2
abbrev s_Test_holds : Stmt := inClass (top 6) 3
abbrev s_Test_told : Stmt := inClass (top 6) 4
abbrev s_Gift_init : Stmt := inClass (top 7) 0
abbrev s_Gift_value : Stmt := inClass (top 7) 1
abbrev s_Gift_told : Stmt := inClass (top 7) 2
abbrev s_Branch_init : Stmt := inClass (top 8) 0
abbrev s_Branch_holds : Stmt := inClass (top 8) 1
abbrev s_Branch_moved : Stmt := inClass (top 8) 2
abbrev s_Branch_told : Stmt := inClass (top 8) 3
abbrev s_Loop_init : Stmt := inClass (top 9) 0
abbrev s_Loop_chosen : Stmt := inClass (top 9) 1
abbrev s_Loop_round_by : Stmt := inClass (top 9) 2
abbrev s_Loop_told : Stmt := inClass (top 9) 3
abbrev s_f_is_beyond : Stmt := top 10
abbrev s_f_next_branches : Stmt := top 16
abbrev s_f_pattern_at : Stmt := top 17
abbrev s_f_behind_once : Stmt := top 18
abbrev s_f_clauses_at : Stmt := top 19
abbrev s_f_all_clauses : Stmt := top 20
abbrev s_f_is_followed : Stmt := top 21
abbrev s_f_first_above : Stmt := top 22
abbrev s_f_clause_fails : Stmt := top 23
abbrev s_Doing_init : Stmt := inClass (top 24) 0
abbrev s_Doing_behind : Stmt := inClass (top 24) 1
abbrev s_Doing_gone : Stmt := inClass (top 24) 2
abbrev s_Doing_clauses : Stmt := inClass (top 24) 3
abbrev s_Doing_fails_within : Stmt := inClass (top 24) 4
abbrev s_Doing_fails_from : Stmt := inClass (top 24) 5
abbrev s_Doing_how_often : Stmt := inClass (top 24) 6
abbrev s_Phase_init : Stmt := inClass (top 31) 0
abbrev s_Phase_rounds : Stmt := inClass (top 31) 1
abbrev s_Phase_told : Stmt := inClass (top 31) 2
abbrev s_f_leap_from : Stmt := top 32
abbrev s_Leaps_init : Stmt := inClass (top 33) 0
abbrev s_Leaps_go_on : Stmt := inClass (top 33) 1
abbrev s_Leaps_rounds : Stmt := inClass (top 33) 2
abbrev s_Leaps_done : Stmt := inClass (top 33) 3
abbrev s_f_must_reading : Stmt := top 41
abbrev s_Numbers_init : Stmt := inClass (top 43) 0
abbrev s_Numbers_is_over : Stmt := inClass (top 43) 1
abbrev s_Numbers_take : Stmt := inClass (top 43) 2
abbrev s_Numbers_take_counter : Stmt := inClass (top 43) 3
abbrev s_Numbers_take_test : Stmt := inClass (top 43) 4
abbrev s_Numbers_take_gift : Stmt := inClass (top 43) 5
abbrev s_Numbers_take_branch : Stmt := inClass (top 43) 6
abbrev s_f_read_loop : Stmt := top 44
abbrev s_Refusal_init : Stmt := inClass (top 52) 0
abbrev s_f_must_leaps : Stmt := top 53
abbrev s_Holder_init : Stmt := inClass (top 55) 0
abbrev s_Holder_chosen : Stmt := inClass (top 55) 1
abbrev s_Holder_leaps : Stmt := inClass (top 55) 2
abbrev s_f_take_loop : Stmt := top 56
abbrev s_f_take_values : Stmt := top 57
abbrev s_f_chosen : Stmt := top 58
abbrev s_f_pattern : Stmt := top 59
abbrev s_f_times : Stmt := top 60
abbrev s_f_leap : Stmt := top 61
abbrev s_f_all_phases : Stmt := top 62
abbrev s_f_done : Stmt := top 63
abbrev s_f_go : Stmt := top 64
abbrev s_f_run : Stmt := top 65
abbrev s_f_given : Stmt := top 66
abbrev s_f_told : Stmt := top 67
abbrev s_f_answer : Stmt := top 68
abbrev s_f_answers : Stmt := top 69
/-- where the classes stand -/
structure Ad where
  cTest : Addr
  cGift : Addr
  cBranch : Addr
  cLoop : Addr
  cDoing : Addr
  cPhase : Addr
  cLeaps : Addr
  cNumbers : Addr
  cHolder : Addr
  cNotWhole : Addr
  cRefusal : Addr
/-- what the top has left -/
structure Txt (K : PySem.W.Frag) (mg : Str → Option Value) (A : Ad) : Prop where
  n_len : mg "len" = none
  n_all : mg "all" = none
  n_any : mg "any" = none
  n_min : mg "min" = none
  n_max : mg "max" = none
  n_abs : mg "abs" = none
  n_sum : mg "sum" = none
  n_int : mg "int" = none
  n_tuple : mg "tuple" = none
  n_list : mg "list" = none
  n_zip : mg "zip" = none
  n_enumerate : mg "enumerate" = none
  n_range : mg "range" = none
  n_ValueError : mg "ValueError" = none
  i_AGAIN : IntG mg "AGAIN" 144
  i_AT_LEAST : IntG mg "AT_LEAST" 1
  i_AT_MOST : IntG mg "AT_MOST" 0
  i_BELOW : IntG mg "BELOW" 2
  i_FAR : IntG mg "FAR" 2
  i_FARTHEST : IntG mg "FARTHEST" 1000000000000
  i_FIRST_TIMES : IntG mg "FIRST_TIMES" 4
  i_LONGEST : IntG mg "LONGEST" 3
  i_LOOK_AHEAD : IntG mg "LOOK_AHEAD" 6
  i_MANY : IntG mg "MANY" 3
  i_MOST_BRANCHES : IntG mg "MOST_BRANCHES" 3
  i_MOST_COUNTERS : IntG mg "MOST_COUNTERS" 4
  i_MOST_GIVEN : IntG mg "MOST_GIVEN" 99
  i_MOST_PHASES : IntG mg "MOST_PHASES" 8
  i_MOST_ROUNDS : IntG mg "MOST_ROUNDS" 2000
  i_MOST_TESTED : IntG mg "MOST_TESTED" 999999
  i_MOST_TESTS : IntG mg "MOST_TESTS" 3
  i_MOST_VALUE : IntG mg "MOST_VALUE" 1000000
  i_NEVER : IntG mg "NEVER" 1
  i_OVER : IntG mg "OVER" 0
  i_REMAINDER : IntG mg "REMAINDER" 3
  t_DIVISORS : TupG K mg "DIVISORS" [.int 2, .int 3, .int 4, .int 6]
  t_FIRST_LOOP : TupG K mg "FIRST_LOOP" [.int 1, .int 2, .int 0, .int 0, .int (-1), .int 1, .int 0, .int 0, .int 1, .int 0, .int 0]
  t_NUMBERS : TupG K mg "NUMBERS" [.int 1, .int 0, .int 0, .int 0, .int 0, .int 0, .int 0, .int 0, .int 0, .int 1, .int 0]
  t_ROWS : TupG K mg "ROWS" [.int 1, .int 1, .int 0, .int 0, .int 0, .int 0, .int 0, .int 0, .int 0, .int 0, .int 0]
  cls_Test : Cls K A.cTest
  na_Test_kind : NoAttr K A.cTest "kind"
  na_Test_counter : NoAttr K A.cTest "counter"
  na_Test_one : NoAttr K A.cTest "one"
  na_Test_other : NoAttr K A.cTest "other"
  cls_Gift : Cls K A.cGift
  na_Gift_counter : NoAttr K A.cGift "counter"
  na_Gift_number : NoAttr K A.cGift "number"
  cls_Branch : Cls K A.cBranch
  na_Branch_tests : NoAttr K A.cBranch "tests"
  na_Branch_gifts : NoAttr K A.cBranch "gifts"
  cls_Loop : Cls K A.cLoop
  na_Loop_counters : NoAttr K A.cLoop "counters"
  na_Loop_branches : NoAttr K A.cLoop "branches"
  cls_Doing : Cls K A.cDoing
  na_Doing_loop : NoAttr K A.cDoing "loop"
  na_Doing_pattern : NoAttr K A.cDoing "pattern"
  na_Doing_rows : NoAttr K A.cDoing "rows"
  cls_Phase : Cls K A.cPhase
  na_Phase_pattern : NoAttr K A.cPhase "pattern"
  na_Phase_often : NoAttr K A.cPhase "often"
  na_Phase_amounts : NoAttr K A.cPhase "amounts"
  cls_Leaps : Cls K A.cLeaps
  na_Leaps_loop : NoAttr K A.cLeaps "loop"
  na_Leaps_amounts : NoAttr K A.cLeaps "amounts"
  na_Leaps_phases : NoAttr K A.cLeaps "phases"
  na_Leaps_end : NoAttr K A.cLeaps "end"
  cls_Numbers : Cls K A.cNumbers
  na_Numbers_counters : NoAttr K A.cNumbers "counters"
  na_Numbers_row : NoAttr K A.cNumbers "row"
  na_Numbers_read : NoAttr K A.cNumbers "read"
  cls_Holder : Cls K A.cHolder
  na_Holder_loop : NoAttr K A.cHolder "loop"
  na_Holder_amounts : NoAttr K A.cHolder "amounts"
  d_Test_init : MkD K mg A.cTest "Test" "Test.__init__" s_Test_init
  d_Test_excess : MtD K A.cTest "excess" "Test.excess" s_Test_excess
  d_Test_lack : MtD K A.cTest "lack" "Test.lack" s_Test_lack
  d_Test_holds : MtD K A.cTest "holds" "Test.holds" s_Test_holds
  d_Test_told : MtD K A.cTest "told" "Test.told" s_Test_told
  d_Gift_init : MkD K mg A.cGift "Gift" "Gift.__init__" s_Gift_init
  d_Gift_value : MtD K A.cGift "value" "Gift.value" s_Gift_value
  d_Gift_told : MtD K A.cGift "told" "Gift.told" s_Gift_told
  d_Branch_init : MkD K mg A.cBranch "Branch" "Branch.__init__" s_Branch_init
  d_Branch_holds : MtD K A.cBranch "holds" "Branch.holds" s_Branch_holds
  d_Branch_moved : MtD K A.cBranch "moved" "Branch.moved" s_Branch_moved
  d_Branch_told : MtD K A.cBranch "told" "Branch.told" s_Branch_told
  d_Loop_init : MkD K mg A.cLoop "Loop" "Loop.__init__" s_Loop_init
  d_Loop_chosen : MtD K A.cLoop "chosen" "Loop.chosen" s_Loop_chosen
  d_Loop_round_by : MtD K A.cLoop "round_by" "Loop.round_by" s_Loop_round_by
  d_Loop_told : MtD K A.cLoop "told" "Loop.told" s_Loop_told
  d_f_is_beyond : FnD K mg "is_beyond" s_f_is_beyond
  d_f_next_branches : FnD K mg "next_branches" s_f_next_branches
  d_f_pattern_at : FnD K mg "pattern_at" s_f_pattern_at
  d_f_behind_once : FnD K mg "behind_once" s_f_behind_once
  d_f_clauses_at : FnD K mg "clauses_at" s_f_clauses_at
  d_f_all_clauses : FnD K mg "all_clauses" s_f_all_clauses
  d_f_is_followed : FnD K mg "is_followed" s_f_is_followed
  d_f_first_above : FnD K mg "first_above" s_f_first_above
  d_f_clause_fails : FnD K mg "clause_fails" s_f_clause_fails
  d_Doing_init : MkD K mg A.cDoing "Doing" "Doing.__init__" s_Doing_init
  d_Doing_behind : MtD K A.cDoing "behind" "Doing.behind" s_Doing_behind
  d_Doing_gone : MtD K A.cDoing "gone" "Doing.gone" s_Doing_gone
  d_Doing_clauses : MtD K A.cDoing "clauses" "Doing.clauses" s_Doing_clauses
  d_Doing_fails_within : MtD K A.cDoing "fails_within" "Doing.fails_within" s_Doing_fails_within
  d_Doing_fails_from : MtD K A.cDoing "fails_from" "Doing.fails_from" s_Doing_fails_from
  d_Doing_how_often : MtD K A.cDoing "how_often" "Doing.how_often" s_Doing_how_often
  d_Phase_init : MkD K mg A.cPhase "Phase" "Phase.__init__" s_Phase_init
  d_Phase_rounds : MtD K A.cPhase "rounds" "Phase.rounds" s_Phase_rounds
  d_Phase_told : MtD K A.cPhase "told" "Phase.told" s_Phase_told
  d_f_leap_from : FnD K mg "leap_from" s_f_leap_from
  d_Leaps_init : MkD K mg A.cLeaps "Leaps" "Leaps.__init__" s_Leaps_init
  d_Leaps_go_on : MtD K A.cLeaps "go_on" "Leaps.go_on" s_Leaps_go_on
  d_Leaps_rounds : MtD K A.cLeaps "rounds" "Leaps.rounds" s_Leaps_rounds
  d_Leaps_done : MtD K A.cLeaps "done" "Leaps.done" s_Leaps_done
  d_f_must_reading : ∃ (f : Addr) (fd : FuncData), mg "must_reading" = some (.ref f) ∧ Fun K "must" "must" s_f_must_reading f fd
  d_Numbers_init : MkD K mg A.cNumbers "Numbers" "Numbers.__init__" s_Numbers_init
  d_Numbers_is_over : MtD K A.cNumbers "is_over" "Numbers.is_over" s_Numbers_is_over
  d_Numbers_take : MtD K A.cNumbers "take" "Numbers.take" s_Numbers_take
  d_Numbers_take_counter : MtD K A.cNumbers "take_counter" "Numbers.take_counter" s_Numbers_take_counter
  d_Numbers_take_test : MtD K A.cNumbers "take_test" "Numbers.take_test" s_Numbers_take_test
  d_Numbers_take_gift : MtD K A.cNumbers "take_gift" "Numbers.take_gift" s_Numbers_take_gift
  d_Numbers_take_branch : MtD K A.cNumbers "take_branch" "Numbers.take_branch" s_Numbers_take_branch
  d_f_read_loop : FnD K mg "read_loop" s_f_read_loop
  d_f_must_leaps : ∃ (f : Addr) (fd : FuncData), mg "must_leaps" = some (.ref f) ∧ Fun K "must" "must" s_f_must_leaps f fd
  d_Holder_init : MkD K mg A.cHolder "Holder" "Holder.__init__" s_Holder_init
  d_Holder_chosen : MtD K A.cHolder "chosen" "Holder.chosen" s_Holder_chosen
  d_Holder_leaps : MtD K A.cHolder "leaps" "Holder.leaps" s_Holder_leaps
  d_f_take_loop : FnD K mg "take_loop" s_f_take_loop
  d_f_take_values : FnD K mg "take_values" s_f_take_values
  d_f_chosen : FnD K mg "chosen" s_f_chosen
  d_f_pattern : FnD K mg "pattern" s_f_pattern
  d_f_times : FnD K mg "times" s_f_times
  d_f_leap : FnD K mg "leap" s_f_leap
  d_f_all_phases : FnD K mg "all_phases" s_f_all_phases
  d_f_done : FnD K mg "done" s_f_done
  d_f_go : FnD K mg "go" s_f_go
  d_f_run : FnD K mg "run" s_f_run
  d_f_given : FnD K mg "given" s_f_given
  d_f_told : FnD K mg "told" s_f_told
  d_f_answer : FnD K mg "answer" s_f_answer
  d_f_answers : FnD K mg "answers" s_f_answers
  gNW : mg "NotWhole" = some (.ref A.cNotWhole)
  xNW : PySem.W.excIn K A.cNotWhole [.type "ValueError", .type "Exception", .type "BaseException", .type "object"] "ValueError.__new__" = true
  kNW : PySem.W.keepIn K (.ref A.cNotWhole) = true
  bNW : PySem.W.subIn K (.ref A.cNotWhole) (.type "BaseException") = some true
  tNW : PySem.W.typeIn K (.ref A.cNotWhole) = some (.type "type")
  eNW : PySem.W.exmOne K (.ref A.cNotWhole) (.ref A.cNotWhole) = some true
  gRf : mg "Refusal" = some (.ref A.cRefusal)
  oRf : OexC K A.cRefusal
  fRf : XfC K A.cRefusal
  nRf : PySem.W.findIn K (.ref A.cRefusal) "number" = some none
  eRf : PySem.W.exmOne K (.ref A.cRefusal) (.ref A.cRefusal) = some true
  iRf : ∃ (f : Addr) (fd : FuncData), PySem.W.findIn K (.ref A.cRefusal) "__init__" = some (some (.ref f)) ∧ PySem.W.typeIn K (.ref f) = some (.type "function") ∧ Fun K "__init__" "Refusal.__init__" s_Refusal_init f fd
  vVE : PySem.W.findCls K (.type "ValueError") (.type "type") "__init__" = some (.val (.builtin "ValueError.__init__"))

/-! ### how the data lie in the heap -/
def tK : Test → Int
  | .atMost _ _ => 0
  | .atLeast _ _ => 1
  | .below _ _ _ => 2
  | .rem _ _ _ => 3
def tX : Test → Int
  | .atMost x _ => x
  | .atLeast x _ => x
  | .below x _ _ => x
  | .rem x _ _ => x
def tA : Test → Int
  | .atMost _ c => c
  | .atLeast _ c => c
  | .below _ y _ => y
  | .rem _ m _ => m
def tB : Test → Int
  | .atMost _ _ => 0
  | .atLeast _ _ => 0
  | .below _ _ c => c
  | .rem _ _ r => r
def fT (t : Test) : List (Str × V) := [("kind", .int (tK t)), ("counter", .int (tX t)), ("one", .int (tA t)), ("other", .int (tB t))]
def vO : Option Nat → V
  | none => .non
  | some i => .int i
def fG (g : VaaclBase.Given) : List (Str × V) := [("counter", vO g.source), ("number", .int g.add)]
def TestAt (A : Ad) (H : Hp) (a : Addr) (t : Test) : Prop := ∃ dx, H a = some (.ins A.cTest dx (fT t))
def GiftAt (A : Ad) (H : Hp) (a : Addr) (g : VaaclBase.Given) : Prop := ∃ dx, H a = some (.ins A.cGift dx (fG g))
def TestV (A : Ad) (H : Hp) (v : V) (t : Test) : Prop := ∃ a, v = .ref a ∧ TestAt A H a t
def GiftV (A : Ad) (H : Hp) (v : V) (g : VaaclBase.Given) : Prop := ∃ a, v = .ref a ∧ GiftAt A H a g
def fB (p q : Addr) : List (Str × V) := [("tests", .ref p), ("gifts", .ref q)]
def BranchAt (A : Ad) (H : Hp) (a : Addr) (b : Branch) : Prop := ∃ dx p q ts gs, H a = some (.ins A.cBranch dx (fB p q)) ∧ H p = some (.lst ts) ∧ H q = some (.lst gs) ∧ Paired (TestV A H) ts b.guard ∧ Paired (GiftV A H) gs b.move
def BranchV (A : Ad) (H : Hp) (v : V) (b : Branch) : Prop := ∃ a, v = .ref a ∧ BranchAt A H a b
def fL (n : Nat) (p : Addr) : List (Str × V) := [("counters", .int n), ("branches", .ref p)]
def LoopAt (A : Ad) (H : Hp) (a : Addr) (n : Nat) (l : Loop) : Prop := ∃ dx p bs, H a = some (.ins A.cLoop dx (fL n p)) ∧ H p = some (.lst bs) ∧ Paired (BranchV A H) bs l
/-- values: a tuple of ints -/
def TupAt (H : Hp) (p : Addr) (s : Values) : Prop := H p = some (.tup (s.map V.int))
def IsTup (s : Values) (v : V) (H : Hp) : Prop := ∃ p, v = .ref p ∧ TupAt H p s
def IntsAt (H : Hp) (p : Addr) (l : List Int) : Prop := H p = some (.lst (l.map V.int))
def IsInts (l : List Int) (v : V) (H : Hp) : Prop := ∃ p, v = .ref p ∧ IntsAt H p l
theorem TestAt.mono {A : Ad} {H H' : Hp} {a : Addr} {t : Test} (e : Ex H H') (h : TestAt A H a t) : TestAt A H' a t := by
  obtain ⟨dx, h⟩ := h
  exact ⟨dx, e _ _ h⟩
theorem GiftAt.mono {A : Ad} {H H' : Hp} {a : Addr} {t : VaaclBase.Given} (e : Ex H H') (h : GiftAt A H a t) : GiftAt A H' a t := by
  obtain ⟨dx, h⟩ := h
  exact ⟨dx, e _ _ h⟩
theorem TestV.mono {A : Ad} {H H' : Hp} {a : V} {t : Test} (e : Ex H H') (h : TestV A H a t) : TestV A H' a t := by
  obtain ⟨b, r, h⟩ := h
  exact ⟨b, r, h.mono e⟩
theorem GiftV.mono {A : Ad} {H H' : Hp} {a : V} {t : VaaclBase.Given} (e : Ex H H') (h : GiftV A H a t) : GiftV A H' a t := by
  obtain ⟨b, r, h⟩ := h
  exact ⟨b, r, h.mono e⟩
theorem BranchAt.mono {A : Ad} {H H' : Hp} {a : Addr} {t : Branch} (e : Ex H H') (h : BranchAt A H a t) : BranchAt A H' a t := by
  obtain ⟨dx, p, q, ts, gs, h1, h2, h3, h4, h5⟩ := h
  exact ⟨dx, p, q, ts, gs, e _ _ h1, e _ _ h2, e _ _ h3, Paired.imp2 h4 fun _ _ z => z.mono e, Paired.imp2 h5 fun _ _ z => z.mono e⟩
theorem BranchV.mono {A : Ad} {H H' : Hp} {a : V} {t : Branch} (e : Ex H H') (h : BranchV A H a t) : BranchV A H' a t := by
  obtain ⟨b, r, h⟩ := h
  exact ⟨b, r, h.mono e⟩
theorem LoopAt.mono {A : Ad} {H H' : Hp} {a : Addr} {n : Nat} {l : Loop} (e : Ex H H') (h : LoopAt A H a n l) : LoopAt A H' a n l := by
  obtain ⟨dx, p, bs, h1, h2, h3⟩ := h
  exact ⟨dx, p, bs, e _ _ h1, e _ _ h2, Paired.imp2 h3 fun _ _ z => z.mono e⟩
theorem fT_kind (t : Test) : (fT t).lookup ("kind" : Str) = some (.int (tK t)) := by rfl
theorem fT_counter (t : Test) : (fT t).lookup ("counter" : Str) = some (.int (tX t)) := by rfl
theorem fT_one (t : Test) : (fT t).lookup ("one" : Str) = some (.int (tA t)) := by rfl
theorem fT_other (t : Test) : (fT t).lookup ("other" : Str) = some (.int (tB t)) := by rfl
/-- a value at a place -/
theorem at_va {s : Values} {i : Nat} (h : i < s.length) : atI (s.map V.int) (i : Int) = some (.int (valueAt s i)) := by
  refine atI_nat ?_
  rw [List.getElem?_map, List.getElem?_eq_getElem h, va_lt h]
  rfl
/-! ### promises of __init__ that store what's handed in -/
def SpI (C : Addr) (names : List Str) : Sp := fun vs H Q _ => ∃ x dx args, vs = .ref x :: args ∧ args.length = names.length ∧ H x = some (.ins C dx []) ∧ ∀ H' : Hp, (∀ b o, b ≠ x → H b = some o → H' b = some o) → H' x = some (.ins C dx (names.zip args)) → Q .non H'
section
variable {K : PySem.W.Frag} {σ : L2.St} {H : Hp} {tr : TA} {args : List V} {E : XK} {C : Addr} {names : List Str}
theorem en_make (ha : EvA tr σ H args) (hl : args.length = names.length) : EvN (tMake C (SpI C names) [] E tr) σ H (fun v H' => ∃ x dx, v = .ref x ∧ H' x = some (.ins C dx (names.zip args))) := fun H1 e Q q =>
  ha H1 e _ fun H2 e2 => fun x dx nx nd ne => ⟨x, dx, args, by rw [List.append_nil], hl, upd_same, fun H' k hx => ⟨rfl, by
    have hx1 : H1 x = none := fresh_back e2 nx
    refine q _ H' (fun b o hb => ?_) ((NewAt.obj hx hx1).imp fun _ z => ⟨x, dx, rfl, z⟩)
    have hb2 := e2 b o hb
    exact k b o (ne_of_none hb2 nx) (by rw [upd_ne (ne_of_none hb2 nx), upd_ne (ne_of_none hb2 nd)]; exact hb2)⟩⟩
end
theorem put_here {f : Str} {v x : V} {r : List (Str × V)} : putF f v ((f, x) :: r) = (f, v) :: r := if_pos rfl
theorem put_past {f g : Str} {v x : V} {r : List (Str × V)} (h : ¬ g = f) : putF f v ((g, x) :: r) = (g, x) :: putF f v r := if_neg h

/-! ### lists that grow in a loop -/
theorem del_ex (H : Hp) (p : Addr) : Ex (del H p) H := fun b o h => by
  by_cases e : b = p
  · rw [e, del_same] at h; cases h
  · rw [del_ne e] at h; exact h
theorem del_up {H H' : Hp} {p : Addr} {o : HO} (e : Ex (del H p) H') : Ex (del H p) (upd H' p o) := e.mut del_same
theorem ex_del {H H' : Hp} {p : Addr} (e : Ex H H') (hp : H p = none) : Ex H (del H' p) := fun b o h => by rw [del_ne (ne_of_none h hp)]; exact e b o h
theorem flat_snoc {α : Type} (f : α → List Int) {l : List α} {i : Nat} {x : α} (h : l[i]? = some x) : (l.take (i + 1)).flatMap f = (l.take i).flatMap f ++ f x := by
  rw [take_snoc h, List.flatMap_append]
  show _ ++ (f x ++ []) = _
  rw [List.append_nil]
theorem flat_le {α : Type} (f : α → List Int) (l : List α) (i : Nat) : ((l.take i).flatMap f).length ≤ (l.flatMap f).length := by
  have e : l.flatMap f = (l.take i).flatMap f ++ (l.drop i).flatMap f := by rw [← List.flatMap_append, List.take_append_drop]
  rw [e, List.length_append]
  omega
theorem IsInts.mono {l : List Int} {v : V} : Mono (IsInts l v) := fun H H' e h => by
  obtain ⟨p, r, h⟩ := h
  exact ⟨p, r, e _ _ h⟩
theorem IsTup.mono {l : Values} {v : V} : Mono (IsTup l v) := fun H H' e h => by
  obtain ⟨p, r, h⟩ := h
  exact ⟨p, r, e _ _ h⟩
section
variable {K : PySem.W.Frag} {tl te : TE} {j i0 : Nat} {σ : L2.St} {Hs : Hp} {D : Ends} {tz : TS} {p a : Addr} {init : List Int} {xs : List V}
theorem q_ext {α : Type} {F : V → α → Prop} {f : α → List Int} {l : List α} (hl : Ev tl σ Hs (.ref a)) (hx : SqL K (del Hs p) a xs) (hF : Paired F xs l) (hσ : σ[i0]? = some (some (.ref p))) (hij : i0 ≠ j) (hp : IntsAt Hs p init) (bound : init.length + (l.flatMap f).length ≤ 100000)
    (he : ∀ H' x d, d ∈ l → F x d → Ex (del Hs p) H' → EvP te (σ.set j (some x)) H' (IsInts (f d)))
    (hd : ∀ σ' H', (σ' = σ ∨ ∃ v, σ' = σ.set j (some v)) → Ex (del Hs p) H' → IntsAt H' p (init ++ l.flatMap f) → tz D σ' H') :
    tSeq (tFor (iList K tl) (gName j) (tDrop (tBM K "list" rExtend (tVar i0) (tCons te tNil)))) tz D σ Hs := by
  have len := hF.length
  refine q_forLn hl (ex_l (del_ex Hs p) hx) (fun i σ' H' => (σ' = σ ∨ ∃ v, σ' = σ.set j (some v)) ∧ Ex (del Hs p) H' ∧ IntsAt H' p (init ++ (l.take i).flatMap f)) (fun H1 e1 => ?_) (fun i σ' H' _ ⟨_, e, _⟩ => ex_l e hx) (fun i x σ' H' hi ⟨hs, e, hq⟩ => ?_) (fun σ' H' ⟨hs, e, hq⟩ => ?_)
  · refine ⟨Or.inl rfl, (del_ex Hs p).trans e1, ?_⟩
    show H1 p = some (.lst ((init ++ []).map V.int))
    rw [List.append_nil]
    exact e1 _ _ hp
  · obtain ⟨d, hd1, hf⟩ := paired_get hF hi
    have es : σ'.set j (some x) = σ.set j (some x) := by
      rcases hs with rfl | ⟨v, rfl⟩
      · rfl
      · rw [List.set_set]
    show tDrop (tBM K "list" rExtend (tVar i0) (tCons te tNil)) _ (σ'.set j (some x)) H'
    rw [es]
    have b1 := flat_le f l (i + 1)
    rw [flat_snoc f hd1, List.length_append] at b1
    refine s_ext (xs := (init ++ (l.take i).flatMap f).map V.int) (ys := (f d).map V.int) hq (ev_var (by rw [List.getElem?_set_ne (Ne.symm hij)]; exact hσ)) (he H' x d (List.mem_of_getElem? hd1) hf e) ?_ fun H1 e1 => ?_
    · rw [List.length_map, List.length_map, List.length_append]
      exact sz_of (by omega)
    · refine ⟨Or.inr ⟨_, rfl⟩, del_up (e.trans e1), ?_⟩
      show upd H1 p _ p = _
      rw [upd_same, flat_snoc f hd1, ← List.map_append, List.append_assoc]
  · rw [len, List.take_length] at hq
    exact hd σ' H' hs e hq
/-- the same over a list that is made for it -/
theorem q_extN {α : Type} {F : V → α → Prop} {f : α → List Int} {l : List α} (hl : EvL tl σ Hs xs) (hF : Paired F xs l) (hσ : σ[i0]? = some (some (.ref p))) (hij : i0 ≠ j) (hp : IntsAt Hs p init) (bound : init.length + (l.flatMap f).length ≤ 100000)
    (he : ∀ H' x d, d ∈ l → F x d → Ex (del Hs p) H' → EvP te (σ.set j (some x)) H' (IsInts (f d)))
    (hd : ∀ σ' H', (σ' = σ ∨ ∃ v, σ' = σ.set j (some v)) → Ex (del Hs p) H' → IntsAt H' p (init ++ l.flatMap f) → tz D σ' H') :
    tSeq (tFor (iList K tl) (gName j) (tDrop (tBM K "list" rExtend (tVar i0) (tCons te tNil)))) tz D σ Hs := by
  have len := hF.length
  refine q_forNLn hl (fun q i σ' H' => (σ' = σ ∨ ∃ v, σ' = σ.set j (some v)) ∧ q ≠ p ∧ H' q = some (.lst xs) ∧ Ex (del Hs p) H' ∧ IntsAt H' p (init ++ (l.take i).flatMap f)) (fun q H1 nq e1 hq => ?_) (fun q i σ' H' _ ⟨_, _, z, _⟩ => SqL.of z) (fun q i x σ' H' hi ⟨hs, nq, zq, e, hq⟩ => ?_) (fun q σ' H' ⟨hs, _, _, e, hq⟩ => ?_)
  · refine ⟨Or.inl rfl, (ne_of_none hp nq).symm, hq, (del_ex Hs p).trans e1, ?_⟩
    show H1 p = some (.lst ((init ++ []).map V.int))
    rw [List.append_nil]
    exact e1 _ _ hp
  · obtain ⟨d, hd1, hf⟩ := paired_get hF hi
    have es : σ'.set j (some x) = σ.set j (some x) := by
      rcases hs with rfl | ⟨v, rfl⟩
      · rfl
      · rw [List.set_set]
    show tDrop (tBM K "list" rExtend (tVar i0) (tCons te tNil)) _ (σ'.set j (some x)) H'
    rw [es]
    have b1 := flat_le f l (i + 1)
    rw [flat_snoc f hd1, List.length_append] at b1
    refine s_ext (xs := (init ++ (l.take i).flatMap f).map V.int) (ys := (f d).map V.int) hq (ev_var (by rw [List.getElem?_set_ne (Ne.symm hij)]; exact hσ)) (he H' x d (List.mem_of_getElem? hd1) hf e) ?_ fun H1 e1 => ?_
    · rw [List.length_map, List.length_map, List.length_append]
      exact sz_of (by omega)
    · refine ⟨Or.inr ⟨_, rfl⟩, nq, ?_, del_up (e.trans e1), ?_⟩
      · rw [upd_ne nq]
        exact e1 _ _ zq
      · show upd H1 p _ p = _
        rw [upd_same, flat_snoc f hd1, ← List.map_append, List.append_assoc]
  · rw [len, List.take_length] at hq
    exact hd σ' H' hs e hq
end

end LW

set_option maxRecDepth 100000
set_option maxHeartbeats 4000000

/-! Part W4 -/
namespace LW
open PySem PySem.Spec PyProof.Rows L2 LL
open Evl (Ex Ev EvT EvL EvU EvA EvO fresh_back ex_l ex_t ev_var ev_c s_ret s_retL s_retU q_asg q_asgL q_asgU s_asg s_asgL q_when s_when s_if q_if et_and et_or et_not ea_nil ea_cons el_lst eu_tup ev_if eo_none eo_some el_sl sq_of st_of sz_of s_app s_appL q_app q_appL s_drop q_drop s_forL q_forL q_forLn s_forLn q_while s_while q_forR1 q_forR2 q_forNL q_forNLn q_setL s_setL q_cut)
open VaaclBase (Values Move Test Branch Loop valueAt given moved holds allHold chosen branchAt okTest)


def sp_Test_init (A : Ad) : Sp := SpI A.cTest ["kind", "counter", "one", "other"]
theorem sc_Test_init : FnScope ["self", "kind", "counter", "one", "other"] ["self", "kind", "counter", "one", "other"] (defScope s_Test_init) := ⟨rfl, rfl, rfl, by decide +kernel, rfl, by decide +kernel, by decide +kernel⟩
theorem b_Test_init {K : PySem.W.Frag} {f : Addr} {fd : FuncData} (F : Fun K "__init__" "Test.__init__" s_Test_init f fd) : Binds K fd ["self", "kind", "counter", "one", "other"] [] := F.binds fun _ _ _ _ _ _ us hl => match us, hl with | [_, _, _, _, _], _ => rfl
theorem ok_Test_init {P : Program} {w : World} {K : PySem.W.Frag} {mg : Str → Option Value} {base : Heap} {A : Ad} (T : Txt K mg A) : MkG P w K mg base CX0 1 A.cTest "Test" ["self", "kind", "counter", "one", "other"] (sp_Test_init A) := by
  obtain ⟨f, fd, hm, M, F⟩ := T.d_Test_init
  refine ⟨f, fd, hm, M, F.ok sc_Test_init (fun vs H Q E h => ?_) (fun cdv A1 outer s H vs Q E hr h => ⟨_, (pss_cons (ps_fld (pv 0) (pv 1) rfl)
      (pss_cons (ps_fld (pv 0) (pv 2) rfl)
      (pss_cons (ps_fld (pv 0) (pv 3) rfl)
      (pss_one (ps_fld (pv 0) (pv 4) rfl))))), ?_⟩), b_Test_init F⟩
  · obtain ⟨x, dx, args, rfl, hl, _⟩ := h
    exact congrArg Nat.succ hl
  · obtain ⟨x, dx, args, rfl, hl, hx, k⟩ := h
    obtain ⟨a, b, c, d, rfl⟩ : ∃ a b c d, args = [a, b, c, d] := by
      match args, hl with
      | [a, b, c, d], _ => exact ⟨a, b, c, d, rfl⟩
    refine ⟨_, rfl, _, rfl, x, A.cTest, dx, [], rfl, hx, T.cls_Test, T.na_Test_kind, (by show 0 < 1000; decide), ?_⟩
    refine ⟨_, rfl, _, rfl, x, A.cTest, dx, _, rfl, upd_same, T.cls_Test, T.na_Test_counter, (by show 1 < 1000; decide), ?_⟩
    refine ⟨_, rfl, _, rfl, x, A.cTest, dx, _, rfl, upd_same, T.cls_Test, T.na_Test_one, (by show 2 < 1000; decide), ?_⟩
    refine ⟨_, rfl, _, rfl, x, A.cTest, dx, _, rfl, upd_same, T.cls_Test, T.na_Test_other, (by show 3 < 1000; decide), ?_⟩
    refine k _ (fun b o hb e => ?_) ?_
    · rw [upd_ne hb, upd_ne hb, upd_ne hb, upd_ne hb]
      exact e
    · exact upd_same

theorem tX_lt {n : Nat} {t : Test} (ok : okTest n t = true) : ∃ x : Nat, tX t = (x : Int) ∧ x < n := by
  cases t with
  | atMost x c => exact ⟨x, rfl, of_decide_eq_true (Bool.and_eq_true_iff.mp ok).1⟩
  | atLeast x c => exact ⟨x, rfl, of_decide_eq_true (Bool.and_eq_true_iff.mp ok).1⟩
  | below x y c => exact ⟨x, rfl, of_decide_eq_true (Bool.and_eq_true_iff.mp ok).1⟩
  | rem x m r => exact ⟨x, rfl, of_decide_eq_true (Bool.and_eq_true_iff.mp ok).1⟩
def sp_Test_excess (A : Ad) : Sp := SpP (fun ((t, s, a, p, n) : Test × Values × Addr × Addr × Nat) => [.ref a, .ref p]) (fun (t, s, a, p, n) H => TestAt A H a t ∧ TupAt H p s ∧ okTest n t = true ∧ s.length = n) (fun (t, s, a, p, n) v _ => v = .int (excess s t))
theorem sc_Test_excess : FnScope ["self", "amounts", "value"] ["self", "amounts"] (defScope s_Test_excess) := ⟨rfl, rfl, rfl, by decide +kernel, rfl, by decide +kernel, by decide +kernel⟩
theorem b_Test_excess {K : PySem.W.Frag} {f : Addr} {fd : FuncData} (F : Fun K "excess" "Test.excess" s_Test_excess f fd) : Binds K fd ["self", "amounts"] [] := F.binds fun _ _ _ _ _ _ us hl => match us, hl with | [_, _], _ => rfl
theorem ok_Test_excess {P : Program} {w : World} {K : PySem.W.Frag} {mg : Str → Option Value} {base : Heap} {A : Ad} (T : Txt K mg A) : MtG P w K mg base CX0 1 A.cTest "excess" ["self", "amounts"] (sp_Test_excess A) := by
  obtain ⟨f, fd, hc, hm, F⟩ := T.d_Test_excess
  refine ⟨f, fd, hc, hm, F.ok sc_Test_excess (fun vs H Q E h => ?_) (fun cdv A1 outer s H vs Q E hr h => ⟨_, (pss_cons (ps_set (i := 2) sc_Test_excess.nd rfl (Or.inl rfl) (pe_ix ix_tup (pv 1) (pe_fld (pv 0) rfl) (fun _ _ => rfl)))
      (pss_cons (ps_if (pt_cmpR op_eq (pe_fld (pv 0) rfl) (pe_gi T.i_AT_MOST rfl) (nomark _)) (pss_one (ps_ret (pe_op op_sub (pv 2) (pe_fld (pv 0) rfl)))) pss_nil)
      (pss_cons (ps_if (pt_cmpR op_eq (pe_fld (pv 0) rfl) (pe_gi T.i_AT_LEAST rfl) (nomark _)) (pss_one (ps_ret (pe_op op_sub (pe_fld (pv 0) rfl) (pv 2)))) pss_nil)
      (pss_cons (ps_if (pt_cmpR op_eq (pe_fld (pv 0) rfl) (pe_gi T.i_BELOW rfl) (nomark _)) (pss_one (ps_ret (pe_op op_sub (pe_op op_sub (pv 2) (pe_ix ix_tup (pv 1) (pe_fld (pv 0) rfl) (fun _ _ => rfl))) (pe_fld (pv 0) rfl)))) pss_nil)
      (pss_one (ps_ret (pe_callTy call_int1 (by rfl) T.n_int (by decide +kernel) (by exact (pa_cons (pe_cmpR op_ne (pe_op op_modN (pv 2) (pe_fld (pv 0) rfl)) (pe_fld (pv 0) rfl) (nomark _)) pa_nil))))))))), ?_⟩), b_Test_excess F⟩
  · obtain ⟨⟨t, s, a, p, n⟩, rfl, _⟩ := h
    rfl
  · obtain ⟨⟨t, s, a, p, n⟩, rfl, ⟨⟨dx, ht⟩, hp, ok, hl⟩, k⟩ := h
    have hF : ∀ {H1 : Hp} {σ : L2.St} {i : Nat} {f : Str} {v : V}, Ex H H1 → σ[i]? = some (some (.ref a)) → NoAttr K A.cTest f → (fT t).lookup f = some v → Ev (tFld K (tVar i) f) σ H1 v := fun e h1 h2 h3 => ev_fld (ev_var h1) (e _ _ ht) T.cls_Test h2 h3
    obtain ⟨x, ex, hx⟩ := tX_lt ok
    refine q_asg (ev_ixT (ev_var rfl) (ev_is (hF (Ex.refl H) rfl T.na_Test_counter (fT_counter t)) (congrArg V.int ex)) (SqT.of hp) (at_va (by omega))) fun H1 e1 => ?_
    refine q_when (et_v (ev_eq (hF e1 rfl T.na_Test_kind (fT_kind t)) ev_c)) (fun hb H2 e2 => ?_) fun hb0 H2 e2 => ?_
    · refine s_ret (ev_i0 (ev_var rfl) (hF (e1.trans e2) rfl T.na_Test_one (fT_one t))) fun H3 e3 => k _ _ ((e1.trans e2).trans e3) ?_
      have hb := of_decide_eq_true hb
      cases t with
      | atMost y c =>
        have ex : (y : Int) = (x : Int) := ex
        have ex : y = x := by omega
        subst ex
        rfl
      | _ => simp [tK] at hb
    refine q_when (et_v (ev_eq (hF (e1.trans e2) rfl T.na_Test_kind (fT_kind t)) ev_c)) (fun hb H3 e3 => ?_) fun hb1 H3 e3 => ?_
    · refine s_ret (ev_i0 (hF ((e1.trans e2).trans e3) rfl T.na_Test_one (fT_one t)) (ev_var rfl)) fun H4 e4 => k _ _ (((e1.trans e2).trans e3).trans e4) ?_
      have hb := of_decide_eq_true hb
      cases t with
      | atLeast y c =>
        have ex : (y : Int) = (x : Int) := ex
        have ex : y = x := by omega
        subst ex
        rfl
      | _ => simp [tK] at hb
    have E3 := (e1.trans e2).trans e3
    refine q_when (et_v (ev_eq (hF E3 rfl T.na_Test_kind (fT_kind t)) ev_c)) (fun hb H4 e4 => ?_) fun hb2 H4 e4 => ?_
    · have hb := of_decide_eq_true hb
      cases t with
      | below y z c =>
        have ex : (y : Int) = (x : Int) := ex
        have ex : y = x := by omega
        subst ex
        have hz : z < n := of_decide_eq_true (Bool.and_eq_true_iff.mp (Bool.and_eq_true_iff.mp ok).2).1
        refine s_ret (ev_i0 (ev_i0 (ev_var rfl) (ev_ixT (ev_var rfl) (hF (E3.trans e4) rfl T.na_Test_one (fT_one _)) (SqT.of ((E3.trans e4) _ _ hp)) (at_va (i := z) (by omega)))) (hF (E3.trans e4) rfl T.na_Test_other (fT_other _))) fun H5 e5 => k _ _ ((E3.trans e4).trans e5) ?_
        rfl
      | _ => simp [tK] at hb
    · cases t with
      | rem y m r =>
        have ex : (y : Int) = (x : Int) := ex
        have ex : y = x := by omega
        subst ex
        have hm : 0 < m := by
          have := of_decide_eq_true (Bool.and_eq_true_iff.mp (Bool.and_eq_true_iff.mp ok).2).2
          omega
        refine s_ret (v := .int (excess s (.rem y m r))) (Evl.ev_cb (ea_cons (ev_ne (ev_iC (ev_var rfl) (hF (E3.trans e4) rfl T.na_Test_one (fT_one _)) (by show (m : Int) ≠ 0; omega)) (hF (E3.trans e4) rfl T.na_Test_other (fT_other _))) ea_nil) (fun H5 e5 Q q => Or.inr ⟨_, rfl, ?_⟩)) fun H5 e5 => k _ _ ((E3.trans e4).trans e5) rfl
        have em : (valueAt s y).fmod (m : Int) = valueAt s y % (m : Int) := Int.fmod_eq_emod_of_nonneg _ (by omega)
        have e : (if (!decide ((valueAt s y).fmod (tA (.rem y m r)) = tB (.rem y m r))) = true then (1 : Int) else 0) = excess s (.rem y m r) := by
          show (if (!decide ((valueAt s y).fmod (m : Int) = (r : Int))) = true then (1 : Int) else 0) = (if valueAt s y % (m : Int) = (r : Int) then 0 else 1)
          rw [em]
          by_cases c : valueAt s y % (m : Int) = (r : Int)
          · rw [if_pos c, decide_eq_true c]; rfl
          · rw [if_neg c, decide_eq_false c]; rfl
        show Q (.int (if (!decide ((valueAt s y).fmod (tA (.rem y m r)) = tB (.rem y m r))) = true then (1 : Int) else 0)) H5
        rw [e]
        exact q H5 (Ex.refl H5)
      | _ => first | exact absurd rfl (of_decide_eq_false hb0) | exact absurd rfl (of_decide_eq_false hb1) | exact absurd rfl (of_decide_eq_false hb2)
section
variable {K : PySem.W.Frag} {A : Ad} {σ : L2.St} {H : Hp} {to tp : TE} {E : XK} {a p : Addr} {t : Test} {s : Values} {n : Nat}
theorem ev_Test_excess (ho : Ev to σ H (.ref a)) (hp : Ev tp σ H (.ref p)) (h1 : TestAt A H a t) (h2 : TupAt H p s) (h3 : okTest n t = true) (h4 : s.length = n) : Ev (tMeth A.cTest "excess" (sp_Test_excess A) [] E to (tCons tp tNil)) σ H (.int (excess s t)) := by
  obtain ⟨dx, hH⟩ := id h1
  exact (ep_meth ho hH rfl (ea_cons hp ea_nil) (t, s, a, p, n) rfl fun H1 e => ⟨h1.mono e, e _ _ h2, h3, h4⟩).toEv
end

def sp_Test_lack (A : Ad) : Sp := SpP (fun ((t, s, a, p, n) : Test × Values × Addr × Addr × Nat) => [.ref a, .ref p]) (fun (t, s, a, p, n) H => TestAt A H a t ∧ TupAt H p s ∧ okTest n t = true ∧ s.length = n) (fun (t, s, a, p, n) v _ => v = .int (lack s t))
theorem sc_Test_lack : FnScope ["self", "amounts"] ["self", "amounts"] (defScope s_Test_lack) := ⟨rfl, rfl, rfl, by decide +kernel, rfl, by decide +kernel, by decide +kernel⟩
theorem b_Test_lack {K : PySem.W.Frag} {f : Addr} {fd : FuncData} (F : Fun K "lack" "Test.lack" s_Test_lack f fd) : Binds K fd ["self", "amounts"] [] := F.binds fun _ _ _ _ _ _ us hl => match us, hl with | [_, _], _ => rfl
theorem ok_Test_lack {P : Program} {w : World} {K : PySem.W.Frag} {mg : Str → Option Value} {base : Heap} {A : Ad} (T : Txt K mg A) : MtG P w K mg base CX0 2 A.cTest "lack" ["self", "amounts"] (sp_Test_lack A) := by
  obtain ⟨f, fd, hc, hm, F⟩ := T.d_Test_lack
  refine ⟨f, fd, hc, hm, F.ok sc_Test_lack (fun vs H Q E h => ?_) (fun cdv A1 outer s H vs Q E hr h => ⟨_, (pss_one (ps_ret (pe_op op_sub pe_int (pe_methG (ok_Test_excess T) (hr.mono (by decide)) pass0 (pv 0) (by exact (pa_cons (pv 1) pa_nil)))))), ?_⟩), b_Test_lack F⟩
  · obtain ⟨⟨t, s, a, p, n⟩, rfl, _⟩ := h
    rfl
  · obtain ⟨⟨t, s, a, p, n⟩, rfl, ⟨ht, hp, ok, hl⟩, k⟩ := h
    exact s_ret (ev_i0 ev_c (ev_Test_excess (ev_var rfl) (ev_var rfl) ht hp ok hl)) fun H1 e1 => k _ _ e1 rfl
section
variable {K : PySem.W.Frag} {A : Ad} {σ : L2.St} {H : Hp} {to tp : TE} {E : XK} {a p : Addr} {t : Test} {s : Values} {n : Nat}
theorem ev_Test_lack (ho : Ev to σ H (.ref a)) (hp : Ev tp σ H (.ref p)) (h1 : TestAt A H a t) (h2 : TupAt H p s) (h3 : okTest n t = true) (h4 : s.length = n) : Ev (tMeth A.cTest "lack" (sp_Test_lack A) [] E to (tCons tp tNil)) σ H (.int (lack s t)) := by
  obtain ⟨dx, hH⟩ := id h1
  exact (ep_meth ho hH rfl (ea_cons hp ea_nil) (t, s, a, p, n) rfl fun H1 e => ⟨h1.mono e, e _ _ h2, h3, h4⟩).toEv
end
def sp_Test_holds (A : Ad) : Sp := SpP (fun ((t, s, a, p, n) : Test × Values × Addr × Addr × Nat) => [.ref a, .ref p]) (fun (t, s, a, p, n) H => TestAt A H a t ∧ TupAt H p s ∧ okTest n t = true ∧ s.length = n) (fun (t, s, a, p, n) v _ => v = .bl (holds s t))
theorem sc_Test_holds : FnScope ["self", "amounts"] ["self", "amounts"] (defScope s_Test_holds) := ⟨rfl, rfl, rfl, by decide +kernel, rfl, by decide +kernel, by decide +kernel⟩
theorem b_Test_holds {K : PySem.W.Frag} {f : Addr} {fd : FuncData} (F : Fun K "holds" "Test.holds" s_Test_holds f fd) : Binds K fd ["self", "amounts"] [] := F.binds fun _ _ _ _ _ _ us hl => match us, hl with | [_, _], _ => rfl
theorem ok_Test_holds {P : Program} {w : World} {K : PySem.W.Frag} {mg : Str → Option Value} {base : Heap} {A : Ad} (T : Txt K mg A) : MtG P w K mg base CX0 2 A.cTest "holds" ["self", "amounts"] (sp_Test_holds A) := by
  obtain ⟨f, fd, hc, hm, F⟩ := T.d_Test_holds
  refine ⟨f, fd, hc, hm, F.ok sc_Test_holds (fun vs H Q E h => ?_) (fun cdv A1 outer s H vs Q E hr h => ⟨_, (pss_one (ps_ret (pe_cmpR op_le (pe_methG (ok_Test_excess T) (hr.mono (by decide)) pass0 (pv 0) (by exact (pa_cons (pv 1) pa_nil))) pe_int (nomark _)))), ?_⟩), b_Test_holds F⟩
  · obtain ⟨⟨t, s, a, p, n⟩, rfl, _⟩ := h
    rfl
  · obtain ⟨⟨t, s, a, p, n⟩, rfl, ⟨ht, hp, ok, hl⟩, k⟩ := h
    refine s_ret (ev_i0 (ev_Test_excess (ev_var rfl) (ev_var rfl) ht hp ok hl) ev_c) fun H1 e1 => k _ _ e1 ?_
    exact congrArg V.bl (excess_holds s t)
section
variable {K : PySem.W.Frag} {A : Ad} {σ : L2.St} {H : Hp} {to tp : TE} {E : XK} {a p : Addr} {t : Test} {s : Values} {n : Nat}
theorem ev_Test_holds (ho : Ev to σ H (.ref a)) (hp : Ev tp σ H (.ref p)) (h1 : TestAt A H a t) (h2 : TupAt H p s) (h3 : okTest n t = true) (h4 : s.length = n) : Ev (tMeth A.cTest "holds" (sp_Test_holds A) [] E to (tCons tp tNil)) σ H (.bl (holds s t)) := by
  obtain ⟨dx, hH⟩ := id h1
  exact (ep_meth ho hH rfl (ea_cons hp ea_nil) (t, s, a, p, n) rfl fun H1 e => ⟨h1.mono e, e _ _ h2, h3, h4⟩).toEv
end
def sp_Test_told (A : Ad) : Sp := SpP (fun ((t, a) : Test × Addr) => [.ref a]) (fun (t, a) H => TestAt A H a t) (fun (t, a) => IsInts (VaaclBase.flatTest t))
theorem sc_Test_told : FnScope ["self"] ["self"] (defScope s_Test_told) := ⟨rfl, rfl, rfl, by decide +kernel, rfl, by decide +kernel, by decide +kernel⟩
theorem b_Test_told {K : PySem.W.Frag} {f : Addr} {fd : FuncData} (F : Fun K "told" "Test.told" s_Test_told f fd) : Binds K fd ["self"] [] := F.binds fun _ _ _ _ _ _ us hl => match us, hl with | [_], _ => rfl
theorem ok_Test_told {P : Program} {w : World} {K : PySem.W.Frag} {mg : Str → Option Value} {base : Heap} {A : Ad} (T : Txt K mg A) : MtG P w K mg base CX0 1 A.cTest "told" ["self"] (sp_Test_told A) := by
  obtain ⟨f, fd, hc, hm, F⟩ := T.d_Test_told
  refine ⟨f, fd, hc, hm, F.ok sc_Test_told (fun vs H Q E h => ?_) (fun cdv A1 outer s H vs Q E hr h => ⟨_, (pss_cons (ps_if (PW.pt (pw_or (pt_cmpR op_eq (pe_fld (pv 0) rfl) (pe_gi T.i_AT_MOST rfl) (nomark _)) (pw_or1 (pt_cmpR op_eq (pe_fld (pv 0) rfl) (pe_gi T.i_AT_LEAST rfl) (nomark _))))) (pss_one (ps_ret (pe_lst (by exact (pa_cons (pe_fld (pv 0) rfl) (pa_cons (pe_fld (pv 0) rfl) (pa_cons (pe_fld (pv 0) rfl) pa_nil))))))) pss_nil)
      (pss_one (ps_ret (pe_lst (by exact (pa_cons (pe_fld (pv 0) rfl) (pa_cons (pe_fld (pv 0) rfl) (pa_cons (pe_fld (pv 0) rfl) (pa_cons (pe_fld (pv 0) rfl) pa_nil))))))))), ?_⟩), b_Test_told F⟩
  · obtain ⟨⟨t, a⟩, rfl, _⟩ := h
    rfl
  · obtain ⟨⟨t, a⟩, rfl, ⟨dx, ht⟩, k⟩ := h
    have hF : ∀ {H1 : Hp} {σ : L2.St} {i : Nat} {f : Str} {v : V}, Ex H H1 → σ[i]? = some (some (.ref a)) → NoAttr K A.cTest f → (fT t).lookup f = some v → Ev (tFld K (tVar i) f) σ H1 v := fun e h1 h2 h3 => ev_fld (ev_var h1) (e _ _ ht) T.cls_Test h2 h3
    refine q_when (et_or (et_v (ev_eq (hF (Ex.refl H) rfl T.na_Test_kind (fT_kind t)) ev_c)) fun _ => et_v (ev_eq (hF (Ex.refl H) rfl T.na_Test_kind (fT_kind t)) ev_c)) (fun hb H1 e1 => ?_) fun hb H1 e1 => ?_
    · refine s_retL (el_lst (ea_cons (hF e1 rfl T.na_Test_kind (fT_kind t)) (ea_cons (hF e1 rfl T.na_Test_counter (fT_counter t)) (ea_cons (hF e1 rfl T.na_Test_one (fT_one t)) ea_nil))) (by show 3 ≤ 100000; decide)) fun p H2 _ e2 hp => k _ _ (e1.trans e2) ⟨p, rfl, ?_⟩
      cases t with
      | atMost x c => exact hp
      | atLeast x c => exact hp
      | _ => simp [tK] at hb
    · refine s_retL (el_lst (ea_cons (hF e1 rfl T.na_Test_kind (fT_kind t)) (ea_cons (hF e1 rfl T.na_Test_counter (fT_counter t)) (ea_cons (hF e1 rfl T.na_Test_one (fT_one t)) (ea_cons (hF e1 rfl T.na_Test_other (fT_other t)) ea_nil)))) (by show 4 ≤ 100000; decide)) fun p H2 _ e2 hp => k _ _ (e1.trans e2) ⟨p, rfl, ?_⟩
      cases t with
      | below x y c => exact hp
      | rem x m r => exact hp
      | _ => simp [tK] at hb

def sp_Gift_init (A : Ad) : Sp := SpI A.cGift ["counter", "number"]
theorem sc_Gift_init : FnScope ["self", "counter", "number"] ["self", "counter", "number"] (defScope s_Gift_init) := ⟨rfl, rfl, rfl, by decide +kernel, rfl, by decide +kernel, by decide +kernel⟩
theorem b_Gift_init {K : PySem.W.Frag} {f : Addr} {fd : FuncData} (F : Fun K "__init__" "Gift.__init__" s_Gift_init f fd) : Binds K fd ["self", "counter", "number"] [] := F.binds fun _ _ _ _ _ _ us hl => match us, hl with | [_, _, _], _ => rfl
theorem ok_Gift_init {P : Program} {w : World} {K : PySem.W.Frag} {mg : Str → Option Value} {base : Heap} {A : Ad} (T : Txt K mg A) : MkG P w K mg base CX0 1 A.cGift "Gift" ["self", "counter", "number"] (sp_Gift_init A) := by
  obtain ⟨f, fd, hm, M, F⟩ := T.d_Gift_init
  refine ⟨f, fd, hm, M, F.ok sc_Gift_init (fun vs H Q E h => ?_) (fun cdv A1 outer s H vs Q E hr h => ⟨_, (pss_cons (ps_fld (pv 0) (pv 1) rfl)
      (pss_one (ps_fld (pv 0) (pv 2) rfl))), ?_⟩), b_Gift_init F⟩
  · obtain ⟨x, dx, args, rfl, hl, _⟩ := h
    exact congrArg Nat.succ hl
  · obtain ⟨x, dx, args, rfl, hl, hx, k⟩ := h
    obtain ⟨a, b, rfl⟩ : ∃ a b, args = [a, b] := by
      match args, hl with
      | [a, b], _ => exact ⟨a, b, rfl⟩
    refine ⟨_, rfl, _, rfl, x, A.cGift, dx, [], rfl, hx, T.cls_Gift, T.na_Gift_counter, (by show 0 < 1000; decide), ?_⟩
    refine ⟨_, rfl, _, rfl, x, A.cGift, dx, _, rfl, upd_same, T.cls_Gift, T.na_Gift_number, (by show 1 < 1000; decide), ?_⟩
    refine k _ (fun b o hb e => ?_) ?_
    · rw [upd_ne hb, upd_ne hb]
      exact e
    · exact upd_same

theorem fG_counter (t : VaaclBase.Given) : (fG t).lookup ("counter" : Str) = some (vO t.source) := by rfl
theorem fG_number (t : VaaclBase.Given) : (fG t).lookup ("number" : Str) = some (.int t.add) := by rfl
def sp_Gift_value (A : Ad) : Sp := SpP (fun ((t, s, a, p, n) : VaaclBase.Given × Values × Addr × Addr × Nat) => [.ref a, .ref p]) (fun (t, s, a, p, n) H => GiftAt A H a t ∧ TupAt H p s ∧ (∀ i, t.source = some i → i < n) ∧ s.length = n) (fun (t, s, a, p, n) v _ => v = .int (given s t))
theorem sc_Gift_value : FnScope ["self", "amounts"] ["self", "amounts"] (defScope s_Gift_value) := ⟨rfl, rfl, rfl, by decide +kernel, rfl, by decide +kernel, by decide +kernel⟩
theorem b_Gift_value {K : PySem.W.Frag} {f : Addr} {fd : FuncData} (F : Fun K "value" "Gift.value" s_Gift_value f fd) : Binds K fd ["self", "amounts"] [] := F.binds fun _ _ _ _ _ _ us hl => match us, hl with | [_, _], _ => rfl
theorem ok_Gift_value {P : Program} {w : World} {K : PySem.W.Frag} {mg : Str → Option Value} {base : Heap} {A : Ad} (T : Txt K mg A) : MtG P w K mg base CX0 1 A.cGift "value" ["self", "amounts"] (sp_Gift_value A) := by
  obtain ⟨f, fd, hc, hm, F⟩ := T.d_Gift_value
  refine ⟨f, fd, hc, hm, F.ok sc_Gift_value (fun vs H Q E h => ?_) (fun cdv A1 outer s H vs Q E hr h => ⟨_, (pss_cons (ps_if (pt_cmpR op_isN (pe_fld (pv 0) rfl) pe_non (nomark _)) (pss_one (ps_ret (pe_fld (pv 0) rfl))) pss_nil)
      (pss_one (ps_ret (pe_op op_add (pe_ix ix_tup (pv 1) (pe_fld (pv 0) rfl) (fun _ _ => rfl)) (pe_fld (pv 0) rfl))))), ?_⟩), b_Gift_value F⟩
  · obtain ⟨⟨t, s, a, p, n⟩, rfl, _⟩ := h
    rfl
  · obtain ⟨⟨t, s, a, p, n⟩, rfl, ⟨⟨dx, ht⟩, hp, ok, hl⟩, k⟩ := h
    have hF : ∀ {H1 : Hp} {σ : L2.St} {i : Nat} {f : Str} {v : V}, Ex H H1 → σ[i]? = some (some (.ref a)) → NoAttr K A.cGift f → (fG t).lookup f = some v → Ev (tFld K (tVar i) f) σ H1 v := fun e h1 h2 h3 => ev_fld (ev_var h1) (e _ _ ht) T.cls_Gift h2 h3
    obtain ⟨so, ad⟩ := t
    cases so with
    | none =>
      refine q_when (et_v (ev_isN (hF (Ex.refl H) rfl T.na_Gift_counter (fG_counter _)))) (fun _ H1 e1 => ?_) fun hb => (by simp [vO] at hb)
      refine s_ret (hF e1 rfl T.na_Gift_number (fG_number _)) fun H2 e2 => k _ _ (e1.trans e2) ?_
      show V.int ad = V.int (0 + ad)
      rw [Int.zero_add]
    | some i =>
      have hi : i < n := ok i rfl
      refine q_when (et_v (ev_isN (hF (Ex.refl H) rfl T.na_Gift_counter (fG_counter _)))) (fun hb => (by simp [vO] at hb)) fun _ H1 e1 => ?_
      exact s_ret (ev_i0 (ev_ixT (ev_var rfl) (hF e1 rfl T.na_Gift_counter (fG_counter _)) (SqT.of (e1 _ _ hp)) (at_va (i := i) (by omega))) (hF e1 rfl T.na_Gift_number (fG_number _))) fun H2 e2 => k _ _ (e1.trans e2) rfl
section
variable {K : PySem.W.Frag} {A : Ad} {σ : L2.St} {H : Hp} {to tp : TE} {E : XK} {a p : Addr} {t : VaaclBase.Given} {s : Values} {n : Nat}
theorem ev_Gift_value (ho : Ev to σ H (.ref a)) (hp : Ev tp σ H (.ref p)) (h1 : GiftAt A H a t) (h2 : TupAt H p s) (h3 : ∀ i, t.source = some i → i < n) (h4 : s.length = n) : Ev (tMeth A.cGift "value" (sp_Gift_value A) [] E to (tCons tp tNil)) σ H (.int (given s t)) := by
  obtain ⟨dx, hH⟩ := id h1
  exact (ep_meth ho hH rfl (ea_cons hp ea_nil) (t, s, a, p, n) rfl fun H1 e => ⟨h1.mono e, e _ _ h2, h3, h4⟩).toEv
end
def sp_Gift_told (A : Ad) : Sp := SpP (fun ((t, a) : VaaclBase.Given × Addr) => [.ref a]) (fun (t, a) H => GiftAt A H a t) (fun (t, a) => IsInts (VaaclBase.flatGiven t))
theorem sc_Gift_told : FnScope ["self"] ["self"] (defScope s_Gift_told) := ⟨rfl, rfl, rfl, by decide +kernel, rfl, by decide +kernel, by decide +kernel⟩
theorem b_Gift_told {K : PySem.W.Frag} {f : Addr} {fd : FuncData} (F : Fun K "told" "Gift.told" s_Gift_told f fd) : Binds K fd ["self"] [] := F.binds fun _ _ _ _ _ _ us hl => match us, hl with | [_], _ => rfl
theorem ok_Gift_told {P : Program} {w : World} {K : PySem.W.Frag} {mg : Str → Option Value} {base : Heap} {A : Ad} (T : Txt K mg A) : MtG P w K mg base CX0 1 A.cGift "told" ["self"] (sp_Gift_told A) := by
  obtain ⟨f, fd, hc, hm, F⟩ := T.d_Gift_told
  refine ⟨f, fd, hc, hm, F.ok sc_Gift_told (fun vs H Q E h => ?_) (fun cdv A1 outer s H vs Q E hr h => ⟨_, (pss_cons (ps_if (pt_cmpR op_isN (pe_fld (pv 0) rfl) pe_non (nomark _)) (pss_one (ps_ret (pe_lst (by exact (pa_cons pe_int (pa_cons (pe_fld (pv 0) rfl) pa_nil)))))) pss_nil)
      (pss_one (ps_ret (pe_lst (by exact (pa_cons pe_int (pa_cons (pe_fld (pv 0) rfl) (pa_cons (pe_fld (pv 0) rfl) pa_nil)))))))), ?_⟩), b_Gift_told F⟩
  · obtain ⟨⟨t, a⟩, rfl, _⟩ := h
    rfl
  · obtain ⟨⟨t, a⟩, rfl, ⟨dx, ht⟩, k⟩ := h
    have hF : ∀ {H1 : Hp} {σ : L2.St} {i : Nat} {f : Str} {v : V}, Ex H H1 → σ[i]? = some (some (.ref a)) → NoAttr K A.cGift f → (fG t).lookup f = some v → Ev (tFld K (tVar i) f) σ H1 v := fun e h1 h2 h3 => ev_fld (ev_var h1) (e _ _ ht) T.cls_Gift h2 h3
    obtain ⟨so, ad⟩ := t
    cases so with
    | none =>
      refine q_when (et_v (ev_isN (hF (Ex.refl H) rfl T.na_Gift_counter (fG_counter _)))) (fun _ H1 e1 => ?_) fun hb => (by simp [vO] at hb)
      exact s_retL (el_lst (ea_cons ev_c (ea_cons (hF e1 rfl T.na_Gift_number (fG_number _)) ea_nil)) (by show 2 ≤ 100000; decide)) fun p H2 _ e2 hp => k _ _ (e1.trans e2) ⟨p, rfl, hp⟩
    | some i =>
      refine q_when (et_v (ev_isN (hF (Ex.refl H) rfl T.na_Gift_counter (fG_counter _)))) (fun hb => (by simp [vO] at hb)) fun _ H1 e1 => ?_
      exact s_retL (el_lst (ea_cons ev_c (ea_cons (hF e1 rfl T.na_Gift_counter (fG_counter _)) (ea_cons (hF e1 rfl T.na_Gift_number (fG_number _)) ea_nil))) (by show 3 ≤ 100000; decide)) fun p H2 _ e2 hp => k _ _ (e1.trans e2) ⟨p, rfl, hp⟩

def sp_Branch_init (A : Ad) : Sp := SpI A.cBranch ["tests", "gifts"]
theorem sc_Branch_init : FnScope ["self", "tests", "gifts"] ["self", "tests", "gifts"] (defScope s_Branch_init) := ⟨rfl, rfl, rfl, by decide +kernel, rfl, by decide +kernel, by decide +kernel⟩
theorem b_Branch_init {K : PySem.W.Frag} {f : Addr} {fd : FuncData} (F : Fun K "__init__" "Branch.__init__" s_Branch_init f fd) : Binds K fd ["self", "tests", "gifts"] [] := F.binds fun _ _ _ _ _ _ us hl => match us, hl with | [_, _, _], _ => rfl
theorem ok_Branch_init {P : Program} {w : World} {K : PySem.W.Frag} {mg : Str → Option Value} {base : Heap} {A : Ad} (T : Txt K mg A) : MkG P w K mg base CX0 1 A.cBranch "Branch" ["self", "tests", "gifts"] (sp_Branch_init A) := by
  obtain ⟨f, fd, hm, M, F⟩ := T.d_Branch_init
  refine ⟨f, fd, hm, M, F.ok sc_Branch_init (fun vs H Q E h => ?_) (fun cdv A1 outer s H vs Q E hr h => ⟨_, (pss_cons (ps_fld (pv 0) (pv 1) rfl)
      (pss_one (ps_fld (pv 0) (pv 2) rfl))), ?_⟩), b_Branch_init F⟩
  · obtain ⟨x, dx, args, rfl, hl, _⟩ := h
    exact congrArg Nat.succ hl
  · obtain ⟨x, dx, args, rfl, hl, hx, k⟩ := h
    obtain ⟨a, b, rfl⟩ : ∃ a b, args = [a, b] := by
      match args, hl with
      | [a, b], _ => exact ⟨a, b, rfl⟩
    refine ⟨_, rfl, _, rfl, x, A.cBranch, dx, [], rfl, hx, T.cls_Branch, T.na_Branch_tests, (by show 0 < 1000; decide), ?_⟩
    refine ⟨_, rfl, _, rfl, x, A.cBranch, dx, _, rfl, upd_same, T.cls_Branch, T.na_Branch_gifts, (by show 1 < 1000; decide), ?_⟩
    refine k _ (fun b o hb e => ?_) ?_
    · rw [upd_ne hb, upd_ne hb]
      exact e
    · exact upd_same

theorem map_map_bl {α : Type} (f : α → Bool) (l : List α) : l.map (fun t => V.bl (f t)) = (l.map f).map V.bl := by rw [List.map_map]; rfl
theorem map_map_int {α : Type} (f : α → Int) (l : List α) : l.map (fun t => V.int (f t)) = (l.map f).map V.int := by rw [List.map_map]; rfl
theorem Evl_is {te : TE} {σ : L2.St} {H : Hp} {xs ys : List V} (h : EvL te σ H xs) (e : xs = ys) : EvL te σ H ys := e ▸ h
def sp_Branch_holds (A : Ad) : Sp := SpP (fun ((b, s, a, p, n) : Branch × Values × Addr × Addr × Nat) => [.ref a, .ref p]) (fun (b, s, a, p, n) H => BranchAt A H a b ∧ TupAt H p s ∧ WfBranch n b ∧ s.length = n) (fun (b, s, a, p, n) v _ => v = .bl (allHold s b.guard))
theorem sc_Branch_holds : FnScope ["self", "amounts", "test"] ["self", "amounts"] (defScope s_Branch_holds) := ⟨rfl, rfl, rfl, by decide +kernel, rfl, by decide +kernel, by decide +kernel⟩
theorem b_Branch_holds {K : PySem.W.Frag} {f : Addr} {fd : FuncData} (F : Fun K "holds" "Branch.holds" s_Branch_holds f fd) : Binds K fd ["self", "amounts"] [] := F.binds fun _ _ _ _ _ _ us hl => match us, hl with | [_, _], _ => rfl
theorem ok_Branch_holds {P : Program} {w : World} {K : PySem.W.Frag} {mg : Str → Option Value} {base : Heap} {A : Ad} (T : Txt K mg A) : MtG P w K mg base CX0 3 A.cBranch "holds" ["self", "amounts"] (sp_Branch_holds A) := by
  obtain ⟨f, fd, hc, hm, F⟩ := T.d_Branch_holds
  refine ⟨f, fd, hc, hm, F.ok sc_Branch_holds (fun vs H Q E h => ?_) (fun cdv A1 outer s H vs Q E hr h => ⟨_, (pss_one (ps_ret (pe_callB (cr_all rfl) (by rfl) T.n_all (by decide +kernel) (by exact (pa_cons (pe_lc (own := [("test", 2)]) (g := gName 2) (tt := tYes) rfl sc_Branch_holds.nd (pi_list (pe_fld (pv 0) rfl)) (blkOk_by (own := [("test", 2)]) (N := ["self", "amounts", "test"]) (sc := defScope s_Branch_holds) (by decide +kernel)) (fun _ _ _ _ _ => (pg_name (i := 2) sc_Branch_holds.nd rfl (Or.inl rfl))) (fun _ _ _ _ _ => pts_nil) (fun _ _ _ _ _ => (pe_methG (ok_Test_holds T) (hr.mono (by decide)) pass0 (pv 2) (by exact (pa_cons (pv 1) pa_nil))))) pa_nil))))), ?_⟩), b_Branch_holds F⟩
  · obtain ⟨⟨b, s, a, p, n⟩, rfl, _⟩ := h
    rfl
  · obtain ⟨⟨b, s, a, p, n⟩, rfl, ⟨⟨dx, pt, pg, ts, gs, hb, h1, h2, h3, h4⟩, hp, wf, hl⟩, k⟩ := h
    have len := h3.length
    have hm := wf.many
    refine s_ret (ev_allL (Evl_is (el_lcV (fun t => V.bl (holds s t)) (ev_fld (ev_var rfl) hb T.cls_Branch T.na_Branch_tests rfl) (SqL.of h1) h3 (by omega) (fun _ => rfl) fun x d hd hx => ?_) (map_map_bl _ _))) fun H1 e1 => k _ _ e1 ?_
    · obtain ⟨q, rfl, hq⟩ := hx
      exact ev_Test_holds (ev_var rfl) (ev_var rfl) hq hp (wf.tests d hd) hl
    · show V.bl ((b.guard.map (holds s)).all id) = V.bl (allHold s b.guard)
      rw [List.all_map]
      rfl
section
variable {K : PySem.W.Frag} {A : Ad} {σ : L2.St} {H : Hp} {to tp : TE} {E : XK} {a p : Addr} {b : Branch} {s : Values} {n : Nat}
theorem ev_Branch_holds (ho : Ev to σ H (.ref a)) (hp : Ev tp σ H (.ref p)) (h1 : BranchAt A H a b) (h2 : TupAt H p s) (h3 : WfBranch n b) (h4 : s.length = n) : Ev (tMeth A.cBranch "holds" (sp_Branch_holds A) [] E to (tCons tp tNil)) σ H (.bl (allHold s b.guard)) := by
  obtain ⟨dx, _, _, _, _, hH, _⟩ := id h1
  exact (ep_meth ho hH rfl (ea_cons hp ea_nil) (b, s, a, p, n) rfl fun H1 e => ⟨h1.mono e, e _ _ h2, h3, h4⟩).toEv
end
def sp_Branch_moved (A : Ad) : Sp := SpP (fun ((b, s, a, p, n) : Branch × Values × Addr × Addr × Nat) => [.ref a, .ref p]) (fun (b, s, a, p, n) H => BranchAt A H a b ∧ TupAt H p s ∧ WfBranch n b ∧ n ≤ 4 ∧ s.length = n) (fun (b, s, a, p, n) => IsTup (moved b.move s))
theorem sc_Branch_moved : FnScope ["self", "amounts", "gift"] ["self", "amounts"] (defScope s_Branch_moved) := ⟨rfl, rfl, rfl, by decide +kernel, rfl, by decide +kernel, by decide +kernel⟩
theorem b_Branch_moved {K : PySem.W.Frag} {f : Addr} {fd : FuncData} (F : Fun K "moved" "Branch.moved" s_Branch_moved f fd) : Binds K fd ["self", "amounts"] [] := F.binds fun _ _ _ _ _ _ us hl => match us, hl with | [_, _], _ => rfl
theorem ok_Branch_moved {P : Program} {w : World} {K : PySem.W.Frag} {mg : Str → Option Value} {base : Heap} {A : Ad} (T : Txt K mg A) : MtG P w K mg base CX0 2 A.cBranch "moved" ["self", "amounts"] (sp_Branch_moved A) := by
  obtain ⟨f, fd, hc, hm, F⟩ := T.d_Branch_moved
  refine ⟨f, fd, hc, hm, F.ok sc_Branch_moved (fun vs H Q E h => ?_) (fun cdv A1 outer s H vs Q E hr h => ⟨_, (pss_one (ps_ret (pe_callTy call_tuple_of (by rfl) T.n_tuple (by decide +kernel) (by exact (pa_cons (pe_lc (own := [("gift", 2)]) (g := gName 2) (tt := tYes) rfl sc_Branch_moved.nd (pi_list (pe_fld (pv 0) rfl)) (blkOk_by (own := [("gift", 2)]) (N := ["self", "amounts", "gift"]) (sc := defScope s_Branch_moved) (by decide +kernel)) (fun _ _ _ _ _ => (pg_name (i := 2) sc_Branch_moved.nd rfl (Or.inl rfl))) (fun _ _ _ _ _ => pts_nil) (fun _ _ _ _ _ => (pe_methG (ok_Gift_value T) (hr.mono (by decide)) pass0 (pv 2) (by exact (pa_cons (pv 1) pa_nil))))) pa_nil))))), ?_⟩), b_Branch_moved F⟩
  · obtain ⟨⟨b, s, a, p, n⟩, rfl, _⟩ := h
    rfl
  · obtain ⟨⟨b, s, a, p, n⟩, rfl, ⟨⟨dx, pt, pg, ts, gs, hb, h1, h2, h3, h4⟩, hp, wf, hn, hl⟩, k⟩ := h
    have len := h4.length
    have hm := wf.len
    refine s_retU (eu_tupleL (Evl_is (el_lcV (fun t => V.int (given s t)) (ev_fld (ev_var rfl) hb T.cls_Branch T.na_Branch_gifts rfl) (SqL.of h2) h4 (by omega) (fun _ => rfl) fun x d hd hx => ?_) (map_map_int _ _))) fun q H1 _ e1 hq => k _ _ e1 ⟨q, rfl, hq⟩
    obtain ⟨q, rfl, hq⟩ := hx
    exact ev_Gift_value (ev_var rfl) (ev_var rfl) hq hp (wf.gifts d hd).src hl
section
variable {K : PySem.W.Frag} {A : Ad} {σ : L2.St} {H : Hp} {to tp : TE} {E : XK} {a p : Addr} {b : Branch} {s : Values} {n : Nat}
theorem ep_Branch_moved (ho : Ev to σ H (.ref a)) (hp : Ev tp σ H (.ref p)) (h1 : BranchAt A H a b) (h2 : TupAt H p s) (h3 : WfBranch n b) (hn : n ≤ 4) (h4 : s.length = n) : EvP (tMeth A.cBranch "moved" (sp_Branch_moved A) [] E to (tCons tp tNil)) σ H (IsTup (moved b.move s)) := by
  obtain ⟨dx, _, _, _, _, hH, _⟩ := id h1
  exact ep_meth ho hH rfl (ea_cons hp ea_nil) (b, s, a, p, n) rfl fun H1 e => ⟨h1.mono e, e _ _ h2, h3, hn, h4⟩
end
def TGV (A : Ad) (H : Hp) (v : V) : Sum Test VaaclBase.Given → Prop
  | .inl t => TestV A H v t
  | .inr g => GiftV A H v g
def flatTG : Sum Test VaaclBase.Given → List Int
  | .inl t => VaaclBase.flatTest t
  | .inr g => VaaclBase.flatGiven g
theorem paired_map2 {α β γ : Type} {F : α → β → Prop} {G : α → γ → Prop} {f : β → γ} (h : ∀ a b, F a b → G a (f b)) : ∀ {xs : List α} {l : List β}, Paired F xs l → Paired G xs (l.map f)
  | _, _, .nil => .nil
  | _, _, .cons r t => .cons (h _ _ r) (paired_map2 h t)
theorem flatBranch_is (b : Branch) : VaaclBase.flatBranch b = [(b.guard.length : Int)] ++ (b.guard.map Sum.inl ++ b.move.map Sum.inr).flatMap flatTG := by
  rw [List.flatMap_append, List.flatMap_map, List.flatMap_map]
  rfl
theorem flatMap_le {α : Type} (f : α → List Int) (c : Nat) : ∀ (l : List α), (∀ x ∈ l, (f x).length ≤ c) → (l.flatMap f).length ≤ c * l.length
  | [], _ => Nat.zero_le _
  | x :: r, h => by
    rw [List.flatMap_cons, List.length_append, List.length_cons, Nat.mul_succ]
    have h1 := h x List.mem_cons_self
    have h2 := flatMap_le f c r fun y hy => h y (List.mem_cons_of_mem _ hy)
    omega
theorem flatTG_le (d : Sum Test VaaclBase.Given) : (flatTG d).length ≤ 4 := by
  cases d with
  | inl t => cases t <;> (first | (show 3 ≤ 4; decide) | (show 4 ≤ 4; decide) | (show 2 ≤ 4; decide))
  | inr g =>
    obtain ⟨s, a⟩ := g
    cases s <;> (first | (show 3 ≤ 4; decide) | (show 4 ≤ 4; decide) | (show 2 ≤ 4; decide))
theorem told_small {b : Branch} (hg : b.guard.length ≤ 3) (hm : b.move.length ≤ 4) : ([(b.guard.length : Int)] : List Int).length + ((b.guard.map Sum.inl ++ b.move.map Sum.inr).flatMap flatTG).length ≤ 100000 := by
  have := flatMap_le flatTG 4 (b.guard.map Sum.inl ++ b.move.map Sum.inr) fun x _ => flatTG_le x
  rw [List.length_append, List.length_map, List.length_map] at this
  show 1 + _ ≤ _
  omega
theorem flatBranch_le {b : Branch} (hg : b.guard.length ≤ 3) (hm : b.move.length ≤ 4) : (VaaclBase.flatBranch b).length ≤ 29 := by
  have := flatMap_le flatTG 4 (b.guard.map Sum.inl ++ b.move.map Sum.inr) fun x _ => flatTG_le x
  rw [List.length_append, List.length_map, List.length_map] at this
  rw [flatBranch_is, List.length_append]
  show 1 + _ ≤ _
  omega
def sp_Branch_told (A : Ad) : Sp := SpP (fun ((b, a) : Branch × Addr) => [.ref a]) (fun (b, a) H => BranchAt A H a b ∧ b.guard.length ≤ 3 ∧ b.move.length ≤ 4) (fun (b, a) => IsInts (VaaclBase.flatBranch b))
theorem sc_Branch_told : FnScope ["self", "found", "one"] ["self"] (defScope s_Branch_told) := ⟨rfl, rfl, rfl, by decide +kernel, rfl, by decide +kernel, by decide +kernel⟩
theorem b_Branch_told {K : PySem.W.Frag} {f : Addr} {fd : FuncData} (F : Fun K "told" "Branch.told" s_Branch_told f fd) : Binds K fd ["self"] [] := F.binds fun _ _ _ _ _ _ us hl => match us, hl with | [_], _ => rfl
theorem ok_Branch_told {P : Program} {w : World} {K : PySem.W.Frag} {mg : Str → Option Value} {base : Heap} {A : Ad} (T : Txt K mg A) : MtG P w K mg base CX0 2 A.cBranch "told" ["self"] (sp_Branch_told A) := by
  obtain ⟨f, fd, hc, hm, F⟩ := T.d_Branch_told
  refine ⟨f, fd, hc, hm, F.ok sc_Branch_told (fun vs H Q E h => ?_) (fun cdv A1 outer s H vs Q E hr h => ⟨_, (pss_cons (ps_set (i := 1) sc_Branch_told.nd rfl (Or.inl rfl) (pe_lst (by exact (pa_cons (pe_callB call_len_seq (by rfl) T.n_len PySem.boot_len (by exact (pa_cons (pe_fld (pv 0) rfl) pa_nil))) pa_nil))))
      (pss_cons (ps_for PassesOwn.never rfl (pi_list (pe_op op_cat (pe_fld (pv 0) rfl) (pe_fld (pv 0) rfl))) (pg_name (i := 2) sc_Branch_told.nd rfl (Or.inl rfl))
        (pss_one (ps_expr (pe_bm PySem.F.plainAttrs_list PySem.F.slot_list_extend PySem.F.type_list_extend mt_extend (pv 1) (by exact (pa_cons (pe_either (pe_methG0 (ok_Test_told T) (hr.mono (by decide)) pass0 (pv 2)) (pe_methG0 (ok_Gift_told T) (hr.mono (by decide)) pass0 (pv 2))) pa_nil))))))
      (pss_one (ps_ret (pv 1))))), ?_⟩), b_Branch_told F⟩
  · obtain ⟨⟨b, a⟩, rfl, _⟩ := h
    rfl
  · obtain ⟨⟨b, a⟩, rfl, ⟨⟨dx, pt, pg, ts, gs, hb, h1, h2, h3, h4⟩, hg, hm⟩, k⟩ := h
    have l3 := h3.length
    have l4 := h4.length
    have wf : Paired (TGV A H) (ts ++ gs) (b.guard.map Sum.inl ++ b.move.map Sum.inr) := paired_app (paired_map2 (f := Sum.inl) (G := TGV A H) (fun _ _ h => h) h3) (paired_map2 (f := Sum.inr) (G := TGV A H) (fun _ _ h => h) h4)
    refine q_asgL (el_lst (ea_cons (ev_len (ev_fld (ev_var rfl) hb T.cls_Branch T.na_Branch_tests rfl) (Or.inl (SqL.of h1))) ea_nil) (by show 1 ≤ 100000; decide)) fun p H1 np e1 hp => ?_
    refine q_extN (p := p) (i0 := 1) (j := 2) (f := flatTG) (init := [(b.guard.length : Int)]) (F := TGV A H) (el_cat (ev_fld (ev_var rfl) (e1 _ _ hb) T.cls_Branch T.na_Branch_tests rfl) (ev_fld (ev_var rfl) (e1 _ _ hb) T.cls_Branch T.na_Branch_gifts rfl) (e1 _ _ h1) (e1 _ _ h2) (by omega)) wf rfl (by decide) ?_ ?_ (fun H3 x d _ hx e3 => ?_) fun σ' H3 hs e3 hr => ?_
    · show H1 p = some (.lst [.int (b.guard.length : Int)])
      rw [hp, l3]
    · exact told_small hg hm
    · have e : Ex H H3 := (ex_del e1 np).trans e3
      cases d with
      | inl t =>
        obtain ⟨c, rfl, hc⟩ := hx
        have hc := hc.mono e
        obtain ⟨dc, hcc⟩ := id hc
        intro H4 e4 Q' q'
        exact Or.inl ((ep_meth (ev_var rfl) hcc rfl ea_nil (t, c) rfl fun H1 e => hc.mono e) H4 e4 Q' q')
      | inr t =>
        obtain ⟨c, rfl, hc⟩ := hx
        have hc := hc.mono e
        obtain ⟨dc, hcc⟩ := id hc
        intro H4 e4 Q' q'
        exact Or.inr ((ep_meth (ev_var rfl) hcc rfl ea_nil (t, c) rfl fun H1 e => hc.mono e) H4 e4 Q' q')
    · have e : Ex H H3 := (ex_del e1 np).trans e3
      have fin : IsInts (VaaclBase.flatBranch b) (.ref p) H3 := ⟨p, rfl, by
        rw [flatBranch_is]
        exact hr⟩
      rcases hs with rfl | ⟨v, rfl⟩
      · exact s_ret (ev_var rfl) fun H4 e4 => k _ _ (e.trans e4) (IsInts.mono _ _ e4 fin)
      · exact s_ret (ev_var rfl) fun H4 e4 => k _ _ (e.trans e4) (IsInts.mono _ _ e4 fin)
section
variable {K : PySem.W.Frag} {A : Ad} {σ : L2.St} {H : Hp} {to : TE} {E : XK} {a : Addr} {b : Branch}
theorem ep_Branch_told (ho : Ev to σ H (.ref a)) (h1 : BranchAt A H a b) (h2 : b.guard.length ≤ 3) (h3 : b.move.length ≤ 4) : EvP (tMeth A.cBranch "told" (sp_Branch_told A) [] E to tNil) σ H (IsInts (VaaclBase.flatBranch b)) := by
  obtain ⟨dx, _, _, _, _, hH, _⟩ := id h1
  exact ep_meth ho hH rfl ea_nil (b, a) rfl fun H1 e => ⟨h1.mono e, h2, h3⟩
end

def sp_Loop_init (A : Ad) : Sp := SpI A.cLoop ["counters", "branches"]
theorem sc_Loop_init : FnScope ["self", "counters", "branches"] ["self", "counters", "branches"] (defScope s_Loop_init) := ⟨rfl, rfl, rfl, by decide +kernel, rfl, by decide +kernel, by decide +kernel⟩
theorem b_Loop_init {K : PySem.W.Frag} {f : Addr} {fd : FuncData} (F : Fun K "__init__" "Loop.__init__" s_Loop_init f fd) : Binds K fd ["self", "counters", "branches"] [] := F.binds fun _ _ _ _ _ _ us hl => match us, hl with | [_, _, _], _ => rfl
theorem ok_Loop_init {P : Program} {w : World} {K : PySem.W.Frag} {mg : Str → Option Value} {base : Heap} {A : Ad} (T : Txt K mg A) : MkG P w K mg base CX0 1 A.cLoop "Loop" ["self", "counters", "branches"] (sp_Loop_init A) := by
  obtain ⟨f, fd, hm, M, F⟩ := T.d_Loop_init
  refine ⟨f, fd, hm, M, F.ok sc_Loop_init (fun vs H Q E h => ?_) (fun cdv A1 outer s H vs Q E hr h => ⟨_, (pss_cons (ps_fld (pv 0) (pv 1) rfl)
      (pss_one (ps_fld (pv 0) (pv 2) rfl))), ?_⟩), b_Loop_init F⟩
  · obtain ⟨x, dx, args, rfl, hl, _⟩ := h
    exact congrArg Nat.succ hl
  · obtain ⟨x, dx, args, rfl, hl, hx, k⟩ := h
    obtain ⟨a, b, rfl⟩ : ∃ a b, args = [a, b] := by
      match args, hl with
      | [a, b], _ => exact ⟨a, b, rfl⟩
    refine ⟨_, rfl, _, rfl, x, A.cLoop, dx, [], rfl, hx, T.cls_Loop, T.na_Loop_counters, (by show 0 < 1000; decide), ?_⟩
    refine ⟨_, rfl, _, rfl, x, A.cLoop, dx, _, rfl, upd_same, T.cls_Loop, T.na_Loop_branches, (by show 1 < 1000; decide), ?_⟩
    refine k _ (fun b o hb e => ?_) ?_
    · rw [upd_ne hb, upd_ne hb]
      exact e
    · exact upd_same

theorem chosen_none {l : Loop} {s : Values} (h : ∀ j (hj : j < l.length), allHold s l[j].guard = false) : chosen l s = none := by
  unfold chosen
  rw [List.findIdx?_eq_none_iff]
  intro b hb
  obtain ⟨j, hj, rfl⟩ := List.getElem_of_mem hb
  exact h j hj
theorem chosen_some {l : Loop} {s : Values} {i : Nat} (hi : i < l.length) (h1 : allHold s l[i].guard = true) (h : ∀ j (hj : j < l.length), j < i → allHold s l[j].guard = false) : chosen l s = some i := by
  unfold chosen
  rw [List.findIdx?_eq_some_iff_getElem]
  exact ⟨hi, h1, fun j hj => by rw [h j (by omega) hj]; decide⟩
theorem chosen_lt {l : Loop} {s : Values} {i : Nat} (h : chosen l s = some i) : i < l.length := by
  unfold chosen at h
  rw [List.findIdx?_eq_some_iff_getElem] at h
  exact h.1
def sp_Loop_chosen (A : Ad) : Sp := SpP (fun ((l, s, a, p, n) : Loop × Values × Addr × Addr × Nat) => [.ref a, .ref p]) (fun (l, s, a, p, n) H => LoopAt A H a n l ∧ TupAt H p s ∧ WfLoop n l ∧ s.length = n) (fun (l, s, a, p, n) v _ => v = vO (chosen l s))
theorem sc_Loop_chosen : FnScope ["self", "amounts", "number", "branch"] ["self", "amounts"] (defScope s_Loop_chosen) := ⟨rfl, rfl, rfl, by decide +kernel, rfl, by decide +kernel, by decide +kernel⟩
theorem b_Loop_chosen {K : PySem.W.Frag} {f : Addr} {fd : FuncData} (F : Fun K "chosen" "Loop.chosen" s_Loop_chosen f fd) : Binds K fd ["self", "amounts"] [] := F.binds fun _ _ _ _ _ _ us hl => match us, hl with | [_, _], _ => rfl
theorem ok_Loop_chosen {P : Program} {w : World} {K : PySem.W.Frag} {mg : Str → Option Value} {base : Heap} {A : Ad} (T : Txt K mg A) : MtG P w K mg base CX0 4 A.cLoop "chosen" ["self", "amounts"] (sp_Loop_chosen A) := by
  obtain ⟨f, fd, hc, hm, F⟩ := T.d_Loop_chosen
  refine ⟨f, fd, hc, hm, F.ok sc_Loop_chosen (fun vs H Q E h => ?_) (fun cdv A1 outer s H vs Q E hr h => ⟨_, (pss_cons (ps_for PassesOwn.never rfl (pi_enum (by rfl) T.n_enumerate (by exact (pa_cons (pe_fld (pv 0) rfl) pa_nil))) (pg_tup rfl (pgs_cons (pg_name (i := 2) sc_Loop_chosen.nd rfl (Or.inl rfl)) (pgs_cons (pg_name (i := 3) sc_Loop_chosen.nd rfl (Or.inl rfl)) pgs_nil)))
        (pss_one (ps_if (pt_val (pe_methG (ok_Branch_holds T) (hr.mono (by decide)) pass0 (pv 3) (by exact (pa_cons (pv 1) pa_nil)))) (pss_one (ps_ret (pv 2))) pss_nil)))
      (pss_one (ps_ret pe_non))), ?_⟩), b_Loop_chosen F⟩
  · obtain ⟨⟨l, s, a, p, n⟩, rfl, _⟩ := h
    rfl
  · obtain ⟨⟨l, s, a, p, n⟩, rfl, ⟨⟨dx, pb, bs, hL, h1, h2⟩, hp, wf, hl⟩, k⟩ := h
    have len := h2.length
    refine q_forE (ev_fld (ev_var rfl) hL T.cls_Loop T.na_Loop_branches rfl) (SqL.of h1) (fun i σ' H' => (∃ v w, σ' = [some (.ref a), some (.ref p), v, w]) ∧ Ex H H' ∧ ∀ j (hj : j < l.length), j < i → allHold s l[j].guard = false) (fun H1 e1 => ⟨⟨_, _, rfl⟩, e1, fun j _ hj => absurd hj (Nat.not_lt_zero j)⟩) (fun i σ' H' ⟨_, e, _⟩ => SqL.of (e _ _ h1)) (fun i x q σ' H' hi ⟨⟨v, w, es⟩, e, hj⟩ nq => ?_) (fun σ' H' ⟨⟨v, w, es⟩, e, hj⟩ => ?_)
    · obtain ⟨b, hb, c, rfl, hc⟩ := paired_get h2 hi
      subst es
      have hil := (List.getElem?_eq_some_iff.mp hb).1
      have hbe : l[i] = b := (List.getElem?_eq_some_iff.mp hb).2
      have e' : Ex H (upd H' q (.tup [.int (i : Nat), .ref c])) := e.trans (Ex.new nq)
      refine ⟨q, _, rfl, SqT.of upd_same, rfl, _, _, rfl, _, _, rfl, rfl, ?_⟩
      have wb : WfBranch n b := wf.all b (by rw [← hbe]; exact List.getElem_mem hil)
      refine s_when (et_b (ev_Branch_holds (ev_var rfl) (ev_var rfl) (hc.mono e') (e' _ _ hp) wb hl)) (fun hh H2 e2 => ?_) fun hh H2 e2 => ?_
      · refine s_ret (ev_var rfl) fun H3 e3 => k _ _ ((e'.trans e2).trans e3) ?_
        have : chosen l s = some i := chosen_some hil (by rw [hbe]; exact hh) hj
        show V.int (i : Nat) = vO (chosen l s)
        rw [this]
        rfl
      · refine ⟨⟨_, _, rfl⟩, e'.trans e2, fun j hjl hji => ?_⟩
        by_cases c : j = i
        · subst c
          rw [hbe]
          exact hh
        · exact hj j hjl (by omega)
    · subst es
      refine s_ret ev_c fun H2 e2 => k _ _ (e.trans e2) ?_
      have : chosen l s = none := chosen_none fun j hjl => hj j hjl (by omega)
      show V.non = vO (chosen l s)
      rw [this]
      rfl
section
variable {K : PySem.W.Frag} {A : Ad} {σ : L2.St} {H : Hp} {to tp tb : TE} {E : XK} {a p : Addr} {l : Loop} {s : Values} {n b : Nat}
theorem ev_Loop_chosen (ho : Ev to σ H (.ref a)) (hp : Ev tp σ H (.ref p)) (h1 : LoopAt A H a n l) (h2 : TupAt H p s) (h3 : WfLoop n l) (h4 : s.length = n) : Ev (tMeth A.cLoop "chosen" (sp_Loop_chosen A) [] E to (tCons tp tNil)) σ H (vO (chosen l s)) := by
  obtain ⟨dx, _, _, hH, _⟩ := id h1
  exact (ep_meth ho hH rfl (ea_cons hp ea_nil) (l, s, a, p, n) rfl fun H1 e => ⟨h1.mono e, e _ _ h2, h3, h4⟩).toEv
end
def sp_Loop_round_by (A : Ad) : Sp := SpP (fun ((l, s, a, p, n, b) : Loop × Values × Addr × Addr × Nat × Nat) => [.ref a, .int b, .ref p]) (fun (l, s, a, p, n, b) H => LoopAt A H a n l ∧ TupAt H p s ∧ WfLoop n l ∧ s.length = n ∧ b < l.length) (fun (l, s, a, p, n, b) => IsTup (moved (Vaacld.moveOf l b) s))
theorem sc_Loop_round_by : FnScope ["self", "number", "amounts"] ["self", "number", "amounts"] (defScope s_Loop_round_by) := ⟨rfl, rfl, rfl, by decide +kernel, rfl, by decide +kernel, by decide +kernel⟩
theorem b_Loop_round_by {K : PySem.W.Frag} {f : Addr} {fd : FuncData} (F : Fun K "round_by" "Loop.round_by" s_Loop_round_by f fd) : Binds K fd ["self", "number", "amounts"] [] := F.binds fun _ _ _ _ _ _ us hl => match us, hl with | [_, _, _], _ => rfl
theorem ok_Loop_round_by {P : Program} {w : World} {K : PySem.W.Frag} {mg : Str → Option Value} {base : Heap} {A : Ad} (T : Txt K mg A) : MtG P w K mg base CX0 3 A.cLoop "round_by" ["self", "number", "amounts"] (sp_Loop_round_by A) := by
  obtain ⟨f, fd, hc, hm, F⟩ := T.d_Loop_round_by
  refine ⟨f, fd, hc, hm, F.ok sc_Loop_round_by (fun vs H Q E h => ?_) (fun cdv A1 outer s H vs Q E hr h => ⟨_, (pss_one (ps_ret (pe_methG (ok_Branch_moved T) (hr.mono (by decide)) pass0 (pe_ix ix_list (pe_fld (pv 0) rfl) (pv 1) (fun _ _ => rfl)) (by exact (pa_cons (pv 2) pa_nil))))), ?_⟩), b_Loop_round_by F⟩
  · obtain ⟨⟨l, s, a, p, n, b⟩, rfl, _⟩ := h
    rfl
  · obtain ⟨⟨l, s, a, p, n, b⟩, rfl, ⟨⟨dx, pb, bs, hL, h1, h2⟩, hp, wf, hl, hb⟩, k⟩ := h
    obtain ⟨x, hx, c, rfl, hc⟩ := paired_get2 h2 (List.getElem?_eq_getElem hb)
    refine s_retP (ep_Branch_moved (ev_ixL (ev_fld (ev_var rfl) hL T.cls_Loop T.na_Loop_branches rfl) (ev_var rfl) (SqL.of h1) (atI_nat hx)) (ev_var rfl) hc hp (wf.all _ (List.getElem_mem hb)) wf.four hl) fun v H1 e1 hv => k _ _ e1 ?_
    have : Vaacld.moveOf l b = l[b].move := by
      unfold Vaacld.moveOf branchAt
      rw [List.getElem?_eq_getElem hb]
      rfl
    show IsTup (moved (Vaacld.moveOf l b) s) v H1
    rw [this]
    exact hv
section
variable {K : PySem.W.Frag} {A : Ad} {σ : L2.St} {H : Hp} {to tp tb : TE} {E : XK} {a p : Addr} {l : Loop} {s : Values} {n b : Nat}
theorem ep_Loop_round_by (ho : Ev to σ H (.ref a)) (hb : Ev tb σ H (.int b)) (hp : Ev tp σ H (.ref p)) (h1 : LoopAt A H a n l) (h2 : TupAt H p s) (h3 : WfLoop n l) (h4 : s.length = n) (h5 : b < l.length) : EvP (tMeth A.cLoop "round_by" (sp_Loop_round_by A) [] E to (tCons tb (tCons tp tNil))) σ H (IsTup (moved (Vaacld.moveOf l b) s)) := by
  obtain ⟨dx, _, _, hH, _⟩ := id h1
  exact ep_meth ho hH rfl (ea_cons hb (ea_cons hp ea_nil)) (l, s, a, p, n, b) rfl fun H1 e => ⟨h1.mono e, e _ _ h2, h3, h4, h5⟩
end
theorem loopFlat_le {n : Nat} {l : Loop} (wf : WfLoop n l) : (l.flatMap VaaclBase.flatBranch).length ≤ 87 := by
  have := flatMap_le VaaclBase.flatBranch 29 l fun b hb => flatBranch_le (wf.all b hb).many (by rw [(wf.all b hb).len]; exact wf.four)
  have := wf.three
  omega
def sp_Loop_told (A : Ad) : Sp := SpP (fun ((l, a, n) : Loop × Addr × Nat) => [.ref a]) (fun (l, a, n) H => LoopAt A H a n l ∧ WfLoop n l) (fun (l, a, n) => IsInts (VaaclBase.flatLoop l))
theorem sc_Loop_told : FnScope ["self", "found", "branch"] ["self"] (defScope s_Loop_told) := ⟨rfl, rfl, rfl, by decide +kernel, rfl, by decide +kernel, by decide +kernel⟩
theorem b_Loop_told {K : PySem.W.Frag} {f : Addr} {fd : FuncData} (F : Fun K "told" "Loop.told" s_Loop_told f fd) : Binds K fd ["self"] [] := F.binds fun _ _ _ _ _ _ us hl => match us, hl with | [_], _ => rfl
theorem ok_Loop_told {P : Program} {w : World} {K : PySem.W.Frag} {mg : Str → Option Value} {base : Heap} {A : Ad} (T : Txt K mg A) : MtG P w K mg base CX0 3 A.cLoop "told" ["self"] (sp_Loop_told A) := by
  obtain ⟨f, fd, hc, hm, F⟩ := T.d_Loop_told
  refine ⟨f, fd, hc, hm, F.ok sc_Loop_told (fun vs H Q E h => ?_) (fun cdv A1 outer s H vs Q E hr h => ⟨_, (pss_cons (ps_set (i := 1) sc_Loop_told.nd rfl (Or.inl rfl) (pe_lst (by exact (pa_cons (pe_callB call_len_seq (by rfl) T.n_len PySem.boot_len (by exact (pa_cons (pe_fld (pv 0) rfl) pa_nil))) pa_nil))))
      (pss_cons (ps_for PassesOwn.never rfl (pi_list (pe_fld (pv 0) rfl)) (pg_name (i := 2) sc_Loop_told.nd rfl (Or.inl rfl))
        (pss_one (ps_expr (pe_bm PySem.F.plainAttrs_list PySem.F.slot_list_extend PySem.F.type_list_extend mt_extend (pv 1) (by exact (pa_cons (pe_methG0 (ok_Branch_told T) (hr.mono (by decide)) pass0 (pv 2)) pa_nil))))))
      (pss_one (ps_ret (pv 1))))), ?_⟩), b_Loop_told F⟩
  · obtain ⟨⟨l, a, n⟩, rfl, _⟩ := h
    rfl
  · obtain ⟨⟨l, a, n⟩, rfl, ⟨⟨dx, pb, bs, hL, h1, h2⟩, wf⟩, k⟩ := h
    have len := h2.length
    refine q_asgL (el_lst (ea_cons (ev_len (ev_fld (ev_var rfl) hL T.cls_Loop T.na_Loop_branches rfl) (Or.inl (SqL.of h1))) ea_nil) (by show 1 ≤ 100000; decide)) fun p H1 np e1 hp => ?_
    have bp : pb ≠ p := ne_of_none h1 np
    refine q_ext (p := p) (a := pb) (i0 := 1) (j := 2) (f := VaaclBase.flatBranch) (init := [(l.length : Int)]) (F := BranchV A H) (ev_fld (ev_var rfl) (e1 _ _ hL) T.cls_Loop T.na_Loop_branches rfl) (SqL.of (by rw [del_ne bp]; exact e1 _ _ h1)) h2 rfl (by decide) ?_ ?_ (fun H3 x d hd hx e3 => ?_) fun σ' H3 hs e3 hr => ?_
    · show H1 p = some (.lst [.int (l.length : Int)])
      rw [hp, len]
    · have := loopFlat_le wf
      show 1 + _ ≤ _
      omega
    · have e : Ex H H3 := (ex_del e1 np).trans e3
      obtain ⟨c, rfl, hc⟩ := hx
      exact ep_Branch_told (ev_var rfl) (hc.mono e) (wf.all d hd).many (by rw [(wf.all d hd).len]; exact wf.four)
    · have e : Ex H H3 := (ex_del e1 np).trans e3
      have fin : IsInts (VaaclBase.flatLoop l) (.ref p) H3 := ⟨p, rfl, hr⟩
      rcases hs with rfl | ⟨v, rfl⟩
      · exact s_ret (ev_var rfl) fun H4 e4 => k _ _ (e.trans e4) (IsInts.mono _ _ e4 fin)
      · exact s_ret (ev_var rfl) fun H4 e4 => k _ _ (e.trans e4) (IsInts.mono _ _ e4 fin)
section
variable {K : PySem.W.Frag} {A : Ad} {σ : L2.St} {H : Hp} {to : TE} {E : XK} {a : Addr} {l : Loop} {n : Nat}
theorem ep_Loop_told (ho : Ev to σ H (.ref a)) (h1 : LoopAt A H a n l) (h2 : WfLoop n l) : EvP (tMeth A.cLoop "told" (sp_Loop_told A) [] E to tNil) σ H (IsInts (VaaclBase.flatLoop l)) := by
  obtain ⟨dx, _, _, hH, _⟩ := id h1
  exact ep_meth ho hH rfl ea_nil (l, a, n) rfl fun H1 e => ⟨h1.mono e, h2⟩
end
def sp_f_is_beyond (A : Ad) : Sp := SpP (fun ((s, p) : Values × Addr) => [.ref p]) (fun (s, p) H => TupAt H p s ∧ s.length ≤ 4) (fun (s, p) v _ => v = .bl (VaaclBase.isBeyond s))
theorem sc_f_is_beyond : FnScope ["amounts", "value"] ["amounts"] (defScope s_f_is_beyond) := ⟨rfl, rfl, rfl, by decide +kernel, rfl, by decide +kernel, by decide +kernel⟩
theorem b_f_is_beyond {K : PySem.W.Frag} {f : Addr} {fd : FuncData} (F : Fun K "is_beyond" "is_beyond" s_f_is_beyond f fd) : Binds K fd ["amounts"] [] := F.binds fun _ _ _ _ _ _ us hl => match us, hl with | [_], _ => rfl
theorem ok_f_is_beyond {P : Program} {w : World} {K : PySem.W.Frag} {mg : Str → Option Value} {base : Heap} {A : Ad} (T : Txt K mg A) : FnG P w K mg base CX0 1 "is_beyond" ["amounts"] (sp_f_is_beyond A) := by
  obtain ⟨f, fd, hm, F⟩ := T.d_f_is_beyond
  refine ⟨f, fd, hm, F.kp, F.ok sc_f_is_beyond (fun vs H Q E h => ?_) (fun cdv A1 outer s H vs Q E hr h => ⟨_, (pss_one (ps_ret (pe_callB (cr_any rfl) (by rfl) T.n_any (by decide +kernel) (by exact (pa_cons (pe_lc (own := [("value", 1)]) (g := gName 1) (tt := tYes) rfl sc_f_is_beyond.nd (pi_tup (pv 0)) (blkOk_by (own := [("value", 1)]) (N := ["amounts", "value"]) (sc := defScope s_f_is_beyond) (by decide +kernel)) (fun _ _ _ _ _ => (pg_name (i := 1) sc_f_is_beyond.nd rfl (Or.inl rfl))) (fun _ _ _ _ _ => pts_nil) (fun _ _ _ _ _ => (pe_cmpR op_gt (pe_callB call_abs (by rfl) T.n_abs (by decide +kernel) (by exact (pa_cons (pv 1) pa_nil))) (pe_gi T.i_FARTHEST rfl) (nomark _)))) pa_nil))))), ?_⟩), b_f_is_beyond F⟩
  · obtain ⟨⟨s, p⟩, rfl, _⟩ := h
    rfl
  · obtain ⟨⟨s, p⟩, rfl, ⟨hp, hl⟩, k⟩ := h
    have pr : ∀ s : List Int, Paired (fun v d => v = V.int d) (s.map V.int) s := fun s => by
      induction s with
      | nil => exact .nil
      | cons a r ih => exact .cons rfl ih
    refine s_ret (ev_anyL (Evl_is (el_lcT (fun (x : Int) => V.bl (decide (VaaclBase.NUMBER < (if x < 0 then -x else x)))) (ev_var rfl) (SqT.of hp) (pr s) (by rw [List.length_map]; omega) (fun _ => rfl) fun x d hd hx => ?_) (map_map_bl _ _))) fun H1 e1 => k _ _ e1 ?_
    · subst hx
      exact ev_i0 (Evl.ev_cb (ea_cons (ev_var rfl) ea_nil) fun H1 e1 Q q => ⟨_, rfl, q H1 (Ex.refl H1)⟩) ev_c
    · show V.bl _ = V.bl (VaaclBase.isBeyond s)
      rw [List.any_map]
      unfold VaaclBase.isBeyond
      congr 2
      funext x
      show decide (VaaclBase.NUMBER < (if x < 0 then -x else x)) = (decide (x < -VaaclBase.NUMBER) || decide (VaaclBase.NUMBER < x))
      unfold VaaclBase.NUMBER
      rw [Bool.eq_iff_iff, Bool.or_eq_true, decide_eq_true_iff, decide_eq_true_iff, decide_eq_true_iff]
      split <;> omega
section
variable {K : PySem.W.Frag} {A : Ad} {σ : L2.St} {H : Hp} {tp : TE} {E : XK} {p : Addr} {s : Values}
theorem ev_is_beyond (hp : Ev tp σ H (.ref p)) (h2 : TupAt H p s) (h4 : s.length ≤ 4) : Ev (tCall (sp_f_is_beyond A) [] E (tCons tp tNil)) σ H (.bl (VaaclBase.isBeyond s)) :=
  (ep_call (ea_cons hp ea_nil) (s, p) rfl fun H1 e => ⟨e _ _ h2, h4⟩).toEv
end

end LW

set_option maxRecDepth 100000
set_option maxHeartbeats 4000000

/-! Part W5 -/
namespace LW
open PySem PySem.Spec PyProof.Rows L2 LL
open Evl (Ex Ev EvT EvL EvU EvA EvO fresh_back ex_l ex_t ev_var ev_c s_ret s_retL s_retU q_asg q_asgL q_asgU s_asg s_asgL q_when s_when s_if q_if et_and et_or et_not ea_nil ea_cons el_lst eu_tup ev_if eo_none eo_some el_sl sq_of st_of sz_of s_app s_appL q_app q_appL s_drop q_drop s_forL q_forL q_forLn s_forLn q_while s_while q_forR1 q_forR2 q_forNL q_forNLn q_setL s_setL q_cut)
open VaaclBase (Values Move Test Branch Loop valueAt given moved holds allHold chosen branchAt okTest)


open Vaacld (moveOf branchesFrom patternAt)
/-! ### lists of whole numbers cut, compared -/
def nats (p : List Nat) : List Int := p.map VaaclBase.int
def vI : Option Int → V
  | none => .non
  | some i => .int i
theorem nats_len (p : List Nat) : (nats p).length = p.length := List.length_map ..
theorem nats_app (p q : List Nat) : nats (p ++ q) = nats p ++ nats q := List.map_append ..
theorem nats_take (p : List Nat) (k : Nat) : nats (p.take k) = (nats p).take k := List.map_take ..
theorem nats_drop (p : List Nat) (k : Nat) : nats (p.drop k) = (nats p).drop k := List.map_drop ..
theorem mw_two {i : Nat} (h : i ≤ 100) : CMulW 2 (i : Int) := by
  exact wide_mul (a := 10) (b := 10) (by decide) (by omega) (by decide) (by decide) (by decide)
theorem nats_inj {p q : List Nat} (h : nats p = nats q) : p = q := by
  have := congrArg (List.map Int.toNat) h
  unfold nats at this
  rw [List.map_map, List.map_map] at this
  have e : (Int.toNat ∘ VaaclBase.int) = id := by funext x; rfl
  rw [e, List.map_id, List.map_id] at this
  exact this
theorem cut_take (l : List Int) (k : Nat) : cutV (l.map V.int) none (some (k : Int)) = (l.take k).map V.int := by
  unfold cutV
  rw [HT.sIx_none, HT.sIx_nat, List.drop_zero, List.length_map, Nat.sub_zero, ← List.map_take]
  congr 1
  by_cases h : k ≤ l.length
  · rw [Nat.min_eq_left h]
  · rw [Nat.min_eq_right (by omega), List.take_length, List.take_of_length_le (by omega)]
theorem cut_mid (l : List Int) (k m : Nat) : cutV (l.map V.int) (some (k : Int)) (some (m : Int)) = ((l.drop k).take (m - k)).map V.int := by
  unfold cutV
  rw [HT.sIx_nat, HT.sIx_nat, List.length_map, ← List.map_drop, ← List.map_take]
  congr 1
  by_cases h : k ≤ l.length
  · rw [Nat.min_eq_left h]
    by_cases h2 : m ≤ l.length
    · rw [Nat.min_eq_left h2]
    · rw [Nat.min_eq_right (by omega)]
      rw [List.take_of_length_le (by rw [List.length_drop]; omega), List.take_of_length_le (by rw [List.length_drop]; omega)]
  · have e1 : l.drop (min k l.length) = [] := List.drop_of_length_le (by omega)
    have e2 : l.drop k = [] := List.drop_of_length_le (by omega)
    rw [e1, e2, List.take_nil, List.take_nil]
theorem eqv_ints : ∀ (a b : List Int), PyData.eqvAll (a.map PyData.int) (b.map PyData.int) = decide (a = b)
  | [], [] => rfl
  | [], b :: r => by simp [PyData.eqvAll]
  | a :: r, [] => by simp [PyData.eqvAll]
  | a :: r, b :: t => by
    show ((a == b) && PyData.eqvAll (r.map PyData.int) (t.map PyData.int)) = _
    rw [eqv_ints r t]
    by_cases c : a = b
    · subst c
      by_cases d : r = t
      · subst d; simp
      · simp [d]
    · simp [c]
theorem shaped_ints (a : List Int) : SeqAt.shaped (.list (a.map PyData.int)) = true := by
  have h1 : ∀ a : List Int, PyData.canLayAll0 (a.map PyData.int) = true := fun a => by
    induction a with
    | nil => rfl
    | cons x r ih => show (true && _) = true; rw [ih]; rfl
  have h2 : ∀ a : List Int, PyData.depthAll (a.map PyData.int) = 0 := fun a => by
    induction a with
    | nil => rfl
    | cons x r ih => show max 0 (PyData.depthAll (r.map PyData.int)) = 0; rw [ih]; rfl
  unfold SeqAt.shaped
  show (PyData.canLayAll0 (a.map PyData.int) && decide (PyData.depthAll (a.map PyData.int) + 1 ≤ 64)) = true
  rw [h1, h2]
  rfl
theorem dp_ints {K : PySem.W.Frag} {H : Hp} : ∀ (a : List Int), DpAll K H (a.map V.int) (a.map PyData.int)
  | [] => .nil
  | x :: r => .cons (.int x) (dp_ints r)
section
variable {K : PySem.W.Frag} {σ : L2.St} {H : Hp} {ta tb : TE}
theorem ev_eqL {a b : List Int} (ha : EvL ta σ H (a.map V.int)) (hb : EvL tb σ H (b.map V.int)) : Ev (tOp (rEqD K) ta tb) σ H (.bl (decide (a = b))) :=
  Evl.ev_opLL ha hb fun p q H1 hp hq _ H2 e2 Q k => ⟨_, _, .lst (SqL.of (e2 _ _ hp)) (dp_ints a), .lst (SqL.of (e2 _ _ hq)) (dp_ints b), shaped_ints a, shaped_ints b, by
    have := k H2 (Ex.refl H2)
    rw [← eqv_ints a b] at this
    exact this⟩
theorem el_take {p : Addr} {l : List Int} {k : Nat} (ha : Ev ta σ H (.ref p)) (hp : IntsAt H p l) (hk : Ev tb σ H (.int k)) : EvL (tSl (rSlL K) ta tNoPart (tPart tb)) σ H ((l.take k).map V.int) := by
  rw [← cut_take]
  exact el_sl ha eo_none (eo_some hk) (SqL.of hp)
theorem el_mid {p : Addr} {l : List Int} {k m : Nat} {tc : TE} (ha : Ev ta σ H (.ref p)) (hp : IntsAt H p l) (hk : Ev tb σ H (.int k)) (hm : Ev tc σ H (.int m)) : EvL (tSl (rSlL K) ta (tPart tb) (tPart tc)) σ H (((l.drop k).take (m - k)).map V.int) := by
  rw [← cut_mid]
  exact el_sl ha (eo_some hk) (eo_some hm) (SqL.of hp)
end
theorem bf_none {l : Loop} {s : Values} (h : chosen l s = none) : ∀ m, branchesFrom l m s = []
  | 0 => rfl
  | m + 1 => by
    show (match chosen l s with | none => [] | some b => b :: branchesFrom l m (moved (moveOf l b) s)) = []
    rw [h]
theorem bf_some {l : Loop} {s : Values} {b : Nat} (h : chosen l s = some b) (m : Nat) : branchesFrom l (m + 1) s = b :: branchesFrom l m (moved (moveOf l b) s) := by
  show (match chosen l s with | none => [] | some b => b :: branchesFrom l m (moved (moveOf l b) s)) = _
  rw [h]
theorem bf_len (l : Loop) : ∀ m s, (branchesFrom l m s).length ≤ m
  | 0, _ => Nat.le_refl 0
  | m + 1, s => by
    cases h : chosen l s with
    | none => rw [bf_none h]; exact Nat.zero_le _
    | some b => rw [bf_some h, List.length_cons]; exact Nat.succ_le_succ (bf_len l m _)
theorem bf_ok (l : Loop) : ∀ m s, PatOk l (branchesFrom l m s)
  | 0, _, b, hb => (nomatch hb)
  | m + 1, s, b, hb => by
    cases h : chosen l s with
    | none => rw [bf_none h] at hb; exact (nomatch hb)
    | some c =>
      rw [bf_some h] at hb
      rcases List.mem_cons.mp hb with e | e
      · rw [e]; exact chosen_lt h
      · exact bf_ok l m _ b e
theorem vO_some {o : Option Nat} {b : Nat} (h : o = some b) : vO o = .int (b : Int) := by rw [h]; rfl
theorem vO_isN (o : Option Nat) : decide (vO o = .non) = o.isNone := by cases o <;> rfl
def sp_f_next_branches (A : Ad) : Sp := SpP (fun ((l, s, a, p, n, most) : Loop × Values × Addr × Addr × Nat × Nat) => [.ref a, .ref p, .int most]) (fun (l, s, a, p, n, most) H => LoopAt A H a n l ∧ TupAt H p s ∧ WfLoop n l ∧ s.length = n ∧ most ≤ 1000) (fun (l, s, a, p, n, most) => IsInts (nats (branchesFrom l most s)))
theorem sc_f_next_branches : FnScope ["loop", "amounts", "most", "found", "number"] ["loop", "amounts", "most"] (defScope s_f_next_branches) := ⟨rfl, rfl, rfl, by decide +kernel, rfl, by decide +kernel, by decide +kernel⟩
theorem b_f_next_branches {K : PySem.W.Frag} {f : Addr} {fd : FuncData} (F : Fun K "next_branches" "next_branches" s_f_next_branches f fd) : Binds K fd ["loop", "amounts", "most"] [] := F.binds fun _ _ _ _ _ _ us hl => match us, hl with | [_, _, _], _ => rfl
theorem ok_f_next_branches {P : Program} {w : World} {K : PySem.W.Frag} {mg : Str → Option Value} {base : Heap} {A : Ad} (T : Txt K mg A) : FnG P w K mg base CX0 5 "next_branches" ["loop", "amounts", "most"] (sp_f_next_branches A) := by
  obtain ⟨f, fd, hm, F⟩ := T.d_f_next_branches
  refine ⟨f, fd, hm, F.kp, F.ok sc_f_next_branches (fun vs H Q E h => ?_) (fun cdv A1 outer s H vs Q E hr h => ⟨_, (pss_cons (ps_set (i := 3) sc_f_next_branches.nd rfl (Or.inl rfl) (pe_lst (by exact pa_nil)))
      (pss_cons (ps_set (i := 4) sc_f_next_branches.nd rfl (Or.inl rfl) (pe_methG (ok_Loop_chosen T) (hr.mono (by decide)) pass0 (pv 0) (by exact (pa_cons (pv 1) pa_nil))))
      (pss_cons (ps_while PassesOwn.never (PW.pt (pw_and (pt_cmpR op_notN (pv 4) pe_non (nomark _)) (pw_and1 (pt_cmpR op_lt (pe_callB call_len_seq (by rfl) T.n_len PySem.boot_len (by exact (pa_cons (pv 3) pa_nil))) (pv 2) (nomark _))))) (pss_cons (ps_expr (pe_bm PySem.F.plainAttrs_list PySem.F.slot_list_append PySem.F.type_list_append mt_append (pv 3) (by exact (pa_cons (pv 4) pa_nil))))
      (pss_cons (ps_set (i := 1) sc_f_next_branches.nd rfl (Or.inl rfl) (pe_methG (ok_Loop_round_by T) (hr.mono (by decide)) pass0 (pv 0) (by exact (pa_cons (pv 4) (pa_cons (pv 1) pa_nil)))))
      (pss_one (ps_set (i := 4) sc_f_next_branches.nd rfl (Or.inl rfl) (pe_methG (ok_Loop_chosen T) (hr.mono (by decide)) pass0 (pv 0) (by exact (pa_cons (pv 1) pa_nil))))))))
      (pss_one (ps_ret (pv 3)))))), ?_⟩), b_f_next_branches F⟩
  · obtain ⟨⟨l, s, a, p, n, most⟩, rfl, _⟩ := h
    rfl
  · obtain ⟨⟨l, s, a, p, n, most⟩, rfl, ⟨hL, hp, wf, hl, hmost⟩, k⟩ := h
    refine q_asgL (el_lst ea_nil (Nat.zero_le _)) fun q H1 nq e1 hq => ?_
    refine q_asg (ev_Loop_chosen (ev_var rfl) (ev_var rfl) (hL.mono e1) (e1 _ _ hp) wf hl) fun H2 e2 => ?_
    refine q_while (fun m σ' H' => ∃ (bs : List Nat) (s' : Values) (p' : Addr), σ' = [some (.ref a), some (.ref p'), some (.int most), some (.ref q), some (vO (chosen l s'))] ∧ Ex H H' ∧ IntsAt H' q (nats bs) ∧ TupAt H' p' s' ∧ s'.length = n ∧ m + bs.length = most ∧ branchesFrom l most s = bs ++ branchesFrom l m s') most
      ⟨[], s, p, rfl, e1.trans e2, e2 _ _ hq, (e1.trans e2) _ _ hp, hl, rfl, rfl⟩ ?_
    rintro m σ' H' ⟨bs, s', p', rfl, e, hq', hp', hl', hm, hbf⟩
    refine ⟨_, et_and (et_v (ev_notN (ev_var rfl))) (fun _ => et_v (ev_i0 (ev_len (ev_var rfl) (Or.inl (SqL.of hq'))) (ev_var rfl))), fun hb H3 e3 => ?_, fun hb H3 e3 => ?_⟩
    · rw [Bool.and_eq_true, vO_isN] at hb
      obtain ⟨hb1, hb2⟩ := hb
      have hb2 := of_decide_eq_true hb2
      rw [List.length_map, nats_len] at hb2
      cases ec : chosen l s' with
      | none => rw [ec] at hb1; cases hb1
      | some b =>
        obtain ⟨m', rfl⟩ : ∃ m', m = m' + 1 := ⟨m - 1, by omega⟩
        refine ⟨fun σ2 H2 => ∃ (bs : List Nat) (s' : Values) (p' : Addr), σ2 = [some (.ref a), some (.ref p'), some (.int most), some (.ref q), some (vO (chosen l s'))] ∧ Ex H H2 ∧ IntsAt H2 q (nats bs) ∧ TupAt H2 p' s' ∧ s'.length = n ∧ m' + bs.length = most ∧ branchesFrom l most s = bs ++ branchesFrom l m' s', fun σ2 H2 h => ⟨m', Nat.lt_succ_self m', h⟩, ?_⟩
        refine q_app (xs := (nats bs).map V.int) (e3 _ _ hq') (ev_var rfl) (ev_is (ev_var rfl) (vO_some rfl)) (by rw [List.length_map, nats_len]; omega) fun H4 e4 => ?_
        have ne : p' ≠ q := ne_of hp' hq' (by intro z; cases z)
        have e' : Ex H (upd H4 q (.lst ((nats bs).map V.int ++ [.int (b : Int)]))) := ((e.trans e3).trans e4).mut nq
        have hp5 : TupAt (upd H4 q (.lst ((nats bs).map V.int ++ [.int (b : Int)]))) p' s' := by
          show upd H4 q _ p' = _
          rw [upd_ne ne]
          exact (e3.trans e4) _ _ hp'
        refine q_asgP (ep_Loop_round_by (ev_var rfl) (ev_is (ev_var rfl) (vO_some rfl)) (ev_var rfl) (hL.mono e') hp5 wf hl' (chosen_lt ec)) fun v H5 e5 hv => ?_
        obtain ⟨p6, rfl, hp6⟩ := hv
        have hl6 : (moved (moveOf l b) s').length = n := by rw [moved_len]; exact (moveOf_wf wf (chosen_lt ec)).len
        refine s_asg (ev_Loop_chosen (ev_var rfl) (ev_var rfl) (hL.mono (e'.trans e5)) hp6 wf hl6) fun H6 e6 => ?_
        refine ⟨bs ++ [b], moved (moveOf l b) s', p6, rfl, (e'.trans e5).trans e6, ?_, e6 _ _ hp6, hl6, by rw [List.length_append, List.length_singleton]; omega, ?_⟩
        · refine (e5.trans e6) _ _ ?_
          rw [upd_same, nats_app, List.map_append]
          rfl
        · rw [hbf, bf_some ec, List.append_assoc]
          rfl
    · have fin : branchesFrom l m s' = [] := by
        rw [Bool.and_eq_false_iff, vO_isN] at hb
        rcases hb with hb | hb
        · cases ec : chosen l s' with
          | none => exact bf_none ec m
          | some b => rw [ec] at hb; cases hb
        · have hb := of_decide_eq_false hb
          rw [List.length_map, nats_len] at hb
          have : m = 0 := by omega
          rw [this]
          rfl
      rw [fin, List.append_nil] at hbf
      refine s_ret (ev_var rfl) fun H4 e4 => k _ _ ((e.trans e3).trans e4) ⟨q, rfl, ?_⟩
      rw [hbf]
      exact (e3.trans e4) _ _ hq'
section
variable {K : PySem.W.Frag} {A : Ad} {σ : L2.St} {H : Hp} {to tp tb : TE} {E : XK} {a p : Addr} {l : Loop} {s : Values} {n most : Nat}
theorem ep_next_branches (ho : Ev to σ H (.ref a)) (hp : Ev tp σ H (.ref p)) (hb : Ev tb σ H (.int most)) (h1 : LoopAt A H a n l) (h2 : TupAt H p s) (h3 : WfLoop n l) (h4 : s.length = n) (h5 : most ≤ 1000) : EvP (tCall (sp_f_next_branches A) [] E (tCons to (tCons tp (tCons tb tNil)))) σ H (IsInts (nats (branchesFrom l most s))) :=
  ep_call (ea_cons ho (ea_cons hp (ea_cons hb ea_nil))) (l, s, a, p, n, most) rfl fun H1 e => ⟨h1.mono e, e _ _ h2, h3, h4, h5⟩
end
def sp_f_pattern_at (A : Ad) : Sp := SpN (fun ((l, s, a, p, n) : Loop × Values × Addr × Addr × Nat) => [.ref a, .ref p]) (fun (l, s, a, p, n) H => LoopAt A H a n l ∧ TupAt H p s ∧ WfLoop n l ∧ s.length = n) (fun (l, s, a, p, n) => IsInts (nats ((patternAt l s).getD [])))
def patStep (w : List Nat) (k : Nat) : Bool := decide (2 * k ≤ w.length) && (w.take k == (w.drop k).take k)
theorem patternAt_at {l : Loop} {s : Values} {i k : Nat} (hk : i < 3) (ek : k = i + 1) (h0 : ∀ j, j < i → patStep (branchesFrom l 6 s) (j + 1) = false) (h1 : patStep (branchesFrom l 6 s) k = true) : (patternAt l s).getD [] = (branchesFrom l 6 s).take k := by
  subst ek
  unfold patternAt
  have hne : (branchesFrom l (2 * Vaacld.PATTERN) s).isEmpty = false := by
    cases e : (branchesFrom l (2 * Vaacld.PATTERN) s) with
    | nil =>
      have e : branchesFrom l 6 s = [] := e
      rw [e] at h1
      unfold patStep at h1
      simp at h1
    | cons x r => rfl
  show (if (branchesFrom l (2 * Vaacld.PATTERN) s).isEmpty = true then none else some (match ((List.range Vaacld.PATTERN).map fun i => i + 1).find? (patStep (branchesFrom l 6 s)) with | some k => (branchesFrom l 6 s).take k | none => (branchesFrom l 6 s).take 1)).getD [] = _
  rw [hne]
  have e3 : ((List.range Vaacld.PATTERN).map fun i => i + 1) = [1, 2, 3] := by decide
  rw [e3]
  show (match [1, 2, 3].find? (patStep (branchesFrom l 6 s)) with | some k => (branchesFrom l 6 s).take k | none => (branchesFrom l 6 s).take 1) = _
  have : [1, 2, 3].find? (patStep (branchesFrom l 6 s)) = some (i + 1) := by
    match i, hk with
    | 0, _ => rw [List.find?_cons, h1]
    | 1, _ => rw [List.find?_cons, h0 0 (by omega), List.find?_cons, h1]
    | 2, _ => rw [List.find?_cons, h0 0 (by omega), List.find?_cons, h0 1 (by omega), List.find?_cons, h1]
  rw [this]
theorem patternAt_no {l : Loop} {s : Values} (h0 : ∀ j, j < 3 → patStep (branchesFrom l 6 s) (j + 1) = false) : (patternAt l s).getD [] = (branchesFrom l 6 s).take 1 := by
  unfold patternAt
  show (if (branchesFrom l (2 * Vaacld.PATTERN) s).isEmpty = true then none else some (match ((List.range Vaacld.PATTERN).map fun i => i + 1).find? (patStep (branchesFrom l 6 s)) with | some k => (branchesFrom l 6 s).take k | none => (branchesFrom l 6 s).take 1)).getD [] = _
  cases e : (branchesFrom l (2 * Vaacld.PATTERN) s).isEmpty with
  | true =>
    have e : branchesFrom l 6 s = [] := List.isEmpty_iff.mp e
    rw [e]
    rfl
  | false =>
    have e3 : ((List.range Vaacld.PATTERN).map fun i => i + 1) = [1, 2, 3] := by decide
    rw [e3]
    show (match [1, 2, 3].find? (patStep (branchesFrom l 6 s)) with | some k => (branchesFrom l 6 s).take k | none => (branchesFrom l 6 s).take 1) = _
    rw [List.find?_cons, h0 0 (by omega), List.find?_cons, h0 1 (by omega), List.find?_cons, h0 2 (by omega)]
    rfl
theorem sc_f_pattern_at : FnScope ["loop", "amounts", "branches", "many"] ["loop", "amounts"] (defScope s_f_pattern_at) := ⟨rfl, rfl, rfl, by decide +kernel, rfl, by decide +kernel, by decide +kernel⟩
theorem b_f_pattern_at {K : PySem.W.Frag} {f : Addr} {fd : FuncData} (F : Fun K "pattern_at" "pattern_at" s_f_pattern_at f fd) : Binds K fd ["loop", "amounts"] [] := F.binds fun _ _ _ _ _ _ us hl => match us, hl with | [_, _], _ => rfl
theorem ok_f_pattern_at {P : Program} {w : World} {K : PySem.W.Frag} {mg : Str → Option Value} {base : Heap} {A : Ad} (T : Txt K mg A) : FnG P w K mg base CX0 6 "pattern_at" ["loop", "amounts"] (sp_f_pattern_at A) := by
  obtain ⟨f, fd, hm, F⟩ := T.d_f_pattern_at
  refine ⟨f, fd, hm, F.kp, F.ok sc_f_pattern_at (fun vs H Q E h => ?_) (fun cdv A1 outer s H vs Q E hr h => ⟨_, (pss_cons (ps_set (i := 2) sc_f_pattern_at.nd rfl (Or.inl rfl) (pe_callG (ok_f_next_branches T) (hr.mono (by decide)) pass0 rfl (by exact (pa_cons (pv 0) (pa_cons (pv 1) (pa_cons (pe_gi T.i_LOOK_AHEAD rfl) pa_nil))))))
      (pss_cons (ps_for PassesOwn.never rfl (pi_range2 rfl T.n_range (by exact (pa_cons pe_int (pa_cons (pe_op op_add (pe_gi T.i_LONGEST rfl) pe_int) pa_nil)))) (pg_name (i := 3) sc_f_pattern_at.nd rfl (Or.inl rfl))
        (pss_one (ps_if (PW.pt (pw_and (pt_cmpR op_ge (pe_callB call_len_seq (by rfl) T.n_len PySem.boot_len (by exact (pa_cons (pv 2) pa_nil))) (pe_op op_mulW pe_int (pv 3)) (nomark _)) (pw_and1 (pt_cmpR (op_eqD hr.units) (pe_slice sl_list (pv 2) po_none (po_some (pv 3))) (pe_slice sl_list (pv 2) (po_some (pv 3)) (po_some (pe_op op_mulW pe_int (pv 3)))) (nomark _))))) (pss_one (ps_ret (pe_slice sl_list (pv 2) po_none (po_some (pv 3))))) pss_nil)))
      (pss_one (ps_ret (pe_slice sl_list (pv 2) po_none (po_some pe_int)))))), ?_⟩), b_f_pattern_at F⟩
  · obtain ⟨⟨l, s, a, p, n⟩, rfl, _⟩ := h
    rfl
  · obtain ⟨⟨l, s, a, p, n⟩, rfl, ⟨hL, hp, wf, hl⟩, k⟩ := h
    refine q_asgP (ep_next_branches (most := 6) (ev_var rfl) (ev_var rfl) ev_c hL hp wf hl (by decide)) fun v H1 e1 hv => ?_
    obtain ⟨q, rfl, hq⟩ := hv
    have hw6 := bf_len l 6 s
    have lenq : ((nats (branchesFrom l 6 s)).map V.int).length = (branchesFrom l 6 s).length := by rw [List.length_map, nats_len]
    refine q_forR2 (lo := 1) (n := 4) (ea_cons ev_c (ea_cons (ev_i0 ev_c ev_c) ea_nil)) (by decide) (fun i σ' H' => ∃ x, σ' = [some (.ref a), some (.ref p), some (.ref q), x] ∧ Ex H1 H' ∧ ∀ j, j < i → patStep (branchesFrom l 6 s) (j + 1) = false) (fun H2 e2 => ⟨none, rfl, e2, fun j hj => absurd hj (by omega)⟩) (fun i σ' H' hi ⟨x, hσ, e, h0⟩ => ?_) (fun σ' H' ⟨x, hσ, e, h0⟩ => ?_)
    · subst hσ
      have hi3 : i < 3 := by omega
      have hq' := e _ _ hq
      have ek : (1 : Int) + (i : Int) = ((i + 1 : Nat) : Int) := by omega
      have em : (2 : Int) * ((1 : Int) + (i : Int)) = ((2 * (i + 1) : Nat) : Int) := by omega
      have ev1 : Ev (tVar 3) [some (.ref a), some (.ref p), some (.ref q), some (.int ((1 : Int) + (i : Int)))] H' (.int ((i + 1 : Nat) : Int)) := ev_is (ev_var rfl) (by rw [ek])
      refine s_when (b := patStep (branchesFrom l 6 s) (i + 1)) ?_ (fun hb H2 e2 => ?_) (fun hb H2 e2 => ?_)
      · unfold patStep
        refine et_and (et_v (ev_is (ev_i0 (ev_len (ev_var rfl) (Or.inl (SqL.of hq'))) (ev_iC ev_c ev1 (mw_two (by omega)))) ?_)) (fun _ => et_v (ev_is (ev_eqL (el_take (ev_var rfl) hq' ev1) (el_mid (ev_var rfl) hq' ev1 (ev_is (ev_iC ev_c ev1 (mw_two (by omega))) rfl))) ?_))
        · rw [lenq]
          congr 1
          exact decide_eq_decide.mpr (by omega)
        · congr 1
          rw [← nats_take, ← nats_drop, ← nats_take]
          have e2 : 2 * (i + 1) - (i + 1) = i + 1 := by omega
          rw [e2]
          by_cases c : (branchesFrom l 6 s).take (i + 1) = ((branchesFrom l 6 s).drop (i + 1)).take (i + 1)
          · rw [beq_iff_eq.mpr c, decide_eq_true (by rw [← c])]
          · rw [beq_eq_false_iff_ne.mpr c, decide_eq_false (fun z => c (nats_inj z))]
      · refine s_retL (el_take (ev_var rfl) (e2 _ _ hq') (ev1.mono e2)) fun r H3 nr e3 hr => k _ _ (((e1.trans e).trans e2).trans e3) ((NewAt.obj hr (fresh_back ((e1.trans e).trans e2) nr)).imp fun H z => ⟨r, rfl, ?_⟩)
        show H r = _
        rw [z, patternAt_at hi3 rfl h0 hb, nats_take]
      · refine ⟨_, rfl, e.trans e2, fun j hj => ?_⟩
        by_cases c : j = i
        · rw [c]; exact hb
        · exact h0 j (by omega)
    · subst hσ
      have hq' := e _ _ hq
      refine s_retL (el_take (ev_var rfl) hq' (ev_is ev_c rfl)) fun r H3 nr e3 hr => k _ _ ((e1.trans e).trans e3) ((NewAt.obj hr (fresh_back (e1.trans e) nr)).imp fun H z => ⟨r, rfl, ?_⟩)
      show H r = _
      rw [z, patternAt_no (fun j hj => h0 j (by show j < 3; exact hj)), nats_take]
theorem patternAt_ok (l : Loop) (s : Values) : PatOk l ((patternAt l s).getD []) ∧ ((patternAt l s).getD []).length ≤ 3 := by
  have key : ∃ k, k ≤ 3 ∧ (patternAt l s).getD [] = (branchesFrom l 6 s).take k := by
    by_cases c : ∃ i, i < 3 ∧ patStep (branchesFrom l 6 s) (i + 1) = true
    · obtain ⟨i, hi, hb⟩ := c
      obtain ⟨u, hu, h1, h2⟩ := first_of (P := fun i => !patStep (branchesFrom l 6 s) (i + 1)) (q := i) (by show (!_) = false; rw [hb]; rfl)
      refine ⟨u + 1, by omega, patternAt_at (i := u) (by omega) rfl (fun j hj => ?_) ?_⟩
      · have := h2 j hj
        simpa using this
      · simpa using h1
    · refine ⟨1, by decide, patternAt_no fun j hj => ?_⟩
      cases e : patStep (branchesFrom l 6 s) (j + 1) with
      | false => rfl
      | true => exact absurd ⟨j, hj, e⟩ c
  obtain ⟨k, hk, e⟩ := key
  rw [e]
  refine ⟨fun b hb => bf_ok l 6 s b (List.mem_of_mem_take hb), ?_⟩
  rw [List.length_take]
  omega
section
variable {K : PySem.W.Frag} {A : Ad} {σ : L2.St} {H : Hp} {to tp tb : TE} {E : XK} {a p q : Addr} {l : Loop} {s : Values} {n : Nat}
theorem en_pattern_at (ho : Ev to σ H (.ref a)) (hp : Ev tp σ H (.ref p)) (h1 : LoopAt A H a n l) (h2 : TupAt H p s) (h3 : WfLoop n l) (h4 : s.length = n) : EvN (tCall (sp_f_pattern_at A) [] E (tCons to (tCons tp tNil))) σ H (IsInts (nats ((patternAt l s).getD []))) :=
  en_call (ea_cons ho (ea_cons hp ea_nil)) (l, s, a, p, n) rfl fun H1 e => ⟨h1.mono e, e _ _ h2, h3, h4⟩
end
def sp_f_behind_once (A : Ad) : Sp := SpP (fun ((l, pt, s, a, q, p, n) : Loop × List Nat × Values × Addr × Addr × Addr × Nat) => [.ref a, .ref q, .ref p]) (fun (l, pt, s, a, q, p, n) H => LoopAt A H a n l ∧ IntsAt H q (nats pt) ∧ TupAt H p s ∧ WfLoop n l ∧ s.length = n ∧ PatOk l pt) (fun (l, pt, s, a, q, p, n) => IsTup (behindOnce l pt s))
theorem sc_f_behind_once : FnScope ["loop", "pattern", "amounts", "number"] ["loop", "pattern", "amounts"] (defScope s_f_behind_once) := ⟨rfl, rfl, rfl, by decide +kernel, rfl, by decide +kernel, by decide +kernel⟩
theorem b_f_behind_once {K : PySem.W.Frag} {f : Addr} {fd : FuncData} (F : Fun K "behind_once" "behind_once" s_f_behind_once f fd) : Binds K fd ["loop", "pattern", "amounts"] [] := F.binds fun _ _ _ _ _ _ us hl => match us, hl with | [_, _, _], _ => rfl
theorem ok_f_behind_once {P : Program} {w : World} {K : PySem.W.Frag} {mg : Str → Option Value} {base : Heap} {A : Ad} (T : Txt K mg A) : FnG P w K mg base CX0 4 "behind_once" ["loop", "pattern", "amounts"] (sp_f_behind_once A) := by
  obtain ⟨f, fd, hm, F⟩ := T.d_f_behind_once
  refine ⟨f, fd, hm, F.kp, F.ok sc_f_behind_once (fun vs H Q E h => ?_) (fun cdv A1 outer s H vs Q E hr h => ⟨_, (pss_cons (ps_for PassesOwn.never rfl (pi_list (pv 1)) (pg_name (i := 3) sc_f_behind_once.nd rfl (Or.inl rfl))
        (pss_one (ps_set (i := 2) sc_f_behind_once.nd rfl (Or.inl rfl) (pe_methG (ok_Loop_round_by T) (hr.mono (by decide)) pass0 (pv 0) (by exact (pa_cons (pv 3) (pa_cons (pv 2) pa_nil)))))))
      (pss_one (ps_ret (pv 2)))), ?_⟩), b_f_behind_once F⟩
  · obtain ⟨⟨l, pt, s, a, q, p, n⟩, rfl, _⟩ := h
    rfl
  · obtain ⟨⟨l, pt, s, a, q, p, n⟩, rfl, ⟨hL, hq, hp, wf, hl, ok⟩, k⟩ := h
    refine q_forL (ev_var rfl) (SqL.of hq) (fun i σ' H' => ∃ x p', σ' = [some (.ref a), some (.ref q), some (.ref p'), x] ∧ Ex H H' ∧ TupAt H' p' (behindOnce l (pt.take i) s)) (fun H1 e1 => ⟨none, p, rfl, e1, e1 _ _ hp⟩) (fun i σ' H' _ ⟨_, _, _, e, _⟩ => SqL.of (e _ _ hq)) (fun i x σ' H' hi ⟨y, p', hσ, e, hp'⟩ => ?_) (fun σ' H' ⟨y, p', hσ, e, hp'⟩ => ?_)
    · subst hσ
      rw [List.getElem?_map] at hi
      unfold nats at hi
      rw [List.getElem?_map] at hi
      obtain ⟨b, hb, rfl⟩ : ∃ b, pt[i]? = some b ∧ x = .int ((b : Nat) : Int) := by
        cases hb : pt[i]? with
        | none => rw [hb] at hi; cases hi
        | some b => rw [hb] at hi; exact ⟨b, rfl, (Option.some.inj hi).symm⟩
      have hbl : b < l.length := ok b (List.mem_of_getElem? hb)
      have hl' : (behindOnce l (pt.take i) s).length = n := behindOnce_len wf _ _ (fun c hc => ok c (List.mem_of_mem_take hc)) hl
      refine s_asgP (ep_Loop_round_by (ev_var rfl) (ev_var rfl) (ev_var rfl) (hL.mono e) hp' wf hl' hbl) fun v H1 e1 hv => ?_
      obtain ⟨p6, rfl, hp6⟩ := hv
      refine ⟨_, p6, rfl, e.trans e1, ?_⟩
      rw [take_snoc hb, behindOnce_snoc]
      exact hp6
    · subst hσ
      rw [List.length_map, nats_len, List.take_length] at hp'
      exact s_ret (ev_var rfl) fun H4 e4 => k _ _ (e.trans e4) ⟨p', rfl, e4 _ _ hp'⟩
section
variable {K : PySem.W.Frag} {A : Ad} {σ : L2.St} {H : Hp} {to tq tp : TE} {E : XK} {a p q : Addr} {l : Loop} {s : Values} {n : Nat} {pt : List Nat}
theorem ep_behind_once (ho : Ev to σ H (.ref a)) (hq : Ev tq σ H (.ref q)) (hp : Ev tp σ H (.ref p)) (h1 : LoopAt A H a n l) (hI : IntsAt H q (nats pt)) (h2 : TupAt H p s) (h3 : WfLoop n l) (h4 : s.length = n) (h5 : PatOk l pt) : EvP (tCall (sp_f_behind_once A) [] E (tCons to (tCons tq (tCons tp tNil)))) σ H (IsTup (behindOnce l pt s)) :=
  ep_call (ea_cons ho (ea_cons hq (ea_cons hp ea_nil))) (l, pt, s, a, q, p, n) rfl fun H1 e => ⟨h1.mono e, e _ _ hI, e _ _ h2, h3, h4, h5⟩
end
/-! ### new lists of new things, growing -/
def Grow {α : Type} (R : α → V → Hp → Prop) (Hs : Hp) (q : Addr) (ds : List α) (H' : Hp) : Prop := ∃ zs H0, H' q = some (.lst zs) ∧ (∀ b o, Hs b = some o → H0 b = none) ∧ H0 q = none ∧ Ex H0 H' ∧ Paired (fun v d => R d v H0) zs ds
section
variable {α : Type} {R : α → V → Hp → Prop} {Hs H' H2 H1 Hc : Hp} {q : Addr} {ds es : List α}
theorem Grow.on (g : Grow R Hs q ds H') (hq : Hs q = none) (k : ∀ b o, Hs b = none → H' b = some o → H2 b = some o) : Grow R Hs q ds H2 := by
  obtain ⟨zs, H0, h, f, n, e, p⟩ := g
  refine ⟨zs, H0, k q _ hq h, f, n, fun b o hb => k b o ?_ (e b o hb), p⟩
  cases z : Hs b with
  | none => rfl
  | some u => rw [f b u z] at hb; cases hb
theorem Grow.later (g : Grow R Hs q ds H') (e : Ex H' H2) : Grow R Hs q ds H2 := by
  obtain ⟨zs, H0, h, f, n, e0, p⟩ := g
  exact ⟨zs, H0, e _ _ h, f, n, e0.trans e, p⟩
theorem Grow.nil (h : H' q = some (.lst [])) : Grow R Hs q ([] : List α) H' := ⟨[], fun _ => none, h, fun _ _ _ => rfl, rfl, fun _ _ h => (by cases h), .nil⟩
theorem Grow.put (m : ∀ d v, Mono (R d v)) (g : Grow R Hs q ds Hc) (dom : ∀ b o, Hs b = some o → Hc b ≠ none) {vs zs : List V} (n : NewAt Hc H1 (fun H => Paired (fun v d => R d v H) vs es)) (k : ∀ b o, Hs b = none → Hc b = some o → H1 b = some o) (hz : Hc q = some (.lst zs)) : Grow R Hs q (ds ++ es) (upd H1 q (.lst (zs ++ vs))) := by
  obtain ⟨zs', H0, h, f, n0, e0, p⟩ := g
  rw [h] at hz
  have hz : zs' = zs := by injection hz with hz; injection hz
  subst hz
  obtain ⟨N, fN, eN, pN⟩ := n
  have ea : Ex H0 (upd H1 q (.lst (zs' ++ vs))) := fun b o hb => by
    have hbs : Hs b = none := by
      cases z : Hs b with
      | none => rfl
      | some u => rw [f b u z] at hb; cases hb
    rw [upd_ne (ne_of_none hb n0)]
    exact k b o hbs (e0 b o hb)
  have eb : Ex N (upd H1 q (.lst (zs' ++ vs))) := fun b o hb => by
    rw [upd_ne (ne_of_none hb (fN q _ h))]
    exact eN b o hb
  refine ⟨zs' ++ vs, uni H0 N, upd_same, fun b o hb => ?_, ?_, uni_ex ea eb, paired_app (Paired.imp2 p fun v d z => m d v _ _ (uni_l H0 N) z) (Paired.imp2 pN fun v d z => m d v _ _ (uni_r ea eb) z)⟩
  · unfold uni
    rw [f b o hb]
    cases z : Hc b with
    | none => exact absurd z (dom b o hb)
    | some u => exact fN b u z
  · unfold uni
    rw [n0]
    exact fN q _ h
theorem Grow.done (m : ∀ d v, Mono (R d v)) (g : Grow R Hs q ds H') (hq : Hs q = none) : NewAt Hs H' (fun H => ∃ zs, H q = some (.lst zs) ∧ Paired (fun v d => R d v H) zs ds) := by
  obtain ⟨zs, H0, h, f, n0, e0, p⟩ := g
  refine (NewAt.and (P := fun H => H q = some (.lst zs)) (R := fun H => Paired (fun v d => R d v H) zs ds) (NewAt.obj h hq) ⟨H0, f, e0, p⟩ (fun _ _ e z => e _ _ z) (fun _ _ e z => Paired.imp2 z fun v d y => m d v _ _ e y)).imp fun H z => ⟨zs, z⟩
theorem Grow.len (g : Grow R Hs q ds H') : ∃ zs, H' q = some (.lst zs) ∧ zs.length = ds.length := by
  obtain ⟨zs, H0, h, f, n0, e0, p⟩ := g
  exact ⟨zs, h, p.length⟩
theorem paired_map {β γ : Type} {F : α → β → Prop} (f : γ → β) : ∀ {l : List α} {r : List γ}, Paired (fun a c => F a (f c)) l r → Paired F l (r.map f)
  | _, _, .nil => .nil
  | _, _, .cons h t => .cons h (paired_map f t)
theorem Grow.map {β : Type} (f : β → α) {bs : List β} (g : Grow (fun b => R (f b)) Hs q bs H') : Grow R Hs q (bs.map f) H' := by
  obtain ⟨zs, H0, h, f0, n0, e0, p⟩ := g
  exact ⟨zs, H0, h, f0, n0, e0, paired_map f p⟩
end
/-- lists of lists of ints -/
def IsLists (cs : List (List Int)) (v : V) (H : Hp) : Prop := ∃ p ys, v = .ref p ∧ H p = some (.lst ys) ∧ Paired (fun v c => IsInts c v H) ys cs
theorem IsLists.mono {cs : List (List Int)} {v : V} : Mono (IsLists cs v) := fun H H' e h => by
  obtain ⟨p, ys, r, h, z⟩ := h
  exact ⟨p, ys, r, e _ _ h, Paired.imp2 z fun v c y => IsInts.mono _ _ e y⟩
section
variable {K : PySem.W.Frag} {σ : L2.St} {H : Hp} {tl te ta : TE} {j i : Nat} {vs : List Nat} {D : Ends} {tz : TS}
/-- a comprehension of new things -/
theorem q_lcN {α β : Type} {a : Addr} {xs : List V} {l : List α} {F : V → α → Prop} (R : α → V → Hp → Prop) (m : ∀ d v, Mono (R d v)) (h : Ev tl σ H (.ref a)) (hx : SqL K H a xs) (hp : Paired F xs l) (hz : xs.length ≤ 40000) (hw : ∀ x, wipe ((wipe σ vs).set j (some x)) vs = wipe σ vs)
    (he : ∀ x d, d ∈ l → F x d → EvN te ((wipe σ vs).set j (some x)) H (R d)) (k : ∀ q H1, H q = none → Ex H H1 → Grow R H q l H1 → tz D (σ.set i (some (.ref q))) H1) : tSeq (tAsg (tLc (iList K tl) (gName j) tYes te vs) (gName i)) tz D σ H := h H (Ex.refl H) _ fun H1 e1 => ⟨a, rfl, ⟨xs, ex_l e1 hx⟩, fun Dl hD =>
  lc_list (xs := xs) (fun i H' => Ex H1 H' ∧ Grow R H Dl (l.take i) H') ⟨Ex.new hD, Grow.nil upd_same⟩ (fun i H' _ p => ex_l (e1.trans p.1) hx)
    (fun i x H' hi ⟨p1, p2⟩ => by
      obtain ⟨d, hd, hf⟩ := paired_get hp hi
      refine ⟨hw x, ?_⟩
      show te ((wipe σ vs).set j (some x)) H' _
      refine he x d (List.mem_of_getElem? hd) hf H' (e1.trans p1) _ fun v H4 e4 n4 => ?_
      obtain ⟨zs, hzs, hlen⟩ := p2.len
      refine ⟨zs, e4 _ _ hzs, Evl.sz_lt ?_, (p1.trans e4).mut hD, ?_⟩
      · rw [hlen, List.length_take]
        have := (List.getElem?_eq_some_iff.mp hi).1
        omega
      · rw [take_snoc hd]
        exact p2.put m (fun b o hb z => by rw [(e1.trans p1) b o hb] at z; cases z) (n4.imp fun H z => .cons z .nil) (fun b o _ z => e4 b o z) hzs)
    (fun H' ⟨p1, p2⟩ => by
      have hl := hp.length
      rw [List.take_of_length_le (by omega)] at p2
      exact k Dl H' (fresh_back e1 hD) (e1.trans p1) p2)⟩
/-- x.append(e), e new -/
theorem s_appN {P : V → Hp → Prop} {l : Addr} {xs : List V} (hl : H l = some (.lst xs)) (ha : Ev ta σ H (.ref l)) (h : EvN te σ H P) (hz : xs.length < 100000) (k : ∀ v H1, Ex H H1 → NewAt H H1 (P v) → D.nx σ (upd H1 l (.lst (xs ++ [v])))) :
    tDrop (tBM K "list" rAppend ta (tCons te tNil)) D σ H := ha H (Ex.refl H) _ fun H1 e1 =>
  ⟨Or.inl ⟨rfl, xs, Evl.sq_of (e1 l _ hl)⟩, h H1 e1 _ fun v H2 e2 n => ⟨l, xs, v, rfl, rfl, (e1.trans e2) l _ hl, Evl.sz_lt hz, k v H2 (e1.trans e2) (n.earlier e1)⟩⟩
/-- x.extend(e), e a new list -/
theorem s_extN {P : List V → Hp → Prop} {l : Addr} {xs : List V} (hl : H l = some (.lst xs)) (ha : Ev ta σ H (.ref l)) (h : EvN te σ H (fun v H' => ∃ p ys, v = .ref p ∧ H' p = some (.lst ys) ∧ P ys H')) (hz : ∀ ys H, P ys H → xs.length + ys.length ≤ 100000) (k : ∀ ys H1, Ex H H1 → NewAt H H1 (P ys) → D.nx σ (upd H1 l (.lst (xs ++ ys)))) :
    tDrop (tBM K "list" rExtend ta (tCons te tNil)) D σ H := ha H (Ex.refl H) _ fun H1 e1 =>
  ⟨Or.inl ⟨rfl, xs, Evl.sq_of (e1 l _ hl)⟩, h H1 e1 _ fun v H2 e2 n => by
    obtain ⟨N, f, eN, p, ys, ev, hp, pP⟩ := n
    subst ev
    exact ⟨l, p, xs, ys, rfl, rfl, (e1.trans e2) l _ hl, eN _ _ hp, Evl.sz_of (hz ys N pP), k ys H2 (e1.trans e2) (NewAt.earlier ⟨N, f, eN, pP⟩ e1)⟩⟩
theorem el_intsN {xs : List Int} (h : EvL te σ H (xs.map V.int)) : EvN te σ H (IsInts xs) := (el_n h).imp fun v H z => z
end
def sp_f_clauses_at (A : Ad) : Sp := SpN (fun ((l, b, s, a, p, n) : Loop × Nat × Values × Addr × Addr × Nat) => [.ref a, .int b, .ref p]) (fun (l, b, s, a, p, n) H => LoopAt A H a n l ∧ TupAt H p s ∧ WfLoop n l ∧ s.length = n ∧ b < l.length) (fun (l, b, s, a, p, n) => IsLists (clausesAt l b s))
theorem sc_f_clauses_at : FnScope ["loop", "number", "amounts", "found", "branch", "test"] ["loop", "number", "amounts"] (defScope s_f_clauses_at) := ⟨rfl, rfl, rfl, by decide +kernel, rfl, by decide +kernel, by decide +kernel⟩
theorem b_f_clauses_at {K : PySem.W.Frag} {f : Addr} {fd : FuncData} (F : Fun K "clauses_at" "clauses_at" s_f_clauses_at f fd) : Binds K fd ["loop", "number", "amounts"] [] := F.binds fun _ _ _ _ _ _ us hl => match us, hl with | [_, _, _], _ => rfl
theorem ok_f_clauses_at {P : Program} {w : World} {K : PySem.W.Frag} {mg : Str → Option Value} {base : Heap} {A : Ad} (T : Txt K mg A) : FnG P w K mg base CX0 3 "clauses_at" ["loop", "number", "amounts"] (sp_f_clauses_at A) := by
  obtain ⟨f, fd, hm, F⟩ := T.d_f_clauses_at
  refine ⟨f, fd, hm, F.kp, F.ok sc_f_clauses_at (fun vs H Q E h => ?_) (fun cdv A1 outer s H vs Q E hr h => ⟨_, (pss_cons (ps_setLc (i := 3) (own := [("test", 5)]) (g := gName 5) (tt := tYes) rfl sc_f_clauses_at.nd rfl rfl (sw_true rfl rfl rfl (by decide +kernel)) (pi_list (pe_fld (pe_ix ix_list (pe_fld (pv 0) rfl) (pv 1) (fun _ _ => rfl)) rfl)) (blkOk_by (own := [("test", 5)]) (N := ["loop", "number", "amounts", "found", "branch", "test"]) (sc := defScope s_f_clauses_at) (by decide +kernel)) (fun _ _ _ _ _ => (pg_name (i := 5) sc_f_clauses_at.nd rfl (Or.inl rfl))) (fun _ _ _ _ _ => pts_nil) (fun _ _ _ _ _ => (pe_lst (by exact (pa_cons (pe_methG (ok_Test_excess T) (hr.mono (by decide)) pass0 (pv 5) (by exact (pa_cons (pv 2) pa_nil))) pa_nil)))))
      (pss_cons (ps_for PassesOwn.never rfl (pi_list (pe_slice sl_list (pe_fld (pv 0) rfl) po_none (po_some (pv 1)))) (pg_name (i := 4) sc_f_clauses_at.nd rfl (Or.inl rfl))
        (pss_one (ps_expr (pe_bm PySem.F.plainAttrs_list PySem.F.slot_list_append PySem.F.type_list_append mt_append (pv 3) (by exact (pa_cons (pe_lc (own := [("test", 5)]) (g := gName 5) (tt := tYes) rfl sc_f_clauses_at.nd (pi_list (pe_fld (pv 4) rfl)) (blkOk_by (own := [("test", 5)]) (N := ["loop", "number", "amounts", "found", "branch", "test"]) (sc := defScope s_f_clauses_at) (by decide +kernel)) (fun _ _ _ _ _ => (pg_name (i := 5) sc_f_clauses_at.nd rfl (Or.inl rfl))) (fun _ _ _ _ _ => pts_nil) (fun _ _ _ _ _ => (pe_methG (ok_Test_lack T) (hr.mono (by decide)) pass0 (pv 5) (by exact (pa_cons (pv 2) pa_nil))))) pa_nil))))))
      (pss_one (ps_ret (pv 3))))), ?_⟩), b_f_clauses_at F⟩
  · obtain ⟨⟨l, b, s, a, p, n⟩, rfl, _⟩ := h
    rfl
  · obtain ⟨⟨l, b, s, a, p, n⟩, rfl, ⟨hL, hp, wf, hl, hb⟩, k⟩ := h
    obtain ⟨dx, pb, bs, h1, h2, h3⟩ := hL
    have hbr : l[b]? = some l[b] := List.getElem?_eq_getElem hb
    obtain ⟨vb, hvb, ab, rfl, dxb, pt, qg, ts, gs, hb1, hb2, hb3, hb4, hb5⟩ := paired_get2 h3 hbr
    have wfb := wf.all l[b] (List.getElem_mem hb)
    have h3l := h3.length
    have h4l := hb4.length
    have wt := wfb.many
    have w3 := wf.three
    have eguard : guardAt l b = l[b].guard := by unfold guardAt branchAt; rw [hbr]; rfl
    refine q_lcN (β := Nat) (fun t => IsInts [excess s t]) (fun _ _ => IsInts.mono) (ev_fld (ev_ixL (ev_fld (ev_var rfl) h1 T.cls_Loop T.na_Loop_branches rfl) (ev_var rfl) (SqL.of h2) (atI_nat hvb)) hb1 T.cls_Branch T.na_Branch_tests rfl) (SqL.of hb2) hb4 (by omega) (fun _ => rfl) (fun x t ht hx => ?_) fun q H1 nq e1 g => ?_
    · obtain ⟨at', rfl, hT⟩ := hx
      exact el_intsN (xs := [excess s t]) (el_lst (ea_cons (ev_Test_excess (ev_var rfl) (ev_var rfl) hT hp (wfb.tests t ht) hl) ea_nil) (by show (1 : Nat) ≤ 100000; decide))
    · have g : Grow (fun c => IsInts c) H q (l[b].guard.map fun t => [excess s t]) H1 := Grow.map _ g
      refine q_forNLn (xs := bs.take b) ?_ (fun r i σ' H' => ∃ x, σ' = [some (.ref a), some (.int b), some (.ref p), some (.ref q), x, none] ∧ H' r = some (.lst (bs.take b)) ∧ r ≠ q ∧ Ex H H' ∧ Grow (fun c => IsInts c) H q ((l[b].guard.map fun t => [excess s t]) ++ ((l.take b).take i).map fun c => c.guard.map (lack s)) H') (fun r H2 nr e2 hr => ⟨none, rfl, hr, ?_, e1.trans e2, ?_⟩) (fun r i σ' H' _ ⟨_, _, z, _⟩ => SqL.of z) (fun r i x σ' H' hi ⟨y, hσ, hr, nrq, e, g⟩ => ?_) (fun r σ' H' ⟨y, hσ, hr, nrq, e, g⟩ => ?_)
      · have := el_sl (K := K) (σ := [some (.ref a), some (.int b), some (.ref p), some (.ref q), none, none]) (H := H1) (ev_fld (ev_var (i := 0) rfl) (e1 _ _ h1) T.cls_Loop T.na_Loop_branches rfl) eo_none (eo_some (ev_var (i := 1) rfl)) (SqL.of (e1 _ _ h2))
        have ec : cutV bs none (some ((b : Nat) : Int)) = bs.take b := by
          unfold cutV
          rw [HT.sIx_none, HT.sIx_nat, List.drop_zero, Nat.sub_zero, Nat.min_eq_left (by omega)]
        rw [ec] at this
        exact this
      · obtain ⟨zs, hz, _⟩ := g.len
        exact (ne_of_none hz nr).symm
      · rw [List.take_zero, List.map_nil, List.append_nil]
        exact g.later e2
      · subst hσ
        obtain ⟨c, hc, hf⟩ := paired_get (paired_take b h3) hi
        obtain ⟨ac, rfl, dxc, ptc, qgc, tsc, gsc, hc1, hc2, hc3, hc4, hc5⟩ := hf
        have hcl : c ∈ l := List.mem_of_mem_take (List.mem_of_getElem? hc)
        have wfc := wf.all c hcl
        have h5l := hc4.length
        have wtc := wfc.many
        obtain ⟨zs, hz, lz⟩ := g.len
        refine s_appN (P := IsInts (c.guard.map (lack s))) hz (ev_var rfl) (el_intsN (xs := c.guard.map (lack s)) ?_) ?_ fun v H2 e2 n2 => ?_
        · rw [List.map_map]
          refine el_lcV (F := TestV A H) (V.int ∘ lack s) (ev_fld (ev_var rfl) (e _ _ hc1) T.cls_Branch T.na_Branch_tests rfl) (SqL.of (e _ _ hc2)) hc4 (by omega) (fun _ => rfl) fun x t ht hx => ?_
          obtain ⟨at', rfl, hT⟩ := hx
          exact ev_Test_lack (ev_var rfl) (ev_var rfl) (hT.mono e) (e _ _ hp) (wfc.tests t ht) hl
        · rw [lz, List.length_append, List.length_map, List.length_map, List.length_take, List.length_take]
          omega
        · refine ⟨_, rfl, ?_, nrq, ?_, ?_⟩
          · rw [upd_ne nrq]
            exact e2 _ _ hr
          · exact (e.trans e2).mut nq
          · rw [take_snoc hc, List.map_append, ← List.append_assoc]
            exact g.put (fun _ _ => IsInts.mono) (fun b o hb z => by rw [e b o hb] at z; cases z) (n2.imp fun H z => .cons z .nil) (fun b o _ z => e2 b o z) hz
      · subst hσ
        rw [List.take_of_length_le (by rw [List.length_take, List.length_take]; omega)] at g
        refine s_ret (ev_var rfl) fun H4 e4 => k _ _ (e.trans e4) (((g.later e4).done (fun _ _ => IsInts.mono) nq).imp fun H z => ?_)
        obtain ⟨zs, z1, z2⟩ := z
        refine ⟨q, zs, rfl, z1, ?_⟩
        show Paired _ zs (clausesAt l b s)
        unfold clausesAt
        rw [eguard]
        exact z2
theorem clausesAt_le {n : Nat} {l : Loop} (wf : WfLoop n l) {b : Nat} (hb : b < l.length) (s : Values) : (clausesAt l b s).length ≤ 6 := by
  unfold clausesAt guardAt branchAt
  rw [List.getElem?_eq_getElem hb, List.length_append, List.length_map, List.length_map, List.length_take]
  have := (wf.all l[b] (List.getElem_mem hb)).many
  have := wf.three
  show (l[b].guard).length + _ ≤ 6
  omega
theorem allClauses_le {n : Nat} {l : Loop} (wf : WfLoop n l) : ∀ (pt : List Nat) (s : Values), PatOk l pt → (allClauses l pt s).length ≤ 6 * pt.length
  | [], _, _ => Nat.le_refl 0
  | b :: r, s, ok => by
    show (clausesAt l b s ++ allClauses l r (moved (moveOf l b) s)).length ≤ _
    have h1 := clausesAt_le wf (ok b List.mem_cons_self) s
    have h2 := allClauses_le wf r (moved (moveOf l b) s) fun c hc => ok c (List.mem_cons_of_mem _ hc)
    rw [List.length_append, List.length_cons]
    omega
section
variable {K : PySem.W.Frag} {A : Ad} {σ : L2.St} {H : Hp} {to tb tp : TE} {E : XK} {a p q : Addr} {l : Loop} {s : Values} {n b : Nat} {pt : List Nat}
theorem en_clauses_at (ho : Ev to σ H (.ref a)) (hb : Ev tb σ H (.int b)) (hp : Ev tp σ H (.ref p)) (h1 : LoopAt A H a n l) (h2 : TupAt H p s) (h3 : WfLoop n l) (h4 : s.length = n) (h5 : b < l.length) : EvN (tCall (sp_f_clauses_at A) [] E (tCons to (tCons tb (tCons tp tNil)))) σ H (IsLists (clausesAt l b s)) :=
  en_call (ea_cons ho (ea_cons hb (ea_cons hp ea_nil))) (l, b, s, a, p, n) rfl fun H1 e => ⟨h1.mono e, e _ _ h2, h3, h4, h5⟩
end
def sp_f_all_clauses (A : Ad) : Sp := SpN (fun ((l, pt, s, a, q, p, n) : Loop × List Nat × Values × Addr × Addr × Addr × Nat) => [.ref a, .ref q, .ref p]) (fun (l, pt, s, a, q, p, n) H => LoopAt A H a n l ∧ IntsAt H q (nats pt) ∧ TupAt H p s ∧ WfLoop n l ∧ s.length = n ∧ PatOk l pt ∧ pt.length ≤ 3) (fun (l, pt, s, a, q, p, n) => IsLists (allClauses l pt s))
theorem sc_f_all_clauses : FnScope ["loop", "pattern", "amounts", "found", "number"] ["loop", "pattern", "amounts"] (defScope s_f_all_clauses) := ⟨rfl, rfl, rfl, by decide +kernel, rfl, by decide +kernel, by decide +kernel⟩
theorem b_f_all_clauses {K : PySem.W.Frag} {f : Addr} {fd : FuncData} (F : Fun K "all_clauses" "all_clauses" s_f_all_clauses f fd) : Binds K fd ["loop", "pattern", "amounts"] [] := F.binds fun _ _ _ _ _ _ us hl => match us, hl with | [_, _, _], _ => rfl
theorem ok_f_all_clauses {P : Program} {w : World} {K : PySem.W.Frag} {mg : Str → Option Value} {base : Heap} {A : Ad} (T : Txt K mg A) : FnG P w K mg base CX0 4 "all_clauses" ["loop", "pattern", "amounts"] (sp_f_all_clauses A) := by
  obtain ⟨f, fd, hm, F⟩ := T.d_f_all_clauses
  refine ⟨f, fd, hm, F.kp, F.ok sc_f_all_clauses (fun vs H Q E h => ?_) (fun cdv A1 outer s H vs Q E hr h => ⟨_, (pss_cons (ps_set (i := 3) sc_f_all_clauses.nd rfl (Or.inl rfl) (pe_lst (by exact pa_nil)))
      (pss_cons (ps_for PassesOwn.never rfl (pi_list (pv 1)) (pg_name (i := 4) sc_f_all_clauses.nd rfl (Or.inl rfl))
        (pss_cons (ps_expr (pe_bm PySem.F.plainAttrs_list PySem.F.slot_list_extend PySem.F.type_list_extend mt_extend (pv 3) (by exact (pa_cons (pe_callG (ok_f_clauses_at T) (hr.mono (by decide)) pass0 rfl (by exact (pa_cons (pv 0) (pa_cons (pv 4) (pa_cons (pv 2) pa_nil))))) pa_nil))))
      (pss_one (ps_set (i := 2) sc_f_all_clauses.nd rfl (Or.inl rfl) (pe_methG (ok_Loop_round_by T) (hr.mono (by decide)) pass0 (pv 0) (by exact (pa_cons (pv 4) (pa_cons (pv 2) pa_nil))))))))
      (pss_one (ps_ret (pv 3))))), ?_⟩), b_f_all_clauses F⟩
  · obtain ⟨⟨l, pt, s, a, q, p, n⟩, rfl, _⟩ := h
    rfl
  · obtain ⟨⟨l, pt, s, a, q, p, n⟩, rfl, ⟨hL, hq, hp, wf, hl, ok, h3⟩, k⟩ := h
    refine q_asgL (el_lst ea_nil (Nat.zero_le _)) fun f H1 nf e1 hf => ?_
    refine q_forL (ev_var rfl) (SqL.of (e1 _ _ hq)) (fun i σ' H' => ∃ x p', σ' = [some (.ref a), some (.ref q), some (.ref p'), some (.ref f), x] ∧ Ex H H' ∧ p' ≠ f ∧ TupAt H' p' (behindOnce l (pt.take i) s) ∧ Grow (fun c => IsInts c) H f (allClauses l (pt.take i) s) H') (fun H2 e2 => ⟨none, p, rfl, e1.trans e2, ne_of_none hp nf, (e1.trans e2) _ _ hp, (Grow.nil hf).later e2⟩) (fun i σ' H' _ ⟨_, _, _, e, _⟩ => SqL.of (e _ _ hq)) (fun i x σ' H' hi ⟨y, p', hσ, e, nep, hp', g⟩ => ?_) (fun σ' H' ⟨y, p', hσ, e, nep, hp', g⟩ => ?_)
    · subst hσ
      rw [List.getElem?_map] at hi
      unfold nats at hi
      rw [List.getElem?_map] at hi
      obtain ⟨b, hb, rfl⟩ : ∃ b, pt[i]? = some b ∧ x = .int ((b : Nat) : Int) := by
        cases hb : pt[i]? with
        | none => rw [hb] at hi; cases hi
        | some b => rw [hb] at hi; exact ⟨b, rfl, (Option.some.inj hi).symm⟩
      have hbl : b < l.length := ok b (List.mem_of_getElem? hb)
      have oki : PatOk l (pt.take i) := fun c hc => ok c (List.mem_of_mem_take hc)
      have hl' : (behindOnce l (pt.take i) s).length = n := behindOnce_len wf _ _ oki hl
      obtain ⟨zs, hz, lz⟩ := g.len
      refine q_any (s_extN (P := fun ys H => Paired (fun v c => IsInts c v H) ys (clausesAt l b (behindOnce l (pt.take i) s))) hz (ev_var rfl) ((en_clauses_at (ev_var rfl) (ev_var rfl) (ev_var rfl) (hL.mono e) hp' wf hl' hbl).imp fun v H z => ?_) (fun ys H z => ?_) fun ys H2 e2 n2 => ?_)
      · obtain ⟨r, ys, z1, z2, z3⟩ := z
        exact ⟨r, ys, z1, z2, z3⟩
      · have z := z.length
        have c1 := clausesAt_le wf hbl (behindOnce l (pt.take i) s)
        have c2 := allClauses_le wf (pt.take i) s oki
        have c3 : (pt.take i).length ≤ pt.length := by rw [List.length_take]; omega
        omega
      · have e' : Ex H (upd H2 f (.lst (zs ++ ys))) := (e.trans e2).mut nf
        have hp2 : TupAt (upd H2 f (.lst (zs ++ ys))) p' (behindOnce l (pt.take i) s) := by
          show upd H2 f _ p' = _
          rw [upd_ne nep]
          exact e2 _ _ hp'
        have g2 : Grow (fun c => IsInts c) H f (allClauses l (pt.take (i + 1)) s) (upd H2 f (.lst (zs ++ ys))) := by
          rw [take_snoc hb, allClauses_snoc]
          exact g.put (fun _ _ => IsInts.mono) (fun b o hb z => by rw [e b o hb] at z; cases z) n2 (fun b o _ z => e2 b o z) hz
        refine s_asgP (ep_Loop_round_by (ev_var rfl) (ev_var rfl) (ev_var rfl) (hL.mono e') hp2 wf hl' hbl) fun v H5 e5 hv => ?_
        obtain ⟨p6, rfl, hp6⟩ := hv
        refine ⟨_, p6, rfl, e'.trans e5, ?_, ?_, g2.later e5⟩
        · obtain ⟨ws, hw, _⟩ := (g2.later e5).len
          exact ne_of hp6 hw (by intro z; cases z)
        · rw [take_snoc hb, behindOnce_snoc]
          exact hp6
    · subst hσ
      rw [List.length_map, nats_len, List.take_length] at g
      refine s_ret (ev_var rfl) fun H4 e4 => k _ _ (e.trans e4) (((g.later e4).done (fun _ _ => IsInts.mono) nf).imp fun H z => ?_)
      obtain ⟨zs, z1, z2⟩ := z
      exact ⟨f, zs, rfl, z1, z2⟩
section
variable {K : PySem.W.Frag} {A : Ad} {σ : L2.St} {H : Hp} {to tq tp : TE} {E : XK} {a p q : Addr} {l : Loop} {s : Values} {n b : Nat} {pt : List Nat}
theorem en_all_clauses (ho : Ev to σ H (.ref a)) (hq : Ev tq σ H (.ref q)) (hp : Ev tp σ H (.ref p)) (h1 : LoopAt A H a n l) (hI : IntsAt H q (nats pt)) (h2 : TupAt H p s) (h3 : WfLoop n l) (h4 : s.length = n) (h5 : PatOk l pt) (h6 : pt.length ≤ 3) : EvN (tCall (sp_f_all_clauses A) [] E (tCons to (tCons tq (tCons tp tNil)))) σ H (IsLists (allClauses l pt s)) :=
  en_call (ea_cons ho (ea_cons hq (ea_cons hp ea_nil))) (l, pt, s, a, q, p, n) rfl fun H1 e => ⟨h1.mono e, e _ _ hI, e _ _ h2, h3, h4, h5, h6⟩
end
theorem ev_min {K : PySem.W.Frag} {σ : L2.St} {H : Hp} {ta : TE} {ns : List Int} {m : Int} (ha : EvL ta σ H (ns.map V.int)) (hm : m ∈ ns) (hl : ∀ y ∈ ns, m ≤ y) : Ev (tCB (rMin K) (tCons ta tNil)) σ H (.int m) := fun H1 e Q q =>
  ha H1 e _ fun p H2 _ e2 hp => ⟨p, ns, rfl, SqL.of hp, List.length_pos_of_mem hm, fun y hy z => by
    have h1 := hl y hy
    have h2 := z m hm
    have : m = y := by omega
    subst this
    exact q H2 e2⟩
theorem least_of : ∀ (c : List Int), ∃ m, m ∈ (1 : Int) :: c ∧ (∀ y ∈ (1 : Int) :: c, m ≤ y) ∧ decide (m ≤ 0) = clauseOk c
  | [] => ⟨1, List.mem_cons_self, fun y hy => by rcases List.mem_cons.mp hy with e | e; · omega
                                                 · exact (nomatch e), rfl⟩
  | x :: c => by
    obtain ⟨m, h1, h2, h3⟩ := least_of c
    have e : clauseOk (x :: c) = (decide (x ≤ 0) || clauseOk c) := rfl
    by_cases d : x ≤ m
    · refine ⟨x, List.mem_cons_of_mem _ List.mem_cons_self, fun y hy => ?_, ?_⟩
      · rcases List.mem_cons.mp hy with z | z
        · have := h2 1 List.mem_cons_self; omega
        · rcases List.mem_cons.mp z with z | z
          · omega
          · have := h2 y (List.mem_cons_of_mem _ z); omega
      · rw [e, ← h3]
        by_cases c0 : x ≤ 0
        · rw [decide_eq_true c0]; rfl
        · rw [decide_eq_false c0, decide_eq_false (by omega)]; rfl
    · refine ⟨m, ?_, fun y hy => ?_, ?_⟩
      · rcases List.mem_cons.mp h1 with z | z
        · rw [z]; exact List.mem_cons_self
        · exact List.mem_cons_of_mem _ (List.mem_cons_of_mem _ z)
      · rcases List.mem_cons.mp hy with z | z
        · have := h2 1 List.mem_cons_self; omega
        · rcases List.mem_cons.mp z with z | z
          · omega
          · exact h2 y (List.mem_cons_of_mem _ z)
      · rw [e, ← h3]
        by_cases c0 : m ≤ 0
        · rw [decide_eq_true c0, Bool.or_true]
        · rw [decide_eq_false c0, decide_eq_false (by omega)]; rfl
def sp_f_is_followed (A : Ad) : Sp := SpP (fun ((cs, v) : List (List Int) × V) => [v]) (fun (cs, v) H => IsLists cs v H ∧ cs.length ≤ 1000 ∧ ∀ c ∈ cs, c.length ≤ 1000) (fun (cs, v) u _ => u = .bl (isFollowed cs))
theorem sc_f_is_followed : FnScope ["clauses", "clause"] ["clauses"] (defScope s_f_is_followed) := ⟨rfl, rfl, rfl, by decide +kernel, rfl, by decide +kernel, by decide +kernel⟩
theorem b_f_is_followed {K : PySem.W.Frag} {f : Addr} {fd : FuncData} (F : Fun K "is_followed" "is_followed" s_f_is_followed f fd) : Binds K fd ["clauses"] [] := F.binds fun _ _ _ _ _ _ us hl => match us, hl with | [_], _ => rfl
theorem ok_f_is_followed {P : Program} {w : World} {K : PySem.W.Frag} {mg : Str → Option Value} {base : Heap} {A : Ad} (T : Txt K mg A) : FnG P w K mg base CX0 1 "is_followed" ["clauses"] (sp_f_is_followed A) := by
  obtain ⟨f, fd, hm, F⟩ := T.d_f_is_followed
  refine ⟨f, fd, hm, F.kp, F.ok sc_f_is_followed (fun vs H Q E h => ?_) (fun cdv A1 outer s H vs Q E hr h => ⟨_, (pss_one (ps_ret (pe_callB (cr_all rfl) (by rfl) T.n_all (by decide +kernel) (by exact (pa_cons (pe_lc (own := [("clause", 1)]) (g := gName 1) (tt := tYes) rfl sc_f_is_followed.nd (pi_list (pv 0)) (blkOk_by (own := [("clause", 1)]) (N := ["clauses", "clause"]) (sc := defScope s_f_is_followed) (by decide +kernel)) (fun _ _ _ _ _ => (pg_name (i := 1) sc_f_is_followed.nd rfl (Or.inl rfl))) (fun _ _ _ _ _ => pts_nil) (fun _ _ _ _ _ => (pe_cmpR op_le (pe_callB (show CallR _ (.builtin "min") (rMin K) from cr_min rfl) (by rfl) T.n_min (by decide +kernel) (by exact (pa_cons (pe_op op_cat (pe_lst (by exact (pa_cons pe_int pa_nil))) (pv 1)) pa_nil))) pe_int (nomark _)))) pa_nil))))), ?_⟩), b_f_is_followed F⟩
  · obtain ⟨⟨cs, v⟩, rfl, _⟩ := h
    rfl
  · obtain ⟨⟨cs, v⟩, rfl, ⟨hv, hz, hc⟩, k⟩ := h
    obtain ⟨p, ys, rfl, hp, hy⟩ := hv
    have hl := hy.length
    have : isFollowed cs = (cs.map clauseOk).all id := by rw [List.all_map]; rfl
    refine s_ret (ev_allL (bs := cs.map clauseOk) ?_) fun H1 e1 => k _ _ e1 (by show V.bl _ = V.bl _; rw [this])
    rw [List.map_map]
    refine el_lcV (F := fun v c => IsInts c v H) (V.bl ∘ clauseOk) (ev_var rfl) (SqL.of hp) hy (by omega) (fun _ => rfl) fun x c hcm hx => ?_
    obtain ⟨q, rfl, hq⟩ := hx
    obtain ⟨m, m1, m2, m3⟩ := least_of c
    refine ev_is (ev_i0 (i := m) (j := 0) (ev_min (ns := 1 :: c) ?_ m1 m2) ev_c) (by show V.bl (decide (m ≤ 0)) = _; rw [m3]; rfl)
    have h9 := hc c hcm
    exact el_catLV (xs := [V.int 1]) (el_lst (ea_cons ev_c ea_nil) (by show (1 : Nat) ≤ 100000; decide)) (ev_var rfl) hq (by rw [List.length_map]; show 1 + c.length ≤ 100000; omega)
section
variable {K : PySem.W.Frag} {A : Ad} {σ : L2.St} {H : Hp} {tp : TE} {E : XK} {v : V} {cs : List (List Int)} {P : V → Hp → Prop}
/-- of a new list of lists -/
theorem ev_is_followedN (h : EvN tp σ H (IsLists cs)) (hz : cs.length ≤ 1000) (hc : ∀ c ∈ cs, c.length ≤ 1000) : Ev (tCall (sp_f_is_followed A) [] E (tCons tp tNil)) σ H (.bl (isFollowed cs)) := fun H1 e Q q =>
  h H1 e _ fun v H2 e2 n => ⟨(cs, v), rfl, ⟨n.weak IsLists.mono, hz, hc⟩, fun u H3 e3 hu => by
    have hu : u = .bl (isFollowed cs) := hu
    rw [hu]
    exact q H3 (e2.trans e3)⟩
end
def sp_f_first_above (A : Ad) : Sp := SpP (fun ((a, d) : Int × Int) => [.int a, .int d]) (fun (a, d) _ => d.natAbs < 2 ^ 100) (fun (a, d) u H => ∃ p, u = .ref p ∧ H p = some (.tup [vI (firstAbove a d).1, vI (firstAbove a d).2]))
theorem sc_f_first_above : FnScope ["number", "more"] ["number", "more"] (defScope s_f_first_above) := ⟨rfl, rfl, rfl, by decide +kernel, rfl, by decide +kernel, by decide +kernel⟩
theorem b_f_first_above {K : PySem.W.Frag} {f : Addr} {fd : FuncData} (F : Fun K "first_above" "first_above" s_f_first_above f fd) : Binds K fd ["number", "more"] [] := F.binds fun _ _ _ _ _ _ us hl => match us, hl with | [_, _], _ => rfl
theorem ok_f_first_above {P : Program} {w : World} {K : PySem.W.Frag} {mg : Str → Option Value} {base : Heap} {A : Ad} (T : Txt K mg A) : FnG P w K mg base CX0 1 "first_above" ["number", "more"] (sp_f_first_above A) := by
  obtain ⟨f, fd, hm, F⟩ := T.d_f_first_above
  refine ⟨f, fd, hm, F.kp, F.ok sc_f_first_above (fun vs H Q E h => ?_) (fun cdv A1 outer s H vs Q E hr h => ⟨_, (pss_cons (ps_if (pt_cmpR op_gt (pv 1) pe_int (nomark _)) (pss_one (ps_ret (pe_tup (by exact (pa_cons (pe_callB (call_max2 rfl) (by rfl) T.n_max (by decide +kernel) (by exact (pa_cons pe_int (pa_cons (pe_op op_add (pe_op op_fdivW (pe_op op_sub pe_int (pv 0)) (pv 1)) pe_int) pa_nil)))) (pa_cons pe_non pa_nil)))))) pss_nil)
      (pss_cons (ps_if (pt_cmpR op_le (pv 0) pe_int (nomark _)) (pss_one (ps_ret (pe_tup (by exact (pa_cons pe_non (pa_cons pe_non pa_nil)))))) pss_nil)
      (pss_one (ps_ret (pe_ifExp (pt_cmpR op_eq (pv 1) pe_int (nomark _)) (pe_tup (by exact (pa_cons pe_int (pa_cons pe_non pa_nil)))) (pe_tup (by exact (pa_cons pe_int (pa_cons (pe_op op_fdivW (pe_op op_sub (pe_op op_sub (pv 0) (pv 1)) pe_int) (pe_op op_sub pe_int (pv 1))) pa_nil))))))))), ?_⟩), b_f_first_above F⟩
  · obtain ⟨⟨a, d⟩, rfl, _⟩ := h
    rfl
  · obtain ⟨⟨a, d⟩, rfl, hd, k⟩ := h
    have hd : d.natAbs < 2 ^ 100 := hd
    have k : ∀ p H', Ex H H' → H' p = some (.tup [vI (firstAbove a d).1, vI (firstAbove a d).2]) → Q (.ref p) H' := fun p H' e z => k _ _ e ⟨p, rfl, z⟩
    refine q_when (b := decide (0 < d)) (et_v (ev_is (ev_i0 (ev_var rfl) ev_c) rfl)) (fun hb H1 e1 => ?_) (fun hb H1 e1 => ?_)
    · have hb := of_decide_eq_true hb
      have ef : firstAbove a d = (some (max 0 ((0 - a).fdiv d + 1)), none) := if_pos hb
      rw [ef] at k
      refine s_retU (eu_tup (vs := [vI (some (max 0 ((0 - a).fdiv d + 1))), vI none]) (ea_cons (ev_is (Evl.ev_max2 (i := 0) (j := (0 - a).fdiv d + 1) ev_c (ev_is (ev_i0 (i := (0 - a) / d) (ev_iC (ev_i0 ev_c (ev_var rfl)) (ev_var rfl) (wide_div (b := 100) hb hd (by decide) (by decide))) ev_c) (by rw [Int.fdiv_eq_ediv_of_nonneg _ (Int.le_of_lt hb)]))) ?_) (ea_cons ev_c ea_nil)) (by show (2 : Nat) ≤ 100000; decide)) fun p H2 _ e2 hp => k p H2 (e1.trans e2) hp
      show V.int _ = V.int (max 0 ((0 - a).fdiv d + 1))
      congr 1
      by_cases c : (0 - a).fdiv d + 1 > 0
      · rw [if_pos c]; omega
      · rw [if_neg c]; omega
    · have hb := of_decide_eq_false hb
      have ef : firstAbove a d = if a ≤ 0 then (none, none) else if d = 0 then (some 0, none) else (some 0, some ((a - d - 1).fdiv (0 - d))) := if_neg hb
      rw [ef] at k
      refine q_when (b := decide (a ≤ 0)) (et_v (ev_is (ev_i0 (ev_var rfl) ev_c) rfl)) (fun ha H2 e2 => ?_) (fun ha H2 e2 => ?_)
      · rw [if_pos (of_decide_eq_true ha)] at k
        exact s_retU (eu_tup (vs := [vI none, vI none]) (ea_cons ev_c (ea_cons ev_c ea_nil)) (by show (2 : Nat) ≤ 100000; decide)) fun p H3 _ e3 hp => k p H3 ((e1.trans e2).trans e3) hp
      · rw [if_neg (of_decide_eq_false ha)] at k
        refine s_retP (P := fun u H' => ∃ p, u = .ref p ∧ H' p = some (.tup [vI (if d = 0 then (some 0, none) else (some 0, some ((a - d - 1).fdiv (0 - d)))).1, vI (if d = 0 then (some (0 : Int), none) else (some 0, some ((a - d - 1).fdiv (0 - d)))).2])) (ep_if (b := decide (d = 0)) (et_v (ev_eq (ev_var rfl) ev_c)) (fun h0 => ?_) (fun h0 => ?_)) fun v H3 e3 hv => by
          obtain ⟨p, rfl, hp⟩ := hv
          exact k p H3 ((e1.trans e2).trans e3) hp
        · rw [if_pos (of_decide_eq_true h0)]
          exact eu_p (eu_tup (ea_cons ev_c (ea_cons ev_c ea_nil)) (by show (2 : Nat) ≤ 100000; decide))
        · have h0 := of_decide_eq_false h0
          rw [if_neg h0]
          refine eu_p (eu_tup (ea_cons ev_c (ea_cons (ev_is (ev_iC (ev_i0 (ev_i0 (ev_var rfl) (ev_var rfl)) ev_c) (ev_i0 ev_c (ev_var rfl)) (wide_div (b := 100) (by omega) (by omega) (by decide) (by decide))) ?_) ea_nil)) (by show (2 : Nat) ≤ 100000; decide))
          show V.int _ = V.int _
          rw [Int.fdiv_eq_ediv_of_nonneg _ (by omega)]
section
variable {K : PySem.W.Frag} {A : Ad} {σ : L2.St} {H : Hp} {ta tb : TE} {E : XK} {a d : Int}
theorem ep_first_above (ha : Ev ta σ H (.int a)) (hd : Ev tb σ H (.int d)) (hz : d.natAbs < 2 ^ 100) : EvP (tCall (sp_f_first_above A) [] E (tCons ta (tCons tb tNil))) σ H (fun u H => ∃ p, u = .ref p ∧ H p = some (.tup [vI (firstAbove a d).1, vI (firstAbove a d).2])) :=
  ep_call (ea_cons ha (ea_cons hd ea_nil)) (a, d) rfl fun H1 e => hz
end
def sp_f_clause_fails (A : Ad) : Sp := SpP (fun ((c, d, p, q) : List Int × List Int × Addr × Addr) => [.ref p, .ref q]) (fun (c, d, p, q) H => IntsAt H p c ∧ IntsAt H q d ∧ c.length = d.length ∧ (∀ x ∈ c, x.natAbs < 2 ^ 98) ∧ (∀ x ∈ d, x.natAbs < 2 ^ 98)) (fun (c, d, p, q) u _ => u = vI (clauseFails (c.zip d)))
theorem ev_min2 {σ : L2.St} {H : Hp} {ta tb : TE} {i j : Int} (ha : Ev ta σ H (.int i)) (hb : Ev tb σ H (.int j)) : Ev (tCB (fun xs H Q => ∃ i j, xs = [.int i, .int j] ∧ Q (.int (if j < i then j else i)) H) (tCons ta (tCons tb tNil))) σ H (.int (if j < i then j else i)) := fun H1 e Q q =>
  (ea_cons ha (ea_cons hb ea_nil)) H1 e _ fun H2 e2 => ⟨i, j, rfl, q H2 e2⟩
theorem vI_isN (o : Option Int) : decide (vI o = .non) = o.isNone := by cases o <;> rfl
theorem span_none : ∀ xs : List (Int × Int), xs.foldl spanStep none = none
  | [] => rfl
  | _ :: xs => span_none xs
theorem span_take {c d : List Int} {i : Nat} {x y : Int} (hx : c[i]? = some x) (hy : d[i]? = some y) : spanOf ((c.zip d).take (i + 1)) = spanStep (spanOf ((c.zip d).take i)) (x, y) := by
  have : (c.zip d)[i]? = some (x, y) := by rw [List.getElem?_zip_eq_some]; exact ⟨hx, hy⟩
  unfold spanOf
  rw [take_snoc this, List.foldl_append]
  rfl
def minE (e0 : Option Int) (g : Int) : Int := match e0 with
  | none => g
  | some y => min y g
theorem spanStep_eq {b0 x y : Int} {e0 : Option Int} : spanStep (some (b0, e0)) (x, y) = match firstAbove x (y - x) with
        | (none, _) => none
        | (some f, none) => some (max b0 f, e0)
        | (some f, some g) => some (max b0 f, some (minE e0 g)) := by
  unfold spanStep minE
  cases e0 <;> rfl
theorem fails_end {xs : List (Int × Int)} {b0 : Int} (h : spanOf xs = some (b0, none)) : clauseFails xs = some b0 := by
  unfold clauseFails
  rw [h]
theorem fails_end2 {xs : List (Int × Int)} {b0 e0 : Int} (h : spanOf xs = some (b0, some e0)) : clauseFails xs = if b0 < e0 then some b0 else none := by
  unfold clauseFails
  rw [h]
theorem fails_none {c d : List Int} {i : Nat} (h : spanOf ((c.zip d).take i) = none) : clauseFails (c.zip d) = none := by
  have : spanOf (c.zip d) = none := by
    have e : c.zip d = (c.zip d).take i ++ (c.zip d).drop i := (List.take_append_drop i _).symm
    unfold spanOf at h ⊢
    rw [e, List.foldl_append, h]
    exact span_none _
  unfold clauseFails
  rw [this]
theorem sc_f_clause_fails : FnScope ["clause", "later", "begin", "end", "number", "there", "first", "last"] ["clause", "later"] (defScope s_f_clause_fails) := ⟨rfl, rfl, rfl, by decide +kernel, rfl, by decide +kernel, by decide +kernel⟩
theorem b_f_clause_fails {K : PySem.W.Frag} {f : Addr} {fd : FuncData} (F : Fun K "clause_fails" "clause_fails" s_f_clause_fails f fd) : Binds K fd ["clause", "later"] [] := F.binds fun _ _ _ _ _ _ us hl => match us, hl with | [_, _], _ => rfl
theorem ok_f_clause_fails {P : Program} {w : World} {K : PySem.W.Frag} {mg : Str → Option Value} {base : Heap} {A : Ad} (T : Txt K mg A) : FnG P w K mg base CX0 2 "clause_fails" ["clause", "later"] (sp_f_clause_fails A) := by
  obtain ⟨f, fd, hm, F⟩ := T.d_f_clause_fails
  refine ⟨f, fd, hm, F.kp, F.ok sc_f_clause_fails (fun vs H Q E h => ?_) (fun cdv A1 outer s H vs Q E hr h => ⟨_, (pss_cons (ps_set (i := 2) sc_f_clause_fails.nd rfl (Or.inl rfl) pe_int)
      (pss_cons (ps_set (i := 3) sc_f_clause_fails.nd rfl (Or.inl rfl) pe_non)
      (pss_cons (ps_for PassesOwn.never rfl (pi_zip (by rfl) T.n_zip (by exact (pa_cons (pv 0) (pa_cons (pv 1) pa_nil)))) (pg_tup rfl (pgs_cons (pg_name (i := 4) sc_f_clause_fails.nd rfl (Or.inl rfl)) (pgs_cons (pg_name (i := 5) sc_f_clause_fails.nd rfl (Or.inl rfl)) pgs_nil)))
        (pss_cons (ps_asg (pe_callG (ok_f_first_above T) (hr.mono (by decide)) pass0 rfl (by exact (pa_cons (pv 4) (pa_cons (pe_op op_sub (pv 5) (pv 4)) pa_nil)))) (pg_tup rfl (pgs_cons (pg_name (i := 6) sc_f_clause_fails.nd rfl (Or.inl rfl)) (pgs_cons (pg_name (i := 7) sc_f_clause_fails.nd rfl (Or.inl rfl)) pgs_nil))))
      (pss_cons (ps_if (pt_cmpR op_isN (pv 6) pe_non (nomark _)) (pss_one (ps_ret pe_non)) pss_nil)
      (pss_cons (ps_set (i := 2) sc_f_clause_fails.nd rfl (Or.inl rfl) (pe_callB (call_max2 rfl) (by rfl) T.n_max (by decide +kernel) (by exact (pa_cons (pv 2) (pa_cons (pv 6) pa_nil)))))
      (pss_one (ps_if (pt_cmpR op_notN (pv 7) pe_non (nomark _)) (pss_one (ps_set (i := 3) sc_f_clause_fails.nd rfl (Or.inl rfl) (pe_ifExp (pt_cmpR op_isN (pv 3) pe_non (nomark _)) (pv 7) (pe_callB (call_min2 rfl) (by rfl) T.n_min (by decide +kernel) (by exact (pa_cons (pv 3) (pa_cons (pv 7) pa_nil))))))) pss_nil))))))
      (pss_one (ps_ret (pe_ifExp (PW.pt (pw_or (pt_cmpR op_isN (pv 3) pe_non (nomark _)) (pw_or1 (pt_cmpR op_lt (pv 2) (pv 3) (nomark _))))) (pv 2) pe_non)))))), ?_⟩), b_f_clause_fails F⟩
  · obtain ⟨⟨c, d, p, q⟩, rfl, _⟩ := h
    rfl
  · obtain ⟨⟨c, d, p, q⟩, rfl, ⟨hp, hq, hl, hc, hd⟩, k⟩ := h
    have k : ∀ u H', Ex H H' → u = vI (clauseFails (c.zip d)) → Q u H' := k
    refine q_asg (v := .int 0) ev_c fun H1 e1 => ?_
    refine q_asg (v := .non) ev_c fun H2 e2 => ?_
    have e12 := e1.trans e2
    refine q_forZ (K := K) (xs := c.map V.int) (ys := d.map V.int) (P := fun a b H' => a = [.ref p] ∧ b = [.ref q] ∧ Ex H H') (fun Q' hQ => ?_) (by rw [List.length_map, List.length_map]; exact hl) (fun a b i σ' H' => ∃ b0 e0 x1 x2 x3 x4, spanOf ((c.zip d).take i) = some (b0, e0) ∧ a = p ∧ b = q ∧ σ' = [some (.ref p), some (.ref q), some (.int b0), some (vI e0), x1, x2, x3, x4] ∧ Ex H H') (fun a b H3 h1 h2 ⟨z1, z2, z3⟩ => ?_) (fun a b i σ' H' ⟨b0, e0, x1, x2, x3, x4, hs, ha, hb, hσ, e⟩ => ?_) (fun a b i x y Tp σ' H' hx hy ⟨b0, e0, x1, x2, x3, x4, hs, ha, hb, hσ, e⟩ hT => ?_) (fun a b σ' H' ⟨b0, e0, x1, x2, x3, x4, hs, ha, hb, hσ, e⟩ => ?_)
    · exact (ea_cons (ev_var rfl) (ea_cons (ev_var rfl) ea_nil)) H2 (Ex.refl H2) Q' fun H3 e3 => hQ p q H3 (SqL.of (e3 _ _ (e12 _ _ hp))) (SqL.of (e3 _ _ (e12 _ _ hq))) ⟨rfl, rfl, e12.trans e3⟩
    · injection z1 with z1 _
      injection z1 with z1
      injection z2 with z2 _
      injection z2 with z2
      exact ⟨0, none, none, none, none, none, by rw [List.take_zero]; rfl, z1, z2, rfl, z3⟩
    · subst ha hb
      exact ⟨SqL.of (e _ _ hp), SqL.of (e _ _ hq)⟩
    · subst ha hb hσ
      rw [List.getElem?_map] at hx hy
      obtain ⟨x, hx1, rfl⟩ : ∃ x', c[i]? = some x' ∧ x = .int x' := by
        cases hb : c[i]? with
        | none => rw [hb] at hx; cases hx
        | some b => rw [hb] at hx; exact ⟨b, rfl, (Option.some.inj hx).symm⟩
      obtain ⟨y, hy1, rfl⟩ : ∃ x', d[i]? = some x' ∧ y = .int x' := by
        cases hb : d[i]? with
        | none => rw [hb] at hy; cases hy
        | some b => rw [hb] at hy; exact ⟨b, rfl, (Option.some.inj hy).symm⟩
      have bx := hc x (List.mem_of_getElem? hx1)
      have by_ := hd y (List.mem_of_getElem? hy1)
      have st := span_take hx1 hy1
      rw [hs] at st
      refine ⟨Tp, _, rfl, SqT.of upd_same, rfl, _, _, rfl, _, _, rfl, rfl, ?_⟩
      have e' : Ex H (upd H' Tp (.tup [.int x, .int y])) := e.trans (Ex.new hT)
      refine ep_first_above (a := x) (d := y - x) (ev_var rfl) (ev_i0 (ev_var rfl) (ev_var rfl)) (by omega) _ (Ex.refl _) _ fun v H3 e3 hv => ?_
      obtain ⟨t, rfl, ht⟩ := hv
      refine ⟨t, _, rfl, SqT.of ht, rfl, _, _, rfl, _, _, rfl, rfl, ?_⟩
      rw [spanStep_eq] at st
      cases hf : firstAbove x (y - x) with
      | mk f g =>
        rw [hf] at st
        show tSeq _ _ _ [some (.ref a), some (.ref b), some (.int b0), some (vI e0), some (.int x), some (.int y), some (vI f), some (vI g)] H3
        refine q_when (b := f.isNone) (et_v (ev_is (ev_isN (ev_var rfl)) (by rw [vI_isN]))) (fun hb H4 e4 => ?_) (fun hb H4 e4 => ?_)
        · cases f with
          | some f => cases hb
          | none => exact s_ret (v := .non) ev_c fun H5 e5 => k _ _ (((e'.trans e3).trans e4).trans e5) (by show V.non = vI (clauseFails (c.zip d)); rw [fails_none (i := i + 1) st]; rfl)
        · cases f with
          | none => cases hb
          | some f =>
            refine q_asg (v := .int (max b0 f)) (ev_is (Evl.ev_max2 (i := b0) (j := f) (ev_var rfl) (ev_var rfl)) ?_) fun H5 e5 => ?_
            · congr 1
              by_cases c : f > b0
              · rw [if_pos c]; omega
              · rw [if_neg c]; omega
            · have e5' := ((e'.trans e3).trans e4).trans e5
              show tIfS _ _ _ _ [some (.ref a), some (.ref b), some (.int (max b0 f)), some (vI e0), some (.int x), some (.int y), some (.int f), some (vI g)] H5
              refine s_when (b := g.isSome) (et_v (ev_is (ev_notN (ev_var rfl)) (by cases g <;> rfl))) (fun hb H6 e6 => ?_) (fun hb H6 e6 => ?_)
              · cases g with
                | none => cases hb
                | some g =>
                  refine s_asg (v := vI (some (minE e0 g))) (ev_if (b := e0.isNone) (et_v (ev_is (ev_isN (ev_var rfl)) (by rw [vI_isN]))) (fun hn => ?_) (fun hn => ?_)) fun H7 e7 => ⟨_, _, _, _, _, _, st, rfl, rfl, rfl, (e5'.trans e6).trans e7⟩
                  · cases e0 with
                    | none => exact ev_var rfl
                    | some z => cases hn
                  · cases e0 with
                    | none => cases hn
                    | some z =>
                      refine ev_is (ev_min2 (i := z) (j := g) (ev_var rfl) (ev_var rfl)) ?_
                      show V.int _ = V.int (min z g)
                      congr 1
                      by_cases c : g < z
                      · rw [if_pos c]; omega
                      · rw [if_neg c]; omega
              · cases g with
                | some g => cases hb
                | none => exact ⟨_, _, _, _, _, _, st, rfl, rfl, rfl, e5'.trans e6⟩
    · subst ha hb hσ
      rw [List.length_map, List.take_of_length_le (by rw [List.length_zip]; omega)] at hs
      refine s_ret (v := vI (clauseFails (c.zip d))) ?_ fun H3 e3 => k _ _ (e.trans e3) rfl
      cases e0 with
      | none =>
        rw [fails_end hs]
        exact ev_if (b := true || false) (et_or (a := true) (b := false) (et_v (ev_is (ev_isN (ev_var rfl)) rfl)) (fun h => by cases h)) (fun _ => ev_var rfl) (fun h => by cases h)
      | some e0 =>
        rw [fails_end2 hs]
        refine ev_if (b := false || decide (b0 < e0)) (et_or (a := false) (et_v (ev_is (ev_isN (ev_var rfl)) rfl)) (fun h => et_v (ev_is (ev_i0 (i := b0) (j := e0) (ev_var rfl) (ev_var rfl)) rfl))) (fun hb => ?_) (fun hb => ?_)
        · show Ev _ _ _ (vI (if b0 < e0 then some b0 else none))
          rw [if_pos (of_decide_eq_true hb)]
          exact ev_var rfl
        · show Ev _ _ _ (vI (if b0 < e0 then some b0 else none))
          rw [if_neg (of_decide_eq_false hb)]
          exact ev_c
section
variable {K : PySem.W.Frag} {A : Ad} {σ : L2.St} {H : Hp} {tp tq : TE} {E : XK} {p q : Addr} {c d : List Int}
theorem ev_clause_fails (hp : Ev tp σ H (.ref p)) (hq : Ev tq σ H (.ref q)) (h1 : IntsAt H p c) (h2 : IntsAt H q d) (hl : c.length = d.length) (hc : ∀ x ∈ c, x.natAbs < 2 ^ 98) (hd : ∀ x ∈ d, x.natAbs < 2 ^ 98) : Ev (tCall (sp_f_clause_fails A) [] E (tCons tp (tCons tq tNil))) σ H (vI (clauseFails (c.zip d))) :=
  EvP.toEv (ep_call (ea_cons hp (ea_cons hq ea_nil)) (c, d, p, q) rfl fun H1 e => ⟨e _ _ h1, e _ _ h2, hl, hc, hd⟩)
end

end LW

set_option maxRecDepth 100000
set_option maxHeartbeats 4000000

/-! Part W6 -/
namespace LW
open PySem PySem.Spec PyProof.Rows L2 LL
open Evl (Ex Ev EvT EvL EvU EvA EvO fresh_back ex_l ex_t ev_var ev_c s_ret s_retL s_retU q_asg q_asgL q_asgU s_asg s_asgL q_when s_when s_if q_if et_and et_or et_not ea_nil ea_cons el_lst eu_tup ev_if eo_none eo_some el_sl sq_of st_of sz_of s_app s_appL q_app q_appL s_drop q_drop s_forL q_forL q_forLn s_forLn q_while s_while q_forR1 q_forR2 q_forNL q_forNLn q_setL s_setL q_cut)
open VaaclBase (Values Move Test Branch Loop valueAt given moved holds allHold chosen branchAt okTest)


open Vaacld (timesOf patternAt moveOf)
/-! ### all but one object is kept -/
def But (rw : Addr) (H H' : Hp) : Prop := ∀ b o, b ≠ rw → H b = some o → H' b = some o
theorem But.refl (rw : Addr) (H : Hp) : But rw H H := fun _ _ _ h => h
theorem But.trans {rw : Addr} {H H1 H2 : Hp} (a : But rw H H1) (b : But rw H1 H2) : But rw H H2 := fun c o n h => b c o n (a c o n h)
theorem but_of {rw : Addr} {H H1 : Hp} (e : Ex H H1) : But rw H H1 := fun c o _ h => e c o h
theorem But.ex {rw : Addr} {Hs H H1 : Hp} (b : But rw H H1) (n : Hs rw = none) (e : Ex Hs H) : Ex Hs H1 := fun c o h => b c o (ne_of_none h n) (e c o h)
theorem But.mut {rw : Addr} {H H1 : Hp} {o : HO} (b : But rw H H1) : But rw H (upd H1 rw o) := fun c u n h => by rw [upd_ne n]; exact b c u n h
theorem NewAt.back {Hs Ht H' : Hp} {P : Hp → Prop} (h : NewAt Ht H' P) (d : ∀ b o, Hs b = some o → Ht b ≠ none) : NewAt Hs H' P := by
  obtain ⟨H0, f, e0, p⟩ := h
  refine ⟨H0, fun b o hb => ?_, e0, p⟩
  cases z : Ht b with
  | none => exact absurd z (d b o hb)
  | some u => exact f b u z
/-! ### a Doing in the heap -/
def fD (a q rw : Addr) : List (Str × V) := [("loop", .ref a), ("pattern", .ref q), ("rows", .ref rw)]
structure DoingZ (A : Ad) (x rw a q : Addr) (l : Loop) (pt : List Nat) (s : Values) (n : Nat) (zs : List V) (H : Hp) : Prop where
  sub : ∃ H0 : Hp, H0 rw = none ∧ Ex H0 H ∧ LoopAt A H0 a n l ∧ IntsAt H0 q (nats pt)
  obj : ∃ dx, H x = some (.ins A.cDoing dx (fD a q rw))
  rws : H rw = some (.lst zs)
  pos : 1 ≤ zs.length
  row : ∀ i v, zs[i]? = some v → IsTup (LL.after l n pt i s) v H
structure DoingOk (l : Loop) (pt : List Nat) (s : Values) (n : Nat) : Prop where
  wf : WfLoop n l
  ok : PatOk l pt
  len : s.length = n
  three : pt.length ≤ 3
  bnd : Bnd (10 ^ 12) s
def DoingAt (A : Ad) (x rw a q : Addr) (l : Loop) (pt : List Nat) (s : Values) (n : Nat) (H : Hp) : Prop := ∃ zs, zs.length ≤ 1000 ∧ DoingZ A x rw a q l pt s n zs H
section
variable {A : Ad} {x rw a q : Addr} {l : Loop} {pt : List Nat} {s : Values} {n : Nat} {zs : List V} {H H' : Hp}
theorem DoingZ.mono (h : DoingZ A x rw a q l pt s n zs H) (e : Ex H H') : DoingZ A x rw a q l pt s n zs H' := by
  obtain ⟨⟨H0, n0, e0, h1, h2⟩, ⟨dx, h3⟩, h4, h5, h6⟩ := h
  exact ⟨⟨H0, n0, e0.trans e, h1, h2⟩, ⟨dx, e _ _ h3⟩, e _ _ h4, h5, fun i v hv => IsTup.mono _ _ e (h6 i v hv)⟩
theorem DoingAt.mono (h : DoingAt A x rw a q l pt s n H) (e : Ex H H') : DoingAt A x rw a q l pt s n H' := by
  obtain ⟨zs, hz, h⟩ := h
  exact ⟨zs, hz, h.mono e⟩
theorem DoingZ.loop (h : DoingZ A x rw a q l pt s n zs H) : LoopAt A H a n l := by
  obtain ⟨H0, n0, e0, h1, h2⟩ := h.sub
  exact h1.mono e0
theorem DoingZ.pat (h : DoingZ A x rw a q l pt s n zs H) : IntsAt H q (nats pt) := by
  obtain ⟨H0, n0, e0, h1, h2⟩ := h.sub
  exact e0 _ _ h2
theorem DoingZ.put (h : DoingZ A x rw a q l pt s n zs H) {v : V} (hv : IsTup (LL.after l n pt zs.length s) v H) : DoingZ A x rw a q l pt s n (zs ++ [v]) (upd H rw (.lst (zs ++ [v]))) := by
  obtain ⟨⟨H0, n0, e0, h1, h2⟩, ⟨dx, h3⟩, h4, h5, h6⟩ := h
  have keep : ∀ w t, IsTup t w H → IsTup t w (upd H rw (.lst (zs ++ [v]))) := fun w t ⟨p, r, hp⟩ => ⟨p, r, by
    show upd H rw _ p = _
    rw [upd_ne (ne_of hp h4 (by intro z; cases z))]
    exact hp⟩
  refine ⟨⟨H0, n0, e0.mut n0, h1, h2⟩, ⟨dx, ?_⟩, upd_same, by rw [List.length_append, List.length_singleton]; omega, fun i w hw => ?_⟩
  · rw [upd_ne (ne_of h3 h4 (by intro z; cases z))]
    exact h3
  · by_cases c : i < zs.length
    · rw [List.getElem?_append_left c] at hw
      exact keep _ _ (h6 i w hw)
    · rw [List.getElem?_append_right (by omega)] at hw
      have : i = zs.length := by
        by_cases d : i - zs.length = 0
        · omega
        · rw [List.getElem?_eq_none (by rw [List.length_singleton]; omega)] at hw
          cases hw
      subst this
      rw [Nat.sub_self] at hw
      injection hw with hw
      subst hw
      exact keep _ _ hv
theorem atI_last {zs : List V} (h : 1 ≤ zs.length) : ∃ v, atI zs (-1) = some v ∧ zs[zs.length - 1]? = some v := by
  refine ⟨zs[zs.length - 1], ?_, List.getElem?_eq_getElem (by omega)⟩
  have hi : ixN zs.length (-1) = some (zs.length - 1) := by
    unfold ixN
    rw [if_neg (by omega), if_pos (by omega)]
    congr 1
    omega
  show (ixN zs.length (-1)).bind (fun j => zs[j]?) = _
  rw [hi]
  exact List.getElem?_eq_getElem (by omega)
end
section
variable {K : PySem.W.Frag} {σ : L2.St} {H : Hp} {te ta : TE} {D : Ends} {tz : TS}
theorem s_appP {P : V → Hp → Prop} {l : Addr} {xs : List V} (hl : H l = some (.lst xs)) (ha : Ev ta σ H (.ref l)) (h : EvP te σ H P) (hz : xs.length < 100000) (k : ∀ v H1, Ex H H1 → P v H1 → D.nx σ (upd H1 l (.lst (xs ++ [v])))) :
    tDrop (tBM K "list" rAppend ta (tCons te tNil)) D σ H := ha H (Ex.refl H) _ fun H1 e1 =>
  ⟨Or.inl ⟨rfl, xs, Evl.sq_of (e1 l _ hl)⟩, h H1 e1 _ fun v H2 e2 p => ⟨l, xs, v, rfl, rfl, (e1.trans e2) l _ hl, Evl.sz_lt hz, k v H2 (e1.trans e2) p⟩⟩
/-- one reading ahead of others -/
theorem cons_ev {tr : TA} {v : V} {Q : List V → Hp → Prop} (h : Ev te σ H v) (k : ∀ H1, Ex H H1 → tr σ H1 fun xs H2 => Q (v :: xs) H2) : tCons te tr σ H Q := h H (Ex.refl H) _ k
/-- readings that change the rows alone -/
def EvB (te : TE) (σ : L2.St) (H : Hp) (rw : Addr) (J : Hp → Prop) (P : V → Hp → Prop) : Prop := ∀ Q : VK, (∀ v H2, But rw H H2 → J H2 → P v H2 → Q v H2) → te σ H Q
end

section
variable {σ : L2.St} {H : Hp} {te : TE} {rw : Addr} {J : Hp → Prop} {P : V → Hp → Prop} {D : Ends} {tz : TS}
theorem cons_eb {tr : TA} {Q : List V → Hp → Prop} (h : EvB te σ H rw J P) (k : ∀ v H1, But rw H H1 → J H1 → P v H1 → tr σ H1 fun xs H2 => Q (v :: xs) H2) : tCons te tr σ H Q := h _ k
theorem s_retC {sp : Sp} {dvs : List V} {E : XK} {tr : TA} (h : tr σ H fun vs H1 => sp (vs ++ dvs) H1 D.rt E) : tRet (tCall sp dvs E tr) D σ H := h
theorem s_retB (h : EvB te σ H rw J P) (k : ∀ v H1, But rw H H1 → J H1 → P v H1 → D.rt v H1) : tRet te D σ H := h _ k
theorem q_asgB {i : Nat} (h : EvB te σ H rw J P) (k : ∀ v H1, But rw H H1 → J H1 → P v H1 → tz D (σ.set i (some v)) H1) : tSeq (tAsg te (gName i)) tz D σ H := h _ k
end
/-! ### Doing -/
def sp_Doing_init (A : Ad) : Sp := fun vs H Q _ => ∃ x dx a q p, vs = [.ref x, .ref a, .ref q, .ref p] ∧ H x = some (.ins A.cDoing dx []) ∧ ∀ (rw : Addr) (H' : Hp), H rw = none → (∀ b o, b ≠ x → H b = some o → H' b = some o) → H' x = some (.ins A.cDoing dx (fD a q rw)) → H' rw = some (.lst [.ref p]) → Q .non H'
theorem sc_Doing_init : FnScope ["self", "loop", "pattern", "amounts"] ["self", "loop", "pattern", "amounts"] (defScope s_Doing_init) := ⟨rfl, rfl, rfl, by decide +kernel, rfl, by decide +kernel, by decide +kernel⟩
theorem b_Doing_init {K : PySem.W.Frag} {f : Addr} {fd : FuncData} (F : Fun K "__init__" "Doing.__init__" s_Doing_init f fd) : Binds K fd ["self", "loop", "pattern", "amounts"] [] := F.binds fun _ _ _ _ _ _ us hl => match us, hl with | [_, _, _, _], _ => rfl
theorem ok_Doing_init {P : Program} {w : World} {K : PySem.W.Frag} {mg : Str → Option Value} {base : Heap} {A : Ad} (T : Txt K mg A) : MkG P w K mg base CX0 1 A.cDoing "Doing" ["self", "loop", "pattern", "amounts"] (sp_Doing_init A) := by
  obtain ⟨f, fd, hm, M, F⟩ := T.d_Doing_init
  refine ⟨f, fd, hm, M, F.ok sc_Doing_init (fun vs H Q E h => ?_) (fun cdv A1 outer s H vs Q E hr h => ⟨_, (pss_cons (ps_fld (pv 0) (pv 1) rfl)
      (pss_cons (ps_fld (pv 0) (pv 2) rfl)
      (pss_one (ps_fld (pv 0) (pe_lst (by exact (pa_cons (pv 3) pa_nil))) rfl)))), ?_⟩), b_Doing_init F⟩
  · obtain ⟨x, dx, a, q, p, rfl, _⟩ := h
    rfl
  · obtain ⟨x, dx, a, q, p, rfl, hx, k⟩ := h
    refine ⟨_, rfl, _, rfl, x, A.cDoing, dx, [], rfl, hx, T.cls_Doing, T.na_Doing_loop, (by show 0 < 1000; decide), ?_⟩
    refine ⟨_, rfl, _, rfl, x, A.cDoing, dx, _, rfl, upd_same, T.cls_Doing, T.na_Doing_pattern, (by show 1 < 1000; decide), ?_⟩
    refine ⟨_, rfl, (by show 1 ≤ sizeLine; decide), fun rw hrw => ?_⟩
    have nx : rw ≠ x := by
      intro z
      subst z
      rw [upd_same] at hrw
      cases hrw
    have hrw0 : H rw = none := by
      rw [upd_ne nx, upd_ne nx] at hrw
      exact hrw
    refine ⟨_, rfl, x, A.cDoing, dx, _, rfl, (by rw [upd_ne nx.symm]; exact upd_same), T.cls_Doing, T.na_Doing_rows, (by show 2 < 1000; decide), ?_⟩
    refine k rw _ hrw0 (fun b o hb e => ?_) upd_same ?_
    · rw [upd_ne hb, upd_ne (ne_of_none e hrw0), upd_ne hb, upd_ne hb]
      exact e
    · rw [upd_ne nx, upd_same]
section
variable {K : PySem.W.Frag} {A : Ad} {σ : L2.St} {H : Hp} {to tq tp : TE} {E : XK} {a p q : Addr} {l : Loop} {s : Values} {n : Nat} {pt : List Nat}
theorem ep_Doing (ho : Ev to σ H (.ref a)) (hq : Ev tq σ H (.ref q)) (hp : Ev tp σ H (.ref p)) (h1 : LoopAt A H a n l) (hI : IntsAt H q (nats pt)) (h2 : TupAt H p s) (hs : s.length = n) : EvP (tMake A.cDoing (sp_Doing_init A) [] E (tCons to (tCons tq (tCons tp tNil)))) σ H (fun v H' => ∃ x rw, v = .ref x ∧ H rw = none ∧ DoingAt A x rw a q l pt s n H') := fun H1 e1 Q k =>
  (ea_cons ho (ea_cons hq (ea_cons hp ea_nil))) H1 e1 _ fun H2 e2 x dx nx nd ne => ⟨x, dx, a, q, p, rfl, upd_same, fun rw H' hrw keep hx hr => ⟨rfl, by
    have nrx : rw ≠ x := by
      intro z
      subst z
      rw [upd_same] at hrw
      cases hrw
    have nrd : rw ≠ dx := by
      intro z
      subst z
      rw [upd_ne nrx, upd_same] at hrw
      cases hrw
    have hr2 : H2 rw = none := by
      rw [upd_ne nrx, upd_ne nrd] at hrw
      exact hrw
    have e3 : Ex H2 H' := fun b o hb => keep b o (ne_of_none hb nx) (by rw [upd_ne (ne_of_none hb nx), upd_ne (ne_of_none hb nd)]; exact hb)
    have e12 := e1.trans e2
    refine k _ H' (e2.trans e3) ⟨x, rw, rfl, fresh_back e12 hr2, [.ref p], (by show 1 ≤ 1000; decide), ⟨H2, hr2, e3, h1.mono e12, e12 _ _ hI⟩, ⟨dx, hx⟩, hr, (by show 1 ≤ 1; decide), fun i v hv => ?_⟩
    match i, hv with
    | 0, hv =>
      injection hv with hv
      subst hv
      exact ⟨p, rfl, (e12.trans e3) _ _ h2⟩⟩⟩
end
def sp_Doing_gone (A : Ad) : Sp := fun vs H Q _ => ∃ x rw a q l pt s n t, vs = [.ref x, .int ((t : Nat) : Int)] ∧ DoingAt A x rw a q l pt s n H ∧ DoingOk l pt s n ∧ t ≤ 500 ∧ ∀ v H', But rw H H' → DoingAt A x rw a q l pt s n H' → IsTup (LL.after l n pt t s) v H' → Q v H'
theorem sc_Doing_gone : FnScope ["self", "time"] ["self", "time"] (defScope s_Doing_gone) := ⟨rfl, rfl, rfl, by decide +kernel, rfl, by decide +kernel, by decide +kernel⟩
theorem b_Doing_gone {K : PySem.W.Frag} {f : Addr} {fd : FuncData} (F : Fun K "gone" "Doing.gone" s_Doing_gone f fd) : Binds K fd ["self", "time"] [] := F.binds fun _ _ _ _ _ _ us hl => match us, hl with | [_, _], _ => rfl
theorem ok_Doing_gone {P : Program} {w : World} {K : PySem.W.Frag} {mg : Str → Option Value} {base : Heap} {A : Ad} (T : Txt K mg A) : MtG P w K mg base CX0 5 A.cDoing "gone" ["self", "time"] (sp_Doing_gone A) := by
  obtain ⟨f, fd, hc, hm, F⟩ := T.d_Doing_gone
  refine ⟨f, fd, hc, hm, F.ok sc_Doing_gone (fun vs H Q E h => ?_) (fun cdv A1 outer s H vs Q E hr h => ⟨_, (pss_cons (ps_while PassesOwn.never (pt_cmpR op_le (pe_callB call_len_seq (by rfl) T.n_len PySem.boot_len (by exact (pa_cons (pe_fld (pv 0) rfl) pa_nil))) (pv 1) (nomark _)) (pss_one (ps_expr (pe_bm PySem.F.plainAttrs_list PySem.F.slot_list_append PySem.F.type_list_append mt_append (pe_fld (pv 0) rfl) (by exact (pa_cons (pe_callG (ok_f_behind_once T) (hr.mono (by decide)) pass0 rfl (by exact (pa_cons (pe_fld (pv 0) rfl) (pa_cons (pe_fld (pv 0) rfl) (pa_cons (pe_ix ix_list (pe_fld (pv 0) rfl) (pe_un un_neg pe_int) (fun _ _ => rfl)) pa_nil))))) pa_nil))))))
      (pss_one (ps_ret (pe_ix ix_list (pe_fld (pv 0) rfl) (pv 1) (fun _ _ => rfl))))), ?_⟩), b_Doing_gone F⟩
  · obtain ⟨x, rw, a, q, l, pt, s, n, t, rfl, _⟩ := h
    rfl
  · obtain ⟨x, rw, a, q, l, pt, s, n, t, rfl, ⟨zs0, hz0, hD⟩, ok, ht, k⟩ := h
    refine q_while (fun m σ' H' => σ' = [some (.ref x), some (.int ((t : Nat) : Int))] ∧ But rw H H' ∧ ∃ zs, m = t + 1 - zs.length ∧ zs.length ≤ 1000 ∧ DoingZ A x rw a q l pt s n zs H') (t + 1 - zs0.length) ⟨rfl, But.refl rw H, zs0, rfl, hz0, hD⟩ ?_
    rintro m σ' H' ⟨rfl, b, zs, hm, hz, Z⟩
    obtain ⟨dx, hx⟩ := Z.obj
    refine ⟨decide (((zs.length : Nat) : Int) ≤ (t : Int)), et_v (ev_is (ev_i0 (ev_len (ev_fld (ev_var rfl) hx T.cls_Doing T.na_Doing_rows rfl) (Or.inl (SqL.of Z.rws))) (ev_var rfl)) rfl), fun hb H3 e3 => ?_, fun hb H3 e3 => ?_⟩
    · have hb := of_decide_eq_true hb
      have Z3 := Z.mono e3
      obtain ⟨v, hv1, hv2⟩ := atI_last Z.pos
      obtain ⟨p', rfl, hp'⟩ := Z3.row _ _ hv2
      refine ⟨fun σ2 H2 => σ2 = [some (.ref x), some (.int ((t : Nat) : Int))] ∧ But rw H H2 ∧ ∃ zs', zs'.length = zs.length + 1 ∧ DoingZ A x rw a q l pt s n zs' H2, fun σ2 H2 ⟨h1, h2, zs', h3, h4⟩ => ⟨t + 1 - zs'.length, by omega, h1, h2, zs', rfl, by omega, h4⟩, ?_⟩
      refine s_appP (xs := zs) Z3.rws (ev_fld (ev_var rfl) (e3 _ _ hx) T.cls_Doing T.na_Doing_rows rfl) (ep_behind_once (ev_fld (ev_var rfl) (e3 _ _ hx) T.cls_Doing T.na_Doing_loop rfl) (ev_fld (ev_var rfl) (e3 _ _ hx) T.cls_Doing T.na_Doing_pattern rfl) (ev_ixL (i := -1) (ev_fld (ev_var rfl) (e3 _ _ hx) T.cls_Doing T.na_Doing_rows rfl) (ev_neg ev_c) (SqL.of Z3.rws) hv1) Z3.loop Z3.pat hp' ok.wf (after_len ok.wf ok.ok ok.len _) ok.ok) (by omega) fun v H4 e4 hv => ?_
      have hv : IsTup (LL.after l n pt zs.length s) v H4 := by
        have e := after_succ ok.wf ok.ok ok.len (zs.length - 1)
        have e2 : zs.length - 1 + 1 = zs.length := by have := Z.pos; omega
        rw [e2] at e
        rw [e]
        exact hv
      exact ⟨rfl, (b.trans (but_of (e3.trans e4))).mut, zs ++ [v], by rw [List.length_append]; rfl, (Z3.mono e4).put hv⟩
    · have hb := of_decide_eq_false hb
      have ht : t < zs.length := by omega
      have Z3 := Z.mono e3
      have hv : zs[t]? = some zs[t] := List.getElem?_eq_getElem ht
      refine s_ret (ev_ixL (ev_fld (ev_var rfl) (e3 _ _ hx) T.cls_Doing T.na_Doing_rows rfl) (ev_var rfl) (SqL.of Z3.rws) (atI_nat hv)) fun H4 e4 => ?_
      exact k _ _ (b.trans (but_of (e3.trans e4))) ⟨zs, hz, Z3.mono e4⟩ (IsTup.mono _ _ e4 (Z3.row _ _ hv))
section
variable {K : PySem.W.Frag} {A : Ad} {σ : L2.St} {H : Hp} {to tt : TE} {E : XK} {x rw a q : Addr} {l : Loop} {s : Values} {n t : Nat} {pt : List Nat}
theorem eb_gone (ho : Ev to σ H (.ref x)) (ht : Ev tt σ H (.int t)) (h : DoingAt A x rw a q l pt s n H) (ok : DoingOk l pt s n) (h5 : t ≤ 500) : EvB (tMeth A.cDoing "gone" (sp_Doing_gone A) [] E to (tCons tt tNil)) σ H rw (DoingAt A x rw a q l pt s n) (IsTup (LL.after l n pt t s)) := fun Q k =>
  ho H (Ex.refl H) _ fun H1 e1 => by
    obtain ⟨zs, hz, Z⟩ := h
    obtain ⟨dx, hx⟩ := Z.obj
    exact ⟨x, dx, _, rfl, e1 _ _ hx, rfl, (ea_cons ht ea_nil) H1 e1 _ fun H2 e2 => ⟨x, rw, a, q, l, pt, s, n, t, rfl, ⟨zs, hz, Z.mono (e1.trans e2)⟩, ok, h5, fun v H' b d p => k v H' ((but_of (e1.trans e2)).trans b) d p⟩⟩
end
def sp_Doing_clauses (A : Ad) : Sp := fun vs H Q _ => ∃ x rw a q l pt s n t, vs = [.ref x, .int ((t : Nat) : Int)] ∧ DoingAt A x rw a q l pt s n H ∧ DoingOk l pt s n ∧ t ≤ 500 ∧ ∀ v H', But rw H H' → DoingAt A x rw a q l pt s n H' → NewAt H H' (IsLists (allClauses l pt (LL.after l n pt t s)) v) → Q v H'
theorem sc_Doing_clauses : FnScope ["self", "time"] ["self", "time"] (defScope s_Doing_clauses) := ⟨rfl, rfl, rfl, by decide +kernel, rfl, by decide +kernel, by decide +kernel⟩
theorem b_Doing_clauses {K : PySem.W.Frag} {f : Addr} {fd : FuncData} (F : Fun K "clauses" "Doing.clauses" s_Doing_clauses f fd) : Binds K fd ["self", "time"] [] := F.binds fun _ _ _ _ _ _ us hl => match us, hl with | [_, _], _ => rfl
theorem ok_Doing_clauses {P : Program} {w : World} {K : PySem.W.Frag} {mg : Str → Option Value} {base : Heap} {A : Ad} (T : Txt K mg A) : MtG P w K mg base CX0 6 A.cDoing "clauses" ["self", "time"] (sp_Doing_clauses A) := by
  obtain ⟨f, fd, hc, hm, F⟩ := T.d_Doing_clauses
  refine ⟨f, fd, hc, hm, F.ok sc_Doing_clauses (fun vs H Q E h => ?_) (fun cdv A1 outer s H vs Q E hr h => ⟨_, (pss_one (ps_ret (pe_callG (ok_f_all_clauses T) (hr.mono (by decide)) pass0 rfl (by exact (pa_cons (pe_fld (pv 0) rfl) (pa_cons (pe_fld (pv 0) rfl) (pa_cons (pe_methG (ok_Doing_gone T) (hr.mono (by decide)) pass0 (pv 0) (by exact (pa_cons (pv 1) pa_nil))) pa_nil))))))), ?_⟩), b_Doing_clauses F⟩
  · obtain ⟨x, rw, a, q, l, pt, s, n, t, rfl, _⟩ := h
    rfl
  · obtain ⟨x, rw, a, q, l, pt, s, n, t, rfl, hD, ok, ht, k⟩ := h
    obtain ⟨zs, hz, Z⟩ := hD
    obtain ⟨dx, hx⟩ := Z.obj
    refine s_retC (cons_ev (ev_fld (ev_var rfl) hx T.cls_Doing T.na_Doing_loop rfl) fun H1 e1 => ?_)
    refine cons_ev (ev_fld (ev_var rfl) (e1 _ _ hx) T.cls_Doing T.na_Doing_pattern rfl) fun H2 e2 => ?_
    refine cons_eb (eb_gone (ev_var rfl) (ev_var rfl) (DoingAt.mono ⟨zs, hz, Z⟩ (e1.trans e2)) ok ht) fun v H3 b3 d3 h3 => ?_
    obtain ⟨p, rfl, hp⟩ := h3
    obtain ⟨zs3, hz3, Z3⟩ := d3
    refine ⟨(l, pt, LL.after l n pt t s, a, q, p, n), rfl, ⟨Z3.loop, Z3.pat, hp, ok.wf, after_len ok.wf ok.ok ok.len _, ok.ok, ok.three⟩, fun v H' e n' => ?_⟩
    refine k v H' ((but_of (e1.trans e2)).trans (b3.trans (but_of e))) ⟨zs3, hz3, Z3.mono e⟩ (NewAt.back n' fun b o hb z => ?_)
    by_cases c : b = rw
    · subst c
      rw [Z3.rws] at z
      cases z
    · rw [((but_of (e1.trans e2)).trans b3) b o c hb] at z
      cases z
section
variable {K : PySem.W.Frag} {A : Ad} {σ : L2.St} {H : Hp} {to tt : TE} {E : XK} {x rw a q : Addr} {l : Loop} {s : Values} {n t : Nat} {pt : List Nat}
theorem eb_clauses (ho : Ev to σ H (.ref x)) (ht : Ev tt σ H (.int t)) (h : DoingAt A x rw a q l pt s n H) (ok : DoingOk l pt s n) (h5 : t ≤ 500) : EvB (tMeth A.cDoing "clauses" (sp_Doing_clauses A) [] E to (tCons tt tNil)) σ H rw (DoingAt A x rw a q l pt s n) (fun v H' => NewAt H H' (IsLists (allClauses l pt (LL.after l n pt t s)) v)) := fun Q k =>
  ho H (Ex.refl H) _ fun H1 e1 => by
    obtain ⟨zs, hz, Z⟩ := h
    obtain ⟨dx, hx⟩ := Z.obj
    exact ⟨x, dx, _, rfl, e1 _ _ hx, rfl, (ea_cons ht ea_nil) H1 e1 _ fun H2 e2 => ⟨x, rw, a, q, l, pt, s, n, t, rfl, ⟨zs, hz, Z.mono (e1.trans e2)⟩, ok, h5, fun v H' b d p => k v H' ((but_of (e1.trans e2)).trans b) d (p.earlier (e1.trans e2))⟩⟩
end
theorem allClauses_each {n : Nat} {l : Loop} (wf : WfLoop n l) : ∀ (pt : List Nat) (s : Values), PatOk l pt → ∀ c ∈ allClauses l pt s, c.length ≤ 3
  | [], _, _, c, hc => (nomatch hc)
  | b :: r, s, ok, c, hc => by
    have hc : c ∈ clausesAt l b s ++ allClauses l r (moved (moveOf l b) s) := hc
    rcases List.mem_append.mp hc with hc | hc
    · unfold clausesAt at hc
      rcases List.mem_append.mp hc with hc | hc
      · obtain ⟨t, _, rfl⟩ := List.mem_map.mp hc
        show 1 ≤ 3
        decide
      · obtain ⟨d, hd, rfl⟩ := List.mem_map.mp hc
        rw [List.length_map]
        exact (wf.all d (List.mem_of_mem_take hd)).many
    · exact allClauses_each wf r _ (fun d hd => ok d (List.mem_cons_of_mem _ hd)) c hc
theorem clauses_bnd {l : Loop} {pt : List Nat} {s : Values} {n t : Nat} (ok : DoingOk l pt s n) (ht : t ≤ 500) : ∀ c ∈ allClauses l pt (LL.after l n pt t s), ∀ x ∈ c, x.natAbs < 2 ^ 98 := fun c hc x hx => by
  have h3 := ok.three
  have b := bnd_clauses ok.wf pt (LL.after l n pt t s) ok.ok (after_len ok.wf ok.ok ok.len t) (by omega) (bnd_after ok.wf ok.ok ok.len ok.three (by decide) ok.bnd t) c hc x hx
  omega
section
variable {K : PySem.W.Frag} {A : Ad} {σ : L2.St} {H : Hp} {te to tt : TE} {E : XK} {x rw a q : Addr} {l : Loop} {s : Values} {n t : Nat} {pt : List Nat} {D : Ends} {tu tz : TS} {J : Hp → Prop} {b : Bool}
theorem s_unlessB (h : EvB te σ H rw J (fun v _ => v = .bl b)) (k1 : b = false → ∀ H1, But rw H H1 → J H1 → tu D σ H1) (k2 : b = true → ∀ H1, But rw H H1 → J H1 → D.nx σ H1) : tIfS (tNot (tTest te)) tu tNext D σ H := h _ fun v H1 hb j hv => ⟨b, hv, by
  cases b with
  | false => exact k1 rfl H1 hb j
  | true => exact k2 rfl H1 hb j⟩
theorem eb_followed (ho : Ev to σ H (.ref x)) (ht : Ev tt σ H (.int t)) (h : DoingAt A x rw a q l pt s n H) (ok : DoingOk l pt s n) (h5 : t ≤ 500) : EvB (tCall (sp_f_is_followed A) [] E (tCons (tMeth A.cDoing "clauses" (sp_Doing_clauses A) [] E to (tCons tt tNil)) tNil)) σ H rw (DoingAt A x rw a q l pt s n) (fun v _ => v = .bl (followed l pt (LL.after l n pt t s))) := fun Q k =>
  eb_clauses ho ht h ok h5 _ fun v H1 b1 j1 n1 => ⟨(allClauses l pt (LL.after l n pt t s), v), rfl, ⟨n1.weak IsLists.mono, by
    have h1 := allClauses_le ok.wf pt (LL.after l n pt t s) ok.ok
    have h2 := ok.three
    omega, fun c hc => Nat.le_trans (allClauses_each ok.wf pt _ ok.ok c hc) (by decide)⟩, fun u H2 e2 hu => k u H2 (b1.trans (but_of e2)) (j1.mono e2) (by
      have hu : u = .bl (isFollowed (allClauses l pt (LL.after l n pt t s))) := hu
      show u = _
      rw [hu, isFollowed_all l pt _ ok.ok])⟩
end
/-- what fails_within answers -/
def Within (l : Loop) (pt : List Nat) (s : Values) (n m : Nat) (v : V) : Prop := (∃ t : Nat, v = .int (t : Int) ∧ t < m ∧ followed l pt (LL.after l n pt t s) = false ∧ ∀ u, u < t → followed l pt (LL.after l n pt u s) = true) ∨ (v = .non ∧ ∀ u, u < m → followed l pt (LL.after l n pt u s) = true)
def sp_Doing_fails_within (A : Ad) : Sp := fun vs H Q _ => ∃ x rw a q l pt s n m, vs = [.ref x, .int ((m : Nat) : Int)] ∧ DoingAt A x rw a q l pt s n H ∧ DoingOk l pt s n ∧ m ≤ 400 ∧ ∀ v H', But rw H H' → DoingAt A x rw a q l pt s n H' → Within l pt s n m v → Q v H'
theorem sc_Doing_fails_within : FnScope ["self", "most", "time"] ["self", "most"] (defScope s_Doing_fails_within) := ⟨rfl, rfl, rfl, by decide +kernel, rfl, by decide +kernel, by decide +kernel⟩
theorem b_Doing_fails_within {K : PySem.W.Frag} {f : Addr} {fd : FuncData} (F : Fun K "fails_within" "Doing.fails_within" s_Doing_fails_within f fd) : Binds K fd ["self", "most"] [] := F.binds fun _ _ _ _ _ _ us hl => match us, hl with | [_, _], _ => rfl
theorem ok_Doing_fails_within {P : Program} {w : World} {K : PySem.W.Frag} {mg : Str → Option Value} {base : Heap} {A : Ad} (T : Txt K mg A) : MtG P w K mg base CX0 7 A.cDoing "fails_within" ["self", "most"] (sp_Doing_fails_within A) := by
  obtain ⟨f, fd, hc, hm, F⟩ := T.d_Doing_fails_within
  refine ⟨f, fd, hc, hm, F.ok sc_Doing_fails_within (fun vs H Q E h => ?_) (fun cdv A1 outer s H vs Q E hr h => ⟨_, (pss_cons (ps_for PassesOwn.never rfl (pi_range1 rfl T.n_range (by exact (pa_cons (pv 1) pa_nil))) (pg_name (i := 2) sc_Doing_fails_within.nd rfl (Or.inl rfl))
        (pss_one (ps_if (pt_not (pt_val (pe_callG (ok_f_is_followed T) (hr.mono (by decide)) pass0 rfl (by exact (pa_cons (pe_methG (ok_Doing_clauses T) (hr.mono (by decide)) pass0 (pv 0) (by exact (pa_cons (pv 2) pa_nil))) pa_nil))))) (pss_one (ps_ret (pv 2))) pss_nil)))
      (pss_one (ps_ret pe_non))), ?_⟩), b_Doing_fails_within F⟩
  · obtain ⟨x, rw, a, q, l, pt, s, n, m, rfl, _⟩ := h
    rfl
  · obtain ⟨x, rw, a, q, l, pt, s, n, m, rfl, hD, ok, hm, k⟩ := h
    refine q_forR1 (n := (m : Int)) (ea_cons (ev_var rfl) ea_nil) (by omega) (fun i σ' H' => ∃ y, σ' = [some (.ref x), some (.int ((m : Nat) : Int)), y] ∧ But rw H H' ∧ DoingAt A x rw a q l pt s n H' ∧ ∀ u, u < i → followed l pt (LL.after l n pt u s) = true) (fun H1 e1 => ⟨none, rfl, but_of e1, hD.mono e1, fun u hu => absurd hu (Nat.not_lt_zero u)⟩) (fun i σ' H' hi ⟨y, hσ, hb, hd, hu⟩ => ?_) (fun σ' H' ⟨y, hσ, hb, hd, hu⟩ => ?_)
    · subst hσ
      refine s_unlessB (eb_followed (ev_var rfl) (ev_var rfl) hd ok (by omega)) (fun h0 H1 b1 d1 => ?_) (fun h1 H1 b1 d1 => ?_)
      · exact s_ret (ev_var rfl) fun H2 e2 => k _ _ ((hb.trans b1).trans (but_of e2)) (d1.mono e2) (Or.inl ⟨i, rfl, by omega, h0, hu⟩)
      · refine ⟨_, rfl, hb.trans b1, d1, fun u hu2 => ?_⟩
        by_cases c : u = i
        · rw [c]; exact h1
        · exact hu u (by omega)
    · subst hσ
      exact s_ret (v := .non) ev_c fun H2 e2 => k _ _ (hb.trans (but_of e2)) (hd.mono e2) (Or.inr ⟨rfl, fun u hu2 => hu u (by omega)⟩)
section
variable {K : PySem.W.Frag} {A : Ad} {σ : L2.St} {H : Hp} {to tt : TE} {E : XK} {x rw a q : Addr} {l : Loop} {s : Values} {n m : Nat} {pt : List Nat}
theorem eb_within (ho : Ev to σ H (.ref x)) (ht : Ev tt σ H (.int m)) (h : DoingAt A x rw a q l pt s n H) (ok : DoingOk l pt s n) (h5 : m ≤ 400) : EvB (tMeth A.cDoing "fails_within" (sp_Doing_fails_within A) [] E to (tCons tt tNil)) σ H rw (DoingAt A x rw a q l pt s n) (fun v _ => Within l pt s n m v) := fun Q k =>
  ho H (Ex.refl H) _ fun H1 e1 => by
    obtain ⟨zs, hz, Z⟩ := h
    obtain ⟨dx, hx⟩ := Z.obj
    exact ⟨x, dx, _, rfl, e1 _ _ hx, rfl, (ea_cons ht ea_nil) H1 e1 _ fun H2 e2 => ⟨x, rw, a, q, l, pt, s, n, m, rfl, ⟨zs, hz, Z.mono (e1.trans e2)⟩, ok, h5, fun v H' b d p => k v H' ((but_of (e1.trans e2)).trans b) d p⟩⟩
end
section
variable {K : PySem.W.Frag} {σ : L2.St} {H : Hp} {tl tr : TE} {D : Ends} {tu tz : TS} {g : TG}
/-- over zip of two lists of one length, found only then -/
theorem q_forZe {P : Addr → Addr → List V → List V → Hp → Prop} (h : ∀ Q : List V → Hp → Prop, (∀ a b xs ys H1, SqL K H1 a xs → SqL K H1 b ys → xs.length = ys.length → P a b xs ys H1 → Q [.ref a, .ref b] H1) → tCons tl (tCons tr tNil) σ H Q) (Pv : Addr → Addr → List V → List V → Nat → L2.St → Hp → Prop)
    (h0 : ∀ a b xs ys H1, SqL K H1 a xs → SqL K H1 b ys → P a b xs ys H1 → Pv a b xs ys 0 σ H1) (hq : ∀ a b xs ys i σ' H', Pv a b xs ys i σ' H' → SqL K H' a xs ∧ SqL K H' b ys)
    (hs : ∀ a b xs ys (i : Nat) (x y : V) (T : Addr) (σ' : L2.St) (H' : Hp), xs[i]? = some x → ys[i]? = some y → Pv a b xs ys i σ' H' → H' T = none → g (.ref T) σ' (upd H' T (.tup [x, y])) fun σ2 H2 => tu { D with nx := Pv a b xs ys (i + 1), ct := Pv a b xs ys (i + 1), bk := tz D } σ2 H2)
    (hd : ∀ a b xs ys σ' H', Pv a b xs ys xs.length σ' H' → tz D σ' H') : tSeq (tFor (iZip K (tCons tl (tCons tr tNil))) g tu) tz D σ H := by
  show tFor (iZip K (tCons tl (tCons tr tNil))) g tu { D with nx := tz D } σ H
  unfold tFor iZip
  refine h _ fun a b xs ys H1 h1 h2 hlen p => ?_
  exact ⟨a, b, xs, ys, rfl, h1, h2, RZ.for_zipL (D := { D with nx := tz D }) hlen (Pv a b xs ys) (h0 a b xs ys H1 h1 h2 p) (hq a b xs ys) (hs a b xs ys) (hd a b xs ys)⟩
theorem walk_zipT {a b : Addr} {xs ys : List V} (hn : xs.length = ys.length) : Walk (RZ.ItzT K a b) xs.length (fun H => SqT K H a xs ∧ SqT K H b ys) (YPair (fun i => xs[i]?) (fun i => ys[i]?)) := by
  refine ⟨fun i _ hi q => ?_, fun _ q => ⟨xs, ys, q.1, q.2, by omega⟩, fun i H v H' _ q y => ?_⟩
  · exact ⟨xs, ys, xs[i], ys[i]'(by omega), q.1, q.2, by simp [hi], by simp⟩
  · obtain ⟨T, x, z, h1, h2, h3, h4, h5⟩ := y
    exact ⟨T, x, z, h1, h2, h3, h4 xs q.1, h5 ys q.2⟩
/-- a comprehension over zip of two tuples of ints -/
theorem el_lcZ {te : TE} {j k : Nat} {vs : List Nat} {a b : Addr} {xs ys : List Int} (f : Int → Int → Int) (ha : Ev tl σ H (.ref a)) (hb : Ev tr σ H (.ref b)) (h1 : TupAt H a xs) (h2 : TupAt H b ys) (hlen : xs.length = ys.length) (hz : xs.length ≤ 40000) (hw : ∀ x y, wipe (((wipe σ vs).set j (some x)).set k (some y)) vs = wipe σ vs)
    (he : ∀ (i : Nat) x y H', xs[i]? = some x → ys[i]? = some y → Ex H H' → Ev te (((wipe σ vs).set j (some (.int x))).set k (some (.int y))) H' (.int (f x y))) : EvL (tLc (RZ.iZipA K (tCons tl (tCons tr tNil))) (gTup K 2 (gCons (gName j) (gCons (gName k) gNil))) tYes te vs) σ H (((xs.zip ys).map fun z => f z.1 z.2).map V.int) := fun H0 e0 Q q => by
  unfold tLc RZ.iZipA
  exact (ea_cons ha (ea_cons hb ea_nil)) H0 e0 _ fun H1 e1 => ⟨a, b, xs.map V.int, ys.map V.int, rfl, Or.inr ⟨SqT.of ((e0.trans e1) _ _ h1), SqT.of ((e0.trans e1) _ _ h2), fun Dl hD => lc_it (walk_zipT (by rw [List.length_map, List.length_map]; exact hlen)) (fun i H' => Ex H1 H' ∧ H' Dl = some (.lst ((((xs.zip ys).take i).map fun z => f z.1 z.2).map V.int))) ⟨Ex.new hD, upd_same⟩ (fun i H' _ p => ⟨SqT.of (((e0.trans e1).trans p.1) _ _ h1), SqT.of (((e0.trans e1).trans p.1) _ _ h2)⟩)
    (fun i v H' H2 hi ⟨p1, p2⟩ y => by
      obtain ⟨T, x, y, rfl, hT, rfl, hx, hy⟩ := y
      have hx : (xs.map V.int)[i]? = some x := hx
      have hy : (ys.map V.int)[i]? = some y := hy
      rw [List.getElem?_map] at hx hy
      obtain ⟨x, hx1, rfl⟩ : ∃ x', xs[i]? = some x' ∧ x = .int x' := by
        cases hb : xs[i]? with
        | none => rw [hb] at hx; cases hx
        | some b => rw [hb] at hx; exact ⟨b, rfl, (Option.some.inj hx).symm⟩
      obtain ⟨y, hy1, rfl⟩ : ∃ x', ys[i]? = some x' ∧ y = .int x' := by
        cases hb : ys[i]? with
        | none => rw [hb] at hy; cases hy
        | some b => rw [hb] at hy; exact ⟨b, rfl, (Option.some.inj hy).symm⟩
      have e2 : Ex H1 (upd H' T (.tup [.int x, .int y])) := p1.trans (Ex.new hT)
      have nT : Dl ≠ T := ne_of_none p2 hT
      refine ⟨T, _, rfl, SqT.of upd_same, rfl, _, _, rfl, _, _, rfl, rfl, hw _ _, ?_⟩
      show te _ _ _
      have hzi : (xs.zip ys)[i]? = some (x, y) := by rw [List.getElem?_zip_eq_some]; exact ⟨hx1, hy1⟩
      refine he i x y _ hx1 hy1 ((e0.trans e1).trans e2) _ (Ex.refl _) _ fun H4 e4 => ⟨_, e4 _ _ (by rw [upd_ne nT]; exact p2), Evl.sz_lt ?_, (e2.trans e4).mut hD, ?_⟩
      · rw [List.length_map, List.length_map, List.length_take, List.length_zip]
        omega
      · rw [upd_same, take_snoc hzi, List.map_append, List.map_append]
        rfl)
    (fun H' ⟨p1, p2⟩ => q Dl H' (fresh_back e1 hD) (e1.trans p1) (by
      rw [p2, List.length_map, List.take_of_length_le (by rw [List.length_zip]; omega)]))⟩⟩
end
theorem failsOf_take {cs : List (List (Int × Int))} {i : Nat} {c : List (Int × Int)} (h : cs[i]? = some c) : failsOf (cs.take (i + 1)) = failStep (failsOf (cs.take i)) c := by
  unfold failsOf
  rw [take_snoc h, List.foldl_append]
  rfl
def sp_Doing_fails_from (A : Ad) : Sp := fun vs H Q _ => ∃ x rw a q l pt s n t, vs = [.ref x, .int ((t : Nat) : Int)] ∧ DoingAt A x rw a q l pt s n H ∧ DoingOk l pt s n ∧ t ≤ 300 ∧ ∀ v H', But rw H H' → DoingAt A x rw a q l pt s n H' → v = vI (failsFrom l n pt s t) → Q v H'
theorem sc_Doing_fails_from : FnScope ["self", "time", "found", "clause", "later", "first"] ["self", "time"] (defScope s_Doing_fails_from) := ⟨rfl, rfl, rfl, by decide +kernel, rfl, by decide +kernel, by decide +kernel⟩
theorem b_Doing_fails_from {K : PySem.W.Frag} {f : Addr} {fd : FuncData} (F : Fun K "fails_from" "Doing.fails_from" s_Doing_fails_from f fd) : Binds K fd ["self", "time"] [] := F.binds fun _ _ _ _ _ _ us hl => match us, hl with | [_, _], _ => rfl
theorem ok_Doing_fails_from {P : Program} {w : World} {K : PySem.W.Frag} {mg : Str → Option Value} {base : Heap} {A : Ad} (T : Txt K mg A) : MtG P w K mg base CX0 7 A.cDoing "fails_from" ["self", "time"] (sp_Doing_fails_from A) := by
  obtain ⟨f, fd, hc, hm, F⟩ := T.d_Doing_fails_from
  refine ⟨f, fd, hc, hm, F.ok sc_Doing_fails_from (fun vs H Q E h => ?_) (fun cdv A1 outer s H vs Q E hr h => ⟨_, (pss_cons (ps_set (i := 2) sc_Doing_fails_from.nd rfl (Or.inl rfl) pe_non)
      (pss_cons (ps_for PassesOwn.never rfl (pi_zip (by rfl) T.n_zip (by exact (pa_cons (pe_methG (ok_Doing_clauses T) (hr.mono (by decide)) pass0 (pv 0) (by exact (pa_cons (pv 1) pa_nil))) (pa_cons (pe_methG (ok_Doing_clauses T) (hr.mono (by decide)) pass0 (pv 0) (by exact (pa_cons (pe_op op_add (pv 1) (pe_gi T.i_AGAIN rfl)) pa_nil))) pa_nil)))) (pg_tup rfl (pgs_cons (pg_name (i := 3) sc_Doing_fails_from.nd rfl (Or.inl rfl)) (pgs_cons (pg_name (i := 4) sc_Doing_fails_from.nd rfl (Or.inl rfl)) pgs_nil)))
        (pss_cons (ps_set (i := 5) sc_Doing_fails_from.nd rfl (Or.inl rfl) (pe_callG (ok_f_clause_fails T) (hr.mono (by decide)) pass0 rfl (by exact (pa_cons (pv 3) (pa_cons (pv 4) pa_nil)))))
      (pss_one (ps_if (PW.pt (pw_and (pt_cmpR op_notN (pv 5) pe_non (nomark _)) (pw_and1 (PW.pt (pw_or (pt_cmpR op_isN (pv 2) pe_non (nomark _)) (pw_or1 (pt_cmpR op_lt (pv 5) (pv 2) (nomark _)))))))) (pss_one (ps_set (i := 2) sc_Doing_fails_from.nd rfl (Or.inl rfl) (pv 5))) pss_nil))))
      (pss_one (ps_ret (pv 2))))), ?_⟩), b_Doing_fails_from F⟩
  · obtain ⟨x, rw, a, q, l, pt, s, n, t, rfl, _⟩ := h
    rfl
  · obtain ⟨x, rw, a, q, l, pt, s, n, t, rfl, hD, ok, ht, k⟩ := h
    refine q_asg (v := .non) ev_c fun H1 e1 => ?_
    have zl := zipC_len l pt (LL.after l n pt t s) (LL.after l n pt (t + 144) s)
    have ll := allClauses_len l pt (LL.after l n pt t s) (LL.after l n pt (t + 144) s)
    have cb1 := clauses_bnd ok (t := t) (by omega)
    have cb2 := clauses_bnd ok (t := t + 144) (by omega)
    generalize hcs : allClauses l pt (LL.after l n pt t s) = cs at *
    generalize hds : allClauses l pt (LL.after l n pt (t + 144) s) = ds at *
    have ff : failsFrom l n pt s t = failsOf (zipC cs ds) := by unfold failsFrom; rw [hcs, hds]
    rw [ff] at k
    refine q_forZe (P := fun a1 b1 xs ys H' => But rw H H' ∧ DoingAt A x rw a q l pt s n H' ∧ Paired (fun v c => IsInts c v H') xs cs ∧ Paired (fun v c => IsInts c v H') ys ds) (fun Q' hQ => ?_) (fun a1 b1 xs ys i σ' H' => ∃ y3 y4 y5, σ' = [some (.ref x), some (.int ((t : Nat) : Int)), some (vI (failsOf ((zipC cs ds).take i))), y3, y4, y5] ∧ SqL K H' a1 xs ∧ SqL K H' b1 ys ∧ But rw H H' ∧ DoingAt A x rw a q l pt s n H' ∧ Paired (fun v c => IsInts c v H') xs cs ∧ Paired (fun v c => IsInts c v H') ys ds) (fun a1 b1 xs ys H2 q1 q2 ⟨p1, p2, p3, p4⟩ => ⟨none, none, none, rfl, q1, q2, p1, p2, p3, p4⟩) (fun a1 b1 xs ys i σ' H' ⟨y3, y4, y5, hσ, q1, q2, _⟩ => ⟨q1, q2⟩) (fun a1 b1 xs ys i u v Tp σ' H' hu hv ⟨y3, y4, y5, hσ, q1, q2, p1, p2, p3, p4⟩ hT => ?_) (fun a1 b1 xs ys σ' H' ⟨y3, y4, y5, hσ, q1, q2, p1, p2, p3, p4⟩ => ?_)
    · refine cons_eb (eb_clauses (ev_var rfl) (ev_var rfl) (hD.mono e1) ok (by omega)) fun v1 H2 b2 d2 n2 => ?_
      refine cons_eb (eb_clauses (t := t + 144) (ev_var rfl) (ev_is (ev_i0 (ev_var rfl) ev_c) rfl) d2 ok (by omega)) fun v2 H3 b3 d3 n3 => ?_
      rw [hcs] at n2
      rw [hds] at n3
      have hrw : ∃ o, H1 rw = some o := by
        obtain ⟨zs, _, Z⟩ := hD
        exact ⟨_, e1 _ _ Z.rws⟩
      obtain ⟨o, hrw⟩ := hrw
      have n2' := n2.on fun b o' nb hb => b3 b o' (fun z => by subst z; rw [hrw] at nb; cases nb) hb
      obtain ⟨pa, xs, rfl, hpa, hxs⟩ := n2'.weak IsLists.mono
      obtain ⟨pb, ys, rfl, hpb, hys⟩ := n3.weak IsLists.mono
      exact hQ pa pb xs ys H3 (SqL.of hpa) (SqL.of hpb) (by rw [hxs.length, hys.length]; exact ll) ⟨(but_of e1).trans (b2.trans b3), d3, hxs, hys⟩
    · subst hσ
      obtain ⟨c, hc, pc, rfl, hpc⟩ := paired_get p3 hu
      obtain ⟨d, hd, pd, rfl, hpd⟩ := paired_get p4 hv
      have hcd : (cs.zip ds)[i]? = some (c, d) := by rw [List.getElem?_zip_eq_some]; exact ⟨hc, hd⟩
      have hz : (zipC cs ds)[i]? = some (c.zip d) := by
        unfold zipC
        rw [List.getElem?_map, hcd]
        rfl
      have st := failsOf_take hz
      have lcd : c.length = d.length := zl (c, d) (List.mem_of_getElem? hcd)
      refine ⟨Tp, _, rfl, SqT.of upd_same, rfl, _, _, rfl, _, _, rfl, rfl, ?_⟩
      have eT : Ex H' (upd H' Tp (.tup [.ref pc, .ref pd])) := Ex.new hT
      have fin : ∀ (w : Option Int), failsOf ((zipC cs ds).take (i + 1)) = w → ∀ (y3 y4 y5 : Option V) H5, Ex H' H5 → ∃ y3' y4' y5', [some (V.ref x), some (.int ((t : Nat) : Int)), some (vI w), y3, y4, y5] = [some (.ref x), some (.int ((t : Nat) : Int)), some (vI (failsOf ((zipC cs ds).take (i + 1)))), y3', y4', y5'] ∧ SqL K H5 a1 xs ∧ SqL K H5 b1 ys ∧ But rw H H5 ∧ DoingAt A x rw a q l pt s n H5 ∧ Paired (fun v c => IsInts c v H5) xs cs ∧ Paired (fun v c => IsInts c v H5) ys ds := fun w hw y3 y4 y5 H5 e5 => ⟨y3, y4, y5, by rw [hw], ex_l e5 q1, ex_l e5 q2, p1.trans (but_of e5), p2.mono e5, Paired.imp2 p3 fun _ _ z => IsInts.mono _ _ e5 z, Paired.imp2 p4 fun _ _ z => IsInts.mono _ _ e5 z⟩
      refine q_asg (ev_clause_fails (ev_var rfl) (ev_var rfl) (eT _ _ hpc) (eT _ _ hpd) lcd (cb1 c (List.mem_of_getElem? hc)) (cb2 d (List.mem_of_getElem? hd))) fun H3 e3 => ?_
      generalize failsOf ((zipC cs ds).take i) = fo at *
      cases hf : clauseFails (c.zip d) with
      | none =>
        unfold failStep at st
        rw [hf] at st
        have st : failsOf ((zipC cs ds).take (i + 1)) = fo := st
        refine s_when (b := false && false) (et_and (a := false) (b := false) (et_v (ev_is (ev_notN (ev_var rfl)) rfl)) (fun h => by cases h)) (fun h => by cases h) (fun _ H4 e4 => ?_)
        exact fin _ st (some (.ref pc)) (some (.ref pd)) (some (vI none)) H4 ((eT.trans e3).trans e4)
      | some f =>
        unfold failStep at st
        rw [hf] at st
        cases fo with
        | none =>
          have st : failsOf ((zipC cs ds).take (i + 1)) = some f := st
          refine s_when (b := true && (true || false)) (et_and (a := true) (b := true || false) (et_v (ev_is (ev_notN (ev_var rfl)) rfl)) (fun h => et_or (a := true) (b := false) (et_v (ev_is (ev_isN (ev_var rfl)) rfl)) (fun h => by cases h))) (fun _ H4 e4 => ?_) (fun h => by cases h)
          refine s_asg (ev_var rfl) fun H5 e5 => ?_
          exact fin _ st (some (.ref pc)) (some (.ref pd)) (some (vI (some f))) H5 (((eT.trans e3).trans e4).trans e5)
        | some g =>
          have st : failsOf ((zipC cs ds).take (i + 1)) = if f < g then some f else some g := st
          refine s_when (b := true && (false || decide (f < g))) (et_and (a := true) (b := false || decide (f < g)) (et_v (ev_is (ev_notN (ev_var rfl)) rfl)) (fun h => et_or (a := false) (b := decide (f < g)) (et_v (ev_is (ev_isN (ev_var rfl)) rfl)) (fun h => et_v (ev_is (ev_i0 (i := f) (j := g) (ev_var rfl) (ev_var rfl)) rfl)))) (fun hb H4 e4 => ?_) (fun hb H4 e4 => ?_)
          · rw [if_pos (of_decide_eq_true hb)] at st
            refine s_asg (ev_var rfl) fun H5 e5 => ?_
            exact fin _ st (some (.ref pc)) (some (.ref pd)) (some (vI (some f))) H5 (((eT.trans e3).trans e4).trans e5)
          · rw [if_neg (of_decide_eq_false hb)] at st
            exact fin _ st (some (.ref pc)) (some (.ref pd)) (some (vI (some f))) H4 ((eT.trans e3).trans e4)
    · subst hσ
      have lz : (zipC cs ds).length ≤ xs.length := by
        unfold zipC
        rw [List.length_map, List.length_zip, p3.length]
        omega
      rw [List.take_of_length_le lz]
      exact s_ret (ev_var rfl) fun H2 e2 => k _ _ (p1.trans (but_of e2)) (p2.mono e2) rfl
section
variable {K : PySem.W.Frag} {A : Ad} {σ : L2.St} {H : Hp} {to tt : TE} {E : XK} {x rw a q : Addr} {l : Loop} {s : Values} {n t : Nat} {pt : List Nat}
theorem eb_from (ho : Ev to σ H (.ref x)) (ht : Ev tt σ H (.int t)) (h : DoingAt A x rw a q l pt s n H) (ok : DoingOk l pt s n) (h5 : t ≤ 300) : EvB (tMeth A.cDoing "fails_from" (sp_Doing_fails_from A) [] E to (tCons tt tNil)) σ H rw (DoingAt A x rw a q l pt s n) (fun v _ => v = vI (failsFrom l n pt s t)) := fun Q k =>
  ho H (Ex.refl H) _ fun H1 e1 => by
    obtain ⟨zs, hz, Z⟩ := h
    obtain ⟨dx, hx⟩ := Z.obj
    exact ⟨x, dx, _, rfl, e1 _ _ hx, rfl, (ea_cons ht ea_nil) H1 e1 _ fun H2 e2 => ⟨x, rw, a, q, l, pt, s, n, t, rfl, ⟨zs, hz, Z.mono (e1.trans e2)⟩, ok, h5, fun v H' b d p => k v H' ((but_of (e1.trans e2)).trans b) d p⟩⟩
end
theorem howFold_succ (l : Loop) (n : Nat) (p : List Nat) (s : Values) (i : Nat) : howFold l n p s (i + 1) = match failsFrom l n p s (4 + i) with
  | none => howFold l n p s i
  | some o => match howFold l n p s i with
    | none => some (((4 + i : Nat) : Int) + o * 144)
    | some x => if ((4 + i : Nat) : Int) + o * 144 < x then some (((4 + i : Nat) : Int) + o * 144) else some x := rfl
def sp_Doing_how_often (A : Ad) : Sp := fun vs H Q _ => ∃ x rw a q l pt s n, vs = [.ref x] ∧ DoingAt A x rw a q l pt s n H ∧ DoingOk l pt s n ∧ ∀ v H', But rw H H' → DoingAt A x rw a q l pt s n H' → v = vI ((timesOf l pt s).map Int.ofNat) → Q v H'
theorem sc_Doing_how_often : FnScope ["self", "found", "time", "often"] ["self"] (defScope s_Doing_how_often) := ⟨rfl, rfl, rfl, by decide +kernel, rfl, by decide +kernel, by decide +kernel⟩
theorem b_Doing_how_often {K : PySem.W.Frag} {f : Addr} {fd : FuncData} (F : Fun K "how_often" "Doing.how_often" s_Doing_how_often f fd) : Binds K fd ["self"] [] := F.binds fun _ _ _ _ _ _ us hl => match us, hl with | [_], _ => rfl
theorem ok_Doing_how_often {P : Program} {w : World} {K : PySem.W.Frag} {mg : Str → Option Value} {base : Heap} {A : Ad} (T : Txt K mg A) : MtG P w K mg base CX0 8 A.cDoing "how_often" ["self"] (sp_Doing_how_often A) := by
  obtain ⟨f, fd, hc, hm, F⟩ := T.d_Doing_how_often
  refine ⟨f, fd, hc, hm, F.ok sc_Doing_how_often (fun vs H Q E h => ?_) (fun cdv A1 outer s H vs Q E hr h => ⟨_, (pss_cons (ps_set (i := 1) sc_Doing_how_often.nd rfl (Or.inl rfl) (pe_methG (ok_Doing_fails_within T) (hr.mono (by decide)) pass0 (pv 0) (by exact (pa_cons (pe_op op_add (pe_gi T.i_FIRST_TIMES rfl) (pe_gi T.i_AGAIN rfl)) pa_nil))))
      (pss_cons (ps_if (pt_cmpR op_notN (pv 1) pe_non (nomark _)) (pss_one (ps_ret (pv 1))) pss_nil)
      (pss_cons (ps_for PassesOwn.never rfl (pi_range2 rfl T.n_range (by exact (pa_cons (pe_gi T.i_FIRST_TIMES rfl) (pa_cons (pe_op op_add (pe_gi T.i_FIRST_TIMES rfl) (pe_gi T.i_AGAIN rfl)) pa_nil)))) (pg_name (i := 2) sc_Doing_how_often.nd rfl (Or.inl rfl))
        (pss_cons (ps_set (i := 3) sc_Doing_how_often.nd rfl (Or.inl rfl) (pe_methG (ok_Doing_fails_from T) (hr.mono (by decide)) pass0 (pv 0) (by exact (pa_cons (pv 2) pa_nil))))
      (pss_one (ps_if (PW.pt (pw_and (pt_cmpR op_notN (pv 3) pe_non (nomark _)) (pw_and1 (PW.pt (pw_or (pt_cmpR op_isN (pv 1) pe_non (nomark _)) (pw_or1 (pt_cmpR op_lt (pe_op op_add (pv 2) (pe_op op_mulW (pv 3) (pe_gi T.i_AGAIN rfl))) (pv 1) (nomark _)))))))) (pss_one (ps_set (i := 1) sc_Doing_how_often.nd rfl (Or.inl rfl) (pe_op op_add (pv 2) (pe_op op_mulW (pv 3) (pe_gi T.i_AGAIN rfl))))) pss_nil))))
      (pss_one (ps_ret (pv 1)))))), ?_⟩), b_Doing_how_often F⟩
  · obtain ⟨x, rw, a, q, l, pt, s, n, rfl, _⟩ := h
    rfl
  · obtain ⟨x, rw, a, q, l, pt, s, n, rfl, hD, ok, k⟩ := h
    refine q_asgB (eb_within (m := 148) (ev_var rfl) (ev_is (ev_i0 ev_c ev_c) rfl) hD ok (by decide)) fun v H1 b1 d1 w => ?_
    rcases w with ⟨t, rfl, ht, hf, hu⟩ | ⟨rfl, hu⟩
    · refine q_when (b := true) (et_v (ev_is (ev_notN (ev_var rfl)) rfl)) (fun _ H2 e2 => ?_) (fun h => by cases h)
      exact s_ret (ev_var rfl) fun H3 e3 => k _ _ (b1.trans (but_of (e2.trans e3))) (d1.mono (e2.trans e3)) (by rw [within_is ok.wf ok.ok ok.len hf hu]; rfl)
    · refine q_when (b := false) (et_v (ev_is (ev_notN (ev_var rfl)) rfl)) (fun h => by cases h) (fun _ H2 e2 => ?_)
      refine q_forR2 (lo := 4) (n := 148) (ea_cons ev_c (ea_cons (ev_i0 ev_c ev_c) ea_nil)) (by decide) (fun i σ' H' => ∃ y2 y3, σ' = [some (.ref x), some (vI (howFold l n pt s i)), y2, y3] ∧ But rw H H' ∧ DoingAt A x rw a q l pt s n H') (fun H3 e3 => ⟨none, none, rfl, b1.trans (but_of (e2.trans e3)), d1.mono (e2.trans e3)⟩) (fun i σ' H' hi ⟨y2, y3, hσ, hb, hd⟩ => ?_) (fun σ' H' ⟨y2, y3, hσ, hb, hd⟩ => ?_)
      · subst hσ
        have hi' : i < 144 := by omega
        have st := howFold_succ l n pt s i
        have le := fun o => failsFrom_le ok.wf ok.ok ok.len ok.three ok.bnd (t := 4 + i) (f := o) (by omega)
        have ei : (4 : Int) + (i : Int) = ((4 + i : Nat) : Int) := by omega
        refine q_asgB (eb_from (t := 4 + i) (ev_var rfl) (ev_is (ev_var rfl) (by show V.int ((4 : Int) + (i : Int)) = _; rw [ei])) hd ok (by omega)) fun v H3 b3 d3 hv => ?_
        subst hv
        generalize howFold l n pt s i = fo at *
        have fin : ∀ (w : Option Int), howFold l n pt s (i + 1) = w → ∀ (y2 y3 : Option V) H5, But rw H3 H5 → DoingAt A x rw a q l pt s n H5 → ∃ y2' y3', [some (V.ref x), some (vI w), y2, y3] = [some (.ref x), some (vI (howFold l n pt s (i + 1))), y2', y3'] ∧ But rw H H5 ∧ DoingAt A x rw a q l pt s n H5 := fun w hw y2 y3 H5 b5 d5 => ⟨y2, y3, by rw [hw], (hb.trans b3).trans b5, d5⟩
        rw [ei]
        cases hf : failsFrom l n pt s (4 + i) with
        | none =>
          rw [hf] at st
          have st : howFold l n pt s (i + 1) = fo := st
          refine s_when (b := false && false) (et_and (a := false) (b := false) (et_v (ev_is (ev_notN (ev_var rfl)) rfl)) (fun h => by cases h)) (fun h => by cases h) (fun _ H4 e4 => ?_)
          exact fin _ st (some (.int ((4 + i : Nat) : Int))) (some (vI none)) H4 (but_of e4) (d3.mono e4)
        | some o =>
          rw [hf] at st
          have lo := le o hf
          have mw : CMulW o 144 := wide_mul (a := 60) (b := 10) (by omega) (by decide) (by decide) (by decide) (by decide)
          have evn : ∀ (y1 : V) H4, Ev (tOp (rI0 fun i j => .int (i + j)) (tVar 2) (tOp (rI CMulW fun i j => .int (i * j)) (tVar 3) (tC (.int 144)))) [some (.ref x), some y1, some (.int ((4 + i : Nat) : Int)), some (.int o)] H4 (.int (((4 + i : Nat) : Int) + o * 144)) := fun y1 H4 => ev_i0 (ev_var rfl) (ev_iC (ev_var rfl) ev_c mw)
          cases fo with
          | none =>
            have st : howFold l n pt s (i + 1) = some (((4 + i : Nat) : Int) + o * 144) := st
            refine s_when (b := true && (true || false)) (et_and (a := true) (b := true || false) (et_v (ev_is (ev_notN (ev_var rfl)) rfl)) (fun h => et_or (a := true) (b := false) (et_v (ev_is (ev_isN (ev_var rfl)) rfl)) (fun h => by cases h))) (fun _ H4 e4 => ?_) (fun h => by cases h)
            refine s_asg (evn _ _) fun H5 e5 => ?_
            exact fin _ st (some (.int ((4 + i : Nat) : Int))) (some (vI (some o))) H5 (but_of (e4.trans e5)) (d3.mono (e4.trans e5))
          | some g =>
            have st : howFold l n pt s (i + 1) = if ((4 + i : Nat) : Int) + o * 144 < g then some (((4 + i : Nat) : Int) + o * 144) else some g := st
            refine s_when (b := true && (false || decide (((4 + i : Nat) : Int) + o * 144 < g))) (et_and (a := true) (b := false || decide (((4 + i : Nat) : Int) + o * 144 < g)) (et_v (ev_is (ev_notN (ev_var rfl)) rfl)) (fun h => et_or (a := false) (b := decide (((4 + i : Nat) : Int) + o * 144 < g)) (et_v (ev_is (ev_isN (ev_var rfl)) rfl)) (fun h => et_v (ev_is (ev_i0 (j := g) (evn _ _) (ev_var rfl)) rfl)))) (fun hb2 H4 e4 => ?_) (fun hb2 H4 e4 => ?_)
            · rw [if_pos (of_decide_eq_true hb2)] at st
              refine s_asg (evn _ _) fun H5 e5 => ?_
              exact fin _ st (some (.int ((4 + i : Nat) : Int))) (some (vI (some o))) H5 (but_of (e4.trans e5)) (d3.mono (e4.trans e5))
            · rw [if_neg (of_decide_eq_false hb2)] at st
              exact fin _ st (some (.int ((4 + i : Nat) : Int))) (some (vI (some o))) H4 (but_of e4) (d3.mono e4)
      · subst hσ
        exact s_ret (ev_var rfl) fun H2 e2 => k _ _ (hb.trans (but_of e2)) (hd.mono e2) (by
          rw [← later_is ok.wf ok.ok ok.len ok.three ok.bnd hu]
          rfl)
section
variable {K : PySem.W.Frag} {A : Ad} {σ : L2.St} {H : Hp} {to tt : TE} {E : XK} {x rw a q : Addr} {l : Loop} {s : Values} {n t : Nat} {pt : List Nat}
theorem eb_how_often (ho : Ev to σ H (.ref x)) (h : DoingAt A x rw a q l pt s n H) (ok : DoingOk l pt s n) : EvB (tMeth A.cDoing "how_often" (sp_Doing_how_often A) [] E to tNil) σ H rw (DoingAt A x rw a q l pt s n) (fun v _ => v = vI ((timesOf l pt s).map Int.ofNat)) := fun Q k =>
  ho H (Ex.refl H) _ fun H1 e1 => by
    obtain ⟨zs, hz, Z⟩ := h
    obtain ⟨dx, hx⟩ := Z.obj
    exact ⟨x, dx, _, rfl, e1 _ _ hx, rfl, x, rw, a, q, l, pt, s, n, rfl, ⟨zs, hz, Z.mono e1⟩, ok, fun v H' b d p => k v H' ((but_of e1).trans b) d p⟩
end
theorem evenAt_zip (a b : Values) (q : Int) (hq : 0 ≤ q) : Vaacld.evenAt a (Vaacld.minus b a) q.toNat = (a.zip b).map fun z => z.1 + q * (z.2 - z.1) := by
  unfold Vaacld.evenAt Vaacld.minus
  have e : ((q.toNat : Nat) : Int) = q := by omega
  rw [e]
  induction a generalizing b with
  | nil => rfl
  | cons x a ih =>
    cases b with
    | nil => rfl
    | cons y b =>
      show (x + q * (y - x)) :: _ = (x + q * (y - x)) :: _
      congr 1
      exact ih b
def sp_Doing_behind (A : Ad) : Sp := fun vs H Q _ => ∃ x rw a q l pt s n t, vs = [.ref x, .int ((t : Nat) : Int)] ∧ DoingAt A x rw a q l pt s n H ∧ DoingOk l pt s n ∧ t ≤ 10 ^ 15 ∧ ∀ v H', But rw H H' → DoingAt A x rw a q l pt s n H' → IsTup (LL.after l n pt t s) v H' → Q v H'
theorem sc_Doing_behind : FnScope ["self", "time", "often", "here", "there", "one", "other"] ["self", "time"] (defScope s_Doing_behind) := ⟨rfl, rfl, rfl, by decide +kernel, rfl, by decide +kernel, by decide +kernel⟩
theorem b_Doing_behind {K : PySem.W.Frag} {f : Addr} {fd : FuncData} (F : Fun K "behind" "Doing.behind" s_Doing_behind f fd) : Binds K fd ["self", "time"] [] := F.binds fun _ _ _ _ _ _ us hl => match us, hl with | [_, _], _ => rfl
theorem ok_Doing_behind {P : Program} {w : World} {K : PySem.W.Frag} {mg : Str → Option Value} {base : Heap} {A : Ad} (T : Txt K mg A) : MtG P w K mg base CX0 6 A.cDoing "behind" ["self", "time"] (sp_Doing_behind A) := by
  obtain ⟨f, fd, hc, hm, F⟩ := T.d_Doing_behind
  refine ⟨f, fd, hc, hm, F.ok sc_Doing_behind (fun vs H Q E h => ?_) (fun cdv A1 outer s H vs Q E hr h => ⟨_, (pss_cons (ps_if (pt_cmpR op_lt (pv 1) (pe_op op_add (pe_gi T.i_FIRST_TIMES rfl) (pe_gi T.i_AGAIN rfl)) (nomark _)) (pss_one (ps_ret (pe_methG (ok_Doing_gone T) (hr.mono (by decide)) pass0 (pv 0) (by exact (pa_cons (pv 1) pa_nil))))) pss_nil)
      (pss_cons (ps_set (i := 2) sc_Doing_behind.nd rfl (Or.inr rfl) (pe_op op_fdivW (pe_op op_sub (pv 1) (pe_gi T.i_FIRST_TIMES rfl)) (pe_gi T.i_AGAIN rfl)))
      (pss_cons (ps_set (i := 3) sc_Doing_behind.nd rfl (Or.inl rfl) (pe_methG (ok_Doing_gone T) (hr.mono (by decide)) pass0 (pv 0) (by exact (pa_cons (pe_op op_sub (pv 1) (pe_op op_mulW (pv 2) (pe_gi T.i_AGAIN rfl))) pa_nil))))
      (pss_cons (ps_set (i := 4) sc_Doing_behind.nd rfl (Or.inl rfl) (pe_methG (ok_Doing_gone T) (hr.mono (by decide)) pass0 (pv 0) (by exact (pa_cons (pe_op op_add (pe_op op_sub (pv 1) (pe_op op_mulW (pv 2) (pe_gi T.i_AGAIN rfl))) (pe_gi T.i_AGAIN rfl)) pa_nil))))
      (pss_one (ps_ret (pe_callTy call_tuple_of (by rfl) T.n_tuple (by decide +kernel) (by exact (pa_cons (pe_lc (own := [("one", 5), ("other", 6)]) (g := gTup K 2 (gCons (gName 5) (gCons (gName 6) gNil))) (tt := tYes) rfl sc_Doing_behind.nd (RZ.pi_zipA (by rfl) T.n_zip (by exact (pa_cons (pv 3) (pa_cons (pv 4) pa_nil)))) (blkOk_by (own := [("one", 5), ("other", 6)]) (N := ["self", "time", "often", "here", "there", "one", "other"]) (sc := defScope s_Doing_behind) (by decide +kernel)) (fun _ _ _ _ _ => (pg_tup rfl (pgs_cons (pg_name (i := 5) sc_Doing_behind.nd rfl (Or.inl rfl)) (pgs_cons (pg_name (i := 6) sc_Doing_behind.nd rfl (Or.inl rfl)) pgs_nil)))) (fun _ _ _ _ _ => pts_nil) (fun _ _ _ _ _ => (pe_op op_add (pv 5) (pe_op op_mulW (pv 2) (pe_op op_sub (pv 6) (pv 5)))))) pa_nil))))))))), ?_⟩), b_Doing_behind F⟩
  · obtain ⟨x, rw, a, q, l, pt, s, n, t, rfl, _⟩ := h
    rfl
  · obtain ⟨x, rw, a, q, l, pt, s, n, t, rfl, hD, ok, ht, k⟩ := h
    refine q_when (b := decide ((t : Int) < 148)) (et_v (ev_is (ev_i0 (ev_var rfl) (ev_i0 ev_c ev_c)) rfl)) (fun hb H1 e1 => ?_) (fun hb H1 e1 => ?_)
    · have hb := of_decide_eq_true hb
      exact s_retB (eb_gone (ev_var rfl) (ev_var rfl) (hD.mono e1) ok (by omega)) fun v H2 b2 d2 p2 => k v H2 ((but_of e1).trans b2) d2 p2
    · have hb := of_decide_eq_false hb
      have ht4 : 148 ≤ t := by omega
      have ea := behind_is ok.wf ok.ok ok.len ht4
      have eo : ((t : Int) - 4) / 144 = (((t - 4) / 144 : Nat) : Int) := by omega
      generalize ho : (t - 4) / 144 = o at *
      generalize hu : t - o * 144 = u at *
      have hu1 : u ≤ 147 := by omega
      have ho1 : o ≤ 10 ^ 15 := by omega
      have hut : (t : Int) - (o : Int) * 144 = (u : Int) := by omega
      have mw : CMulW (o : Int) 144 := wide_mul (a := 60) (b := 10) (by omega) (by decide) (by decide) (by decide) (by decide)
      refine q_asg (v := .int (o : Int)) (ev_is (ev_iC (ev_i0 (ev_var rfl) ev_c) ev_c (wide_div (b := 10) (by decide) (by decide) (by decide) (by decide))) (by show V.int (((t : Int) - 4) / 144) = _; rw [eo])) fun H2 e2 => ?_
      refine q_asgB (eb_gone (t := u) (ev_var rfl) (ev_is (ev_i0 (ev_var rfl) (ev_iC (ev_var rfl) ev_c mw)) (by show V.int ((t : Int) - (o : Int) * 144) = _; rw [hut])) (hD.mono (e1.trans e2)) ok (by omega)) fun v3 H3 b3 d3 p3 => ?_
      refine q_asgB (eb_gone (t := u + 144) (ev_var rfl) (ev_is (ev_i0 (ev_i0 (ev_var rfl) (ev_iC (ev_var rfl) ev_c mw)) ev_c) (by show V.int ((t : Int) - (o : Int) * 144 + 144) = _; rw [hut]; rfl)) d3 ok (by omega)) fun v4 H4 b4 d4 p4 => ?_
      obtain ⟨p, rfl, hp⟩ := p3
      obtain ⟨p', rfl, hp'⟩ := p4
      have hpn : p ≠ rw := by
        obtain ⟨zs, _, Z⟩ := d3
        exact ne_of hp Z.rws (by intro z; cases z)
      have hp4 : TupAt H4 p (LL.after l n pt u s) := b4 _ _ hpn hp
      have la := after_len ok.wf ok.ok ok.len u
      have lb := after_len ok.wf ok.ok ok.len (u + 144)
      have bu := bnd_after ok.wf ok.ok ok.len ok.three (by decide) ok.bnd u
      have bw := bnd_after ok.wf ok.ok ok.len ok.three (by decide) ok.bnd (u + 144)
      have n4 := ok.wf.four
      refine s_retU (eu_tupleL (el_lcZ (fun x y => x + (o : Int) * (y - x)) (ev_var rfl) (ev_var rfl) hp4 hp' (by rw [la, lb]) (by omega) (fun _ _ => rfl) (fun i x y H5 hx hy e5 => ?_))) fun r H5 _ e5 hr => ?_
      · have hx1 : -(10 ^ 12 + 297 * (u : Int)) ≤ x ∧ x ≤ 10 ^ 12 + 297 * (u : Int) := by
          have := bu i
          have hi := (List.getElem?_eq_some_iff.mp hx).1
          rw [va_lt hi, (List.getElem?_eq_some_iff.mp hx).2] at this
          exact this
        have hy1 : -(10 ^ 12 + 297 * ((u + 144 : Nat) : Int)) ≤ y ∧ y ≤ 10 ^ 12 + 297 * ((u + 144 : Nat) : Int) := by
          have := bw i
          have hi := (List.getElem?_eq_some_iff.mp hy).1
          rw [va_lt hi, (List.getElem?_eq_some_iff.mp hy).2] at this
          exact this
        exact ev_i0 (ev_var rfl) (ev_iC (ev_var rfl) (ev_i0 (ev_var rfl) (ev_var rfl)) (wide_mul (a := 60) (b := 60) (by omega) (by omega) (by decide) (by decide) (by decide)))
      · refine k _ _ ((but_of (e1.trans e2)).trans ((b3.trans b4).trans (but_of e5))) (d4.mono e5) ⟨r, rfl, ?_⟩
        show H5 r = _
        rw [hr, ← ea]
        have := evenAt_zip (LL.after l n pt u s) (LL.after l n pt (u + 144) s) (o : Int) (by omega)
        rw [Int.toNat_natCast] at this
        rw [this]
section
variable {K : PySem.W.Frag} {A : Ad} {σ : L2.St} {H : Hp} {to tt : TE} {E : XK} {x rw a q : Addr} {l : Loop} {s : Values} {n t : Nat} {pt : List Nat}
theorem eb_behind (ho : Ev to σ H (.ref x)) (ht : Ev tt σ H (.int t)) (h : DoingAt A x rw a q l pt s n H) (ok : DoingOk l pt s n) (h5 : t ≤ 10 ^ 15) : EvB (tMeth A.cDoing "behind" (sp_Doing_behind A) [] E to (tCons tt tNil)) σ H rw (DoingAt A x rw a q l pt s n) (IsTup (LL.after l n pt t s)) := fun Q k =>
  ho H (Ex.refl H) _ fun H1 e1 => by
    obtain ⟨zs, hz, Z⟩ := h
    obtain ⟨dx, hx⟩ := Z.obj
    exact ⟨x, dx, _, rfl, e1 _ _ hx, rfl, (ea_cons ht ea_nil) H1 e1 _ fun H2 e2 => ⟨x, rw, a, q, l, pt, s, n, t, rfl, ⟨zs, hz, Z.mono (e1.trans e2)⟩, ok, h5, fun v H' b d p => k v H' ((but_of (e1.trans e2)).trans b) d p⟩⟩
end

end LW

set_option maxRecDepth 100000
set_option maxHeartbeats 4000000

/-! Part W7 -/
namespace LW
open PySem PySem.Spec PyProof.Rows L2 LL
open Evl (Ex Ev EvT EvL EvU EvA EvO fresh_back ex_l ex_t ev_var ev_c s_ret s_retL s_retU q_asg q_asgL q_asgU s_asg s_asgL q_when s_when s_if q_if et_and et_or et_not ea_nil ea_cons el_lst eu_tup ev_if eo_none eo_some el_sl sq_of st_of sz_of s_app s_appL q_app q_appL s_drop q_drop s_forL q_forL q_forLn s_forLn q_while s_while q_forR1 q_forR2 q_forNL q_forNLn q_setL s_setL q_cut)
open VaaclBase (Values Move Test Branch Loop valueAt given moved holds allHold chosen branchAt okTest)


open Vaacld (timesOf patternAt moveOf branchesFrom leap leapsFrom leaps roundsOf allRounds doneIn phaseTold howNumber)
/-! ### plain: leaps -/
theorem pat_none {l : Loop} {s : Values} : patternAt l s = none ↔ chosen l s = none := by
  unfold patternAt
  have e6 : branchesFrom l (2 * Vaacld.PATTERN) s = branchesFrom l 6 s := rfl
  show (if (branchesFrom l (2 * Vaacld.PATTERN) s).isEmpty = true then none else some _) = none ↔ _
  rw [e6]
  cases h : chosen l s with
  | none =>
    rw [bf_none h]
    exact ⟨fun _ => rfl, fun _ => rfl⟩
  | some b =>
    rw [bf_some h 5]
    exact ⟨fun z => (by cases z), fun z => (by cases z)⟩
theorem pat_some {l : Loop} {s : Values} (h : chosen l s ≠ none) : patternAt l s = some ((patternAt l s).getD []) := by
  cases e : patternAt l s with
  | none => exact absurd (pat_none.mp e) h
  | some p => rfl
theorem pat_empty {l : Loop} {s : Values} : (patternAt l s).getD [] = [] ↔ patternAt l s = none := by
  constructor
  · intro h
    cases e : patternAt l s with
    | none => rfl
    | some p =>
      exfalso
      rw [e] at h
      have h : p = [] := h
      subst h
      have hc : chosen l s ≠ none := fun z => by rw [pat_none.mpr z] at e; cases e
      obtain ⟨b, hb⟩ : ∃ b, chosen l s = some b := by
        cases z : chosen l s with
        | none => exact absurd z hc
        | some b => exact ⟨b, rfl⟩
      have key : ∃ k, 1 ≤ k ∧ (patternAt l s).getD [] = (branchesFrom l 6 s).take k := by
        by_cases c : ∃ i, i < 3 ∧ patStep (branchesFrom l 6 s) (i + 1) = true
        · obtain ⟨i, hi, hb⟩ := c
          obtain ⟨u, hu, h1, h2⟩ := first_of (P := fun i => !patStep (branchesFrom l 6 s) (i + 1)) (q := i) (by show (!_) = false; rw [hb]; rfl)
          refine ⟨u + 1, by omega, patternAt_at (i := u) (by omega) rfl (fun j hj => ?_) ?_⟩
          · have := h2 j hj
            simpa using this
          · simpa using h1
        · refine ⟨1, by decide, patternAt_no fun j hj => ?_⟩
          cases e : patStep (branchesFrom l 6 s) (j + 1) with
          | false => rfl
          | true => exact absurd ⟨j, hj, e⟩ c
      obtain ⟨k, hk, e2⟩ := key
      rw [e, bf_some hb 5] at e2
      obtain ⟨m, rfl⟩ : ∃ m, k = m + 1 := ⟨k - 1, by omega⟩
      cases e2
  · intro h
    rw [h]
    rfl
theorem beyond_bnd {s : Values} (h : VaaclBase.isBeyond s = false) : Bnd (10 ^ 12) s := fun i => by
  by_cases c : i < s.length
  · unfold VaaclBase.isBeyond at h
    rw [List.any_eq_false] at h
    have := h s[i] (List.getElem_mem c)
    rw [va_lt c]
    rw [Bool.or_eq_true, decide_eq_true_iff, decide_eq_true_iff] at this
    have e : VaaclBase.NUMBER = 10 ^ 12 := by decide
    rw [e] at this
    omega
  · rw [va_ge (by omega)]
    omega
theorem ok_at {l : Loop} {s : Values} {n : Nat} (wf : WfLoop n l) (hs : s.length = n) (k : Bnd (10 ^ 12) s) : DoingOk l ((patternAt l s).getD []) s n :=
  ⟨wf, (patternAt_ok l s).1, hs, (patternAt_ok l s).2, k⟩
theorem leap_is {l : Loop} {s : Values} {n : Nat} (wf : WfLoop n l) (hs : s.length = n) (k : Bnd (10 ^ 12) s) : leap l s = match patternAt l s with
    | none => .over
    | some p => match timesOf l p s with
      | none => .never p
      | some t => .phase ⟨p, t⟩ (LL.after l n p t s) := by
  unfold leap
  cases e : patternAt l s with
  | none => rfl
  | some p =>
    have ok := ok_at wf hs k
    rw [e] at ok
    have ok : DoingOk l p s n := ok
    show (match timesOf l p s with | none => Vaacld.Leap.never p | some q => .phase ⟨p, q⟩ (Vaacld.manyFrom Vaacld.DIGITS (Vaacld.wholeMove l s.length p) q s)) = (match timesOf l p s with | none => Vaacld.Leap.never p | some q => .phase ⟨p, q⟩ (LL.after l n p q s))
    cases e2 : timesOf l p s with
    | none => rfl
    | some t =>
      have ht := times_le ok.wf ok.ok ok.len ok.three ok.bnd e2
      unfold howMost at ht
      show Vaacld.Leap.phase ⟨p, t⟩ (Vaacld.manyFrom Vaacld.DIGITS (Vaacld.wholeMove l s.length p) t s) = .phase ⟨p, t⟩ (LL.after l n p t s)
      rw [hs, many_iter (whole_wf ok.wf ok.ok) _ _ _ hs (by have : t ≤ 10 ^ 15 := by omega
                                                            exact Nat.lt_of_le_of_lt this (by decide))]
      rfl
/-- what one turn makes of values and phases -/
def Go (l : Loop) (n : Nat) (s : Values) (ps : List Vaacld.Phase) (s' : Values) (ps' : List Vaacld.Phase) (e : V) : Prop :=
  (ps ≠ [] ∧ VaaclBase.isBeyond s = true ∧ s' = s ∧ ps' = ps ∧ e = .int 2) ∨
  (¬ (ps ≠ [] ∧ VaaclBase.isBeyond s = true) ∧ chosen l s = none ∧ s' = s ∧ ps' = ps ∧ e = .int 0) ∨
  (¬ (ps ≠ [] ∧ VaaclBase.isBeyond s = true) ∧ chosen l s ≠ none ∧ ps.length = 8 ∧ s' = s ∧ ps' = ps ∧ e = .int 3) ∨
  (¬ (ps ≠ [] ∧ VaaclBase.isBeyond s = true) ∧ chosen l s ≠ none ∧ ps.length ≠ 8 ∧ timesOf l ((patternAt l s).getD []) s = none ∧ s' = s ∧ ps' = ps ∧ e = .int 1) ∨
  (¬ (ps ≠ [] ∧ VaaclBase.isBeyond s = true) ∧ chosen l s ≠ none ∧ ps.length ≠ 8 ∧ ∃ t, timesOf l ((patternAt l s).getD []) s = some t ∧ s' = LL.after l n ((patternAt l s).getD []) t s ∧ ps' = ps ++ [⟨(patternAt l s).getD [], t⟩] ∧ e = .non)
def Pend (l : Loop) (s : Values) (ps : List Vaacld.Phase) : Vaacld.Leapt := if ps ≠ [] ∧ VaaclBase.isBeyond s = true then ⟨.far, s, ps⟩ else leapsFrom l (8 - ps.length) s ps
theorem howNumber_over : howNumber .over = 0 := rfl
theorem go_pend {l : Loop} {n : Nat} {s s' : Values} {ps ps' : List Vaacld.Phase} {e : V} (wf : WfLoop n l) (hs : s.length = n) (hb : ps = [] → Bnd (10 ^ 12) s) (h8 : ps.length ≤ 8) (g : Go l n s ps s' ps' e) :
    (e = .non → Pend l s' ps' = Pend l s ps ∧ ps'.length = ps.length + 1 ∧ ps'.length ≤ 8) ∧ (e ≠ .non → e = .int (howNumber (Pend l s ps).how) ∧ s' = (Pend l s ps).values ∧ ps' = (Pend l s ps).phases) := by
  rcases g with ⟨g1, g2, rfl, rfl, rfl⟩ | ⟨g1, g2, rfl, rfl, rfl⟩ | ⟨g1, g2, g3, rfl, rfl, rfl⟩ | ⟨g1, g2, g3, g4, rfl, rfl, rfl⟩ | ⟨g1, g2, g3, t, g4, rfl, rfl, rfl⟩
  · have : Pend l s' ps' = ⟨.far, s', ps'⟩ := if_pos ⟨g1, g2⟩
    rw [this]
    exact ⟨fun z => (by cases z), fun _ => ⟨rfl, rfl, rfl⟩⟩
  · have : Pend l s' ps' = ⟨.over, s', ps'⟩ := by
      unfold Pend
      rw [if_neg g1]
      cases ek : 8 - ps'.length with
      | zero =>
        show (⟨match chosen l s' with | none => .over | some _ => .many, s', ps'⟩ : Vaacld.Leapt) = _
        rw [g2]
      | succ k =>
        show (match leap l s' with | .over => (⟨.over, s', ps'⟩ : Vaacld.Leapt) | .never _ => ⟨.never, s', ps'⟩ | .phase p t => _) = _
        have : leap l s' = .over := by
          unfold leap
          rw [pat_none.mpr g2]
        rw [this]
    rw [this]
    exact ⟨fun z => (by cases z), fun _ => ⟨rfl, rfl, rfl⟩⟩
  · have : Pend l s' ps' = ⟨.many, s', ps'⟩ := by
      unfold Pend
      rw [if_neg g1, g3]
      show (⟨match chosen l s' with | none => .over | some _ => .many, s', ps'⟩ : Vaacld.Leapt) = _
      cases z : chosen l s' with
      | none => exact absurd z g2
      | some b => rfl
    rw [this]
    exact ⟨fun z => (by cases z), fun _ => ⟨rfl, rfl, rfl⟩⟩
  · have bd : Bnd (10 ^ 12) s' := by
      by_cases c : ps' = []
      · exact hb c
      · refine beyond_bnd ?_
        cases z : VaaclBase.isBeyond s' with
        | false => rfl
        | true => exact absurd ⟨c, z⟩ g1
    have : Pend l s' ps' = ⟨.never, s', ps'⟩ := by
      unfold Pend
      rw [if_neg g1]
      obtain ⟨k, ek⟩ : ∃ k, 8 - ps'.length = k + 1 := ⟨8 - ps'.length - 1, by omega⟩
      rw [ek]
      show (match leap l s' with | .over => (⟨.over, s', ps'⟩ : Vaacld.Leapt) | .never _ => ⟨.never, s', ps'⟩ | .phase p t => if VaaclBase.isBeyond t then ⟨.far, t, ps' ++ [p]⟩ else leapsFrom l k t (ps' ++ [p])) = _
      rw [leap_is wf hs bd, pat_some g2]
      show (match (match timesOf l ((patternAt l s').getD []) s' with | none => Vaacld.Leap.never ((patternAt l s').getD []) | some t => .phase ⟨(patternAt l s').getD [], t⟩ _) with | .over => (⟨.over, s', ps'⟩ : Vaacld.Leapt) | .never _ => ⟨.never, s', ps'⟩ | .phase p t => if VaaclBase.isBeyond t then ⟨.far, t, ps' ++ [p]⟩ else leapsFrom l k t (ps' ++ [p])) = _
      rw [g4]
    rw [this]
    exact ⟨fun z => (by cases z), fun _ => ⟨rfl, rfl, rfl⟩⟩
  · have bd : Bnd (10 ^ 12) s := by
      by_cases c : ps = []
      · exact hb c
      · refine beyond_bnd ?_
        cases z : VaaclBase.isBeyond s with
        | false => rfl
        | true => exact absurd ⟨c, z⟩ g1
    refine ⟨fun _ => ⟨?_, by rw [List.length_append]; rfl, by rw [List.length_append]; show ps.length + 1 ≤ 8; omega⟩, fun z => absurd rfl z⟩
    symm
    unfold Pend
    rw [if_neg g1]
    obtain ⟨k, ek⟩ : ∃ k, 8 - ps.length = k + 1 := ⟨8 - ps.length - 1, by omega⟩
    have ek2 : 8 - (ps ++ [(⟨(patternAt l s).getD [], t⟩ : Vaacld.Phase)]).length = k := by rw [List.length_append, List.length_singleton]; omega
    rw [ek, ek2]
    show (match leap l s with | .over => (⟨.over, s, ps⟩ : Vaacld.Leapt) | .never _ => ⟨.never, s, ps⟩ | .phase p t => if VaaclBase.isBeyond t then ⟨.far, t, ps ++ [p]⟩ else leapsFrom l k t (ps ++ [p])) = _
    rw [leap_is wf hs bd, pat_some g2]
    show (match (match timesOf l ((patternAt l s).getD []) s with | none => Vaacld.Leap.never ((patternAt l s).getD []) | some t => .phase ⟨(patternAt l s).getD [], t⟩ (LL.after l n ((patternAt l s).getD []) t s)) with | .over => (⟨.over, s, ps⟩ : Vaacld.Leapt) | .never _ => ⟨.never, s, ps⟩ | .phase p t => if VaaclBase.isBeyond t then ⟨.far, t, ps ++ [p]⟩ else leapsFrom l k t (ps ++ [p])) = _
    rw [g4]
    have hne : ps ++ [(⟨(patternAt l s).getD [], t⟩ : Vaacld.Phase)] ≠ [] := by intro z; cases ps <;> cases z
    by_cases c : VaaclBase.isBeyond (LL.after l n ((patternAt l s).getD []) t s) = true
    · show (if VaaclBase.isBeyond (LL.after l n ((patternAt l s).getD []) t s) = true then _ else _) = _
      rw [if_pos c, if_pos ⟨hne, c⟩]
      rfl
    · show (if VaaclBase.isBeyond (LL.after l n ((patternAt l s).getD []) t s) = true then _ else _) = _
      rw [if_neg c, if_neg fun z => c z.2]
      rfl
section
variable {K : PySem.W.Frag} {σ : L2.St} {H : Hp} {ta tb te tv : TE} {t : TT} {D : Ends} {tz : TS} {tr : TA} {E : XK}
theorem el_catP {xs ys : List V} (ha : EvP ta σ H (fun v H' => ∃ p, v = .ref p ∧ H' p = some (.lst xs))) (hb : EvP tb σ H (fun v H' => ∃ p, v = .ref p ∧ H' p = some (.lst ys))) (hz : xs.length + ys.length ≤ 100000) : EvL (tOp rCat ta tb) σ H (xs ++ ys) := fun H1 e Q k =>
  ha H1 e _ fun v H2 e2 hv => hb H2 (e.trans e2) _ fun u H3 e3 hu => by
    obtain ⟨p, rfl, hp⟩ := hv
    obtain ⟨q, rfl, hq⟩ := hu
    exact ⟨p, q, xs, ys, rfl, rfl, e3 p _ hp, hq, Evl.sz_of hz, fun l hl => k l _ (fresh_back (e2.trans e3) hl) ((e2.trans e3).trans (Ex.new hl)) upd_same⟩
theorem el_v {p : Addr} {xs : List V} (h : Ev te σ H (.ref p)) (hp : H p = some (.lst xs)) : EvP te σ H (fun v H' => ∃ p, v = .ref p ∧ H' p = some (.lst xs)) := ev_pw h fun H1 e => ⟨p, rfl, e _ _ hp⟩
theorem s_fld {v : V} {f : Str} {x C dx : Addr} {fs : List (Str × V)} (hv : Ev tv σ H v) (ho : Ev ta σ H (.ref x)) (hx : H x = some (.ins C dx fs)) (hc : Cls K C) (hn : NoAttr K C f) (hz : fs.length < 1000) (k : ∀ H1, Ex H H1 → D.nx σ (upd H1 x (.ins C dx (putF f v fs)))) : sFld K ta tv f D σ H :=
  hv H (Ex.refl H) _ fun H1 e1 => ho H1 e1 _ fun H2 e2 => ⟨x, C, dx, fs, rfl, (e1.trans e2) _ _ hx, hc, hn, hz, k H2 (e1.trans e2)⟩
theorem q_fld {v : V} {f : Str} {x C dx : Addr} {fs : List (Str × V)} (hv : Ev tv σ H v) (ho : Ev ta σ H (.ref x)) (hx : H x = some (.ins C dx fs)) (hc : Cls K C) (hn : NoAttr K C f) (hz : fs.length < 1000) (k : ∀ H1, Ex H H1 → tz D σ (upd H1 x (.ins C dx (putF f v fs)))) : tSeq (sFld K ta tv f) tz D σ H :=
  s_fld (D := { D with nx := tz D }) hv ho hx hc hn hz k
theorem ev_neE {p : Addr} {xs : List V} (ha : Ev ta σ H (.ref p)) (hx : SqL K H p xs) (hb : EvL tb σ H []) : Ev (tOp (rNeE K) ta tb) σ H (.bl (!xs.isEmpty)) := fun H1 e Q k =>
  ha H1 e _ fun H2 e2 => hb H2 (e.trans e2) _ fun q H3 _ e3 hq => ⟨p, q, xs, rfl, rfl, ex_l ((e.trans e2).trans e3) hx, SqL.of hq, k H3 (e2.trans e3)⟩
theorem eb_if {rw : Addr} {J : Hp → Prop} {P : V → Hp → Prop} {b : Bool} (h : EvT t σ H b) (h1 : b = true → ∀ H1, Ex H H1 → EvB ta σ H1 rw J P) (h2 : b = false → ∀ H1, Ex H H1 → EvB tb σ H1 rw J P) : EvB (tIf t ta tb) σ H rw J P := fun Q k => h H (Ex.refl H) _ fun H1 e1 => by
  cases b with
  | true =>
    show ta σ H1 Q
    exact h1 rfl H1 e1 Q fun v H2 b2 => k v H2 ((but_of e1).trans b2)
  | false =>
    show tb σ H1 Q
    exact h2 rfl H1 e1 Q fun v H2 b2 => k v H2 ((but_of e1).trans b2)
theorem eb_of {rw : Addr} {J : Hp → Prop} {P : V → Hp → Prop} (h : EvP te σ H P) (j : ∀ H1, Ex H H1 → J H1) : EvB te σ H rw J P := fun Q k => h H (Ex.refl H) _ fun v H1 e1 p => k v H1 (but_of e1) (j H1 e1) p
theorem q_asgC {sp : Sp} {dvs : List V} {i : Nat} (h : tr σ H fun vs H1 => sp (vs ++ dvs) H1 (fun v H2 => tz D (σ.set i (some v)) H2) E) : tSeq (tAsg (tCall sp dvs E tr) (gName i)) tz D σ H := h
theorem s_retM {C : Addr} {sp : Sp} {dvs : List V} (h : tr σ H fun vs H1 => ∀ x dx, H1 x = none → H1 dx = none → dx ≠ x → sp (.ref x :: (vs ++ dvs)) (upd (upd H1 dx (.own x)) x (.ins C dx [])) (fun v H2 => v = .non ∧ D.rt (.ref x) H2) E) : tRet (tMake C sp dvs E tr) D σ H := h
theorem mk_raw {C : Addr} {names : List Str} {vs : List V} {Q : VK} (hl : vs.length = names.length) (k : ∀ x dx H', Ex H H' → H x = none → H' x = some (.ins C dx (names.zip vs)) → Q (.ref x) H') : ∀ x dx, H x = none → H dx = none → dx ≠ x → SpI C names (.ref x :: (vs ++ [])) (upd (upd H dx (.own x)) x (.ins C dx [])) (fun v H2 => v = .non ∧ Q (.ref x) H2) E := fun x dx nx nd ne =>
  ⟨x, dx, vs, by rw [List.append_nil], hl, upd_same, fun H' keep hx => ⟨rfl, k x dx H' (fun b o hb => keep b o (ne_of_none hb nx) (by rw [upd_ne (ne_of_none hb nx), upd_ne (ne_of_none hb nd)]; exact hb)) nx hx⟩⟩
end
/-! ### phases -/
def fP (q : Addr) (o m : V) : List (Str × V) := [("pattern", .ref q), ("often", o), ("amounts", m)]
def PhN (A : Ad) (p : List Nat) (o m v : V) (H : Hp) : Prop := ∃ a dx q, v = .ref a ∧ H a = some (.ins A.cPhase dx (fP q o m)) ∧ IntsAt H q (nats p)
def PhV (A : Ad) (v : V) (ph : Vaacld.Phase) (H : Hp) : Prop := ∃ m, PhN A ph.pattern (.int ((ph.times : Nat) : Int)) m v H
theorem PhN.mono {A : Ad} {p : List Nat} {o m v : V} : Mono (PhN A p o m v) := fun H H' e h => by
  obtain ⟨a, dx, q, r, h1, h2⟩ := h
  exact ⟨a, dx, q, r, e _ _ h1, e _ _ h2⟩
theorem PhV.mono {A : Ad} {v : V} {ph : Vaacld.Phase} : Mono (PhV A v ph) := fun H H' e h => by
  obtain ⟨m, h⟩ := h
  exact ⟨m, PhN.mono _ _ e h⟩
structure PhOk (l : Loop) (ph : Vaacld.Phase) : Prop where
  three : ph.pattern.length ≤ 3
  few : ph.times ≤ 10 ^ 15
  ok : PatOk l ph.pattern
def sp_Phase_init (A : Ad) : Sp := SpI A.cPhase ["pattern", "often", "amounts"]
theorem sc_Phase_init : FnScope ["self", "pattern", "often", "amounts"] ["self", "pattern", "often", "amounts"] (defScope s_Phase_init) := ⟨rfl, rfl, rfl, by decide +kernel, rfl, by decide +kernel, by decide +kernel⟩
theorem b_Phase_init {K : PySem.W.Frag} {f : Addr} {fd : FuncData} (F : Fun K "__init__" "Phase.__init__" s_Phase_init f fd) : Binds K fd ["self", "pattern", "often", "amounts"] [] := F.binds fun _ _ _ _ _ _ us hl => match us, hl with | [_, _, _, _], _ => rfl
theorem ok_Phase_init {P : Program} {w : World} {K : PySem.W.Frag} {mg : Str → Option Value} {base : Heap} {A : Ad} (T : Txt K mg A) : MkG P w K mg base CX0 1 A.cPhase "Phase" ["self", "pattern", "often", "amounts"] (sp_Phase_init A) := by
  obtain ⟨f, fd, hm, M, F⟩ := T.d_Phase_init
  refine ⟨f, fd, hm, M, F.ok sc_Phase_init (fun vs H Q E h => ?_) (fun cdv A1 outer s H vs Q E hr h => ⟨_, (pss_cons (ps_fld (pv 0) (pv 1) rfl)
      (pss_cons (ps_fld (pv 0) (pv 2) rfl)
      (pss_one (ps_fld (pv 0) (pv 3) rfl)))), ?_⟩), b_Phase_init F⟩
  · obtain ⟨x, dx, args, rfl, hl, _⟩ := h
    exact congrArg Nat.succ hl
  · obtain ⟨x, dx, args, rfl, hl, hx, k⟩ := h
    obtain ⟨a, b, c, rfl⟩ : ∃ a b c, args = [a, b, c] := by
      match args, hl with
      | [a, b, c], _ => exact ⟨a, b, c, rfl⟩
    refine ⟨_, rfl, _, rfl, x, A.cPhase, dx, [], rfl, hx, T.cls_Phase, T.na_Phase_pattern, (by show 0 < 1000; decide), ?_⟩
    refine ⟨_, rfl, _, rfl, x, A.cPhase, dx, _, rfl, upd_same, T.cls_Phase, T.na_Phase_often, (by show 1 < 1000; decide), ?_⟩
    refine ⟨_, rfl, _, rfl, x, A.cPhase, dx, _, rfl, upd_same, T.cls_Phase, T.na_Phase_amounts, (by show 2 < 1000; decide), ?_⟩
    refine k _ (fun b o hb e => ?_) ?_
    · rw [upd_ne hb, upd_ne hb, upd_ne hb]
      exact e
    · exact upd_same

def sp_Phase_rounds (A : Ad) : Sp := SpP (fun ((l, ph, v) : Loop × Vaacld.Phase × V) => [v]) (fun (l, ph, v) H => PhV A v ph H ∧ PhOk l ph) (fun (l, ph, v) u _ => u = .int ((roundsOf ph : Nat) : Int))
theorem sc_Phase_rounds : FnScope ["self"] ["self"] (defScope s_Phase_rounds) := ⟨rfl, rfl, rfl, by decide +kernel, rfl, by decide +kernel, by decide +kernel⟩
theorem b_Phase_rounds {K : PySem.W.Frag} {f : Addr} {fd : FuncData} (F : Fun K "rounds" "Phase.rounds" s_Phase_rounds f fd) : Binds K fd ["self"] [] := F.binds fun _ _ _ _ _ _ us hl => match us, hl with | [_], _ => rfl
theorem ok_Phase_rounds {P : Program} {w : World} {K : PySem.W.Frag} {mg : Str → Option Value} {base : Heap} {A : Ad} (T : Txt K mg A) : MtG P w K mg base CX0 1 A.cPhase "rounds" ["self"] (sp_Phase_rounds A) := by
  obtain ⟨f, fd, hc, hm, F⟩ := T.d_Phase_rounds
  refine ⟨f, fd, hc, hm, F.ok sc_Phase_rounds (fun vs H Q E h => ?_) (fun cdv A1 outer s H vs Q E hr h => ⟨_, (pss_one (ps_ret (pe_op op_mulW (pe_callB call_len_seq (by rfl) T.n_len PySem.boot_len (by exact (pa_cons (pe_fld (pv 0) rfl) pa_nil))) (pe_fld (pv 0) rfl)))), ?_⟩), b_Phase_rounds F⟩
  · obtain ⟨⟨l, ph, v⟩, rfl, _⟩ := h
    rfl
  · obtain ⟨⟨l, ph, v⟩, rfl, ⟨⟨m, a, dx, q, rfl, h1, h2⟩, ok⟩, k⟩ := h
    have w3 := ok.three
    have wt := ok.few
    refine s_ret (v := .int ((roundsOf ph : Nat) : Int)) (ev_is (ev_iC (i := ((nats ph.pattern).map V.int).length) (j := ((ph.times : Nat) : Int)) (ev_len (ev_fld (ev_var rfl) h1 T.cls_Phase T.na_Phase_pattern rfl) (Or.inl (SqL.of h2))) (ev_fld (ev_var rfl) h1 T.cls_Phase T.na_Phase_often rfl) (wide_mul (a := 10) (b := 60) (by rw [List.length_map, nats_len]; omega) (by omega) (by decide) (by decide) (by decide))) ?_) fun H1 e1 => k _ _ e1 rfl
    rw [List.length_map, nats_len]
    show V.int _ = V.int _
    congr 1
section
variable {K : PySem.W.Frag} {A : Ad} {σ : L2.St} {H : Hp} {to : TE} {E : XK} {v : V} {l : Loop} {ph : Vaacld.Phase}
theorem ev_Phase_rounds (ho : Ev to σ H v) (h1 : PhV A v ph H) (h2 : PhOk l ph) : Ev (tMeth A.cPhase "rounds" (sp_Phase_rounds A) [] E to tNil) σ H (.int ((roundsOf ph : Nat) : Int)) := by
  obtain ⟨m, a, dx, q, rfl, h3, h4⟩ := h1
  exact EvP.toEv (ep_meth ho h3 rfl ea_nil (l, ph, .ref a) rfl fun H1 e => ⟨⟨m, a, dx, q, rfl, e _ _ h3, e _ _ h4⟩, h2⟩)
end
def sp_Phase_told (A : Ad) : Sp := SpP (fun ((l, ph, v) : Loop × Vaacld.Phase × V) => [v]) (fun (l, ph, v) H => PhV A v ph H ∧ PhOk l ph) (fun (l, ph, v) => IsInts (phaseTold ph))
theorem sc_Phase_told : FnScope ["self"] ["self"] (defScope s_Phase_told) := ⟨rfl, rfl, rfl, by decide +kernel, rfl, by decide +kernel, by decide +kernel⟩
theorem b_Phase_told {K : PySem.W.Frag} {f : Addr} {fd : FuncData} (F : Fun K "told" "Phase.told" s_Phase_told f fd) : Binds K fd ["self"] [] := F.binds fun _ _ _ _ _ _ us hl => match us, hl with | [_], _ => rfl
theorem ok_Phase_told {P : Program} {w : World} {K : PySem.W.Frag} {mg : Str → Option Value} {base : Heap} {A : Ad} (T : Txt K mg A) : MtG P w K mg base CX0 1 A.cPhase "told" ["self"] (sp_Phase_told A) := by
  obtain ⟨f, fd, hc, hm, F⟩ := T.d_Phase_told
  refine ⟨f, fd, hc, hm, F.ok sc_Phase_told (fun vs H Q E h => ?_) (fun cdv A1 outer s H vs Q E hr h => ⟨_, (pss_one (ps_ret (pe_op op_cat (pe_op op_cat (pe_lst (by exact (pa_cons (pe_callB call_len_seq (by rfl) T.n_len PySem.boot_len (by exact (pa_cons (pe_fld (pv 0) rfl) pa_nil))) pa_nil))) (pe_fld (pv 0) rfl)) (pe_lst (by exact (pa_cons (pe_fld (pv 0) rfl) pa_nil)))))), ?_⟩), b_Phase_told F⟩
  · obtain ⟨⟨l, ph, v⟩, rfl, _⟩ := h
    rfl
  · obtain ⟨⟨l, ph, v⟩, rfl, ⟨⟨m, a, dx, q, rfl, h1, h2⟩, ok⟩, k⟩ := h
    have w3 := ok.three
    have wl : ((nats ph.pattern).map V.int).length = ph.pattern.length := by rw [List.length_map, nats_len]
    refine s_retL (el_catP (el_p (el_catP (xs := [V.int ((nats ph.pattern).map V.int).length]) (el_p (el_lst (ea_cons (ev_len (ev_fld (ev_var rfl) h1 T.cls_Phase T.na_Phase_pattern rfl) (Or.inl (SqL.of h2))) ea_nil) (by show (1 : Nat) ≤ 100000; decide))) (el_v (ev_fld (ev_var rfl) h1 T.cls_Phase T.na_Phase_pattern rfl) h2) (by rw [wl]; show 1 + _ ≤ _; omega))) (el_p (el_lst (vs := [V.int ((ph.times : Nat) : Int)]) (ea_cons (ev_fld (ev_var rfl) h1 T.cls_Phase T.na_Phase_often rfl) ea_nil) (by show (1 : Nat) ≤ 100000; decide))) (by rw [List.length_append, wl]; show 1 + _ + 1 ≤ _; omega)) fun r H1 _ e1 hr => k _ _ e1 ⟨r, rfl, ?_⟩
    show H1 r = _
    rw [hr, wl]
    unfold phaseTold VaaclBase.listed nats
    rw [List.map_append]
    rfl
section
variable {K : PySem.W.Frag} {A : Ad} {σ : L2.St} {H : Hp} {to : TE} {E : XK} {v : V} {l : Loop} {ph : Vaacld.Phase}
theorem ep_Phase_told (ho : Ev to σ H v) (h1 : PhV A v ph H) (h2 : PhOk l ph) : EvP (tMeth A.cPhase "told" (sp_Phase_told A) [] E to tNil) σ H (IsInts (phaseTold ph)) := by
  obtain ⟨m, a, dx, q, rfl, h3, h4⟩ := h1
  exact ep_meth ho h3 rfl ea_nil (l, ph, .ref a) rfl fun H1 e => ⟨⟨m, a, dx, q, rfl, e _ _ h3, e _ _ h4⟩, h2⟩
theorem phaseTold_len (h : PhOk l ph) : (phaseTold ph).length ≤ 5 := by
  have := h.three
  unfold phaseTold VaaclBase.listed
  rw [List.length_append, List.length_cons, List.length_map]
  show _ + 1 + 1 ≤ 5
  omega
end
def OM (l : Loop) (s : Values) (n : Nat) (o m : V) (H : Hp) : Prop := match timesOf l ((patternAt l s).getD []) s with
  | none => o = .non ∧ m = .non
  | some t => o = .int ((t : Nat) : Int) ∧ IsTup (LL.after l n ((patternAt l s).getD []) t s) m H
theorem OM.mono {l : Loop} {s : Values} {n : Nat} {o m : V} : Mono (OM l s n o m) := fun H H' e h => by
  unfold OM at h ⊢
  cases z : timesOf l ((patternAt l s).getD []) s with
  | none => rw [z] at h; exact h
  | some t => rw [z] at h; exact ⟨h.1, IsTup.mono _ _ e h.2⟩
def sp_f_leap_from (A : Ad) : Sp := fun vs H Q _ => ∃ l s a p n, vs = [.ref a, .ref p] ∧ LoopAt A H a n l ∧ TupAt H p s ∧ WfLoop n l ∧ s.length = n ∧ Bnd (10 ^ 12) s ∧ ∀ v H' o m, Ex H H' → NewAt H H' (PhN A ((patternAt l s).getD []) o m v) → OM l s n o m H' → Q v H'
theorem sc_f_leap_from : FnScope ["loop", "amounts", "pattern", "doing", "often"] ["loop", "amounts"] (defScope s_f_leap_from) := ⟨rfl, rfl, rfl, by decide +kernel, rfl, by decide +kernel, by decide +kernel⟩
theorem b_f_leap_from {K : PySem.W.Frag} {f : Addr} {fd : FuncData} (F : Fun K "leap_from" "leap_from" s_f_leap_from f fd) : Binds K fd ["loop", "amounts"] [] := F.binds fun _ _ _ _ _ _ us hl => match us, hl with | [_, _], _ => rfl
theorem ok_f_leap_from {P : Program} {w : World} {K : PySem.W.Frag} {mg : Str → Option Value} {base : Heap} {A : Ad} (T : Txt K mg A) : FnG P w K mg base CX0 9 "leap_from" ["loop", "amounts"] (sp_f_leap_from A) := by
  obtain ⟨f, fd, hm, F⟩ := T.d_f_leap_from
  refine ⟨f, fd, hm, F.kp, F.ok sc_f_leap_from (fun vs H Q E h => ?_) (fun cdv A1 outer s H vs Q E hr h => ⟨_, (pss_cons (ps_set (i := 2) sc_f_leap_from.nd rfl (Or.inl rfl) (pe_callG (ok_f_pattern_at T) (hr.mono (by decide)) pass0 rfl (by exact (pa_cons (pv 0) (pa_cons (pv 1) pa_nil)))))
      (pss_cons (ps_set (i := 3) sc_f_leap_from.nd rfl (Or.inl rfl) (pe_makeG (ok_Doing_init T) (hr.mono (by decide)) pass0 rfl (by exact (pa_cons (pv 0) (pa_cons (pv 2) (pa_cons (pv 1) pa_nil))))))
      (pss_cons (ps_set (i := 4) sc_f_leap_from.nd rfl (Or.inl rfl) (pe_methG0 (ok_Doing_how_often T) (hr.mono (by decide)) pass0 (pv 3)))
      (pss_one (ps_ret (pe_makeG (ok_Phase_init T) (hr.mono (by decide)) pass0 rfl (by exact (pa_cons (pv 2) (pa_cons (pv 4) (pa_cons (pe_ifExp (pt_cmpR op_isN (pv 4) pe_non (nomark _)) pe_non (pe_methG (ok_Doing_behind T) (hr.mono (by decide)) pass0 (pv 3) (by exact (pa_cons (pv 4) pa_nil)))) pa_nil)))))))))), ?_⟩), b_f_leap_from F⟩
  · obtain ⟨l, s, a, p, n, rfl, _⟩ := h
    rfl
  · obtain ⟨l, s, a, p, n, rfl, hL, hp, wf, hs, hb, k⟩ := h
    have ok := ok_at wf hs hb
    have le := fun q => times_le ok.wf ok.ok ok.len ok.three ok.bnd (q := q)
    refine q_asgN (en_pattern_at (ev_var rfl) (ev_var rfl) hL hp wf hs) fun v H1 e1 n1 => ?_
    unfold OM at k
    generalize (patternAt l s).getD [] = pt at *
    obtain ⟨q, rfl, hq⟩ := n1.weak IsInts.mono
    refine q_asgP (ep_Doing (ev_var rfl) (ev_var rfl) (ev_var rfl) (hL.mono e1) hq (e1 _ _ hp) hs) fun v H2 e2 hv => ?_
    obtain ⟨x, rw, rfl, nrw, hD⟩ := hv
    refine q_asgB (eb_how_often (ev_var rfl) hD ok) fun v H3 b3 d3 hv => ?_
    subst hv
    have e3 : Ex H1 H3 := b3.ex nrw e2
    have fin : ∀ (o m : V) H4, Ex H1 H4 → (∀ H5, Ex H4 H5 → match timesOf l pt s with
          | none => o = .non ∧ m = .non
          | some t => o = .int ((t : Nat) : Int) ∧ IsTup (LL.after l n pt t s) m H5) → ∀ y dx H5, Ex H4 H5 → H4 y = none → H5 y = some (.ins A.cPhase dx ((["pattern", "often", "amounts"] : List Str).zip [.ref q, o, m])) → Q (.ref y) H5 := fun o m H4 e4 om y dx H5 e5 ny hy => by
      refine k (.ref y) H5 o m (e1.trans (e4.trans e5)) ?_ (om H5 e5)
      have ny0 : H y = none := fresh_back (e1.trans e4) ny
      refine (NewAt.and (P := fun H => H y = some (.ins A.cPhase dx (fP q o m))) (R := IsInts (nats pt) (.ref q)) (NewAt.obj hy ny0) (n1.later (e4.trans e5)) (fun _ _ e z => e _ _ z) IsInts.mono).imp fun H z => ?_
      obtain ⟨z1, q', z2, z3⟩ := z
      injection z2 with z2
      subst z2
      exact ⟨y, dx, q, rfl, z1, z3⟩
    refine s_retM ?_
    refine cons_ev (ev_var rfl) fun H4 e4 => ?_
    refine cons_ev (ev_var rfl) fun H5 e5 => ?_
    cases ht : timesOf l pt s with
    | none =>
      rw [ht] at fin
      refine cons_eb (rw := rw) (J := fun _ => True) (P := fun v H' => v = .non ∧ Ex H5 H') (eb_of (ev_pw (v := .non) (ev_if (b := true) (et_v (ev_is (ev_isN (ev_var rfl)) rfl)) (fun _ => ev_c) (fun h => by cases h)) fun H1 e => ⟨rfl, e⟩) fun _ _ => trivial) fun v H6 _ _ ⟨hv, e6⟩ => ?_
      subst hv
      exact mk_raw rfl fun y dx H7 e7 ny hy => fin _ _ H6 (((e3.trans e4).trans e5).trans e6) (fun H5 _ => ⟨rfl, rfl⟩) y dx H7 e7 ny hy
    | some t =>
      have tle := le t ht
      unfold howMost at tle
      rw [ht] at fin
      refine cons_eb (rw := rw) (J := DoingAt A x rw a q l pt s n) (P := IsTup (LL.after l n pt t s)) (eb_if (b := false) (et_v (ev_is (ev_isN (ev_var rfl)) rfl)) (fun h => by cases h) fun _ H6 e6 => eb_behind (ev_var rfl) (ev_is (ev_var rfl) rfl) (d3.mono ((e4.trans e5).trans e6)) ok (by omega)) fun v H6 b6 d6 hv => ?_
      have e6 : Ex H1 H6 := (b3.trans ((but_of (e4.trans e5)).trans b6)).ex nrw e2
      exact mk_raw rfl fun y dx H7 e7 ny hy => fin _ _ H6 e6 (fun H5 e => ⟨rfl, IsTup.mono _ _ e hv⟩) y dx H7 e7 ny hy

/-! ### a Leaps in the heap; h is an object that stands outside -/
def fLs (a p w : Addr) (e : V) : List (Str × V) := [("loop", .ref a), ("amounts", .ref p), ("phases", .ref w), ("end", e)]
structure LeapsZ (A : Ad) (h x w a : Addr) (l : Loop) (n : Nat) (s : Values) (ps : List Vaacld.Phase) (e : V) (H : Hp) : Prop where
  sub : ∃ (H0 : Hp) (zs : List V), H0 h = none ∧ H0 w = none ∧ H0 x = none ∧ Ex H0 H ∧ LoopAt A H0 a n l ∧ Paired (fun v ph => PhV A v ph H0) zs ps ∧ H w = some (.lst zs)
  obj : ∃ dx p, H x = some (.ins A.cLeaps dx (fLs a p w e)) ∧ TupAt H p s
  xh : x ≠ h
  wh : w ≠ h
  old : ∃ C dx fs, H h = some (.ins C dx fs)
  few : ps.length ≤ 8
  phs : ∀ ph ∈ ps, PhOk l ph
def But2 (x w : Addr) (H H' : Hp) : Prop := ∀ b o, b ≠ x → b ≠ w → H b = some o → H' b = some o
theorem But2.refl (x w : Addr) (H : Hp) : But2 x w H H := fun _ _ _ _ h => h
theorem But2.trans {x w : Addr} {H H1 H2 : Hp} (a : But2 x w H H1) (b : But2 x w H1 H2) : But2 x w H H2 := fun c o n m h => b c o n m (a c o n m h)
theorem but2_of {x w : Addr} {H H1 : Hp} (e : Ex H H1) : But2 x w H H1 := fun c o _ _ h => e c o h
section
variable {A : Ad} {h x w a : Addr} {l : Loop} {n : Nat} {s s' : Values} {ps : List Vaacld.Phase} {e e' : V} {H H' : Hp}
theorem LeapsZ.mono (z : LeapsZ A h x w a l n s ps e H) (k : Ex H H') : LeapsZ A h x w a l n s ps e H' := by
  obtain ⟨⟨H0, zs, n1, n2, n3, e0, h1, h2, h3⟩, ⟨dx, p, h4, h5⟩, h6, h7, ⟨C, dh, fs, h8⟩, h9, h10⟩ := z
  exact ⟨⟨H0, zs, n1, n2, n3, e0.trans k, h1, h2, k _ _ h3⟩, ⟨dx, p, k _ _ h4, k _ _ h5⟩, h6, h7, ⟨C, dh, fs, k _ _ h8⟩, h9, h10⟩
theorem LeapsZ.loop (z : LeapsZ A h x w a l n s ps e H) : LoopAt A H a n l := by
  obtain ⟨H0, zs, n1, n2, n3, e0, h1, h2, h3⟩ := z.sub
  exact h1.mono e0
theorem LeapsZ.list (z : LeapsZ A h x w a l n s ps e H) : ∃ zs, H w = some (.lst zs) ∧ Paired (fun v ph => PhV A v ph H) zs ps := by
  obtain ⟨H0, zs, n1, n2, n3, e0, h1, h2, h3⟩ := z.sub
  exact ⟨zs, h3, Paired.imp2 h2 fun v d y => PhV.mono _ _ e0 y⟩
/-- the end, other values -/
theorem LeapsZ.put {C dh : Addr} {fs : List (Str × V)} {dx p p' : Addr} {o : List (Str × V)} (z : LeapsZ A h x w a l n s ps e H) (hx : H x = some (.ins A.cLeaps dx o)) (hp : TupAt H p' s') : LeapsZ A h x w a l n s' ps e' (upd H x (.ins A.cLeaps dx (fLs a p' w e'))) := by
  obtain ⟨⟨H0, zs, n1, n2, n3, e0, h1, h2, h3⟩, _, h6, h7, ⟨C, dh, fs, h8⟩, h9, h10⟩ := z
  exact ⟨⟨H0, zs, n1, n2, n3, e0.mut n3, h1, h2, by rw [upd_ne (ne_of h3 hx (by intro z; cases z))]; exact h3⟩, ⟨dx, p', upd_same, by show upd H x _ p' = _; rw [upd_ne (ne_of hp hx (by intro z; cases z))]; exact hp⟩, h6, h7, ⟨C, dh, fs, by rw [upd_ne h6.symm]; exact h8⟩, h9, h10⟩
/-- what's kept when the object outside is changed -/
theorem LeapsZ.keep (z : LeapsZ A h x w a l n s ps e H) (k : But h H H') (hh : ∃ C dx fs, H' h = some (.ins C dx fs)) : LeapsZ A h x w a l n s ps e H' := by
  obtain ⟨⟨H0, zs, n1, n2, n3, e0, h1, h2, h3⟩, ⟨dx, p, h4, h5⟩, h6, h7, ⟨C, dh, fs, h8⟩, h9, h10⟩ := z
  exact ⟨⟨H0, zs, n1, n2, n3, fun b o hb => k b o (ne_of_none hb n1) (e0 b o hb), h1, h2, k _ _ h7 h3⟩, ⟨dx, p, k _ _ h6 h4, k _ _ (ne_of h5 h8 (by intro z; cases z)) h5⟩, h6, h7, hh, h9, h10⟩
end
theorem putF_end {a p w : Addr} {e e' : V} : putF "end" e' (fLs a p w e) = fLs a p w e' := rfl
theorem putF_amounts {a p p' w : Addr} {e : V} : putF "amounts" (.ref p') (fLs a p w e) = fLs a p' w e := rfl
def sp_Leaps_go_on (A : Ad) : Sp := fun vs H Q _ => ∃ h x w a l n s ps, vs = [.ref x] ∧ LeapsZ A h x w a l n s ps .non H ∧ WfLoop n l ∧ s.length = n ∧ (ps = [] → Bnd (10 ^ 12) s) ∧ ∀ H' s' ps' e', But2 x w H H' → LeapsZ A h x w a l n s' ps' e' H' → s'.length = n → Go l n s ps s' ps' e' → Q .non H'
theorem sc_Leaps_go_on : FnScope ["self", "phase"] ["self"] (defScope s_Leaps_go_on) := ⟨rfl, rfl, rfl, by decide +kernel, rfl, by decide +kernel, by decide +kernel⟩
theorem b_Leaps_go_on {K : PySem.W.Frag} {f : Addr} {fd : FuncData} (F : Fun K "go_on" "Leaps.go_on" s_Leaps_go_on f fd) : Binds K fd ["self"] [] := F.binds fun _ _ _ _ _ _ us hl => match us, hl with | [_], _ => rfl
theorem ok_Leaps_go_on {P : Program} {w : World} {K : PySem.W.Frag} {mg : Str → Option Value} {base : Heap} {A : Ad} (T : Txt K mg A) : MtG P w K mg base CX0 10 A.cLeaps "go_on" ["self"] (sp_Leaps_go_on A) := by
  obtain ⟨f, fd, hc, hm, F⟩ := T.d_Leaps_go_on
  refine ⟨f, fd, hc, hm, F.ok sc_Leaps_go_on (fun vs H Q E h => ?_) (fun cdv A1 outer s H vs Q E hr h => ⟨_, (pss_one (ps_if (PW.pt (pw_and (pt_cmpR (op_neE hr.units) (pe_fld (pv 0) rfl) (pe_lst (by exact pa_nil)) (nomark _)) (pw_and1 (pt_val (pe_callG (ok_f_is_beyond T) (hr.mono (by decide)) pass0 rfl (by exact (pa_cons (pe_fld (pv 0) rfl) pa_nil))))))) (pss_one (ps_fld (pv 0) (pe_gi T.i_FAR rfl) rfl)) (pss_one (ps_if (pt_cmpR op_isN (pe_methG (ok_Loop_chosen T) (hr.mono (by decide)) pass0 (pe_fld (pv 0) rfl) (by exact (pa_cons (pe_fld (pv 0) rfl) pa_nil))) pe_non (nomark _)) (pss_one (ps_fld (pv 0) (pe_gi T.i_OVER rfl) rfl)) (pss_one (ps_if (pt_cmpR op_eq (pe_callB call_len_seq (by rfl) T.n_len PySem.boot_len (by exact (pa_cons (pe_fld (pv 0) rfl) pa_nil))) (pe_gi T.i_MOST_PHASES rfl) (nomark _)) (pss_one (ps_fld (pv 0) (pe_gi T.i_MANY rfl) rfl)) (pss_cons (ps_set (i := 1) sc_Leaps_go_on.nd rfl (Or.inl rfl) (pe_callG (ok_f_leap_from T) (hr.mono (by decide)) pass0 rfl (by exact (pa_cons (pe_fld (pv 0) rfl) (pa_cons (pe_fld (pv 0) rfl) pa_nil)))))
      (pss_one (ps_if (pt_cmpR op_isN (pe_fld (pv 1) rfl) pe_non (nomark _)) (pss_one (ps_fld (pv 0) (pe_gi T.i_NEVER rfl) rfl)) (pss_cons (ps_expr (pe_bm PySem.F.plainAttrs_list PySem.F.slot_list_append PySem.F.type_list_append mt_append (pe_fld (pv 0) rfl) (by exact (pa_cons (pv 1) pa_nil))))
      (pss_one (ps_fld (pv 0) (pe_fld (pv 1) rfl) rfl)))))))))))), ?_⟩), b_Leaps_go_on F⟩
  · obtain ⟨h, x, w, a, l, n, s, ps, rfl, _⟩ := h
    rfl
  · obtain ⟨h, x, w, a, l, n, s, ps, rfl, Z, wf, hs, hb, k⟩ := h
    obtain ⟨dx, p, hx, hp⟩ := Z.obj
    obtain ⟨zs, hzs, hps⟩ := Z.list
    have lz := hps.length
    have n4 := wf.four
    have emp : zs.isEmpty = ps.isEmpty := by
      cases zs <;> cases ps <;> first | rfl | (cases lz)
    have neE : (!zs.isEmpty && VaaclBase.isBeyond s) = true ↔ (ps ≠ [] ∧ VaaclBase.isBeyond s = true) := by
      rw [emp, Bool.and_eq_true]
      cases ps with
      | nil => exact ⟨fun z => (by cases z.1), fun z => absurd rfl z.1⟩
      | cons b r => exact ⟨fun z => ⟨fun y => (by cases y), z.2⟩, fun z => ⟨rfl, z.2⟩⟩
    have setE : ∀ (e' : V) H1, Ex H H1 → Go l n s ps s ps e' → ∀ H2, Ex H1 H2 → Q .non (upd H2 x (.ins A.cLeaps dx (putF "end" e' (fLs a p w .non)))) := fun e' H1 e1 g H2 e2 => by
      refine k _ s ps e' (fun b o nx nw hbo => ?_) ((Z.mono (e1.trans e2)).put (C := x) (dh := x) (fs := []) (p := p) ((e1.trans e2) _ _ hx) ((e1.trans e2) _ _ hp)) hs g
      rw [upd_ne nx]
      exact (e1.trans e2) _ _ hbo
    refine s_if (b := !zs.isEmpty && VaaclBase.isBeyond s) (et_and (et_v (ev_neE (ev_fld (ev_var rfl) hx T.cls_Leaps T.na_Leaps_phases rfl) (SqL.of hzs) (el_lst ea_nil (Nat.zero_le _)))) (fun _ => et_b (ev_is_beyond (ev_fld (ev_var rfl) hx T.cls_Leaps T.na_Leaps_amounts rfl) hp (by omega)))) (fun hc H1 e1 => ?_) (fun hc H1 e1 => ?_)
    · have hc := neE.mp hc
      exact s_fld (v := .int 2) ev_c (ev_var rfl) (e1 _ _ hx) T.cls_Leaps T.na_Leaps_end (by show 4 < 1000; decide) fun H2 e2 => setE _ _ e1 (Or.inl ⟨hc.1, hc.2, rfl, rfl, rfl⟩) H2 e2
    · have hc : ¬ (ps ≠ [] ∧ VaaclBase.isBeyond s = true) := fun z => by rw [neE.mpr z] at hc; cases hc
      refine s_if (b := (chosen l s).isNone) (et_v (ev_is (ev_isN (ev_Loop_chosen (ev_fld (ev_var rfl) (e1 _ _ hx) T.cls_Leaps T.na_Leaps_loop rfl) (ev_fld (ev_var rfl) (e1 _ _ hx) T.cls_Leaps T.na_Leaps_amounts rfl) (Z.loop.mono e1) (e1 _ _ hp) wf hs)) (by rw [vO_isN]))) (fun hn H2 e2 => ?_) (fun hn H2 e2 => ?_)
      · have hn : chosen l s = none := Option.isNone_iff_eq_none.mp hn
        exact s_fld (v := .int 0) ev_c (ev_var rfl) ((e1.trans e2) _ _ hx) T.cls_Leaps T.na_Leaps_end (by show 4 < 1000; decide) fun H3 e3 => setE _ _ (e1.trans e2) (Or.inr (Or.inl ⟨hc, hn, rfl, rfl, rfl⟩)) H3 e3
      · have hn : chosen l s ≠ none := fun z => by rw [z] at hn; cases hn
        have e12 := e1.trans e2
        refine s_if (b := decide (((zs.length : Nat) : Int) = 8)) (et_v (ev_eq (ev_len (ev_fld (ev_var rfl) (e12 _ _ hx) T.cls_Leaps T.na_Leaps_phases rfl) (Or.inl (SqL.of (e12 _ _ hzs)))) ev_c)) (fun h8 H3 e3 => ?_) (fun h8 H3 e3 => ?_)
        · have h8 := of_decide_eq_true h8
          exact s_fld (v := .int 3) ev_c (ev_var rfl) ((e12.trans e3) _ _ hx) T.cls_Leaps T.na_Leaps_end (by show 4 < 1000; decide) fun H4 e4 => setE _ _ (e12.trans e3) (Or.inr (Or.inr (Or.inl ⟨hc, hn, by omega, rfl, rfl, rfl⟩))) H4 e4
        · have h8 : ps.length ≠ 8 := by have := of_decide_eq_false h8; omega
          have e13 := e12.trans e3
          have bd : Bnd (10 ^ 12) s := by
            by_cases c : ps = []
            · exact hb c
            · refine beyond_bnd ?_
              cases z : VaaclBase.isBeyond s with
              | false => rfl
              | true => exact absurd ⟨c, z⟩ hc
          have okk := ok_at wf hs bd
          have le := fun q => times_le okk.wf okk.ok okk.len okk.three okk.bnd (q := q)
          refine q_asgC ?_
          refine cons_ev (ev_fld (ev_var rfl) (e13 _ _ hx) T.cls_Leaps T.na_Leaps_loop rfl) fun H4 e4 => ?_
          refine cons_ev (ev_fld (ev_var rfl) ((e13.trans e4) _ _ hx) T.cls_Leaps T.na_Leaps_amounts rfl) fun H5 e5 => ?_
          have e15 := (e13.trans e4).trans e5
          refine ⟨l, s, a, p, n, rfl, Z.loop.mono e15, e15 _ _ hp, wf, hs, bd, fun v H6 o m e6 n6 om => ?_⟩
          have e16 := e15.trans e6
          obtain ⟨y, dy, q, rfl, hy, hq⟩ := n6.weak PhN.mono
          unfold OM at om
          cases ht : timesOf l ((patternAt l s).getD []) s with
          | none =>
            rw [ht] at om
            obtain ⟨rfl, rfl⟩ := om
            refine s_if (b := true) (et_v (ev_is (ev_isN (ev_fld (ev_var rfl) hy T.cls_Phase T.na_Phase_often rfl)) rfl)) (fun _ H7 e7 => ?_) (fun h => by cases h)
            exact s_fld (v := .int 1) ev_c (ev_var rfl) ((e16.trans e7) _ _ hx) T.cls_Leaps T.na_Leaps_end (by show 4 < 1000; decide) fun H8 e8 => setE _ _ (e16.trans e7) (Or.inr (Or.inr (Or.inr (Or.inl ⟨hc, hn, h8, ht, rfl, rfl, rfl⟩)))) H8 e8
          | some t =>
            rw [ht] at om
            obtain ⟨rfl, pm, rfl, hm⟩ := om
            have tle := le t ht
            unfold howMost at tle
            refine s_if (b := false) (et_v (ev_is (ev_isN (ev_fld (ev_var rfl) hy T.cls_Phase T.na_Phase_often rfl)) rfl)) (fun h => by cases h) (fun _ H7 e7 => ?_)
            have e17 := e16.trans e7
            have Z7 := Z.mono e17
            have n7 := n6.later e7
            refine q_app (xs := zs) (e17 _ _ hzs) (ev_fld (ev_var rfl) (e17 _ _ hx) T.cls_Leaps T.na_Leaps_phases rfl) (ev_var rfl) (by have := Z.few; omega) fun H8 e8 => ?_
            have e18 := e17.trans e8
            have nxw : x ≠ w := ne_of hx hzs (by intro z; cases z)
            have hx8 : upd H8 w (.lst (zs ++ [.ref y])) x = some (.ins A.cLeaps dx (fLs a p w .non)) := by
              rw [upd_ne nxw]
              exact e18 _ _ hx
            have nyw : y ≠ w := ne_of (e7 _ _ hy) (e17 _ _ hzs) (by intro z; cases z)
            have hy8 : upd H8 w (.lst (zs ++ [.ref y])) y = some (.ins A.cPhase dy (fP q (.int ((t : Nat) : Int)) (.ref pm))) := by
              rw [upd_ne nyw]
              exact (e7.trans e8) _ _ hy
            refine s_fld (v := .ref pm) (ev_fld (ev_var rfl) hy8 T.cls_Phase T.na_Phase_amounts rfl) (ev_var rfl) hx8 T.cls_Leaps T.na_Leaps_amounts (by show 4 < 1000; decide) fun H9 e9 => ?_
            refine k _ (LL.after l n ((patternAt l s).getD []) t s) (ps ++ [⟨(patternAt l s).getD [], t⟩]) .non (fun b o nx nw hbo => ?_) ?_ (after_len okk.wf okk.ok okk.len t) (Or.inr (Or.inr (Or.inr (Or.inr ⟨hc, hn, h8, t, ht, rfl, rfl, rfl⟩))))
            · rw [upd_ne nx]
              refine e9 _ _ ?_
              rw [upd_ne nw]
              exact e18 _ _ hbo
            · rw [putF_amounts]
              have Z8 := Z.mono e18
              obtain ⟨⟨H0, zs', n1, n2, n3, e0, h1, h2, h3⟩, _, h6, h7, ⟨Ch, dh, fs, h88⟩, h9, h10⟩ := Z8
              rw [e18 _ _ hzs] at h3
              have h3 : zs = zs' := by injection h3 with h3; injection h3
              subst h3
              have n8 := n7.later e8
              obtain ⟨N, fN, eN, pN⟩ := n8
              have hN : ∀ b o, H b = some o → N b = none := fun b o hbo => fN b o (e15 _ _ hbo)
              obtain ⟨Ch0, dh0, fs0, hh0⟩ := Z.old
              have eU : Ex (uni H0 N) H8 := uni_ex e0 eN
              have nn : ∀ b, H0 b = none → N b = none → uni H0 N b = none := fun b z1 z2 => by
                unfold uni
                rw [z1]
                exact z2
              have uh := nn h n1 (hN _ _ hh0)
              have uw := nn w n2 (hN _ _ hzs)
              have ux := nn x n3 (hN _ _ hx)
              have hpm : TupAt H8 pm (LL.after l n ((patternAt l s).getD []) t s) := (e7.trans e8) _ _ hm
              have npw : pm ≠ w := ne_of hpm (e18 _ _ hzs) (by intro z; cases z)
              have npx : pm ≠ x := ne_of hpm (e18 _ _ hx) (by intro z; cases z)
              refine ⟨⟨uni H0 N, zs ++ [.ref y], uh, uw, ux, ((eU.mut uw).trans e9).mut ux, h1.mono (uni_l H0 N), paired_app (Paired.imp2 h2 fun v d z => PhV.mono _ _ (uni_l H0 N) z) (.cons ⟨.ref pm, PhN.mono _ _ (uni_r e0 eN) pN⟩ .nil), ?_⟩, ⟨dx, pm, upd_same, ?_⟩, h6, h7, ⟨Ch, dh, fs, ?_⟩, ?_, fun ph hph => ?_⟩
              · rw [upd_ne nxw.symm]
                exact e9 _ _ upd_same
              · show upd H9 x _ pm = _
                rw [upd_ne npx]
                refine e9 _ _ ?_
                rw [upd_ne npw]
                exact hpm
              · rw [upd_ne h6.symm]
                refine e9 _ _ ?_
                rw [upd_ne h7.symm]
                exact h88
              · rw [List.length_append, List.length_singleton]
                have := Z.few
                omega
              · rcases List.mem_append.mp hph with z | z
                · exact h10 ph z
                · rw [List.mem_singleton.mp z]
                  exact ⟨okk.three, by show t ≤ 10 ^ 15; omega, okk.ok⟩

def sp_Leaps_init (A : Ad) : Sp := fun vs H Q _ => ∃ h x dx a p l n s, vs = [.ref x, .ref a, .ref p] ∧ H x = some (.ins A.cLeaps dx []) ∧ x ≠ h ∧ (∃ C dh fs, H h = some (.ins C dh fs)) ∧ (∃ H0, H0 h = none ∧ H0 x = none ∧ Ex H0 H ∧ LoopAt A H0 a n l) ∧ TupAt H p s ∧ WfLoop n l ∧ s.length = n ∧ Bnd (10 ^ 12) s ∧ ∀ H' w, (∀ b o, b ≠ x → H b = some o → H' b = some o) → LeapsZ A h x w a l n (leaps l s).values (leaps l s).phases (.int (howNumber (leaps l s).how)) H' → (leaps l s).values.length = n → Q .non H'
theorem sc_Leaps_init : FnScope ["self", "loop", "amounts"] ["self", "loop", "amounts"] (defScope s_Leaps_init) := ⟨rfl, rfl, rfl, by decide +kernel, rfl, by decide +kernel, by decide +kernel⟩
theorem b_Leaps_init {K : PySem.W.Frag} {f : Addr} {fd : FuncData} (F : Fun K "__init__" "Leaps.__init__" s_Leaps_init f fd) : Binds K fd ["self", "loop", "amounts"] [] := F.binds fun _ _ _ _ _ _ us hl => match us, hl with | [_, _, _], _ => rfl
theorem ok_Leaps_init {P : Program} {w : World} {K : PySem.W.Frag} {mg : Str → Option Value} {base : Heap} {A : Ad} (T : Txt K mg A) : MkG P w K mg base CX0 11 A.cLeaps "Leaps" ["self", "loop", "amounts"] (sp_Leaps_init A) := by
  obtain ⟨f, fd, hm, M, F⟩ := T.d_Leaps_init
  refine ⟨f, fd, hm, M, F.ok sc_Leaps_init (fun vs H Q E h => ?_) (fun cdv A1 outer s H vs Q E hr h => ⟨_, (pss_cons (ps_fld (pv 0) (pv 1) rfl)
      (pss_cons (ps_fld (pv 0) (pv 2) rfl)
      (pss_cons (ps_fld (pv 0) (pe_lst (by exact pa_nil)) rfl)
      (pss_cons (ps_fld (pv 0) pe_non rfl)
      (pss_one (ps_while PassesOwn.never (pt_cmpR op_isN (pe_fld (pv 0) rfl) pe_non (nomark _)) (pss_one (ps_expr (pe_methG0 (ok_Leaps_go_on T) (hr.mono (by decide)) pass0 (pv 0)))))))))), ?_⟩), b_Leaps_init F⟩
  · obtain ⟨h, x, dx, a, p, l, n, s, rfl, _⟩ := h
    rfl
  · obtain ⟨h, x, dx, a, p, l, n, s, rfl, hx, xh, ⟨Ch, dh, fh, hh⟩, ⟨H0, n1, n2, e0, hL⟩, hp, wf, hs, hb, k⟩ := h
    refine q_fld (v := .ref a) (ev_var rfl) (ev_var rfl) hx T.cls_Leaps T.na_Leaps_loop (by show 0 < 1000; decide) fun H1 e1 => ?_
    refine q_fld (v := .ref p) (ev_var rfl) (ev_var rfl) upd_same T.cls_Leaps T.na_Leaps_amounts (by show 1 < 1000; decide) fun H2 e2 => ?_
    refine ⟨(by show 0 ≤ sizeLine; decide), fun w nw => ?_⟩
    generalize hH3 : upd H2 x (.ins A.cLeaps dx (putF "amounts" (.ref p) (putF "loop" (.ref a) []))) = H3 at *
    have hx3 : H3 x = some (.ins A.cLeaps dx (putF "amounts" (.ref p) (putF "loop" (.ref a) []))) := by rw [← hH3]; exact upd_same
    have keep3 : ∀ b o, b ≠ x → H b = some o → H3 b = some o := fun b o nb hb => by
      rw [← hH3, upd_ne nb]
      refine e2 _ _ ?_
      rw [upd_ne nb]
      exact e1 _ _ hb
    have nwx : w ≠ x := fun z => by subst z; rw [hx3] at nw; cases nw
    have nw0 : H w = none := by
      cases z : H w with
      | none => rfl
      | some o => rw [keep3 w o nwx z] at nw; cases nw
    refine ⟨_, rfl, x, A.cLeaps, dx, _, rfl, (by rw [upd_ne nwx.symm]; exact hx3), T.cls_Leaps, T.na_Leaps_phases, (by show 2 < 1000; decide), ?_⟩
    refine q_fld (v := .non) ev_c (ev_var rfl) upd_same T.cls_Leaps T.na_Leaps_end (by show 3 < 1000; decide) fun H4 e4 => ?_
    have start : LeapsZ A h x w a l n s [] .non (upd H4 x (.ins A.cLeaps dx (fLs a p w .non))) := by
      refine ⟨⟨H0, [], n1, ?_, n2, fun b o hb => ?_, hL, .nil, ?_⟩, ⟨dx, p, upd_same, ?_⟩, xh, ne_of_none hh nw0 |>.symm, ⟨Ch, dh, fh, ?_⟩, Nat.zero_le _, fun ph hph => (by cases hph)⟩
      · cases z : H0 w with
        | none => rfl
        | some o => rw [e0 _ _ z] at nw0; cases nw0
      · have nb : b ≠ x := ne_of_none hb n2
        have nbw : b ≠ w := ne_of_none (e0 _ _ hb) nw0
        rw [upd_ne nb]
        refine e4 _ _ ?_
        rw [upd_ne nb, upd_ne nbw]
        exact keep3 b o nb (e0 _ _ hb)
      · rw [upd_ne nwx]
        refine e4 _ _ ?_
        rw [upd_ne nwx]
        exact upd_same
      · have nb : p ≠ x := ne_of hp hx (by intro z; cases z)
        have nbw : p ≠ w := ne_of_none hp nw0
        show upd H4 x _ p = _
        rw [upd_ne nb]
        refine e4 _ _ ?_
        rw [upd_ne nb, upd_ne nbw]
        exact keep3 p _ nb hp
      · have nbw : h ≠ w := ne_of_none hh nw0
        rw [upd_ne xh.symm]
        refine e4 _ _ ?_
        rw [upd_ne xh.symm, upd_ne nbw]
        exact keep3 h _ xh.symm hh
    have keep5 : ∀ b o, b ≠ x → H b = some o → upd H4 x (.ins A.cLeaps dx (fLs a p w .non)) b = some o := fun b o nb hb => by
      rw [upd_ne nb]
      refine e4 _ _ ?_
      rw [upd_ne nb, upd_ne (ne_of_none hb nw0)]
      exact keep3 b o nb hb
    refine s_while (fun m σ' H' => σ' = [some (.ref x), some (.ref a), some (.ref p)] ∧ (∀ b o, b ≠ x → H b = some o → H' b = some o) ∧ ∃ s' ps' e', LeapsZ A h x w a l n s' ps' e' H' ∧ s'.length = n ∧ ((e' = .non ∧ m = 10 - ps'.length ∧ Pend l s' ps' = leaps l s ∧ (ps' = [] → Bnd (10 ^ 12) s')) ∨ (e' ≠ .non ∧ m = 0 ∧ e' = .int (howNumber (leaps l s).how) ∧ s' = (leaps l s).values ∧ ps' = (leaps l s).phases))) 10 ⟨rfl, keep5, s, [], .non, start, hs, Or.inl ⟨rfl, rfl, if_neg fun z => z.1 rfl, fun _ => hb⟩⟩ ?_
    rintro m σ' H' ⟨rfl, kp, s', ps', e', Z, hs', alt⟩
    obtain ⟨dx', p', hx', hp'⟩ := Z.obj
    rcases alt with ⟨rfl, hm, hpend, hbd⟩ | ⟨hne, hm, he, hsv, hpv⟩
    · refine ⟨true, et_v (ev_is (ev_isN (ev_fld (ev_var rfl) hx' T.cls_Leaps T.na_Leaps_end rfl)) rfl), fun _ H5 e5 => ?_, fun h => by cases h⟩
      refine ⟨fun σ2 H2 => ∃ m', m' < m ∧ (σ2 = [some (.ref x), some (.ref a), some (.ref p)] ∧ (∀ b o, b ≠ x → H b = some o → H2 b = some o) ∧ ∃ s' ps' e', LeapsZ A h x w a l n s' ps' e' H2 ∧ s'.length = n ∧ ((e' = .non ∧ m' = 10 - ps'.length ∧ Pend l s' ps' = leaps l s ∧ (ps' = [] → Bnd (10 ^ 12) s')) ∨ (e' ≠ .non ∧ m' = 0 ∧ e' = .int (howNumber (leaps l s).how) ∧ s' = (leaps l s).values ∧ ps' = (leaps l s).phases))), fun σ2 H2 z => z, ?_⟩
      have few := Z.few
      refine ⟨_, rfl, x, dx', _, rfl, e5 _ _ hx', rfl, h, x, w, a, l, n, s', ps', rfl, Z.mono e5, wf, hs', hbd, fun H6 s6 ps6 e6 b6 Z6 hs6 g => ?_⟩
      have gp := go_pend wf hs' hbd Z.few g
      have kp6 : ∀ b o, b ≠ x → H b = some o → H6 b = some o := fun b o nb hb => b6 b o nb (ne_of_none hb nw0) (e5 _ _ (kp b o nb hb))
      by_cases c : e6 = .non
      · obtain ⟨g1, g2, g3⟩ := gp.1 c
        refine ⟨10 - ps6.length, by omega, rfl, kp6, s6, ps6, e6, Z6, hs6, Or.inl ⟨c, rfl, by rw [g1, hpend], fun z => ?_⟩⟩
        subst z
        cases g2
      · obtain ⟨g1, g2, g3⟩ := gp.2 c
        rw [hpend] at g1 g2 g3
        exact ⟨0, by omega, rfl, kp6, s6, ps6, e6, Z6, hs6, Or.inr ⟨c, rfl, g1, g2, g3⟩⟩
    · refine ⟨false, et_v (ev_is (ev_isN (ev_fld (ev_var rfl) hx' T.cls_Leaps T.na_Leaps_end rfl)) (by rw [decide_eq_false hne])), fun h => (by cases h), fun _ H5 e5 => ?_⟩
      subst he hsv hpv
      exact k H5 w (fun b o nb hb => e5 _ _ (kp b o nb hb)) (Z.mono e5) hs'

theorem sum_rounds (ps : List Vaacld.Phase) : (ps.map fun ph => ((roundsOf ph : Nat) : Int)).sum = ((allRounds ps : Nat) : Int) := by
  have key : ∀ (l : List Nat) (c : Nat), ((l.foldl (fun a b => a + b) c : Nat) : Int) = (c : Int) + (l.map fun x => ((x : Nat) : Int)).sum := by
    intro l
    induction l with
    | nil => intro c; simp
    | cons x r ih => intro c; rw [List.foldl_cons, ih, List.map_cons, List.sum_cons]; omega
  unfold allRounds
  rw [key, List.map_map]
  simp [Function.comp_def]
def sp_Leaps_rounds (A : Ad) : Sp := fun vs H Q _ => ∃ h x w a l n s ps e, vs = [.ref x] ∧ LeapsZ A h x w a l n s ps e H ∧ ∀ H', Ex H H' → Q (.int ((allRounds ps : Nat) : Int)) H'
theorem sc_Leaps_rounds : FnScope ["self", "phase"] ["self"] (defScope s_Leaps_rounds) := ⟨rfl, rfl, rfl, by decide +kernel, rfl, by decide +kernel, by decide +kernel⟩
theorem b_Leaps_rounds {K : PySem.W.Frag} {f : Addr} {fd : FuncData} (F : Fun K "rounds" "Leaps.rounds" s_Leaps_rounds f fd) : Binds K fd ["self"] [] := F.binds fun _ _ _ _ _ _ us hl => match us, hl with | [_], _ => rfl
theorem ok_Leaps_rounds {P : Program} {w : World} {K : PySem.W.Frag} {mg : Str → Option Value} {base : Heap} {A : Ad} (T : Txt K mg A) : MtG P w K mg base CX0 2 A.cLeaps "rounds" ["self"] (sp_Leaps_rounds A) := by
  obtain ⟨f, fd, hc, hm, F⟩ := T.d_Leaps_rounds
  refine ⟨f, fd, hc, hm, F.ok sc_Leaps_rounds (fun vs H Q E h => ?_) (fun cdv A1 outer s H vs Q E hr h => ⟨_, (pss_one (ps_ret (pe_callB (cr_sum rfl) (by rfl) T.n_sum (by decide +kernel) (by exact (pa_cons (pe_lc (own := [("phase", 1)]) (g := gName 1) (tt := tYes) rfl sc_Leaps_rounds.nd (pi_list (pe_fld (pv 0) rfl)) (blkOk_by (own := [("phase", 1)]) (N := ["self", "phase"]) (sc := defScope s_Leaps_rounds) (by decide +kernel)) (fun _ _ _ _ _ => (pg_name (i := 1) sc_Leaps_rounds.nd rfl (Or.inl rfl))) (fun _ _ _ _ _ => pts_nil) (fun _ _ _ _ _ => (pe_methG0 (ok_Phase_rounds T) (hr.mono (by decide)) pass0 (pv 1)))) pa_nil))))), ?_⟩), b_Leaps_rounds F⟩
  · obtain ⟨h, x, w, a, l, n, s, ps, e, rfl, _⟩ := h
    rfl
  · obtain ⟨h, x, w, a, l, n, s, ps, e, rfl, Z, k⟩ := h
    obtain ⟨dx, p, hx, hp⟩ := Z.obj
    obtain ⟨zs, hzs, hps⟩ := Z.list
    have lz := hps.length
    have few := Z.few
    rw [← sum_rounds] at k
    refine s_ret (ev_sumL ?_) fun H1 e1 => k H1 e1
    rw [List.map_map]
    refine el_lcV (F := fun v ph => PhV A v ph H) (V.int ∘ fun ph => ((roundsOf ph : Nat) : Int)) (ev_fld (ev_var rfl) hx T.cls_Leaps T.na_Leaps_phases rfl) (SqL.of hzs) hps (by omega) (fun _ => rfl) fun v ph hm hv => ?_
    exact ev_Phase_rounds (ev_var rfl) hv (Z.phs ph hm)
section
variable {K : PySem.W.Frag} {A : Ad} {σ : L2.St} {H : Hp} {to : TE} {E : XK} {h x w a : Addr} {l : Loop} {n : Nat} {s : Values} {ps : List Vaacld.Phase} {e : V}
theorem ev_Leaps_rounds (ho : Ev to σ H (.ref x)) (Z : LeapsZ A h x w a l n s ps e H) : Ev (tMeth A.cLeaps "rounds" (sp_Leaps_rounds A) [] E to tNil) σ H (.int ((allRounds ps : Nat) : Int)) := fun H1 e1 Q k =>
  ho H1 e1 _ fun H2 e2 => by
    obtain ⟨dx, p, hx, hp⟩ := Z.obj
    exact ⟨x, dx, _, rfl, (e1.trans e2) _ _ hx, rfl, h, x, w, a, l, n, s, ps, e, rfl, Z.mono (e1.trans e2), fun H' e3 => k H' (e2.trans e3)⟩
end
def cells (m : Nat) (f : Nat → Nat) : List Int := (List.range m).map fun b => ((f b : Nat) : Int)
theorem cells_len (m : Nat) (f : Nat → Nat) : ((cells m f).map V.int).length = m := by unfold cells; rw [List.length_map, List.length_map, List.length_range]
theorem cells_at {m k : Nat} (f : Nat → Nat) (h : k < m) : ((cells m f).map V.int)[k]? = some (.int ((f k : Nat) : Int)) := by
  unfold cells
  rw [List.map_map, List.getElem?_map, List.getElem?_range h]
  rfl
theorem cells_set {m k : Nat} (f : Nat → Nat) (t : Nat) (h : k < m) : ((cells m f).map V.int).set k (.int (((f k : Nat) : Int) + ((t : Nat) : Int))) = (cells m fun b => f b + (if b = k then t else 0)).map V.int := by
  refine List.ext_getElem? fun i => ?_
  rw [List.getElem?_set]
  by_cases c : k = i
  · subst c
    rw [if_pos rfl, if_pos (by rw [cells_len]; exact h), cells_at _ h, if_pos rfl]
    rfl
  · rw [if_neg c]
    by_cases d : i < m
    · rw [cells_at _ d, cells_at _ d, if_neg (Ne.symm c)]
      rfl
    · rw [List.getElem?_eq_none (by rw [cells_len]; omega), List.getElem?_eq_none (by rw [cells_len]; omega)]
def cnt (p : List Nat) (b : Nat) : Nat := (p.filter fun x => x == b).length
theorem cnt_snoc (p : List Nat) (k b : Nat) : cnt (p ++ [k]) b = cnt p b + (if b = k then 1 else 0) := by
  unfold cnt
  rw [List.filter_append, List.length_append]
  congr 1
  by_cases c : b = k
  · subst c; simp
  · rw [if_neg c]
    have : (k == b) = false := beq_eq_false_iff_ne.mpr (Ne.symm c)
    simp [this]
theorem done_snoc (ps : List Vaacld.Phase) (ph : Vaacld.Phase) (b : Nat) : doneIn (ps ++ [ph]) b = doneIn ps b + cnt ph.pattern b * ph.times := by
  unfold doneIn cnt
  rw [List.map_append, List.foldl_append]
  rfl
def sp_Leaps_done (A : Ad) : Sp := fun vs H Q _ => ∃ h x w a l n s ps e, vs = [.ref x] ∧ LeapsZ A h x w a l n s ps e H ∧ WfLoop n l ∧ ∀ v H', Ex H H' → IsInts ((List.range l.length).map fun b => Vaacld.int (doneIn ps b)) v H' → Q v H'
theorem sc_Leaps_done : FnScope ["self", "found", "phase", "number", "branch"] ["self"] (defScope s_Leaps_done) := ⟨rfl, rfl, rfl, by decide +kernel, rfl, by decide +kernel, by decide +kernel⟩
theorem b_Leaps_done {K : PySem.W.Frag} {f : Addr} {fd : FuncData} (F : Fun K "done" "Leaps.done" s_Leaps_done f fd) : Binds K fd ["self"] [] := F.binds fun _ _ _ _ _ _ us hl => match us, hl with | [_], _ => rfl
theorem ok_Leaps_done {P : Program} {w : World} {K : PySem.W.Frag} {mg : Str → Option Value} {base : Heap} {A : Ad} (T : Txt K mg A) : MtG P w K mg base CX0 1 A.cLeaps "done" ["self"] (sp_Leaps_done A) := by
  obtain ⟨f, fd, hc, hm, F⟩ := T.d_Leaps_done
  refine ⟨f, fd, hc, hm, F.ok sc_Leaps_done (fun vs H Q E h => ?_) (fun cdv A1 outer s H vs Q E hr h => ⟨_, (pss_cons (ps_setLc (i := 1) (own := [("branch", 4)]) (g := gName 4) (tt := tYes) rfl sc_Leaps_done.nd rfl rfl (sw_true rfl rfl rfl (by decide +kernel)) (pi_list (pe_fld (pe_fld (pv 0) rfl) rfl)) (blkOk_by (own := [("branch", 4)]) (N := ["self", "found", "phase", "number", "branch"]) (sc := defScope s_Leaps_done) (by decide +kernel)) (fun _ _ _ _ _ => (pg_name (i := 4) sc_Leaps_done.nd rfl (Or.inl rfl))) (fun _ _ _ _ _ => pts_nil) (fun _ _ _ _ _ => pe_int))
      (pss_cons (ps_for PassesOwn.never rfl (pi_list (pe_fld (pv 0) rfl)) (pg_name (i := 2) sc_Leaps_done.nd rfl (Or.inl rfl))
        (pss_one (ps_for PassesOwn.never rfl (pi_list (pe_fld (pv 2) rfl)) (pg_name (i := 3) sc_Leaps_done.nd rfl (Or.inl rfl))
        (pss_one (ps_asg (pe_op op_add (pe_ix ix_list (pv 1) (pv 3) (fun _ _ => rfl)) (pe_fld (pv 2) rfl)) (pg_sub (pv 1) (pv 3) set_list))))))
      (pss_one (ps_ret (pv 1))))), ?_⟩), b_Leaps_done F⟩
  · obtain ⟨h, x, w, a, l, n, s, ps, e, rfl, _⟩ := h
    rfl
  · obtain ⟨h, x, w, a, l, n, s, ps, e, rfl, Z, wf, k⟩ := h
    have k : ∀ v H', Ex H H' → IsInts (cells l.length (doneIn ps)) v H' → Q v H' := k
    obtain ⟨dx, p, hx, hp⟩ := Z.obj
    obtain ⟨zs, hzs, hps⟩ := Z.list
    have lz := hps.length
    have few := Z.few
    have w3 := wf.three
    obtain ⟨dl, pb, bs, hl1, hl2, hl3⟩ := Z.loop
    have hl4 := hl3.length
    refine q_asgL (xs := (cells l.length (doneIn [])).map V.int) ?_ fun pf H1 npf e1 hf => ?_
    · have : (cells l.length (doneIn [])).map V.int = l.map fun _ => V.int 0 := by
        refine List.ext_getElem? fun i => ?_
        by_cases c : i < l.length
        · rw [cells_at _ c, List.getElem?_map, List.getElem?_eq_getElem c]
          rfl
        · rw [List.getElem?_eq_none (by rw [cells_len]; omega), List.getElem?_eq_none (by rw [List.length_map]; omega)]
      rw [this]
      exact el_lcV (F := BranchV A H) (fun _ => V.int 0) (ev_fld (ev_fld (ev_var rfl) hx T.cls_Leaps T.na_Leaps_loop rfl) hl1 T.cls_Loop T.na_Loop_branches rfl) (SqL.of hl2) hl3 (by omega) (fun _ => rfl) fun _ _ _ _ => ev_c
    · refine q_forL (ev_fld (ev_var rfl) (e1 _ _ hx) T.cls_Leaps T.na_Leaps_phases rfl) (SqL.of (e1 _ _ hzs)) (fun i σ' H' => ∃ y2 y3, σ' = [some (.ref x), some (.ref pf), y2, y3, none] ∧ Ex H H' ∧ H' pf = some (.lst ((cells l.length (doneIn (ps.take i))).map V.int))) (fun H2 e2 => ⟨none, none, rfl, e1.trans e2, e2 _ _ hf⟩) (fun i σ' H' _ ⟨_, _, _, e, _⟩ => SqL.of (e _ _ hzs)) (fun i v σ' H' hi ⟨y2, y3, hσ, e, hpf⟩ => ?_) (fun σ' H' ⟨y2, y3, hσ, e, hpf⟩ => ?_)
      · subst hσ
        obtain ⟨ph, hph, m, ap, dp, q, rfl, hp1, hp2⟩ := paired_get hps hi
        have pok := Z.phs ph (List.mem_of_getElem? hph)
        have lq : ((nats ph.pattern).map V.int).length = ph.pattern.length := by rw [List.length_map, nats_len]
        refine s_forL (xs := (nats ph.pattern).map V.int) (ev_fld (ev_var rfl) (e _ _ hp1) T.cls_Phase T.na_Phase_pattern rfl) (SqL.of (e _ _ hp2)) (fun j σ' H' => ∃ y3, σ' = [some (.ref x), some (.ref pf), some (.ref ap), y3, none] ∧ Ex H H' ∧ H' pf = some (.lst ((cells l.length (fun b => doneIn (ps.take i) b + cnt (ph.pattern.take j) b * ph.times)).map V.int))) (fun H2 e2 => ⟨y3, rfl, e.trans e2, ?_⟩) (fun j σ' H' _ ⟨_, _, e, _⟩ => SqL.of (e _ _ hp2)) (fun j v σ' H' hj ⟨z3, hσ, e3, hpf3⟩ => ?_) (fun σ' H' ⟨z3, hσ, e3, hpf3⟩ => ?_)
        · have : (fun b => doneIn (ps.take i) b + cnt (ph.pattern.take 0) b * ph.times) = doneIn (ps.take i) := by
            funext b
            rw [List.take_zero]
            show _ + 0 * _ = _
            omega
          rw [this]
          exact e2 _ _ hpf
        · subst hσ
          rw [List.getElem?_map] at hj
          unfold nats at hj
          rw [List.getElem?_map] at hj
          obtain ⟨b, hb, rfl⟩ : ∃ b, ph.pattern[j]? = some b ∧ v = .int ((b : Nat) : Int) := by
            cases hb : ph.pattern[j]? with
            | none => rw [hb] at hj; cases hj
            | some b => rw [hb] at hj; exact ⟨b, rfl, (Option.some.inj hj).symm⟩
          have hbl : b < l.length := pok.ok b (List.mem_of_getElem? hb)
          refine s_setL (j := b) hpf3 (ev_i0 (ev_ixL (ev_var rfl) (ev_var rfl) (SqL.of hpf3) (atI_nat (cells_at _ hbl))) (ev_fld (ev_var rfl) (e3 _ _ hp1) T.cls_Phase T.na_Phase_often rfl)) (ev_var rfl) (ev_var rfl) (by rw [cells_len]; exact hbl) fun H4 e4 => ⟨_, rfl, (e3.trans e4).mut npf, ?_⟩
          rw [upd_same]
          have := cells_set (fun b => doneIn (ps.take i) b + cnt (ph.pattern.take j) b * ph.times) ph.times hbl
          rw [this]
          congr 4
          funext b'
          rw [take_snoc hb, cnt_snoc, Nat.add_mul]
          split
          · omega
          · omega
        · subst hσ
          refine ⟨_, _, rfl, e3, ?_⟩
          rw [lq, List.take_length] at hpf3
          rw [hpf3, take_snoc hph]
          congr 4
          funext b
          rw [done_snoc]
      · subst hσ
        rw [lz, List.take_length] at hpf
        exact s_ret (ev_var rfl) fun H2 e2 => k _ _ (e.trans e2) ⟨pf, rfl, e2 _ _ hpf⟩
section
variable {K : PySem.W.Frag} {A : Ad} {σ : L2.St} {H : Hp} {to : TE} {E : XK} {h x w a : Addr} {l : Loop} {n : Nat} {s : Values} {ps : List Vaacld.Phase} {e : V}
theorem ep_Leaps_done (ho : Ev to σ H (.ref x)) (Z : LeapsZ A h x w a l n s ps e H) (wf : WfLoop n l) : EvP (tMeth A.cLeaps "done" (sp_Leaps_done A) [] E to tNil) σ H (IsInts ((List.range l.length).map fun b => Vaacld.int (doneIn ps b))) := fun H1 e1 Q k =>
  ho H1 e1 _ fun H2 e2 => by
    obtain ⟨dx, p, hx, hp⟩ := Z.obj
    exact ⟨x, dx, _, rfl, (e1.trans e2) _ _ hx, rfl, h, x, w, a, l, n, s, ps, e, rfl, Z.mono (e1.trans e2), wf, fun v H' e3 hv => k v H' (e2.trans e3) hv⟩
end

end LW

set_option maxRecDepth 100000
set_option maxHeartbeats 4000000

/-! Part W8 -/
namespace LW
open PySem PySem.Spec PyProof.Rows L2 LL
open Evl (Ex Ev EvT EvL EvU EvA EvO fresh_back ex_l ex_t ev_var ev_c s_ret s_retL s_retU q_asg q_asgL q_asgU s_asg s_asgL q_when s_when s_if q_if et_and et_or et_not ea_nil ea_cons el_lst eu_tup ev_if eo_none eo_some el_sl sq_of st_of sz_of s_app s_appL q_app q_appL s_drop q_drop s_forL q_forL q_forLn s_forLn q_while s_while q_forR1 q_forR2 q_forNL q_forNLn q_setL s_setL q_cut)
open VaaclBase (Values Move Test Branch Loop valueAt given moved holds allHold chosen branchAt okTest)


open VaaclBase (readInt readNat readPair readTimes readListed readGiven readMove readTest readGuard readBranch readLoop whole LIMIT)
/-! ### plain: the readers, step by step -/
theorem rd_some {lo hi : Int} {row : List Int} {i : Nat} (h : i < row.length) (h1 : lo ≤ row[i] ∧ row[i] ≤ hi) : readInt lo hi (row.drop i) = some (row[i], row.drop (i + 1)) := by
  rw [List.drop_eq_getElem_cons h]
  exact if_pos h1
theorem rd_none {lo hi : Int} {row : List Int} {i : Nat} (h : i < row.length) (h1 : ¬ (lo ≤ row[i] ∧ row[i] ≤ hi)) : readInt lo hi (row.drop i) = none := by
  rw [List.drop_eq_getElem_cons h]
  exact if_neg h1
theorem rd_end {lo hi : Int} {row : List Int} {i : Nat} (h : row.length ≤ i) : readInt lo hi (row.drop i) = none := by
  rw [List.drop_eq_nil_of_le h]
  rfl
theorem rd_in {lo hi z : Int} {x r : List Int} (h : readInt lo hi x = some (z, r)) : lo ≤ z ∧ z ≤ hi := by
  cases x with
  | nil => cases h
  | cons a t =>
    by_cases c : lo ≤ a ∧ a ≤ hi
    · have e : readInt lo hi (a :: t) = some (a, t) := if_pos c
      rw [e] at h
      injection h with h
      injection h with h1 h2
      rw [← h1]
      exact c
    · have e : readInt lo hi (a :: t) = none := if_neg c
      rw [e] at h
      cases h
theorem rdn_is (lo hi : Nat) (x : List Int) : readNat lo hi x = (readInt lo hi x).bind fun u => some (u.1.toNat, u.2) := by
  unfold readNat
  cases h : readInt (VaaclBase.int lo) (VaaclBase.int hi) x with
  | none =>
    have : readInt (lo : Int) (hi : Int) x = none := h
    rw [this]; rfl
  | some u =>
    have : readInt (lo : Int) (hi : Int) x = some u := h
    rw [this]; rfl
theorem rdn_in {lo hi z : Nat} {x r : List Int} (h : readNat lo hi x = some (z, r)) : lo ≤ z ∧ z ≤ hi := by
  rw [rdn_is] at h
  cases e : readInt (lo : Int) (hi : Int) x with
  | none => rw [e] at h; cases h
  | some u =>
    rw [e] at h
    obtain ⟨a, b⟩ := u
    have h : some (a.toNat, b) = some (z, r) := h
    injection h with h
    injection h with h1 h2
    have := rd_in e
    omega
def testRest (n : Nat) (k : Int) (c : Nat) (r : List Int) : Option (Test × List Int) :=
  if k = 0 then (readInt (-999999) 999999 r).bind fun u => some (.atMost c u.1, u.2)
  else if k = 1 then (readInt (-999999) 999999 r).bind fun u => some (.atLeast c u.1, u.2)
  else if k = 2 then (readNat 0 (n - 1) r).bind fun v => (readInt (-999999) 999999 v.2).bind fun u => some (.below c v.1 u.1, u.2)
  else (readInt 2 6 r).bind fun m => if m.1 = 2 ∨ m.1 = 3 ∨ m.1 = 4 ∨ m.1 = 6 then (readInt 0 (m.1 - 1) m.2).bind fun u => some (.rem c m.1.toNat u.1.toNat, u.2) else none
theorem readTest_is {n : Nat} (hn : 1 ≤ n) (x : List Int) : readTest n x = (readInt 0 3 x).bind fun u => (readNat 0 (n - 1) u.2).bind fun v => testRest n u.1 v.1 v.2 := by
  have eL : LIMIT = 999999 := rfl
  cases x with
  | nil => rfl
  | cons k r =>
    by_cases hk : 0 ≤ k ∧ k ≤ 3
    · have e : readInt 0 3 (k :: r) = some (k, r) := if_pos hk
      rw [e]
      show _ = (readNat 0 (n - 1) r).bind fun v => testRest n k v.1 v.2
      have hk4 : k = 0 ∨ k = 1 ∨ k = 2 ∨ k = 3 := by omega
      rcases hk4 with rfl | rfl | rfl | rfl
      · show ((readPair (readNat 0 (n - 1)) (readInt (-LIMIT) LIMIT) r).map fun u => (Test.atMost u.1.1 u.1.2, u.2)).bind _ = _
        unfold readPair
        cases h1 : readNat 0 (n - 1) r with
        | none => rfl
        | some c =>
          obtain ⟨c, r2⟩ := c
          show _ = (readInt (-999999) 999999 r2).bind fun u => some (Test.atMost c u.1, u.2)
          rw [← eL]
          cases h2 : readInt (-LIMIT) LIMIT r2 with
          | none => show Option.bind (Option.map _ (Option.map _ (readInt (-LIMIT) LIMIT r2))) _ = _; rw [h2]; rfl
          | some z =>
            obtain ⟨z, r3⟩ := z
            show Option.bind (Option.map _ (Option.map _ (readInt (-LIMIT) LIMIT r2))) _ = _
            rw [h2]
            have g1 := rdn_in h1
            have g2 := rd_in h2
            exact if_pos (by show (decide (c < n) && (decide (-LIMIT ≤ z) && decide (z ≤ LIMIT))) = true; rw [decide_eq_true (by omega), decide_eq_true g2.1, decide_eq_true g2.2]; rfl)
      · show ((readPair (readNat 0 (n - 1)) (readInt (-LIMIT) LIMIT) r).map fun u => (Test.atLeast u.1.1 u.1.2, u.2)).bind _ = _
        unfold readPair
        cases h1 : readNat 0 (n - 1) r with
        | none => rfl
        | some c =>
          obtain ⟨c, r2⟩ := c
          show _ = (readInt (-999999) 999999 r2).bind fun u => some (Test.atLeast c u.1, u.2)
          rw [← eL]
          cases h2 : readInt (-LIMIT) LIMIT r2 with
          | none => show Option.bind (Option.map _ (Option.map _ (readInt (-LIMIT) LIMIT r2))) _ = _; rw [h2]; rfl
          | some z =>
            obtain ⟨z, r3⟩ := z
            show Option.bind (Option.map _ (Option.map _ (readInt (-LIMIT) LIMIT r2))) _ = _
            rw [h2]
            have g1 := rdn_in h1
            have g2 := rd_in h2
            exact if_pos (by show (decide (c < n) && (decide (-LIMIT ≤ z) && decide (z ≤ LIMIT))) = true; rw [decide_eq_true (by omega), decide_eq_true g2.1, decide_eq_true g2.2]; rfl)
      · show ((readPair (readNat 0 (n - 1)) (readPair (readNat 0 (n - 1)) (readInt (-LIMIT) LIMIT)) r).map fun u => (Test.below u.1.1 u.1.2.1 u.1.2.2, u.2)).bind _ = _
        unfold readPair
        cases h1 : readNat 0 (n - 1) r with
        | none => rfl
        | some c =>
          obtain ⟨c, r2⟩ := c
          show Option.bind (Option.map _ (Option.map _ ((readNat 0 (n - 1) r2).bind _))) _ = (readNat 0 (n - 1) r2).bind fun v => (readInt (-999999) 999999 v.2).bind fun u => some (Test.below c v.1 u.1, u.2)
          cases h3 : readNat 0 (n - 1) r2 with
          | none => rfl
          | some d =>
            obtain ⟨d, r3⟩ := d
            show Option.bind (Option.map _ (Option.map _ (Option.map _ (readInt (-LIMIT) LIMIT r3)))) _ = (readInt (-999999) 999999 r3).bind fun u => some (Test.below c d u.1, u.2)
            rw [← eL]
            cases h2 : readInt (-LIMIT) LIMIT r3 with
            | none => rfl
            | some z =>
              obtain ⟨z, r4⟩ := z
              have g1 := rdn_in h1
              have g3 := rdn_in h3
              have g2 := rd_in h2
              exact if_pos (by show (decide (c < n) && (decide (d < n) && (decide (-LIMIT ≤ z) && decide (z ≤ LIMIT)))) = true; rw [decide_eq_true (by omega), decide_eq_true (by omega), decide_eq_true g2.1, decide_eq_true g2.2]; rfl)
      · show ((readPair (readNat 0 (n - 1)) (readPair (readNat 2 6) (readNat 0 5)) r).map fun u => (Test.rem u.1.1 u.1.2.1 u.1.2.2, u.2)).bind _ = _
        unfold readPair
        cases h1 : readNat 0 (n - 1) r with
        | none => rfl
        | some c =>
          obtain ⟨c, r2⟩ := c
          have g1 := rdn_in h1
          show Option.bind (Option.map _ (Option.map _ ((readNat 2 6 r2).bind _))) _ = (readInt 2 6 r2).bind fun m => if m.1 = 2 ∨ m.1 = 3 ∨ m.1 = 4 ∨ m.1 = 6 then (readInt 0 (m.1 - 1) m.2).bind fun u => some (Test.rem c m.1.toNat u.1.toNat, u.2) else none
          have em : readNat 2 6 r2 = (readInt 2 6 r2).bind fun u => some (u.1.toNat, u.2) := rdn_is 2 6 r2
          rw [em]
          cases h3 : readInt 2 6 r2 with
          | none => rfl
          | some m =>
            obtain ⟨m, r3⟩ := m
            have g3 := rd_in h3
            show Option.bind (Option.map _ (Option.map _ (Option.map _ (readNat 0 5 r3)))) _ = if m = 2 ∨ m = 3 ∨ m = 4 ∨ m = 6 then (readInt 0 (m - 1) r3).bind fun u => some (Test.rem c m.toNat u.1.toNat, u.2) else none
            have ez : readNat 0 5 r3 = (readInt 0 5 r3).bind fun u => some (u.1.toNat, u.2) := rdn_is 0 5 r3
            rw [ez]
            have okm : VaaclBase.MODULI.contains m.toNat = true ↔ (m = 2 ∨ m = 3 ∨ m = 4 ∨ m = 6) := by
              have : m = 2 ∨ m = 3 ∨ m = 4 ∨ m = 5 ∨ m = 6 := by omega
              rcases this with rfl | rfl | rfl | rfl | rfl <;> decide
            cases r3 with
            | nil =>
              show (none : Option (Test × List Int)) = if m = 2 ∨ m = 3 ∨ m = 4 ∨ m = 6 then none else none
              split <;> rfl
            | cons z r4 =>
              by_cases hz : 0 ≤ z ∧ z ≤ 5
              · have e5 : readInt 0 5 (z :: r4) = some (z, r4) := if_pos hz
                rw [e5]
                show (if VaaclBase.okTest n (Test.rem c m.toNat z.toNat) = true then some (Test.rem c m.toNat z.toNat, r4) else none) = _
                have eo : VaaclBase.okTest n (Test.rem c m.toNat z.toNat) = (VaaclBase.MODULI.contains m.toNat && decide (z.toNat < m.toNat)) := by
                  show (decide (c < n) && (VaaclBase.MODULI.contains m.toNat && decide (z.toNat < m.toNat))) = _
                  rw [decide_eq_true (by omega), Bool.true_and]
                rw [eo]
                by_cases hm : m = 2 ∨ m = 3 ∨ m = 4 ∨ m = 6
                · rw [if_pos hm, okm.mpr hm, Bool.true_and]
                  by_cases hl : z ≤ m - 1
                  · have e6 : readInt 0 (m - 1) (z :: r4) = some (z, r4) := if_pos ⟨hz.1, hl⟩
                    rw [e6, decide_eq_true (by omega)]
                    rfl
                  · have e6 : readInt 0 (m - 1) (z :: r4) = none := if_neg fun y => hl y.2
                    rw [e6, decide_eq_false (by omega)]
                    rfl
                · rw [if_neg hm]
                  have : VaaclBase.MODULI.contains m.toNat = false := by
                    cases y : VaaclBase.MODULI.contains m.toNat with
                    | false => rfl
                    | true => exact absurd (okm.mp y) hm
                  rw [this]
                  rfl
              · have e5 : readInt 0 5 (z :: r4) = none := if_neg hz
                rw [e5]
                show (none : Option (Test × List Int)) = _
                by_cases hm : m = 2 ∨ m = 3 ∨ m = 4 ∨ m = 6
                · have e6 : readInt 0 (m - 1) (z :: r4) = none := if_neg fun y => hz ⟨y.1, by omega⟩
                  rw [if_pos hm, e6]
                  rfl
                · rw [if_neg hm]
    · have e : readInt 0 3 (k :: r) = none := if_neg hk
      rw [e]
      show readTest n (k :: r) = none
      unfold readTest
      split
      · rename_i h; injection h with h _; omega
      · rename_i h; injection h with h _; omega
      · rename_i h; injection h with h _; omega
      · rename_i h; injection h with h _; omega
      · rfl
theorem readGiven_is {n : Nat} (x : List Int) : readGiven n x = (readInt 0 1 x).bind fun u => if u.1 = 0 then (readInt (-99) 99 u.2).bind fun z => some (⟨none, z.1⟩, z.2) else (readNat 0 (n - 1) u.2).bind fun c => (readInt (-99) 99 c.2).bind fun z => some (⟨some c.1, z.1⟩, z.2) := by
  cases x with
  | nil => rfl
  | cons k r =>
    by_cases hk : 0 ≤ k ∧ k ≤ 1
    · have e : readInt 0 1 (k :: r) = some (k, r) := if_pos hk
      rw [e]
      have hk2 : k = 0 ∨ k = 1 := by omega
      rcases hk2 with rfl | rfl
      · show (readInt (-99) 99 r).map (fun u => ((⟨none, u.1⟩ : VaaclBase.Given), u.2)) = (readInt (-99) 99 r).bind fun z => some (⟨none, z.1⟩, z.2)
        cases readInt (-99) 99 r <;> rfl
      · show (readPair (readNat 0 (n - 1)) (readInt (-99) 99) r).map (fun u => ((⟨some u.1.1, u.1.2⟩ : VaaclBase.Given), u.2)) = (readNat 0 (n - 1) r).bind fun c => (readInt (-99) 99 c.2).bind fun z => some (⟨some c.1, z.1⟩, z.2)
        unfold readPair
        cases readNat 0 (n - 1) r with
        | none => rfl
        | some c =>
          show ((readInt (-99) 99 c.2).map _).map _ = (readInt (-99) 99 c.2).bind fun z => some ((⟨some c.1, z.1⟩ : VaaclBase.Given), z.2)
          cases readInt (-99) 99 c.2 <;> rfl
    · have e : readInt 0 1 (k :: r) = none := if_neg hk
      rw [e]
      show readGiven n (k :: r) = none
      unfold readGiven
      split
      · rename_i h; injection h with h _; omega
      · rename_i h; injection h with h _; omega
      · rfl
theorem readTimes_bind {α β : Type} (a : VaaclBase.Reader α) (k : Nat) (x : List Int) (F : List α × List Int → Option β) : (readTimes a (k + 1) x).bind F = (a x).bind fun u => (readTimes a k u.2).bind fun v => F (u.1 :: v.1, v.2) := by
  show ((a x).bind fun u => (readTimes a k u.2).map fun v => (u.1 :: v.1, v.2)).bind F = _
  cases a x with
  | none => rfl
  | some u =>
    show ((readTimes a k u.2).map fun v => (u.1 :: v.1, v.2)).bind F = (readTimes a k u.2).bind fun v => F (u.1 :: v.1, v.2)
    cases readTimes a k u.2 <;> rfl
theorem readBranch_is {n : Nat} (x : List Int) : readBranch n x = (readNat 0 3 x).bind fun m => (readTimes (readTest n) m.1 m.2).bind fun g => (readTimes (readGiven n) n g.2).bind fun mv => some (⟨g.1, mv.1⟩, mv.2) := by
  unfold readBranch readPair readGuard readListed readMove
  show Option.map _ (((readNat 0 3 x).bind fun m => readTimes (readTest n) m.1 m.2).bind _) = _
  cases readNat 0 3 x with
  | none => rfl
  | some m =>
    show Option.map _ ((readTimes (readTest n) m.1 m.2).bind _) = (readTimes (readTest n) m.1 m.2).bind _
    cases readTimes (readTest n) m.1 m.2 with
    | none => rfl
    | some g =>
      show Option.map _ (Option.map _ (readTimes (readGiven n) n g.2)) = (readTimes (readGiven n) n g.2).bind _
      cases readTimes (readGiven n) n g.2 <;> rfl
theorem whole_bind {α : Type} (a : VaaclBase.Reader α) (x : List Int) : whole a x = (a x).bind fun u => if u.2 = [] then some u.1 else none := by
  unfold whole
  cases a x with
  | none => rfl
  | some u =>
    obtain ⟨u, r⟩ := u
    cases r <;> rfl
theorem whole_is {n : Nat} (x : List Int) : whole (readLoop n) x = ((readNat 1 3 x).bind fun m => (readTimes (readBranch n) m.1 m.2).bind fun u => if u.2 = [] then some u.1 else none) := by
  rw [whole_bind]
  show ((readNat 1 3 x).bind fun m => readTimes (readBranch n) m.1 m.2).bind _ = _
  cases readNat 1 3 x <;> rfl
theorem times_all {α : Type} {a : VaaclBase.Reader α} {P : α → Prop} (h : ∀ x u r, a x = some (u, r) → P u) : ∀ (k : Nat) (x : List Int) (us : List α) (r : List Int), readTimes a k x = some (us, r) → us.length = k ∧ ∀ u ∈ us, P u
  | 0, x, us, r, e => by
    have e : some (([] : List α), x) = some (us, r) := e
    injection e with e
    injection e with e1 e2
    subst e1
    exact ⟨rfl, fun u hu => (nomatch hu)⟩
  | k + 1, x, us, r, e => by
    have e : ((a x).bind fun u => (readTimes a k u.2).map fun v => (u.1 :: v.1, v.2)) = some (us, r) := e
    cases ha : a x with
    | none => rw [ha] at e; cases e
    | some u =>
      rw [ha] at e
      have e : (readTimes a k u.2).map (fun v => (u.1 :: v.1, v.2)) = some (us, r) := e
      cases hb : readTimes a k u.2 with
      | none => rw [hb] at e; cases e
      | some v =>
        rw [hb] at e
        obtain ⟨v, r'⟩ := v
        have e : some (u.1 :: v, r') = some (us, r) := e
        injection e with e
        injection e with e1 e2
        subst e1
        have ih := times_all h k u.2 v r' hb
        refine ⟨by rw [List.length_cons, ih.1], fun w hw => ?_⟩
        rcases List.mem_cons.mp hw with z | z
        · rw [z]; exact h x u.1 u.2 ha
        · exact ih.2 w z
theorem readTest_ok {n : Nat} (x : List Int) (t : Test) (r : List Int) (h : readTest n x = some (t, r)) : okTest n t = true := by
  have got : ∀ o : Option (Test × List Int), (o.bind fun u => if okTest n u.1 = true then some u else none) = some (t, r) → okTest n t = true := fun o ho => by
    cases o with
    | none => cases ho
    | some u =>
      by_cases c : okTest n u.1 = true
      · have e : (if okTest n u.1 = true then some u else none) = some (t, r) := ho
        rw [if_pos c] at e
        injection e with e
        rw [e] at c
        exact c
      · have e : (if okTest n u.1 = true then some u else none) = some (t, r) := ho
        rw [if_neg c] at e
        cases e
  unfold readTest at h
  split at h
  · exact got _ h
  · exact got _ h
  · exact got _ h
  · exact got _ h
  · cases h
theorem readGiven_ok {n : Nat} (hn : 1 ≤ n) (x : List Int) (g : VaaclBase.Given) (r : List Int) (h : readGiven n x = some (g, r)) : WfGiven n g := by
  rw [readGiven_is] at h
  cases h0 : readInt 0 1 x with
  | none => rw [h0] at h; cases h
  | some u =>
    rw [h0] at h
    have h : (if u.1 = 0 then (readInt (-99) 99 u.2).bind fun z => some ((⟨none, z.1⟩ : VaaclBase.Given), z.2) else (readNat 0 (n - 1) u.2).bind fun c => (readInt (-99) 99 c.2).bind fun z => some (⟨some c.1, z.1⟩, z.2)) = some (g, r) := h
    by_cases c : u.1 = 0
    · rw [if_pos c] at h
      cases h1 : readInt (-99) 99 u.2 with
      | none => rw [h1] at h; cases h
      | some z =>
        rw [h1] at h
        have h : some ((⟨none, z.1⟩ : VaaclBase.Given), z.2) = some (g, r) := h
        injection h with h
        injection h with h2 h3
        subst h2
        obtain ⟨z, zr⟩ := z
        have := rd_in h1
        exact ⟨fun i hi => (by cases hi), this.1, this.2⟩
    · rw [if_neg c] at h
      cases h1 : readNat 0 (n - 1) u.2 with
      | none => rw [h1] at h; cases h
      | some d =>
        rw [h1] at h
        have h : ((readInt (-99) 99 d.2).bind fun z => some ((⟨some d.1, z.1⟩ : VaaclBase.Given), z.2)) = some (g, r) := h
        cases h2 : readInt (-99) 99 d.2 with
        | none => rw [h2] at h; cases h
        | some z =>
          rw [h2] at h
          have h : some ((⟨some d.1, z.1⟩ : VaaclBase.Given), z.2) = some (g, r) := h
          injection h with h
          injection h with h3 h4
          subst h3
          obtain ⟨d, dr⟩ := d
          obtain ⟨z, zr⟩ := z
          have g1 := rdn_in h1
          have g2 := rd_in h2
          refine ⟨fun i hi => ?_, g2.1, g2.2⟩
          injection hi with hi
          omega
theorem readBranch_ok {n : Nat} (hn : 1 ≤ n) (x : List Int) (b : Branch) (r : List Int) (h : readBranch n x = some (b, r)) : WfBranch n b := by
  rw [readBranch_is] at h
  cases h0 : readNat 0 3 x with
  | none => rw [h0] at h; cases h
  | some m =>
    rw [h0] at h
    have h : ((readTimes (readTest n) m.1 m.2).bind fun g => (readTimes (readGiven n) n g.2).bind fun mv => some ((⟨g.1, mv.1⟩ : Branch), mv.2)) = some (b, r) := h
    cases h1 : readTimes (readTest n) m.1 m.2 with
    | none => rw [h1] at h; cases h
    | some g =>
      rw [h1] at h
      have h : ((readTimes (readGiven n) n g.2).bind fun mv => some ((⟨g.1, mv.1⟩ : Branch), mv.2)) = some (b, r) := h
      cases h2 : readTimes (readGiven n) n g.2 with
      | none => rw [h2] at h; cases h
      | some mv =>
        rw [h2] at h
        have h : some ((⟨g.1, mv.1⟩ : Branch), mv.2) = some (b, r) := h
        injection h with h
        injection h with h3 h4
        subst h3
        obtain ⟨m, mr⟩ := m
        obtain ⟨g, gr⟩ := g
        obtain ⟨mv, mvr⟩ := mv
        have g0 := rdn_in h0
        have g1 := times_all (P := fun t => okTest n t = true) (fun x u r e => readTest_ok x u r e) _ _ _ _ h1
        have g2 := times_all (P := WfGiven n) (fun x u r e => readGiven_ok hn x u r e) _ _ _ _ h2
        exact ⟨g1.2, by show g.length ≤ 3; rw [g1.1]; exact g0.2, g2.1, g2.2⟩
theorem readLoop_ok {n : Nat} (hn : 1 ≤ n) (h4 : n ≤ 4) {x : List Int} {l : Loop} (h : whole (readLoop n) x = some l) : WfLoop n l := by
  rw [whole_is] at h
  cases h0 : readNat 1 3 x with
  | none => rw [h0] at h; cases h
  | some m =>
    rw [h0] at h
    have h : ((readTimes (readBranch n) m.1 m.2).bind fun u => if u.2 = [] then some u.1 else none) = some l := h
    cases h1 : readTimes (readBranch n) m.1 m.2 with
    | none => rw [h1] at h; cases h
    | some u =>
      rw [h1] at h
      have h : (if u.2 = [] then some u.1 else none) = some l := h
      by_cases c : u.2 = []
      · rw [if_pos c] at h
        injection h with h
        subst h
        obtain ⟨m, mr⟩ := m
        obtain ⟨u, ur⟩ := u
        have g0 := rdn_in h0
        have g1 := times_all (P := WfBranch n) (fun x u r e => readBranch_ok hn x u r e) _ _ _ _ h1
        exact ⟨hn, h4, by show 1 ≤ u.length; rw [g1.1]; exact g0.1, by show u.length ≤ 3; rw [g1.1]; exact g0.2, g1.2⟩
      · rw [if_neg c] at h; cases h
def sp_f_must_reading (A : Ad) : Sp := fun vs H Q E => ∃ b, vs = [.bl b] ∧ (b = true → ∀ H', Ex H H' → Q .non H') ∧ (b = false → ∀ H', Ex H H' → E (.ref A.cNotWhole) none H')
theorem sc_f_must_reading : FnScope ["truth"] ["truth"] (defScope s_f_must_reading) := ⟨rfl, rfl, rfl, by decide +kernel, rfl, by decide +kernel, by decide +kernel⟩
theorem b_f_must_reading {K : PySem.W.Frag} {f : Addr} {fd : FuncData} (F : Fun K "must" "must" s_f_must_reading f fd) : Binds K fd ["truth"] [] := F.binds fun _ _ _ _ _ _ us hl => match us, hl with | [_], _ => rfl
theorem ok_f_must_reading {P : Program} {w : World} {K : PySem.W.Frag} {mg : Str → Option Value} {base : Heap} {A : Ad} (T : Txt K mg A) : FnG P w K mg base (L2N.CX P w) 1 "must_reading" ["truth"] (sp_f_must_reading A) := by
  obtain ⟨f, fd, hm, F⟩ := T.d_f_must_reading
  refine ⟨f, fd, hm, F.kp, okN F sc_f_must_reading (fun vs H Q E h => ?_) (fun cdv A1 outer s H vs Q E hr h => ⟨_, (pss_one (ps_if (pt_not (pt_val (pv 0))) (pss_one (L2N.ps_raise rfl (L2N.takes_of rfl rfl rfl rfl) (L2N.pmk_own PySem.F.excBase_ValueError T.xNW T.gNW T.kNW (raises_own T.bNW T.tNW) rfl))) pss_nil)), ?_⟩), b_f_must_reading F⟩
  · obtain ⟨b, rfl, _⟩ := h
    rfl
  · obtain ⟨b, rfl, k1, k2⟩ := h
    refine s_when (b := !b) (et_not (et_b (ev_var rfl))) (fun hb H1 e1 => ?_) (fun hb H1 e1 => ?_)
    · exact k2 (by cases b <;> first | rfl | (cases hb)) H1 e1
    · exact k1 (by cases b <;> first | rfl | (cases hb)) H1 e1
section
variable {K : PySem.W.Frag} {A : Ad} {σ : L2.St} {H : Hp} {tb : TE} {E : XK} {b : Bool} {D : Ends} {tz : TS}
theorem q_mustR (h : Ev tb σ H (.bl b)) (k1 : b = true → ∀ H1, Ex H H1 → tz D σ H1) (k2 : b = false → ∀ H1, Ex H H1 → E (.ref A.cNotWhole) none H1) : tSeq (tDrop (tCall (sp_f_must_reading A) [] E (tCons tb tNil))) tz D σ H :=
  h H (Ex.refl H) _ fun H1 e1 => ⟨b, rfl, fun hb H2 e2 => k1 hb H2 (e1.trans e2), fun hb H2 e2 => k2 hb H2 (e1.trans e2)⟩
end
/-! ### a Numbers in the heap -/
def fN (n : Nat) (q : Addr) (i : Nat) : List (Str × V) := [("counters", .int ((n : Nat) : Int)), ("row", .ref q), ("read", .int ((i : Nat) : Int))]
structure NumZ (A : Ad) (x dx q : Addr) (n : Nat) (row : List Int) (i : Nat) (H : Hp) : Prop where
  obj : H x = some (.ins A.cNumbers dx (fN n q i))
  lst : IntsAt H q row
  le : i ≤ row.length
theorem NumZ.mono {A : Ad} {x dx q : Addr} {n : Nat} {row : List Int} {i : Nat} {H H' : Hp} (z : NumZ A x dx q n row i H) (e : Ex H H') : NumZ A x dx q n row i H' := ⟨e _ _ z.obj, e _ _ z.lst, z.le⟩
/-- what a reading answers: an error, or the thing, and what's left -/
def RdOut {α : Type} (A : Ad) (x dx q : Addr) (n : Nat) (row : List Int) (H : Hp) (o : Option (α × List Int)) (R : α → V → Hp → Prop) (Q : VK) (E : XK) : Prop :=
  (o = none → ∀ H', But x H H' → E (.ref A.cNotWhole) none H') ∧ (∀ u rest, o = some (u, rest) → ∀ v H' j, But x H H' → NumZ A x dx q n row j H' → row.drop j = rest → NewAt H H' (R u v) → Q v H')
def EvR {α : Type} (A : Ad) (x dx q : Addr) (n : Nat) (row : List Int) (te : TE) (σ : L2.St) (H : Hp) (o : Option (α × List Int)) (R : α → V → Hp → Prop) (E : XK) : Prop := ∀ Q, RdOut A x dx q n row H o R Q E → te σ H Q
def IsI (u : Int) (v : V) (_ : Hp) : Prop := v = .int u
def IsNt (u : Nat) (v : V) (_ : Hp) : Prop := v = .int ((u : Nat) : Int)
theorem newI {H H' : Hp} {P : Prop} (h : NewAt H H' (fun _ => P)) : P := by
  obtain ⟨_, _, _, p⟩ := h
  exact p
section
variable {α β : Type} {K : PySem.W.Frag} {A : Ad} {x dx q : Addr} {n : Nat} {row : List Int} {i : Nat} {σ : L2.St} {H Hc H1 : Hp} {te ta tl : TE} {tr : TA} {o : Option (α × List Int)} {R : α → V → Hp → Prop} {R' : β → V → Hp → Prop} {f : α × List Int → Option (β × List Int)} {Q : VK} {E : XK} {D : Ends} {tz tu : TS}
theorem RdOut.ex (k : RdOut A x dx q n row H o R Q E) (e : Ex H H1) : RdOut A x dx q n row H1 o R Q E :=
  ⟨fun h H' b => k.1 h H' ((but_of e).trans b), fun u rest h v H' j b z d nn => k.2 u rest h v H' j ((but_of e).trans b) z d (nn.earlier e)⟩
theorem evr_err (k : RdOut A x dx q n row H (o.bind f) R' Q E) (h : o = none) (b : But x H Hc) : E (.ref A.cNotWhole) none Hc := k.1 (by rw [h]; rfl) Hc b
theorem evr_ok {u : α × List Int} (k : RdOut A x dx q n row H (o.bind f) R' Q E) (h : o = some u) : RdOut A x dx q n row H (f u) R' Q E := by
  rw [h] at k
  exact k
theorem q_asgR {ii : Nat} (h : EvR A x dx q n row te σ Hc o R E) (b : But x H Hc) (k : RdOut A x dx q n row H (o.bind f) R' Q E) (c : ∀ u rest v H1 j, o = some (u, rest) → But x H H1 → But x Hc H1 → NumZ A x dx q n row j H1 → row.drop j = rest → NewAt Hc H1 (R u v) → RdOut A x dx q n row H (f (u, rest)) R' Q E → tz D (σ.set ii (some v)) H1) : tSeq (tAsg te (gName ii)) tz D σ Hc :=
  h _ ⟨fun ho H' b' => evr_err k ho (b.trans b'), fun u rest ho v H' j b' z d nn => c u rest v H' j ho (b.trans b') b' z d nn (evr_ok k ho)⟩
theorem cons_R {Qa : List V → Hp → Prop} (h : EvR A x dx q n row te σ Hc o R E) (b : But x H Hc) (k : RdOut A x dx q n row H (o.bind f) R' Q E) (c : ∀ u rest v H1 j, o = some (u, rest) → But x H H1 → But x Hc H1 → NumZ A x dx q n row j H1 → row.drop j = rest → NewAt Hc H1 (R u v) → RdOut A x dx q n row H (f (u, rest)) R' Q E → tr σ H1 fun vs H2 => Qa (v :: vs) H2) : tCons te tr σ Hc Qa :=
  h _ ⟨fun ho H' b' => evr_err k ho (b.trans b'), fun u rest ho v H' j b' z d nn => c u rest v H' j ho (b.trans b') b' z d nn (evr_ok k ho)⟩
theorem s_appR {p : Addr} {xs : List V} (hl : Hc p = some (.lst xs)) (px : p ≠ x) (ha : Ev ta σ Hc (.ref p)) (h : ∀ H1, Ex Hc H1 → EvR A x dx q n row te σ H1 o R E) (hz : xs.length < 100000) (b : But x H Hc) (k : RdOut A x dx q n row H (o.bind f) R' Q E) (c : ∀ u rest v H1 j, o = some (u, rest) → But x H H1 → But x Hc H1 → NumZ A x dx q n row j H1 → row.drop j = rest → NewAt Hc H1 (R u v) → RdOut A x dx q n row H (f (u, rest)) R' Q E → D.nx σ (upd H1 p (.lst (xs ++ [v])))) : tDrop (tBM K "list" rAppend ta (tCons te tNil)) D σ Hc := ha Hc (Ex.refl Hc) _ fun H1 e1 =>
  ⟨Or.inl ⟨rfl, xs, Evl.sq_of (e1 p _ hl)⟩, h H1 e1 _ ⟨fun ho H' b' => evr_err k ho (b.trans ((but_of e1).trans b')), fun u rest ho v H' j b' z d nn => ⟨p, xs, v, rfl, rfl, b' _ _ px (e1 _ _ hl), Evl.sz_lt hz, c u rest v H' j ho (b.trans ((but_of e1).trans b')) ((but_of e1).trans b') z d (nn.earlier e1) (evr_ok k ho)⟩⟩⟩
theorem s_retR (h : EvR A x dx q n row te σ Hc o R E) (b : But x H Hc) (dom : ∀ b' o', H b' = some o' → Hc b' ≠ none) (k : RdOut A x dx q n row H o R D.rt E) : tRet te D σ Hc :=
  h _ ⟨fun ho H' b' => k.1 ho H' (b.trans b'), fun u rest ho v H' j b' z d nn => k.2 u rest ho v H' j (b.trans b') z d (nn.back dom)⟩
/-- a for over range of a reading -/
theorem q_forRR {o : Option (Nat × List Int)} {f : Nat × List Int → Option (β × List Int)} {jj : Nat} (h : EvR A x dx q n row te σ Hc o IsNt E) (b : But x H Hc) (k : RdOut A x dx q n row H (o.bind f) R' Q E) (c : ∀ u rest H1 j, o = some (u, rest) → But x H H1 → But x Hc H1 → NumZ A x dx q n row j H1 → row.drop j = rest → RdOut A x dx q n row H (f (u, rest)) R' Q E →
      u ≤ 1000 ∧ ∃ Pv : Nat → L2.St → Hp → Prop, Pv 0 σ H1 ∧ (∀ i σ' H', i < u → Pv i σ' H' → tu { D with nx := Pv (i + 1), ct := Pv (i + 1), bk := tz D } (σ'.set jj (some (.int ((i : Nat) : Int)))) H') ∧ ∀ σ' H', Pv u σ' H' → tz D σ' H') : tSeq (tFor (iRng1 (tCons te tNil)) (gName jj) tu) tz D σ Hc :=
  h _ ⟨fun ho H' b' => evr_err k ho (b.trans b'), fun u rest ho v H' j b' z d nn => by
    have hv : v = .int ((u : Nat) : Int) := newI nn
    subst hv
    obtain ⟨hu, Pv, p0, ps, pd⟩ := c u rest H' j ho (b.trans b') b' z d (evr_ok k ho)
    refine ⟨_, rfl, by omega, by omega, ?_⟩
    refine for_it (D := { D with nx := tz D }) (walk_range (lo := 0) (n := u)) Pv p0 (fun _ _ _ _ _ => trivial) (fun i y σ' H1 H2 hi p hy => ?_) pd
    obtain ⟨rfl, rfl⟩ := hy
    show tu _ (σ'.set jj (some (.int ((0 : Int) + (i : Int))))) H2
    rw [Int.zero_add]
    exact ps i σ' H2 hi p⟩
theorem fresh_but {z : Addr} (b : But x H H1) (hx : H1 x ≠ none) (h : H1 z = none) : H z = none := by
  cases y : H z with
  | none => rfl
  | some o =>
    by_cases c : z = x
    · subst c; exact absurd h hx
    · rw [b z o c y] at h; cases h
end
theorem ev_chainI {σ : L2.St} {H : Hp} {ta tb tc : TE} {a b c : Int} (ha : Ev ta σ H (.int a)) (hb : Ev tb σ H (.int b)) (hc : Ev tc σ H (.int c)) : Ev (tChain (rI0 fun i j => .bl (decide (i ≤ j))) (rI0 fun i j => .bl (decide (i ≤ j))) ta tb tc) σ H (.bl (decide (a ≤ b) && decide (b ≤ c))) := fun H1 e Q k =>
  ha H1 e _ fun H2 e2 => hb H2 (e.trans e2) _ fun H3 e3 => ⟨a, b, rfl, rfl, decide (a ≤ b), rfl, by
    by_cases h : a ≤ b
    · rw [if_pos (decide_eq_true h)]
      refine hc H3 ((e.trans e2).trans e3) _ fun H4 e4 => ⟨b, c, rfl, rfl, ?_⟩
      have := k H4 ((e2.trans e3).trans e4)
      rw [decide_eq_true h, Bool.true_and] at this
      exact this
    · rw [if_neg (by rw [decide_eq_false h]; exact Bool.false_ne_true)]
      have := k H3 (e2.trans e3)
      rw [decide_eq_false h, Bool.false_and] at this
      exact this⟩
def sp_Numbers_init (A : Ad) : Sp := fun vs H Q _ => ∃ x dx c r, vs = [.ref x, c, r] ∧ H x = some (.ins A.cNumbers dx []) ∧ ∀ H', (∀ b o, b ≠ x → H b = some o → H' b = some o) → H' x = some (.ins A.cNumbers dx [("counters", c), ("row", r), ("read", .int 0)]) → Q .non H'
theorem sc_Numbers_init : FnScope ["self", "counters", "row"] ["self", "counters", "row"] (defScope s_Numbers_init) := ⟨rfl, rfl, rfl, by decide +kernel, rfl, by decide +kernel, by decide +kernel⟩
theorem b_Numbers_init {K : PySem.W.Frag} {f : Addr} {fd : FuncData} (F : Fun K "__init__" "Numbers.__init__" s_Numbers_init f fd) : Binds K fd ["self", "counters", "row"] [] := F.binds fun _ _ _ _ _ _ us hl => match us, hl with | [_, _, _], _ => rfl
theorem ok_Numbers_init {P : Program} {w : World} {K : PySem.W.Frag} {mg : Str → Option Value} {base : Heap} {A : Ad} (T : Txt K mg A) : MkG P w K mg base CX0 1 A.cNumbers "Numbers" ["self", "counters", "row"] (sp_Numbers_init A) := by
  obtain ⟨f, fd, hm, M, F⟩ := T.d_Numbers_init
  refine ⟨f, fd, hm, M, F.ok sc_Numbers_init (fun vs H Q E h => ?_) (fun cdv A1 outer s H vs Q E hr h => ⟨_, (pss_cons (ps_fld (pv 0) (pv 1) rfl)
      (pss_cons (ps_fld (pv 0) (pv 2) rfl)
      (pss_one (ps_fld (pv 0) pe_int rfl)))), ?_⟩), b_Numbers_init F⟩
  · obtain ⟨x, dx, c, r, rfl, _⟩ := h
    rfl
  · obtain ⟨x, dx, c, r, rfl, hx, k⟩ := h
    refine ⟨_, rfl, _, rfl, x, A.cNumbers, dx, [], rfl, hx, T.cls_Numbers, T.na_Numbers_counters, (by show 0 < 1000; decide), ?_⟩
    refine ⟨_, rfl, _, rfl, x, A.cNumbers, dx, _, rfl, upd_same, T.cls_Numbers, T.na_Numbers_row, (by show 1 < 1000; decide), ?_⟩
    refine ⟨_, rfl, x, A.cNumbers, dx, _, rfl, upd_same, T.cls_Numbers, T.na_Numbers_read, (by show 2 < 1000; decide), ?_⟩
    refine k _ (fun b o hb e => ?_) ?_
    · rw [upd_ne hb, upd_ne hb, upd_ne hb]
      exact e
    · exact upd_same
section
variable {K : PySem.W.Frag} {A : Ad} {σ : L2.St} {H : Hp} {tn tq : TE} {E : XK} {n : Nat} {q : Addr} {row : List Int}
theorem ep_Numbers (hn : Ev tn σ H (.int ((n : Nat) : Int))) (hq : Ev tq σ H (.ref q)) (h : IntsAt H q row) : EvP (tMake A.cNumbers (sp_Numbers_init A) [] E (tCons tn (tCons tq tNil))) σ H (fun v H' => ∃ x dx, v = .ref x ∧ H x = none ∧ NumZ A x dx q n row 0 H') := fun H1 e1 Q k =>
  (ea_cons hn (ea_cons hq ea_nil)) H1 e1 _ fun H2 e2 x dx nx nd ne => ⟨x, dx, _, _, rfl, upd_same, fun H' keep hx => ⟨rfl, by
    have e3 : Ex H2 H' := fun b o hb => keep b o (ne_of_none hb nx) (by rw [upd_ne (ne_of_none hb nx), upd_ne (ne_of_none hb nd)]; exact hb)
    exact k _ H' (e2.trans e3) ⟨x, dx, rfl, fresh_back (e1.trans e2) nx, hx, ((e1.trans e2).trans e3) _ _ h, Nat.zero_le _⟩⟩⟩
end
def sp_Numbers_is_over (A : Ad) : Sp := SpP (fun ((x, dx, q, n, row, i) : Addr × Addr × Addr × Nat × List Int × Nat) => [.ref x]) (fun (x, dx, q, n, row, i) H => NumZ A x dx q n row i H) (fun (x, dx, q, n, row, i) v _ => v = .bl (decide (i = row.length)))
theorem sc_Numbers_is_over : FnScope ["self"] ["self"] (defScope s_Numbers_is_over) := ⟨rfl, rfl, rfl, by decide +kernel, rfl, by decide +kernel, by decide +kernel⟩
theorem b_Numbers_is_over {K : PySem.W.Frag} {f : Addr} {fd : FuncData} (F : Fun K "is_over" "Numbers.is_over" s_Numbers_is_over f fd) : Binds K fd ["self"] [] := F.binds fun _ _ _ _ _ _ us hl => match us, hl with | [_], _ => rfl
theorem ok_Numbers_is_over {P : Program} {w : World} {K : PySem.W.Frag} {mg : Str → Option Value} {base : Heap} {A : Ad} (T : Txt K mg A) : MtG P w K mg base CX0 1 A.cNumbers "is_over" ["self"] (sp_Numbers_is_over A) := by
  obtain ⟨f, fd, hc, hm, F⟩ := T.d_Numbers_is_over
  refine ⟨f, fd, hc, hm, F.ok sc_Numbers_is_over (fun vs H Q E h => ?_) (fun cdv A1 outer s H vs Q E hr h => ⟨_, (pss_one (ps_ret (pe_cmpR op_eq (pe_fld (pv 0) rfl) (pe_callB call_len_seq (by rfl) T.n_len PySem.boot_len (by exact (pa_cons (pe_fld (pv 0) rfl) pa_nil))) (nomark _)))), ?_⟩), b_Numbers_is_over F⟩
  · obtain ⟨⟨x, dx, q, n, row, i⟩, rfl, _⟩ := h
    rfl
  · obtain ⟨⟨x, dx, q, n, row, i⟩, rfl, Z, k⟩ := h
    have Z : NumZ A x dx q n row i H := Z
    refine s_ret (v := .bl (decide (i = row.length))) (ev_is (ev_eq (i := (i : Int)) (j := ((row.map V.int).length : Nat)) (ev_fld (ev_var rfl) Z.obj T.cls_Numbers T.na_Numbers_read rfl) (ev_len (ev_fld (ev_var rfl) Z.obj T.cls_Numbers T.na_Numbers_row rfl) (Or.inl (SqL.of Z.lst)))) ?_) fun H1 e1 => k _ _ e1 rfl
    rw [List.length_map]
    congr 1
    exact decide_eq_decide.mpr (by omega)
section
variable {K : PySem.W.Frag} {A : Ad} {σ : L2.St} {H : Hp} {to : TE} {E : XK} {x dx q : Addr} {n i : Nat} {row : List Int}
theorem ev_is_over (ho : Ev to σ H (.ref x)) (Z : NumZ A x dx q n row i H) : Ev (tMeth A.cNumbers "is_over" (sp_Numbers_is_over A) [] E to tNil) σ H (.bl (decide (i = row.length))) :=
  EvP.toEv (ep_meth ho Z.obj rfl ea_nil (x, dx, q, n, row, i) rfl fun H1 e => Z.mono e)
end
def sp_Numbers_take (A : Ad) : Sp := fun vs H Q E => ∃ x dx q n row i lo hi, vs = [.ref x, .int lo, .int hi] ∧ NumZ A x dx q n row i H ∧ RdOut A x dx q n row H (readInt lo hi (row.drop i)) IsI Q E
theorem sc_Numbers_take : FnScope ["self", "least", "most"] ["self", "least", "most"] (defScope s_Numbers_take) := ⟨rfl, rfl, rfl, by decide +kernel, rfl, by decide +kernel, by decide +kernel⟩
theorem b_Numbers_take {K : PySem.W.Frag} {f : Addr} {fd : FuncData} (F : Fun K "take" "Numbers.take" s_Numbers_take f fd) : Binds K fd ["self", "least", "most"] [] := F.binds fun _ _ _ _ _ _ us hl => match us, hl with | [_, _, _], _ => rfl
theorem ok_Numbers_take {P : Program} {w : World} {K : PySem.W.Frag} {mg : Str → Option Value} {base : Heap} {A : Ad} (T : Txt K mg A) : MtG P w K mg base (L2N.CX P w) 2 A.cNumbers "take" ["self", "least", "most"] (sp_Numbers_take A) := by
  obtain ⟨f, fd, hc, hm, F⟩ := T.d_Numbers_take
  refine ⟨f, fd, hc, hm, okN F sc_Numbers_take (fun vs H Q E h => ?_) (fun cdv A1 outer s H vs Q E hr h => ⟨_, (pss_cons (ps_expr (pe_callG (ok_f_must_reading T) (hr.mono (by decide)) (L2N.passes_call (L2N.takes_of rfl rfl rfl rfl) (fun _ _ _ _ h => h)) rfl (by exact (pa_cons (pe_and (pe_not (pe_methG0 (ok_Numbers_is_over T) (hr.mono (by decide)) pass0 (pv 0))) (pe_one (pe_chain op_le op_le (pv 1) (pe_ix ix_list (pe_fld (pv 0) rfl) (pe_fld (pv 0) rfl) (fun _ _ => rfl)) (pv 2)))) pa_nil))))
      (pss_cons (ps_fld (pv 0) (pe_op op_add (pe_fld (pv 0) rfl) pe_int) rfl)
      (pss_one (ps_ret (pe_ix ix_list (pe_fld (pv 0) rfl) (pe_op op_sub (pe_fld (pv 0) rfl) pe_int) (fun _ _ => rfl)))))), ?_⟩), b_Numbers_take F⟩
  · obtain ⟨x, dx, q, n, row, i, lo, hi, rfl, _⟩ := h
    rfl
  · obtain ⟨x, dx, q, n, row, i, lo, hi, rfl, Z, k⟩ := h
    by_cases hl : i < row.length
    · have at_ : atI (row.map V.int) ((i : Nat) : Int) = some (.int row[i]) := atI_nat (by rw [List.getElem?_map, List.getElem?_eq_getElem hl]; rfl)
      refine q_mustR (b := !decide (i = row.length) && (decide (lo ≤ row[i]) && decide (row[i] ≤ hi))) (Evl.ev_andV (Evl.ev_notV (ev_is_over (ev_var rfl) Z)) fun _ => ev_chainI (ev_var rfl) (ev_ixL (ev_fld (ev_var rfl) Z.obj T.cls_Numbers T.na_Numbers_row rfl) (ev_fld (ev_var rfl) Z.obj T.cls_Numbers T.na_Numbers_read rfl) (SqL.of Z.lst) at_) (ev_var rfl)) (fun hb H1 e1 => ?_) (fun hb H1 e1 => ?_)
      · rw [Bool.and_eq_true, Bool.and_eq_true, decide_eq_true_iff, decide_eq_true_iff] at hb
        have r := rd_some hl hb.2
        have Z1 := Z.mono e1
        refine q_fld (v := .int ((i + 1 : Nat) : Int)) (ev_is (ev_i0 (ev_fld (ev_var rfl) Z1.obj T.cls_Numbers T.na_Numbers_read rfl) ev_c) rfl) (ev_var rfl) Z1.obj T.cls_Numbers T.na_Numbers_read (by show 3 < 1000; decide) fun H2 e2 => ?_
        have hq := Z1.lst
        have nqx : q ≠ x := ne_of hq Z1.obj (by intro z; cases z)
        have Z3 : NumZ A x dx q n row (i + 1) (upd H2 x (.ins A.cNumbers dx (putF "read" (.int ((i + 1 : Nat) : Int)) (fN n q i)))) := ⟨upd_same, by
          show upd H2 x _ q = _
          rw [upd_ne nqx]
          exact e2 _ _ hq, by omega⟩
        refine s_ret (v := .int row[i]) (ev_ixL (i := ((i : Nat) : Int)) (ev_fld (ev_var rfl) Z3.obj T.cls_Numbers T.na_Numbers_row rfl) (ev_is (ev_i0 (ev_fld (ev_var rfl) Z3.obj T.cls_Numbers T.na_Numbers_read rfl) ev_c) (by show V.int (((i + 1 : Nat) : Int) - 1) = V.int (i : Int); congr 1; omega)) (SqL.of Z3.lst) at_) fun H4 e4 => ?_
        refine k.2 row[i] (row.drop (i + 1)) r _ H4 (i + 1) ((but_of (e1.trans e2)).trans (But.mut (But.refl x H2))  |>.trans (but_of e4)) (Z3.mono e4) rfl (NewAt.triv fun _ => rfl)
      · refine k.1 (rd_none hl fun z => ?_) H1 (but_of e1)
        rw [decide_eq_true z.1, decide_eq_true z.2, decide_eq_false (by omega)] at hb
        cases hb
    · have he : i = row.length := by have := Z.le; omega
      refine q_mustR (b := !decide (i = row.length) && false) (Evl.ev_andV (Evl.ev_notV (ev_is_over (ev_var rfl) Z)) fun h => ?_) (fun hb H1 e1 => ?_) (fun hb H1 e1 => k.1 (rd_end (by omega)) H1 (but_of e1))
      · rw [decide_eq_true he] at h
        cases h
      · rw [decide_eq_true he] at hb
        cases hb
section
variable {K : PySem.W.Frag} {A : Ad} {σ : L2.St} {H : Hp} {to tlo thi : TE} {E : XK} {x dx q : Addr} {n i : Nat} {row : List Int} {lo hi : Int}
theorem er_take (ho : Ev to σ H (.ref x)) (hlo : Ev tlo σ H (.int lo)) (hhi : Ev thi σ H (.int hi)) (Z : NumZ A x dx q n row i H) : EvR A x dx q n row (tMeth A.cNumbers "take" (sp_Numbers_take A) [] E to (tCons tlo (tCons thi tNil))) σ H (readInt lo hi (row.drop i)) IsI E := fun Q k =>
  ho H (Ex.refl H) _ fun H1 e1 => ⟨x, dx, _, rfl, e1 _ _ Z.obj, rfl, (ea_cons hlo (ea_cons hhi ea_nil)) H1 e1 _ fun H2 e2 => ⟨x, dx, q, n, row, i, lo, hi, rfl, Z.mono (e1.trans e2), k.ex (e1.trans e2)⟩⟩
/-- the same number, as a natural one -/
theorem EvR.nat {te : TE} {lo hi : Nat} {x' : List Int} (h : EvR A x dx q n row te σ H (readInt ((lo : Nat) : Int) ((hi : Nat) : Int) x') IsI E) : EvR A x dx q n row te σ H (readNat lo hi x') IsNt E := fun Q k => by
  rw [rdn_is] at k
  refine h Q ⟨fun ho H' b => k.1 (by rw [ho]; rfl) H' b, fun u rest ho v H' j b z d nn => k.2 u.toNat rest (by rw [ho]; rfl) v H' j b z d (nn.imp fun H z => ?_)⟩
  have g := rd_in ho
  have z : v = .int u := z
  show v = .int ((u.toNat : Nat) : Int)
  rw [z]
  congr 1
  omega
end
def sp_Numbers_take_counter (A : Ad) : Sp := fun vs H Q E => ∃ x dx q n row i, vs = [.ref x] ∧ NumZ A x dx q n row i H ∧ 1 ≤ n ∧ RdOut A x dx q n row H (readNat 0 (n - 1) (row.drop i)) IsNt Q E
theorem sc_Numbers_take_counter : FnScope ["self"] ["self"] (defScope s_Numbers_take_counter) := ⟨rfl, rfl, rfl, by decide +kernel, rfl, by decide +kernel, by decide +kernel⟩
theorem b_Numbers_take_counter {K : PySem.W.Frag} {f : Addr} {fd : FuncData} (F : Fun K "take_counter" "Numbers.take_counter" s_Numbers_take_counter f fd) : Binds K fd ["self"] [] := F.binds fun _ _ _ _ _ _ us hl => match us, hl with | [_], _ => rfl
theorem ok_Numbers_take_counter {P : Program} {w : World} {K : PySem.W.Frag} {mg : Str → Option Value} {base : Heap} {A : Ad} (T : Txt K mg A) : MtG P w K mg base (L2N.CX P w) 3 A.cNumbers "take_counter" ["self"] (sp_Numbers_take_counter A) := by
  obtain ⟨f, fd, hc, hm, F⟩ := T.d_Numbers_take_counter
  refine ⟨f, fd, hc, hm, okN F sc_Numbers_take_counter (fun vs H Q E h => ?_) (fun cdv A1 outer s H vs Q E hr h => ⟨_, (pss_one (ps_ret (pe_methG (ok_Numbers_take T) (hr.mono (by decide)) (L2N.passes_call (L2N.takes_of rfl rfl rfl rfl) (fun _ _ _ _ h => h)) (pv 0) (by exact (pa_cons pe_int (pa_cons (pe_op op_sub (pe_fld (pv 0) rfl) pe_int) pa_nil)))))), ?_⟩), b_Numbers_take_counter F⟩
  · obtain ⟨x, dx, q, n, row, i, rfl, _⟩ := h
    rfl
  · obtain ⟨x, dx, q, n, row, i, rfl, Z, hn, k⟩ := h
    refine s_retR (EvR.nat (lo := 0) (hi := n - 1) (er_take (lo := 0) (hi := ((n - 1 : Nat) : Int)) (ev_var rfl) ev_c (ev_is (ev_i0 (ev_fld (ev_var rfl) Z.obj T.cls_Numbers T.na_Numbers_counters rfl) ev_c) (by show V.int ((n : Int) - 1) = _; congr 1; omega)) Z)) (But.refl x H) (fun b o h z => by rw [h] at z; cases z) k
section
variable {K : PySem.W.Frag} {A : Ad} {σ : L2.St} {H : Hp} {to tlo thi : TE} {E : XK} {x dx q : Addr} {n i : Nat} {row : List Int}
theorem er_take_counter (ho : Ev to σ H (.ref x)) (Z : NumZ A x dx q n row i H) (hn : 1 ≤ n) : EvR A x dx q n row (tMeth A.cNumbers "take_counter" (sp_Numbers_take_counter A) [] E to tNil) σ H (readNat 0 (n - 1) (row.drop i)) IsNt E := fun Q k =>
  ho H (Ex.refl H) _ fun H1 e1 => ⟨x, dx, _, rfl, e1 _ _ Z.obj, rfl, x, dx, q, n, row, i, rfl, Z.mono e1, hn, k.ex e1⟩
end
section
variable {α β : Type} {K : PySem.W.Frag} {A : Ad} {x dx q : Addr} {n : Nat} {row : List Int} {i : Nat} {σ : L2.St} {H Hc H1 : Hp} {te ta tl : TE} {tr : TA} {R' : β → V → Hp → Prop} {Q : VK} {E : XK} {D : Ends} {tz tu : TS}
/-- if <reading> == 0 -/
theorem q_whenR0 {o : Option (Int × List Int)} {f : Int × List Int → Option (β × List Int)} (h : EvR A x dx q n row te σ Hc o IsI E) (b : But x H Hc) (k : RdOut A x dx q n row H (o.bind f) R' Q E) (c : ∀ u rest H1 j, o = some (u, rest) → But x H H1 → But x Hc H1 → NumZ A x dx q n row j H1 → row.drop j = rest → RdOut A x dx q n row H (f (u, rest)) R' Q E → (u = 0 → tu { D with nx := tz D } σ H1) ∧ (u ≠ 0 → tz D σ H1)) : tSeq (tIfS (tTest (tOp rEq te (tC (.int 0)))) tu tNext) tz D σ Hc :=
  h _ ⟨fun ho H' b' => evr_err k ho (b.trans b'), fun u rest ho v H' j b' z d nn => by
    have hv : v = .int u := newI nn
    subst hv
    obtain ⟨c1, c2⟩ := c u rest H' j ho (b.trans b') b' z d (evr_ok k ho)
    refine ⟨rfl, _, rfl, ?_⟩
    by_cases h0 : u = 0
    · show (if decide (V.int u = V.int 0) = true then _ else _)
      rw [if_pos (decide_eq_true (by rw [h0]))]
      exact c1 h0
    · show (if decide (V.int u = V.int 0) = true then _ else _)
      rw [if_neg (fun z => h0 (V.int.inj (of_decide_eq_true z)))]
      exact c2 h0⟩
/-- the state of a loop that reads things, u in all, and appends them to the list p -/
def Reads (A : Ad) (x dx q : Addr) (n : Nat) (row : List Int) (H Hm : Hp) (p : Addr) (R : α → V → Hp → Prop) (a : VaaclBase.Reader α) (u : Nat) (F : List α × List Int → Option (β × List Int)) (R' : β → V → Hp → Prop) (Q : VK) (E : XK) (σ0 : L2.St) (jj : Nat) (i : Nat) (σ' : L2.St) (H' : Hp) : Prop :=
  (σ' = σ0 ∨ ∃ v, σ' = σ0.set jj (some v)) ∧ But2 x p Hm H' ∧ ∃ us j, us.length = i ∧ NumZ A x dx q n row j H' ∧ Grow R H p us H' ∧ RdOut A x dx q n row H ((readTimes a (u - i) (row.drop j)).bind fun v => F (us ++ v.1, v.2)) R' Q E
theorem reads_step {Hm : Hp} {p : Addr} {R : α → V → Hp → Prop} {a : VaaclBase.Reader α} {u : Nat} {F : List α × List Int → Option (β × List Int)} {σ0 : L2.St} {jj ip : Nat} {σ' : L2.St} {H' : Hp} {w : V} (st : Reads A x dx q n row H Hm p R a u F R' Q E σ0 jj i σ' H') (hi : i < u) (hu : u ≤ 1000) (m : ∀ d v, Mono (R d v)) (hb : But x H Hm) (hp : H p = none) (hx : H x ≠ none) (hq : H q ≠ none) (hσ : σ0[ip]? = some (some (.ref p))) (hij : ip ≠ jj)
    (hte : ∀ H1 j, NumZ A x dx q n row j H1 → EvR A x dx q n row te (σ0.set jj (some w)) H1 (a (row.drop j)) R E) (hD : ∀ σ2 H2, Reads A x dx q n row H Hm p R a u F R' Q E σ0 jj (i + 1) σ2 H2 → D.nx σ2 H2) :
    tDrop (tBM K "list" rAppend (tVar ip) (tCons te tNil)) D (σ'.set jj (some w)) H' := by
  obtain ⟨hs, b2, us, j, hus, Z, g, k⟩ := st
  have es : σ'.set jj (some w) = σ0.set jj (some w) := by
    rcases hs with rfl | ⟨v, rfl⟩
    · rfl
    · rw [List.set_set]
  rw [es]
  obtain ⟨zs, hz, lz⟩ := g.len
  have px : p ≠ x := fun z => by subst z; exact hx hp
  have qp : q ≠ p := fun z => by subst z; exact hq hp
  have b : But x H H' := fun c o nc hc => b2 c o nc (ne_of_none hc hp) (hb c o nc hc)
  obtain ⟨r, er⟩ : ∃ r, u - i = r + 1 := ⟨u - i - 1, by omega⟩
  have er2 : u - (i + 1) = r := by omega
  rw [er, readTimes_bind] at k
  refine s_appR (xs := zs) hz px (ev_var (by rw [List.getElem?_set_ne hij.symm]; exact hσ)) (fun H1 e1 => hte H1 j (Z.mono e1)) (by omega) b k fun u' rest v H1 j' ho b1 b1' Z1 d1 n1 k1 => hD _ _ ⟨Or.inr ⟨w, rfl⟩, fun c o n1' n2' hc => ?_, us ++ [u'], j', by rw [List.length_append, hus]; rfl, ⟨?_, ?_, Z1.le⟩, ?_, ?_⟩
  · rw [upd_ne n2']
    exact b1' c o n1' (b2 c o n1' n2' hc)
  · rw [upd_ne px.symm]
    exact Z1.obj
  · show upd H1 p _ q = _
    rw [upd_ne qp]
    exact Z1.lst
  · refine g.put m (fun c o hc z => ?_) (n1.imp fun H z => .cons z .nil) (fun c o hc h => b1' c o (fun z => by subst z; exact hx hc) h) hz
    by_cases y : c = x
    · subst y
      rw [Z.obj] at z
      cases z
    · rw [b c o y hc] at z
      cases z
  · rw [er2, d1]
    have : (fun v : List α × List Int => F (us ++ [u'] ++ v.1, v.2)) = fun v => F (us ++ u' :: v.1, v.2) := by
      funext v
      rw [List.append_assoc]
      rfl
    rw [this]
    exact k1
theorem reads_end {Hm : Hp} {p : Addr} {R : α → V → Hp → Prop} {a : VaaclBase.Reader α} {u : Nat} {F : List α × List Int → Option (β × List Int)} {σ0 : L2.St} {jj : Nat} {σ' : L2.St} {H' : Hp} (st : Reads A x dx q n row H Hm p R a u F R' Q E σ0 jj u σ' H') :
    (σ' = σ0 ∨ ∃ v, σ' = σ0.set jj (some v)) ∧ But2 x p Hm H' ∧ ∃ us j, us.length = u ∧ NumZ A x dx q n row j H' ∧ Grow R H p us H' ∧ RdOut A x dx q n row H (F (us, row.drop j)) R' Q E := by
  obtain ⟨hs, b2, us, j, hus, Z, g, k⟩ := st
  refine ⟨hs, b2, us, j, hus, Z, g, ?_⟩
  rw [Nat.sub_self] at k
  have k : RdOut A x dx q n row H (F (us ++ [], row.drop j)) R' Q E := k
  rw [List.append_nil] at k
  exact k
theorem reads_start {Hm : Hp} {p : Addr} {R : α → V → Hp → Prop} {a : VaaclBase.Reader α} {u j : Nat} {F : List α × List Int → Option (β × List Int)} {σ0 : L2.St} {jj : Nat} {H' : Hp} (e : But2 x p Hm H') (Z : NumZ A x dx q n row j H') (hp : H' p = some (.lst [])) (k : RdOut A x dx q n row H ((readTimes a u (row.drop j)).bind F) R' Q E) : Reads A x dx q n row H Hm p R a u F R' Q E σ0 jj 0 σ0 H' :=
  ⟨Or.inl rfl, e, [], j, rfl, Z, Grow.nil hp, k⟩
end
def sp_Numbers_take_test (A : Ad) : Sp := fun vs H Q E => ∃ x dx q n row i, vs = [.ref x] ∧ NumZ A x dx q n row i H ∧ 1 ≤ n ∧ RdOut A x dx q n row H (readTest n (row.drop i)) (fun t v H => TestV A H v t) Q E
theorem sc_Numbers_take_test : FnScope ["self", "kind", "counter", "other", "divisor"] ["self"] (defScope s_Numbers_take_test) := ⟨rfl, rfl, rfl, by decide +kernel, rfl, by decide +kernel, by decide +kernel⟩
theorem b_Numbers_take_test {K : PySem.W.Frag} {f : Addr} {fd : FuncData} (F : Fun K "take_test" "Numbers.take_test" s_Numbers_take_test f fd) : Binds K fd ["self"] [] := F.binds fun _ _ _ _ _ _ us hl => match us, hl with | [_], _ => rfl
theorem ok_Numbers_take_test {P : Program} {w : World} {K : PySem.W.Frag} {mg : Str → Option Value} {base : Heap} {A : Ad} (T : Txt K mg A) : MtG P w K mg base (L2N.CX P w) 4 A.cNumbers "take_test" ["self"] (sp_Numbers_take_test A) := by
  obtain ⟨f, fd, hc, hm, F⟩ := T.d_Numbers_take_test
  refine ⟨f, fd, hc, hm, okN F sc_Numbers_take_test (fun vs H Q E h => ?_) (fun cdv A1 outer s H vs Q E hr h => ⟨_, (pss_cons (ps_set (i := 1) sc_Numbers_take_test.nd rfl (Or.inl rfl) (pe_methG (ok_Numbers_take T) (hr.mono (by decide)) (L2N.passes_call (L2N.takes_of rfl rfl rfl rfl) (fun _ _ _ _ h => h)) (pv 0) (by exact (pa_cons pe_int (pa_cons pe_int pa_nil)))))
      (pss_cons (ps_set (i := 2) sc_Numbers_take_test.nd rfl (Or.inl rfl) (pe_methG0 (ok_Numbers_take_counter T) (hr.mono (by decide)) (L2N.passes_call (L2N.takes_of rfl rfl rfl rfl) (fun _ _ _ _ h => h)) (pv 0)))
      (pss_cons (ps_if (PW.pt (pw_or (pt_cmpR op_eq (pv 1) (pe_gi T.i_AT_MOST rfl) (nomark _)) (pw_or1 (pt_cmpR op_eq (pv 1) (pe_gi T.i_AT_LEAST rfl) (nomark _))))) (pss_one (ps_ret (pe_makeG (ok_Test_init T) (hr.mono (by decide)) pass0 rfl (by exact (pa_cons (pv 1) (pa_cons (pv 2) (pa_cons (pe_methG (ok_Numbers_take T) (hr.mono (by decide)) (L2N.passes_call (L2N.takes_of rfl rfl rfl rfl) (fun _ _ _ _ h => h)) (pv 0) (by exact (pa_cons (pe_un un_neg (pe_gi T.i_MOST_TESTED rfl)) (pa_cons (pe_gi T.i_MOST_TESTED rfl) pa_nil)))) (pa_cons pe_int pa_nil)))))))) pss_nil)
      (pss_cons (ps_if (pt_cmpR op_eq (pv 1) (pe_gi T.i_BELOW rfl) (nomark _)) (pss_cons (ps_set (i := 3) sc_Numbers_take_test.nd rfl (Or.inl rfl) (pe_methG0 (ok_Numbers_take_counter T) (hr.mono (by decide)) (L2N.passes_call (L2N.takes_of rfl rfl rfl rfl) (fun _ _ _ _ h => h)) (pv 0)))
      (pss_one (ps_ret (pe_makeG (ok_Test_init T) (hr.mono (by decide)) pass0 rfl (by exact (pa_cons (pe_gi T.i_BELOW rfl) (pa_cons (pv 2) (pa_cons (pv 3) (pa_cons (pe_methG (ok_Numbers_take T) (hr.mono (by decide)) (L2N.passes_call (L2N.takes_of rfl rfl rfl rfl) (fun _ _ _ _ h => h)) (pv 0) (by exact (pa_cons (pe_un un_neg (pe_gi T.i_MOST_TESTED rfl)) (pa_cons (pe_gi T.i_MOST_TESTED rfl) pa_nil)))) pa_nil))))))))) pss_nil)
      (pss_cons (ps_set (i := 4) sc_Numbers_take_test.nd rfl (Or.inl rfl) (pe_methG (ok_Numbers_take T) (hr.mono (by decide)) (L2N.passes_call (L2N.takes_of rfl rfl rfl rfl) (fun _ _ _ _ h => h)) (pv 0) (by exact (pa_cons pe_int (pa_cons pe_int pa_nil)))))
      (pss_cons (ps_expr (pe_callG (ok_f_must_reading T) (hr.mono (by decide)) (L2N.passes_call (L2N.takes_of rfl rfl rfl rfl) (fun _ _ _ _ h => h)) rfl (by exact (pa_cons (pe_cmpR op_in_seq (pv 4) (pe_gt T.t_DIVISORS rfl) (by rfl)) pa_nil))))
      (pss_one (ps_ret (pe_makeG (ok_Test_init T) (hr.mono (by decide)) pass0 rfl (by exact (pa_cons (pe_gi T.i_REMAINDER rfl) (pa_cons (pv 2) (pa_cons (pv 4) (pa_cons (pe_methG (ok_Numbers_take T) (hr.mono (by decide)) (L2N.passes_call (L2N.takes_of rfl rfl rfl rfl) (fun _ _ _ _ h => h)) (pv 0) (by exact (pa_cons pe_int (pa_cons (pe_op op_sub (pv 4) pe_int) pa_nil)))) pa_nil)))))))))))))), ?_⟩), b_Numbers_take_test F⟩
  · obtain ⟨x, dx, q, n, row, i, rfl, _⟩ := h
    rfl
  · obtain ⟨x, dx, q, n, row, i, rfl, Z, hn, k⟩ := h
    rw [readTest_is hn] at k
    have fin : ∀ (t : Test) (rest : List Int), RdOut A x dx q n row H (some (t, rest)) (fun t v H => TestV A H v t) Q E → ∀ H1 j, But x H H1 → NumZ A x dx q n row j H1 → row.drop j = rest → ∀ y dy H5, Ex H1 H5 → H1 y = none → H5 y = some (.ins A.cTest dy (fT t)) → Q (.ref y) H5 := fun t rest kk H1 j b Z1 d y dy H5 e5 ny hy =>
      kk.2 t rest rfl (.ref y) H5 j (b.trans (but_of e5)) (Z1.mono e5) d ((NewAt.obj hy (fresh_but b (by rw [Z1.obj]; exact fun z => by cases z) ny)).imp fun H z => ⟨y, rfl, dy, z⟩)
    refine q_asgR (er_take (ev_var rfl) ev_c ev_c Z) (But.refl x H) k fun u rest v H1 j ho b1 _ Z1 d1 nn k1 => ?_
    have hv : v = .int u := newI nn
    subst hv
    have hu := rd_in ho
    subst d1
    refine q_asgR (er_take_counter (ev_var rfl) Z1 hn) b1 k1 fun c rest v H2 j2 ho2 b2 _ Z2 d2 nn k2 => ?_
    have hv : v = .int ((c : Nat) : Int) := newI nn
    subst hv
    subst d2
    unfold testRest at k2
    refine q_when (b := decide (u = 0) || decide (u = 1)) (et_or (et_v (ev_eq (ev_var rfl) ev_c)) fun _ => et_v (ev_eq (ev_var rfl) ev_c)) (fun hb H3 e3 => ?_) (fun hb H3 e3 => ?_)
    · have b3 := b2.trans (but_of (rw := x) e3)
      have Z3 := Z2.mono e3
      refine s_retM ?_
      refine cons_ev (ev_var rfl) fun H4 e4 => ?_
      refine cons_ev (ev_var rfl) fun H5 e5 => ?_
      have b5 := b3.trans (but_of (rw := x) (e4.trans e5))
      have Z5 := Z3.mono (e4.trans e5)
      by_cases h0 : u = 0
      · subst h0
        rw [if_pos rfl] at k2
        refine cons_R (er_take (lo := -999999) (ev_var rfl) (ev_neg ev_c) ev_c Z5) b5 k2 fun z rest v H6 j6 ho6 b6 _ Z6 d6 nn k6 => ?_
        have hv : v = .int z := newI nn
        subst hv
        refine cons_ev ev_c fun H7 e7 => ?_
        exact mk_raw rfl fun y dy H8 e8 ny hy => fin _ _ k6 H7 j6 (b6.trans (but_of e7)) (Z6.mono e7) d6 y dy H8 e8 ny hy
      · have h1 : u = 1 := by
          rw [Bool.or_eq_true, decide_eq_true_iff, decide_eq_true_iff] at hb
          omega
        subst h1
        rw [if_neg (show ¬ (1 : Int) = 0 by decide), if_pos rfl] at k2
        refine cons_R (er_take (lo := -999999) (ev_var rfl) (ev_neg ev_c) ev_c Z5) b5 k2 fun z rest v H6 j6 ho6 b6 _ Z6 d6 nn k6 => ?_
        have hv : v = .int z := newI nn
        subst hv
        refine cons_ev ev_c fun H7 e7 => ?_
        exact mk_raw rfl fun y dy H8 e8 ny hy => fin _ _ k6 H7 j6 (b6.trans (but_of e7)) (Z6.mono e7) d6 y dy H8 e8 ny hy
    · rw [Bool.or_eq_false_iff, decide_eq_false_iff_not, decide_eq_false_iff_not] at hb
      rw [if_neg hb.1, if_neg hb.2] at k2
      have b3 := b2.trans (but_of (rw := x) e3)
      have Z3 := Z2.mono e3
      refine q_when (b := decide (u = 2)) (et_v (ev_eq (ev_var rfl) ev_c)) (fun hb2 H4 e4 => ?_) (fun hb2 H4 e4 => ?_)
      · have hb2 := of_decide_eq_true hb2
        subst hb2
        rw [if_pos rfl] at k2
        have b4 := b3.trans (but_of (rw := x) e4)
        have Z4 := Z3.mono e4
        refine q_asgR (er_take_counter (ev_var rfl) Z4 hn) b4 k2 fun c2 rest v H5 j5 ho5 b5 _ Z5 d5 nn k5 => ?_
        have hv : v = .int ((c2 : Nat) : Int) := newI nn
        subst hv
        subst d5
        refine s_retM ?_
        refine cons_ev ev_c fun H6 e6 => ?_
        refine cons_ev (ev_var rfl) fun H7 e7 => ?_
        refine cons_ev (ev_var rfl) fun H8 e8 => ?_
        have b8 := b5.trans (but_of (rw := x) ((e6.trans e7).trans e8))
        have Z8 := Z5.mono ((e6.trans e7).trans e8)
        refine cons_R (er_take (lo := -999999) (ev_var rfl) (ev_neg ev_c) ev_c Z8) b8 k5 fun z rest v H9 j9 ho9 b9 _ Z9 d9 nn k9 => ?_
        have hv : v = .int z := newI nn
        subst hv
        exact mk_raw rfl fun y dy HA eA ny hy => fin _ _ k9 H9 j9 b9 Z9 d9 y dy HA eA ny hy
      · have hb2 := of_decide_eq_false hb2
        rw [if_neg hb2] at k2
        have b4 := b3.trans (but_of (rw := x) e4)
        have Z4 := Z3.mono e4
        refine q_asgR (er_take (ev_var rfl) ev_c ev_c Z4) b4 k2 fun m rest v H5 j5 ho5 b5 _ Z5 d5 nn k5 => ?_
        have hv : v = .int m := newI nn
        subst hv
        have hm := rd_in ho5
        subst d5
        refine q_mustR (b := inV (.int m) [.int 2, .int 3, .int 4, .int 6]) (fun H6 e6 Q' q' => ?_) (fun hbm H6 e6 => ?_) (fun hbm H6 e6 => ?_)
        · refine ⟨_, rfl, fun a ha => ?_⟩
          exact Evl.rv_isT (p := a) (ha H6) rfl rfl H6 (Ex.refl H6) Q' q'
        · have hmm : m = 2 ∨ m = 3 ∨ m = 4 ∨ m = 6 := by
            have : m = 2 ∨ m = 3 ∨ m = 4 ∨ m = 5 ∨ m = 6 := by omega
            rcases this with rfl | rfl | rfl | rfl | rfl <;> first | (left; rfl) | (right; left; rfl) | (right; right; left; rfl) | (right; right; right; rfl) | (cases hbm)
          have k5 : RdOut A x dx q n row H ((readInt 0 (m - 1) (row.drop j5)).bind fun u => some (Test.rem c m.toNat u.1.toNat, u.2)) (fun t v H => TestV A H v t) Q E := by
            have k5 : RdOut A x dx q n row H (if m = 2 ∨ m = 3 ∨ m = 4 ∨ m = 6 then (readInt 0 (m - 1) (row.drop j5)).bind fun u => some (Test.rem c m.toNat u.1.toNat, u.2) else none) (fun t v H => TestV A H v t) Q E := k5
            rw [if_pos hmm] at k5
            exact k5
          refine s_retM ?_
          refine cons_ev ev_c fun H7 e7 => ?_
          refine cons_ev (ev_var rfl) fun H8 e8 => ?_
          refine cons_ev (ev_var rfl) fun H9 e9 => ?_
          have b9 := b5.trans (but_of (rw := x) (((e6.trans e7).trans e8).trans e9))
          have Z9 := Z5.mono (((e6.trans e7).trans e8).trans e9)
          refine cons_R (er_take (lo := 0) (hi := m - 1) (ev_var rfl) ev_c (ev_i0 (ev_var rfl) ev_c) Z9) b9 k5 fun z rest v HA jA hoA bA _ ZA dA nn kA => ?_
          have hv : v = .int z := newI nn
          subst hv
          have hz := rd_in hoA
          refine mk_raw rfl fun y dy HB eB ny hy => fin _ _ kA HA jA bA ZA dA y dy HB eB ny ?_
          rw [hy]
          have e1 : u = 3 := by omega
          have em : m = ((m.toNat : Nat) : Int) := by omega
          have ez : z = ((z.toNat : Nat) : Int) := by omega
          show some (HO.ins A.cTest dy [("kind", V.int 3), ("counter", .int ((c : Nat) : Int)), ("one", .int m), ("other", .int z)]) = some (HO.ins A.cTest dy [("kind", V.int 3), ("counter", .int ((c : Nat) : Int)), ("one", .int ((m.toNat : Nat) : Int)), ("other", .int ((z.toNat : Nat) : Int))])
          rw [← em, ← ez]
        · have hmm : ¬ (m = 2 ∨ m = 3 ∨ m = 4 ∨ m = 6) := fun z => by
            rcases z with rfl | rfl | rfl | rfl <;> cases hbm
          have k5 : RdOut A x dx q n row H (if m = 2 ∨ m = 3 ∨ m = 4 ∨ m = 6 then (readInt 0 (m - 1) (row.drop j5)).bind fun u => some (Test.rem c m.toNat u.1.toNat, u.2) else none) (fun t v H => TestV A H v t) Q E := k5
          rw [if_neg hmm] at k5
          exact k5.1 rfl H6 (b5.trans (but_of e6))
section
variable {K : PySem.W.Frag} {A : Ad} {σ : L2.St} {H : Hp} {to tlo thi : TE} {E : XK} {x dx q : Addr} {n i : Nat} {row : List Int}
theorem er_take_test (ho : Ev to σ H (.ref x)) (Z : NumZ A x dx q n row i H) (hn : 1 ≤ n) : EvR A x dx q n row (tMeth A.cNumbers "take_test" (sp_Numbers_take_test A) [] E to tNil) σ H (readTest n (row.drop i)) (fun t v H => TestV A H v t) E := fun Q k =>
  ho H (Ex.refl H) _ fun H1 e1 => ⟨x, dx, _, rfl, e1 _ _ Z.obj, rfl, x, dx, q, n, row, i, rfl, Z.mono e1, hn, k.ex e1⟩
end
def sp_Numbers_take_gift (A : Ad) : Sp := fun vs H Q E => ∃ x dx q n row i, vs = [.ref x] ∧ NumZ A x dx q n row i H ∧ 1 ≤ n ∧ RdOut A x dx q n row H (readGiven n (row.drop i)) (fun t v H => GiftV A H v t) Q E
theorem sc_Numbers_take_gift : FnScope ["self", "counter"] ["self"] (defScope s_Numbers_take_gift) := ⟨rfl, rfl, rfl, by decide +kernel, rfl, by decide +kernel, by decide +kernel⟩
theorem b_Numbers_take_gift {K : PySem.W.Frag} {f : Addr} {fd : FuncData} (F : Fun K "take_gift" "Numbers.take_gift" s_Numbers_take_gift f fd) : Binds K fd ["self"] [] := F.binds fun _ _ _ _ _ _ us hl => match us, hl with | [_], _ => rfl
theorem ok_Numbers_take_gift {P : Program} {w : World} {K : PySem.W.Frag} {mg : Str → Option Value} {base : Heap} {A : Ad} (T : Txt K mg A) : MtG P w K mg base (L2N.CX P w) 4 A.cNumbers "take_gift" ["self"] (sp_Numbers_take_gift A) := by
  obtain ⟨f, fd, hc, hm, F⟩ := T.d_Numbers_take_gift
  refine ⟨f, fd, hc, hm, okN F sc_Numbers_take_gift (fun vs H Q E h => ?_) (fun cdv A1 outer s H vs Q E hr h => ⟨_, (pss_cons (ps_if (pt_cmpR op_eq (pe_methG (ok_Numbers_take T) (hr.mono (by decide)) (L2N.passes_call (L2N.takes_of rfl rfl rfl rfl) (fun _ _ _ _ h => h)) (pv 0) (by exact (pa_cons pe_int (pa_cons pe_int pa_nil)))) pe_int (nomark _)) (pss_one (ps_ret (pe_makeG (ok_Gift_init T) (hr.mono (by decide)) pass0 rfl (by exact (pa_cons pe_non (pa_cons (pe_methG (ok_Numbers_take T) (hr.mono (by decide)) (L2N.passes_call (L2N.takes_of rfl rfl rfl rfl) (fun _ _ _ _ h => h)) (pv 0) (by exact (pa_cons (pe_un un_neg (pe_gi T.i_MOST_GIVEN rfl)) (pa_cons (pe_gi T.i_MOST_GIVEN rfl) pa_nil)))) pa_nil)))))) pss_nil)
      (pss_cons (ps_set (i := 1) sc_Numbers_take_gift.nd rfl (Or.inl rfl) (pe_methG0 (ok_Numbers_take_counter T) (hr.mono (by decide)) (L2N.passes_call (L2N.takes_of rfl rfl rfl rfl) (fun _ _ _ _ h => h)) (pv 0)))
      (pss_one (ps_ret (pe_makeG (ok_Gift_init T) (hr.mono (by decide)) pass0 rfl (by exact (pa_cons (pv 1) (pa_cons (pe_methG (ok_Numbers_take T) (hr.mono (by decide)) (L2N.passes_call (L2N.takes_of rfl rfl rfl rfl) (fun _ _ _ _ h => h)) (pv 0) (by exact (pa_cons (pe_un un_neg (pe_gi T.i_MOST_GIVEN rfl)) (pa_cons (pe_gi T.i_MOST_GIVEN rfl) pa_nil)))) pa_nil)))))))), ?_⟩), b_Numbers_take_gift F⟩
  · obtain ⟨x, dx, q, n, row, i, rfl, _⟩ := h
    rfl
  · obtain ⟨x, dx, q, n, row, i, rfl, Z, hn, k⟩ := h
    rw [readGiven_is] at k
    have fin : ∀ (t : VaaclBase.Given) (rest : List Int), RdOut A x dx q n row H (some (t, rest)) (fun t v H => GiftV A H v t) Q E → ∀ H1 j, But x H H1 → NumZ A x dx q n row j H1 → row.drop j = rest → ∀ y dy H5, Ex H1 H5 → H1 y = none → H5 y = some (.ins A.cGift dy (fG t)) → Q (.ref y) H5 := fun t rest kk H1 j b Z1 d y dy H5 e5 ny hy =>
      kk.2 t rest rfl (.ref y) H5 j (b.trans (but_of e5)) (Z1.mono e5) d ((NewAt.obj hy (fresh_but b (by rw [Z1.obj]; exact fun z => by cases z) ny)).imp fun H z => ⟨y, rfl, dy, z⟩)
    refine q_whenR0 (er_take (ev_var rfl) ev_c ev_c Z) (But.refl x H) k fun u rest H1 j ho b1 _ Z1 d1 k1 => ⟨fun h0 => ?_, fun h0 => ?_⟩
    · subst h0
      subst d1
      rw [if_pos rfl] at k1
      refine s_retM ?_
      refine cons_ev ev_c fun H4 e4 => ?_
      refine cons_R (er_take (lo := -99) (ev_var rfl) (ev_neg ev_c) ev_c (Z1.mono e4)) (b1.trans (but_of (rw := x) e4)) k1 fun z rest v H6 j6 ho6 b6 _ Z6 d6 nn k6 => ?_
      have hv : v = .int z := newI nn
      subst hv
      exact mk_raw rfl fun y dy H8 e8 ny hy => fin _ _ k6 H6 j6 b6 Z6 d6 y dy H8 e8 ny hy
    · subst d1
      rw [if_neg h0] at k1
      refine q_asgR (er_take_counter (ev_var rfl) Z1 hn) b1 k1 fun c rest v H2 j2 ho2 b2 _ Z2 d2 nn k2 => ?_
      have hv : v = .int ((c : Nat) : Int) := newI nn
      subst hv
      subst d2
      refine s_retM ?_
      refine cons_ev (ev_var rfl) fun H4 e4 => ?_
      refine cons_R (er_take (lo := -99) (ev_var rfl) (ev_neg ev_c) ev_c (Z2.mono e4)) (b2.trans (but_of (rw := x) e4)) k2 fun z rest v H6 j6 ho6 b6 _ Z6 d6 nn k6 => ?_
      have hv : v = .int z := newI nn
      subst hv
      exact mk_raw rfl fun y dy H8 e8 ny hy => fin _ _ k6 H6 j6 b6 Z6 d6 y dy H8 e8 ny hy
section
variable {K : PySem.W.Frag} {A : Ad} {σ : L2.St} {H : Hp} {to tlo thi : TE} {E : XK} {x dx q : Addr} {n i : Nat} {row : List Int}
theorem er_take_gift (ho : Ev to σ H (.ref x)) (Z : NumZ A x dx q n row i H) (hn : 1 ≤ n) : EvR A x dx q n row (tMeth A.cNumbers "take_gift" (sp_Numbers_take_gift A) [] E to tNil) σ H (readGiven n (row.drop i)) (fun t v H => GiftV A H v t) E := fun Q k =>
  ho H (Ex.refl H) _ fun H1 e1 => ⟨x, dx, _, rfl, e1 _ _ Z.obj, rfl, x, dx, q, n, row, i, rfl, Z.mono e1, hn, k.ex e1⟩
theorem TestV.m (d : Test) (v : V) : Mono (fun H => TestV A H v d) := fun H H' e h => h.mono e
theorem GiftV.m (d : VaaclBase.Given) (v : V) : Mono (fun H => GiftV A H v d) := fun H H' e h => h.mono e
theorem BranchV.m (d : Branch) (v : V) : Mono (fun H => BranchV A H v d) := fun H H' e h => h.mono e
end
def sp_Numbers_take_branch (A : Ad) : Sp := fun vs H Q E => ∃ x dx q n row i, vs = [.ref x] ∧ NumZ A x dx q n row i H ∧ 1 ≤ n ∧ n ≤ 4 ∧ RdOut A x dx q n row H (readBranch n (row.drop i)) (fun t v H => BranchV A H v t) Q E
theorem sc_Numbers_take_branch : FnScope ["self", "tests", "turn", "gifts"] ["self"] (defScope s_Numbers_take_branch) := ⟨rfl, rfl, rfl, by decide +kernel, rfl, by decide +kernel, by decide +kernel⟩
theorem b_Numbers_take_branch {K : PySem.W.Frag} {f : Addr} {fd : FuncData} (F : Fun K "take_branch" "Numbers.take_branch" s_Numbers_take_branch f fd) : Binds K fd ["self"] [] := F.binds fun _ _ _ _ _ _ us hl => match us, hl with | [_], _ => rfl
theorem ok_Numbers_take_branch {P : Program} {w : World} {K : PySem.W.Frag} {mg : Str → Option Value} {base : Heap} {A : Ad} (T : Txt K mg A) : MtG P w K mg base (L2N.CX P w) 5 A.cNumbers "take_branch" ["self"] (sp_Numbers_take_branch A) := by
  obtain ⟨f, fd, hc, hm, F⟩ := T.d_Numbers_take_branch
  refine ⟨f, fd, hc, hm, okN F sc_Numbers_take_branch (fun vs H Q E h => ?_) (fun cdv A1 outer s H vs Q E hr h => ⟨_, (pss_cons (ps_set (i := 1) sc_Numbers_take_branch.nd rfl (Or.inl rfl) (pe_lst (by exact pa_nil)))
      (pss_cons (ps_for PassesOwn.leaving rfl (pi_range1 rfl T.n_range (by exact (pa_cons (pe_methG (ok_Numbers_take T) (hr.mono (by decide)) (L2N.passes_call (L2N.takes_of rfl rfl rfl rfl) (fun _ _ _ _ h => h)) (pv 0) (by exact (pa_cons pe_int (pa_cons (pe_gi T.i_MOST_TESTS rfl) pa_nil)))) pa_nil))) (pg_name (i := 2) sc_Numbers_take_branch.nd rfl (Or.inl rfl))
        (pss_one (ps_expr (pe_bm PySem.F.plainAttrs_list PySem.F.slot_list_append PySem.F.type_list_append mt_append (pv 1) (by exact (pa_cons (pe_methG0 (ok_Numbers_take_test T) (hr.mono (by decide)) (L2N.passes_call (L2N.takes_of rfl rfl rfl rfl) (fun _ _ _ _ h => h)) (pv 0)) pa_nil))))))
      (pss_cons (ps_set (i := 3) sc_Numbers_take_branch.nd rfl (Or.inl rfl) (pe_lst (by exact pa_nil)))
      (pss_cons (ps_for PassesOwn.leaving rfl (pi_range1 rfl T.n_range (by exact (pa_cons (pe_fld (pv 0) rfl) pa_nil))) (pg_name (i := 2) sc_Numbers_take_branch.nd rfl (Or.inl rfl))
        (pss_one (ps_expr (pe_bm PySem.F.plainAttrs_list PySem.F.slot_list_append PySem.F.type_list_append mt_append (pv 3) (by exact (pa_cons (pe_methG0 (ok_Numbers_take_gift T) (hr.mono (by decide)) (L2N.passes_call (L2N.takes_of rfl rfl rfl rfl) (fun _ _ _ _ h => h)) (pv 0)) pa_nil))))))
      (pss_one (ps_ret (pe_makeG (ok_Branch_init T) (hr.mono (by decide)) pass0 rfl (by exact (pa_cons (pv 1) (pa_cons (pv 3) pa_nil)))))))))), ?_⟩), b_Numbers_take_branch F⟩
  · obtain ⟨x, dx, q, n, row, i, rfl, _⟩ := h
    rfl
  · obtain ⟨x, dx, q, n, row, i, rfl, Z, hn, hn4, k⟩ := h
    rw [readBranch_is] at k
    have hx : H x ≠ none := by rw [Z.obj]; exact fun z => by cases z
    have hq : H q ≠ none := by rw [show H q = _ from Z.lst]; exact fun z => by cases z
    refine q_asgL (el_lst ea_nil (Nat.zero_le _)) fun p1 H1 np1 e1 hp1 => ?_
    refine q_forRR (EvR.nat (lo := 0) (hi := 3) (er_take (ev_var rfl) ev_c ev_c (Z.mono e1))) (but_of e1) k fun u rest H2 j ho b2 b2' Z2 d2 k2 => ⟨by have := rdn_in ho; omega, ?_⟩
    subst d2
    have p1x : p1 ≠ x := fun z => by subst z; exact hx np1
    have hp2 : H2 p1 = some (.lst []) := b2' _ _ p1x hp1
    refine ⟨Reads A x dx q n row H H2 p1 (fun t v H => TestV A H v t) (readTest n) u (fun g => (readTimes (readGiven n) n g.2).bind fun mv => some (⟨g.1, mv.1⟩, mv.2)) (fun t v H => BranchV A H v t) Q E [some (.ref x), some (.ref p1), none, none] 2, reads_start (But2.refl _ _ _) Z2 hp2 k2, fun i σ' H' hi st => ?_, fun σ' H' st => ?_⟩
    · exact reads_step (w := .int ((i : Nat) : Int)) (ip := 1) st hi (by have := rdn_in ho; omega) TestV.m b2 np1 hx hq rfl (by decide) (fun H3 j Z3 => er_take_test (ev_var rfl) Z3 hn) fun σ2 H3 st => st
    · obtain ⟨hs, b3, us, j3, lus, Z3, g3, k3⟩ := reads_end st
      have bH3 : But x H H' := fun c o nc hc => b3 c o nc (ne_of_none hc np1) (b2 c o nc hc)
      obtain ⟨y, hσ⟩ : ∃ y, σ' = [some (.ref x), some (.ref p1), y, none] := by
        rcases hs with rfl | ⟨v, rfl⟩
        · exact ⟨_, rfl⟩
        · exact ⟨_, rfl⟩
      subst hσ
      refine q_asgL (el_lst ea_nil (Nat.zero_le _)) fun p2 H4 np2' e4 hp2 => ?_
      have hx3 : H' x ≠ none := by rw [Z3.obj]; exact fun z => by cases z
      have np2 : H p2 = none := fresh_but bH3 hx3 np2'
      have bH4 : But x H H4 := bH3.trans (but_of e4)
      have Z4 := Z3.mono e4
      have g4 := g3.later e4
      obtain ⟨zs1, hzs1, _⟩ := g3.len
      have p12 : p1 ≠ p2 := ne_of_none hzs1 np2'
      refine q_forR1 (n := ((n : Nat) : Int)) (ea_cons (ev_fld (ev_var rfl) Z4.obj T.cls_Numbers T.na_Numbers_counters rfl) ea_nil) (by omega) (Reads A x dx q n row H H4 p2 (fun t v H => GiftV A H v t) (readGiven n) n (fun mv => some (⟨us, mv.1⟩, mv.2)) (fun t v H => BranchV A H v t) Q E [some (.ref x), some (.ref p1), y, some (.ref p2)] 2) (fun H5 e5 => reads_start (fun c o _ _ hc => e5 _ _ hc) (Z4.mono e5) (e5 _ _ hp2) k3) (fun i σ' H' hi st => ?_) (fun σ' H' st => ?_)
      · exact reads_step (w := .int ((i : Nat) : Int)) (ip := 3) st (by omega) (by omega) GiftV.m bH4 np2 hx hq rfl (by decide) (fun H3 j Z3 => er_take_gift (ev_var rfl) Z3 hn) fun σ2 H3 st => st
      · have st : Reads A x dx q n row H H4 p2 (fun t v H => GiftV A H v t) (readGiven n) n (fun mv => some (⟨us, mv.1⟩, mv.2)) (fun t v H => BranchV A H v t) Q E [some (.ref x), some (.ref p1), y, some (.ref p2)] 2 n σ' H' := st
        obtain ⟨hs, b5, ms, j5, lms, Z5, g5, k5⟩ := reads_end st
        have bH5 : But x H H' := fun c o nc hc => b5 c o nc (ne_of_none hc np2) (bH4 c o nc hc)
        obtain ⟨y, hσ⟩ : ∃ y, σ' = [some (.ref x), some (.ref p1), y, some (.ref p2)] := by
          rcases hs with rfl | ⟨v, rfl⟩
          · exact ⟨_, rfl⟩
          · exact ⟨_, rfl⟩
        subst hσ
        have hx5 : H' x ≠ none := by rw [Z5.obj]; exact fun z => by cases z
        have p2notg : Grow (fun t v H => TestV A H v t) H p1 us H' := by
          obtain ⟨zs, H0, z1, z2, z3, z4, z5⟩ := g3
          refine ⟨zs, H0, b5 _ _ p1x p12 (e4 _ _ z1), z2, z3, fun c o hc => b5 c o (fun z => ?_) (ne_of_none (z4 _ _ hc) np2') (e4 _ _ (z4 _ _ hc)), z5⟩
          subst z
          rw [z2 _ _ Z.obj] at hc
          cases hc
        refine s_retM ?_
        refine cons_ev (ev_var rfl) fun H6 e6 => ?_
        refine cons_ev (ev_var rfl) fun H7 e7 => ?_
        have e67 := e6.trans e7
        have b7 := bH5.trans (but_of (rw := x) e67)
        refine mk_raw rfl fun z dz H8 e8 nz hz => ?_
        have nz0 : H z = none := fresh_but b7 (by rw [(Z5.mono e67).obj]; exact fun y => by cases y) nz
        have e78 := e67.trans e8
        refine k5.2 ⟨us, ms⟩ (row.drop j5) rfl (.ref z) H8 j5 (b7.trans (but_of e8)) (Z5.mono e78) rfl ?_
        have d1 := (p2notg.later e78).done TestV.m np1
        have d2 := (g5.later e78).done GiftV.m np2
        refine (NewAt.and (NewAt.obj hz nz0) (NewAt.and d1 d2 (fun _ _ e ⟨zs, h1, h2⟩ => ⟨zs, e _ _ h1, Paired.imp2 h2 fun _ _ y => TestV.m _ _ _ _ e y⟩) (fun _ _ e ⟨zs, h1, h2⟩ => ⟨zs, e _ _ h1, Paired.imp2 h2 fun _ _ y => GiftV.m _ _ _ _ e y⟩)) (fun _ _ e h => e _ _ h) (fun _ _ e ⟨⟨zs, h1, h2⟩, ⟨ws, h3, h4⟩⟩ => ⟨⟨zs, e _ _ h1, Paired.imp2 h2 fun _ _ y => TestV.m _ _ _ _ e y⟩, ⟨ws, e _ _ h3, Paired.imp2 h4 fun _ _ y => GiftV.m _ _ _ _ e y⟩⟩)).imp fun H9 h9 => ?_
        obtain ⟨h1, ⟨zs, h2, h3⟩, ⟨ws, h4, h5⟩⟩ := h9
        exact ⟨z, rfl, dz, p1, p2, zs, ws, h1, h2, h4, h3, h5⟩
section
variable {K : PySem.W.Frag} {A : Ad} {σ : L2.St} {H : Hp} {to tlo thi : TE} {E : XK} {x dx q : Addr} {n i : Nat} {row : List Int}
theorem er_take_branch (ho : Ev to σ H (.ref x)) (Z : NumZ A x dx q n row i H) (hn : 1 ≤ n) (hn4 : n ≤ 4) : EvR A x dx q n row (tMeth A.cNumbers "take_branch" (sp_Numbers_take_branch A) [] E to tNil) σ H (readBranch n (row.drop i)) (fun t v H => BranchV A H v t) E := fun Q k =>
  ho H (Ex.refl H) _ fun H1 e1 => ⟨x, dx, _, rfl, e1 _ _ Z.obj, rfl, x, dx, q, n, row, i, rfl, Z.mono e1, hn, hn4, k.ex e1⟩
end
def sp_f_read_loop (A : Ad) : Sp := fun vs H Q E => ∃ q n row, vs = [.int ((n : Nat) : Int), .ref q] ∧ IntsAt H q row ∧ 1 ≤ n ∧ n ≤ 4 ∧ (whole (readLoop n) row = none → ∀ H', Ex H H' → E (.ref A.cNotWhole) none H') ∧ (∀ l, whole (readLoop n) row = some l → ∀ a H', Ex H H' → NewAt H H' (fun H0 => LoopAt A H0 a n l) → Q (.ref a) H')
theorem sc_f_read_loop : FnScope ["counters", "row", "numbers", "branches", "turn"] ["counters", "row"] (defScope s_f_read_loop) := ⟨rfl, rfl, rfl, by decide +kernel, rfl, by decide +kernel, by decide +kernel⟩
theorem b_f_read_loop {K : PySem.W.Frag} {f : Addr} {fd : FuncData} (F : Fun K "read_loop" "read_loop" s_f_read_loop f fd) : Binds K fd ["counters", "row"] [] := F.binds fun _ _ _ _ _ _ us hl => match us, hl with | [_, _], _ => rfl
theorem ok_f_read_loop {P : Program} {w : World} {K : PySem.W.Frag} {mg : Str → Option Value} {base : Heap} {A : Ad} (T : Txt K mg A) : FnG P w K mg base (L2N.CX P w) 6 "read_loop" ["counters", "row"] (sp_f_read_loop A) := by
  obtain ⟨f, fd, hm, F⟩ := T.d_f_read_loop
  refine ⟨f, fd, hm, F.kp, okN F sc_f_read_loop (fun vs H Q E h => ?_) (fun cdv A1 outer s H vs Q E hr h => ⟨_, (pss_cons (ps_set (i := 2) sc_f_read_loop.nd rfl (Or.inl rfl) (pe_makeG (ok_Numbers_init T) (hr.mono (by decide)) pass0 rfl (by exact (pa_cons (pv 0) (pa_cons (pv 1) pa_nil)))))
      (pss_cons (ps_set (i := 3) sc_f_read_loop.nd rfl (Or.inl rfl) (pe_lst (by exact pa_nil)))
      (pss_cons (ps_for PassesOwn.leaving rfl (pi_range1 rfl T.n_range (by exact (pa_cons (pe_methG (ok_Numbers_take T) (hr.mono (by decide)) (L2N.passes_call (L2N.takes_of rfl rfl rfl rfl) (fun _ _ _ _ h => h)) (pv 2) (by exact (pa_cons pe_int (pa_cons (pe_gi T.i_MOST_BRANCHES rfl) pa_nil)))) pa_nil))) (pg_name (i := 4) sc_f_read_loop.nd rfl (Or.inl rfl))
        (pss_one (ps_expr (pe_bm PySem.F.plainAttrs_list PySem.F.slot_list_append PySem.F.type_list_append mt_append (pv 3) (by exact (pa_cons (pe_methG0 (ok_Numbers_take_branch T) (hr.mono (by decide)) (L2N.passes_call (L2N.takes_of rfl rfl rfl rfl) (fun _ _ _ _ h => h)) (pv 2)) pa_nil))))))
      (pss_cons (ps_expr (pe_callG (ok_f_must_reading T) (hr.mono (by decide)) (L2N.passes_call (L2N.takes_of rfl rfl rfl rfl) (fun _ _ _ _ h => h)) rfl (by exact (pa_cons (pe_methG0 (ok_Numbers_is_over T) (hr.mono (by decide)) pass0 (pv 2)) pa_nil))))
      (pss_one (ps_ret (pe_makeG (ok_Loop_init T) (hr.mono (by decide)) pass0 rfl (by exact (pa_cons (pv 0) (pa_cons (pv 3) pa_nil)))))))))), ?_⟩), b_f_read_loop F⟩
  · obtain ⟨q, n, row, rfl, _⟩ := h
    rfl
  · obtain ⟨q, n, row, rfl, hI, hn, hn4, k1, k2⟩ := h
    rw [whole_is] at k1
    have k2 : ∀ l, ((readNat 1 3 row).bind fun m => (readTimes (readBranch n) m.1 m.2).bind fun u => if u.2 = [] then some u.1 else none) = some l → ∀ a H', Ex H H' → NewAt H H' (fun H0 => LoopAt A H0 a n l) → Q (.ref a) H' := fun l hl => k2 l (by rw [whole_is]; exact hl)
    refine q_asgP (ep_Numbers (ev_var rfl) (ev_var rfl) hI) fun v H1 e1 hv => ?_
    obtain ⟨x, dx, rfl, nx, Z⟩ := hv
    have hx : H1 x ≠ none := by rw [Z.obj]; exact fun z => by cases z
    have hq : H1 q ≠ none := by rw [show H1 q = _ from Z.lst]; exact fun z => by cases z
    have exB : ∀ H', But x H1 H' → Ex H H' := fun H' b c o hc => b c o (ne_of_none hc nx) (e1 _ _ hc)
    have k : RdOut A x dx q n row H1 ((readNat 1 3 (row.drop 0)).bind fun m => (readTimes (readBranch n) m.1 m.2).bind fun u => if u.2 = [] then some (u.1, ([] : List Int)) else none) (fun l v H0 => ∃ a, v = .ref a ∧ LoopAt A H0 a n l) Q E := by
      have key : ((readNat 1 3 row).bind fun m => (readTimes (readBranch n) m.1 m.2).bind fun u => if u.2 = [] then some u.1 else none) = ((readNat 1 3 (row.drop 0)).bind fun m => (readTimes (readBranch n) m.1 m.2).bind fun u => if u.2 = [] then some (u.1, ([] : List Int)) else none).map Prod.fst := by
        rw [List.drop_zero]
        cases readNat 1 3 row with
        | none => rfl
        | some m =>
          show ((readTimes (readBranch n) m.1 m.2).bind fun u => if u.2 = [] then some u.1 else none) = ((readTimes (readBranch n) m.1 m.2).bind fun u => if u.2 = [] then some (u.1, ([] : List Int)) else none).map Prod.fst
          cases readTimes (readBranch n) m.1 m.2 with
          | none => rfl
          | some u =>
            show (if u.2 = [] then some u.1 else none) = (if u.2 = [] then some (u.1, ([] : List Int)) else none).map Prod.fst
            split <;> rfl
      rw [key] at k1
      refine ⟨fun ho H' b => k1 (by rw [ho]; rfl) H' (exB H' b), fun u rest ho v H' j b z d nn => ?_⟩
      obtain ⟨N, f, eN, a, rfl, hL⟩ := nn
      exact k2 u (by rw [key, ho]; rfl) a H' (exB H' b) ⟨N, fun c o hc => f c o (e1 _ _ hc), eN, hL⟩
    refine q_asgL (el_lst ea_nil (Nat.zero_le _)) fun p H2 np e2 hp => ?_
    refine q_forRR (EvR.nat (lo := 1) (hi := 3) (er_take (ev_var rfl) ev_c ev_c (Z.mono e2))) (but_of e2) k fun u rest H3 j ho b3 b3' Z3 d3 k3 => ⟨by have := rdn_in ho; omega, ?_⟩
    subst d3
    have px : p ≠ x := fun z => by subst z; exact hx np
    have hp3 : H3 p = some (.lst []) := b3' _ _ px hp
    refine ⟨Reads A x dx q n row H1 H3 p (fun t v H => BranchV A H v t) (readBranch n) u (fun u => if u.2 = [] then some (u.1, ([] : List Int)) else none) (fun l v H0 => ∃ a, v = .ref a ∧ LoopAt A H0 a n l) Q E [some (.int ((n : Nat) : Int)), some (.ref q), some (.ref x), some (.ref p), none] 4, reads_start (But2.refl _ _ _) Z3 hp3 k3, fun i σ' H' hi st => ?_, fun σ' H' st => ?_⟩
    · exact reads_step (w := .int ((i : Nat) : Int)) (ip := 3) st hi (by have := rdn_in ho; omega) BranchV.m b3 np hx hq rfl (by decide) (fun H4 j Z4 => er_take_branch (ev_var rfl) Z4 hn hn4) fun σ2 H4 st => st
    · obtain ⟨hs, b4, bs, j4, lbs, Z4, g4, k4⟩ := reads_end st
      have bH : But x H1 H' := fun c o nc hc => b4 c o nc (ne_of_none hc np) (b3 c o nc hc)
      obtain ⟨y, hσ⟩ : ∃ y, σ' = [some (.int ((n : Nat) : Int)), some (.ref q), some (.ref x), some (.ref p), y] := by
        rcases hs with rfl | ⟨v, rfl⟩
        · exact ⟨_, rfl⟩
        · exact ⟨_, rfl⟩
      subst hσ
      have k4 : RdOut A x dx q n row H1 (if row.drop j4 = [] then some (bs, ([] : List Int)) else none) (fun l v H0 => ∃ a, v = .ref a ∧ LoopAt A H0 a n l) Q E := k4
      have ov : decide (j4 = row.length) = true ↔ row.drop j4 = [] := by
        rw [decide_eq_true_iff, List.drop_eq_nil_iff]
        have := Z4.le
        omega
      refine q_mustR (ev_is_over (ev_var rfl) Z4) (fun hb H5 e5 => ?_) (fun hb H5 e5 => ?_)
      · have hd := ov.mp hb
        rw [if_pos hd] at k4
        refine s_retM ?_
        refine cons_ev (ev_var rfl) fun H6 e6 => ?_
        refine cons_ev (ev_var rfl) fun H7 e7 => ?_
        have e57 := (e5.trans e6).trans e7
        have b7 := bH.trans (but_of (rw := x) e57)
        refine mk_raw rfl fun z dz H8 e8 nz hz => ?_
        have nz0 : H1 z = none := fresh_but b7 (by rw [(Z4.mono e57).obj]; exact fun y => by cases y) nz
        have e58 := e57.trans e8
        refine k4.2 bs [] rfl (.ref z) H8 j4 (b7.trans (but_of e8)) (Z4.mono e58) hd ?_
        have d1 := (g4.later e58).done BranchV.m np
        refine (NewAt.and (NewAt.obj hz nz0) d1 (fun _ _ e h => e _ _ h) (fun _ _ e ⟨zs, h1, h2⟩ => ⟨zs, e _ _ h1, Paired.imp2 h2 fun _ _ y => BranchV.m _ _ _ _ e y⟩)).imp fun H9 h9 => ?_
        obtain ⟨h1, ⟨zs, h2, h3⟩⟩ := h9
        exact ⟨z, rfl, dz, p, zs, h1, h2, h3⟩
      · have hd : ¬ row.drop j4 = [] := fun z => by rw [ov.mpr z] at hb; cases hb
        rw [if_neg hd] at k4
        exact k4.1 rfl H5 (bH.trans (but_of e5))


end LW

set_option maxRecDepth 100000
set_option maxHeartbeats 4000000

/-! Part W9 -/
namespace LW
open PySem PySem.Spec PyProof.Rows L2 LL
open Evl (Ex Ev EvT EvL EvU EvA EvO fresh_back ex_l ex_t ev_var ev_c s_ret s_retL s_retU q_asg q_asgL q_asgU s_asg s_asgL q_when s_when s_if q_if et_and et_or et_not ea_nil ea_cons el_lst eu_tup ev_if eo_none eo_some el_sl sq_of st_of sz_of s_app s_appL q_app q_appL s_drop q_drop s_forL q_forL q_forLn s_forLn q_while s_while q_forR1 q_forR2 q_forNL q_forNLn q_setL s_setL q_cut)
open VaaclBase (Values Move Test Branch Loop valueAt given moved holds allHold chosen branchAt okTest)


open Vaacld (timesOf patternAt moveOf branchesFrom leap leapsFrom leaps roundsOf allRounds doneIn phaseTold howNumber State Call step)
open VaaclBase (readInt readNat readTimes readLoop readBegin whole flatLoop runLoop flatOut)
/-! ### the exception Refusal -/
def sp_Refusal_init (K : PySem.W.Frag) (A : Ad) : Sp := fun vs H Q _ => ∃ a k, vs = [.ref a, .int k] ∧ OexC K A.cRefusal ∧ PySem.W.findIn K (.ref A.cRefusal) "number" = some none ∧ H a = some (exo a A.cRefusal none) ∧ ∀ d, H d = none → d ≠ a → Q .non (upd (upd H d (exd d [("number", .int k)])) a (exo a A.cRefusal (some d)))
theorem sc_Refusal_init : FnScope ["self", "number"] ["self", "number"] (defScope s_Refusal_init) := ⟨rfl, rfl, rfl, by decide +kernel, rfl, by decide +kernel, by decide +kernel⟩
theorem b_Refusal_init {K : PySem.W.Frag} {f : Addr} {fd : FuncData} (F : Fun K "__init__" "Refusal.__init__" s_Refusal_init f fd) : Binds K fd ["self", "number"] [] := F.binds fun _ _ _ _ _ _ us hl => match us, hl with | [_, _], _ => rfl
theorem ok_Refusal_init {P : Program} {w : World} {K : PySem.W.Frag} {mg : Str → Option Value} {base : Heap} {A : Ad} (T : Txt K mg A) : ∃ (f : Addr) (fd : FuncData), PySem.W.findIn K (.ref A.cRefusal) "__init__" = some (some (.ref f)) ∧ PySem.W.typeIn K (.ref f) = some (.type "function") ∧ FnOk P w K mg base CX0 1 f fd ["self", "number"] (sp_Refusal_init K A) ∧ L2H.FnH P w K mg base CX0 1 f fd ["self", "number"] (sp_Refusal_init K A) ∧ L2.Binds K fd ["self", "number"] [] := by
  obtain ⟨f, fd, h1, h2, F⟩ := T.iRf
  refine ⟨f, fd, h1, h2, F.ok sc_Refusal_init (fun vs H Q E h => ?_) (fun cdv A1 outer s H vs Q E hr h => ⟨_, (pss_cons (ps_expr (pe_veinit rfl T.n_ValueError T.vVE (by exact (pa_cons (pv 0) (pa_cons pe_str pa_nil))))) (pss_one (ps_ost (pv 0) (pv 1)))), ?_⟩), ?_, b_Refusal_init F⟩
  · obtain ⟨a, k, rfl, _⟩ := h
    rfl
  · obtain ⟨a, k, rfl, o, fn, ha, q⟩ := h
    refine ⟨_, rfl, a, A.cRefusal, _, rfl, (by show 1 ≤ 1000; decide), o, ha, ?_⟩
    exact ⟨_, rfl, _, rfl, a, A.cRefusal, rfl, o, fn, Or.inl ⟨ha, q⟩⟩
  · obtain ⟨oc, od, kV, doc, pm, an, cdv, ct, osl, rfl, lk, hcd⟩ := F.ex
    refine L2H.fn_ofH lk hcd sc_Refusal_init (fun vs H Q E h => ?_) (fun A1 outer s H vs Q E p hot hr h => ⟨_, (pss_cons (ps_expr (pe_veinit rfl T.n_ValueError T.vVE (by exact (pa_cons (pv 0) (pa_cons pe_str pa_nil))))) (pss_one (ps_ost (pv 0) (pv 1)))), ?_⟩)
    · obtain ⟨a, k, rfl, _⟩ := h
      rfl
    · obtain ⟨a, k, rfl, o, fn, ha, q⟩ := h
      refine ⟨_, rfl, a, A.cRefusal, _, rfl, (by show 1 ≤ 1000; decide), o, ha, ?_⟩
      exact ⟨_, rfl, _, rfl, a, A.cRefusal, rfl, o, fn, Or.inl ⟨ha, q⟩⟩

def sp_f_must_leaps (A : Ad) : Sp := fun vs H Q E => ∃ b k, vs = [.bl b, .int k] ∧ (b = true → ∀ H', Ex H H' → Q .non H') ∧ (b = false → ∀ d H', Ex H H' → H' d = some (.xd [("number", .int k)]) → E (.ref A.cRefusal) (some d) H')
theorem sc_f_must_leaps : FnScope ["truth", "number"] ["truth", "number"] (defScope s_f_must_leaps) := ⟨rfl, rfl, rfl, by decide +kernel, rfl, by decide +kernel, by decide +kernel⟩
theorem b_f_must_leaps {K : PySem.W.Frag} {f : Addr} {fd : FuncData} (F : Fun K "must" "must" s_f_must_leaps f fd) : Binds K fd ["truth", "number"] [] := F.binds fun _ _ _ _ _ _ us hl => match us, hl with | [_, _], _ => rfl
theorem ok_f_must_leaps {P : Program} {w : World} {K : PySem.W.Frag} {mg : Str → Option Value} {base : Heap} {A : Ad} (T : Txt K mg A) : FnG P w K mg base (L2.CX P w) 3 "must_leaps" ["truth", "number"] (sp_f_must_leaps A) := by
  obtain ⟨f, fd, hm, F⟩ := T.d_f_must_leaps
  obtain ⟨fI, fdI, hI, tI, F1, FH, bI⟩ := ok_Refusal_init (P := P) (w := w) (base := base) T
  refine ⟨f, fd, hm, F.kp, F.okX sc_f_must_leaps (fun vs H Q E h => ?_) (fun cdv A1 outer s H vs Q E hr h => ⟨_, (pss_one (ps_if (pt_not (pt_val (pv 0))) (pss_one (L2.ps_raise rfl (L2.takes_of rfl rfl rfl rfl) (pmk_oex T.oRf hI tI F1 hr bI .nil pass0 rfl T.gRf (by exact (pa_cons (pv 1) pa_nil))))) pss_nil)), ?_⟩), b_f_must_leaps F⟩
  · obtain ⟨b, k, rfl, _⟩ := h
    rfl
  · obtain ⟨b, k, rfl, k1, k2⟩ := h
    refine s_when (b := !b) (et_not (et_b (ev_var rfl))) (fun hb H1 e1 => ?_) (fun hb H1 e1 => ?_)
    · refine ⟨_, rfl, (by show 1 ≤ 1000; decide), fun a na => ?_⟩
      refine ⟨a, k, rfl, T.oRf, T.nRf, upd_same, fun d nd nda => ⟨rfl, d, [("number", .int k)], upd_same, ?_, ?_, ?_⟩⟩
      · rw [upd_ne nda, upd_same]
      · rw [upd_ne nda] at nd
        exact nd
      · refine k2 (by cases b <;> first | rfl | (cases hb)) d _ (fun b o hb => ?_) upd_same
        have hb1 := e1 _ _ hb
        rw [upd_ne nda] at nd
        have nba := ne_of_none hb1 na
        have nbd := ne_of_none hb1 nd
        rw [upd_ne nbd, del_ne nba, upd_ne nba, upd_ne nbd, upd_ne nba]
        exact hb1
    · exact k1 (by cases b <;> first | rfl | (cases hb)) H1 e1
section
variable {K : PySem.W.Frag} {A : Ad} {σ : L2.St} {H : Hp} {tb tk : TE} {E : XK} {b : Bool} {k : Int} {D : Ends} {tz : TS}
theorem q_mustL (h : Ev tb σ H (.bl b)) (hk : Ev tk σ H (.int k)) (k1 : b = true → ∀ H1, Ex H H1 → tz D σ H1) (k2 : b = false → ∀ d H1, Ex H H1 → H1 d = some (.xd [("number", .int k)]) → E (.ref A.cRefusal) (some d) H1) : tSeq (tDrop (tCall (sp_f_must_leaps A) [] E (tCons tb (tCons tk tNil)))) tz D σ H :=
  h H (Ex.refl H) _ fun H0 e0 => hk H0 e0 _ fun H1 e1 => ⟨b, k, rfl, fun hb H2 e2 => k1 hb H2 ((e0.trans e1).trans e2), fun hb d H2 e2 hd => k2 hb d H2 ((e0.trans e1).trans e2) hd⟩
end
/-! ### the Holder in the heap -/
def fH (a p : Addr) : List (Str × V) := [("loop", .ref a), ("amounts", .ref p)]
structure HoldP (A : Ad) (h : Addr) (dx : Addr × Addr) (a p : Addr) (n : Nat) (s : State) (H : Hp) : Prop where
  sub : ∃ H0 : Hp, H0 h = none ∧ H0 dx.2 = none ∧ Ex H0 H ∧ LoopAt A H0 a n s.loop
  obj : H h = some (.ins A.cHolder dx.1 (fH a p))
  tup : TupAt H p s.values
  wf : WfLoop n s.loop
  len : s.values.length = n
  bnd : Bnd (10 ^ 12) s.values
  out : ∃ u, H dx.2 = some u
theorem out_upd {H : Hp} {o h : Addr} {v : HO} (e : ∃ u, H o = some u) : ∃ u, upd H h v o = some u := by
  by_cases c : o = h
  · subst c; exact ⟨_, upd_same⟩
  · rw [upd_ne c]; exact e
/-- dx: where its names stand, and another object that stands outside -/
def HoldZ (A : Ad) (h : Addr) (dx : Addr × Addr) (s : State) (H : Hp) : Prop := ∃ a p n, HoldP A h dx a p n s H
section
variable {A : Ad} {h : Addr} {dx : Addr × Addr} {a p p' : Addr} {n : Nat} {s : State} {v : Values} {H H' : Hp}
theorem HoldP.mono (z : HoldP A h dx a p n s H) (e : Ex H H') : HoldP A h dx a p n s H' := by
  obtain ⟨⟨H0, n0, n1, e0, hL⟩, h1, h2, h3, h4, h5, ⟨u, h6⟩⟩ := z
  exact ⟨⟨H0, n0, n1, e0.trans e, hL⟩, e _ _ h1, e _ _ h2, h3, h4, h5, ⟨u, e _ _ h6⟩⟩
theorem HoldZ.mono (z : HoldZ A h dx s H) (e : Ex H H') : HoldZ A h dx s H' := by
  obtain ⟨a, p, n, z⟩ := z
  exact ⟨a, p, n, z.mono e⟩
theorem HoldP.loop (z : HoldP A h dx a p n s H) : LoopAt A H a n s.loop := by
  obtain ⟨H0, n0, n1, e0, hL⟩ := z.sub
  exact hL.mono e0
theorem HoldP.put (z : HoldP A h dx a p n s H) (hp : TupAt H p' v) (hl : v.length = n) (hb : Bnd (10 ^ 12) v) : HoldZ A h dx { s with values := v } (upd H h (.ins A.cHolder dx.1 (fH a p'))) := by
  obtain ⟨⟨H0, n0, n1, e0, hL⟩, h1, h2, h3, h4, h5, h6⟩ := z
  refine ⟨a, p', n, ⟨⟨H0, n0, n1, e0.mut n0, hL⟩, upd_same, ?_, h3, hl, hb, out_upd h6⟩⟩
  show upd H h _ p' = _
  rw [upd_ne (ne_of hp h1 (by intro z; cases z))]
  exact hp
end
theorem putF_am {a p p' : Addr} : putF "amounts" (.ref p') (fH a p) = fH a p' := rfl
theorem putF_lo {a a' p : Addr} : putF "loop" (.ref a') (fH a p) = fH a' p := rfl
/-- what a call gives back -/
def Out1 (A : Ad) (h : Addr) (dx : Addr × Addr) (s : State) (c : Call) (H : Hp) (Q : VK) : Prop := ∀ v H' s' ans, But h H H' → HoldZ A h dx s' H' → NewAt H H' (IsInts ans v) → step s c = (s', ans) → Q v H'
def Out2 (A : Ad) (h : Addr) (dx : Addr × Addr) (s : State) (c : Call) (H : Hp) (E : XK) : Prop := ∀ d H' k, But h H H' → HoldZ A h dx s H' → H' d = some (.xd [("number", .int k)]) → step s c = (s, [k]) → E (.ref A.cRefusal) (some d) H'
section
variable {A : Ad} {h : Addr} {dx : Addr × Addr} {s : State} {c : Call} {H H1 : Hp} {Q : VK} {E : XK}
theorem Out1.ex (o : Out1 A h dx s c H Q) (e : Ex H H1) : Out1 A h dx s c H1 Q := fun v H' s' ans b z n st => o v H' s' ans ((but_of e).trans b) z (n.earlier e) st
theorem Out2.ex (o : Out2 A h dx s c H E) (e : Ex H H1) : Out2 A h dx s c H1 E := fun d H' k b z hd st => o d H' k ((but_of e).trans b) z hd st
/-- a list that's returned -/
theorem s_retO {σ : L2.St} {te : TE} {D : Ends} {xs : List Int} (o : Out1 A h dx s c H D.rt) (z : HoldZ A h dx s H) (hv : EvL te σ H (xs.map V.int)) (st : step s c = (s, xs)) : tRet te D σ H :=
  s_retL hv fun r H1 nr e1 hr => o (.ref r) H1 s xs (but_of e1) (z.mono e1) ((NewAt.obj hr nr).imp fun H z => ⟨r, rfl, z⟩) st
/-- the same, the values changed before -/
theorem s_retO' {σ : L2.St} {te : TE} {D : Ends} {xs : List Int} {Hs : Hp} {s' : State} (o : Out1 A h dx s c Hs D.rt) (b : But h Hs H) (hh : ∃ u, H h = some u) (z : HoldZ A h dx s' H) (hv : EvL te σ H (xs.map V.int)) (st : step s c = (s', xs)) : tRet te D σ H :=
  s_retL hv fun r H1 nr e1 hr => o (.ref r) H1 s' xs (b.trans (but_of e1)) (z.mono e1) ((NewAt.obj hr (by
    cases y : Hs r with
    | none => rfl
    | some u =>
      by_cases c : r = h
      · subst c
        obtain ⟨u, hu⟩ := hh
        rw [hu] at nr; cases nr
      · rw [b r u c y] at nr; cases nr)).imp fun H z => ⟨r, rfl, z⟩) st
end
theorem el_if {σ : L2.St} {H : Hp} {t : TT} {ta tb : TE} {b : Bool} {xs : List V} (h : EvT t σ H b) (h1 : b = true → EvL ta σ H xs) (h2 : b = false → EvL tb σ H xs) : EvL (tIf t ta tb) σ H xs := fun H1 e Q k => h H1 e _ fun H2 e2 => by
  cases b with
  | true =>
    show ta σ H2 Q
    exact h1 rfl H2 (e.trans e2) Q fun p H3 np e3 hp => k p H3 (fresh_back e2 np) (e2.trans e3) hp
  | false =>
    show tb σ H2 Q
    exact h2 rfl H2 (e.trans e2) Q fun p H3 np e3 hp => k p H3 (fresh_back e2 np) (e2.trans e3) hp
theorem q_fldU {K : PySem.W.Frag} {σ : L2.St} {H : Hp} {ta tv : TE} {D : Ends} {tz : TS} {xs : List V} {f : Str} {x C dx : Addr} {fs : List (Str × V)} (hv : EvU tv σ H xs) (ho : Ev ta σ H (.ref x)) (hx : H x = some (.ins C dx fs)) (hc : Cls K C) (hn : NoAttr K C f) (hz : fs.length < 1000) (k : ∀ p H1, H p = none → Ex H H1 → H1 p = some (.tup xs) → tz D σ (upd H1 x (.ins C dx (putF f (.ref p) fs)))) : tSeq (sFld K ta tv f) tz D σ H :=
  hv H (Ex.refl H) _ fun p H1 np e1 hp => ho H1 e1 _ fun H2 e2 => ⟨x, C, dx, fs, rfl, (e1.trans e2) _ _ hx, hc, hn, hz, k p H2 np (e1.trans e2) (e2 _ _ hp)⟩
theorem cons_L {σ : L2.St} {H : Hp} {te : TE} {tr : TA} {xs : List V} {Q : List V → Hp → Prop} (h : EvL te σ H xs) (k : ∀ p H1, H p = none → Ex H H1 → H1 p = some (.lst xs) → tr σ H1 fun vs H2 => Q (.ref p :: vs) H2) : tCons te tr σ H Q := h H (Ex.refl H) _ k
theorem tup_list {σ : L2.St} {H : Hp} {K : PySem.W.Frag} {ta : TE} {p : Addr} {s : Values} (ha : Ev ta σ H (.ref p)) (hp : TupAt H p s) : EvL (tCB (fun xs H Q => ∃ p ys, xs = [.ref p] ∧ (SqL K H p ys ∨ SqT K H p ys) ∧ ∀ l, H l = none → Q (.ref l) (upd H l (.lst ys))) (tCons ta tNil)) σ H (s.map V.int) := el_list ha (Or.inr (SqT.of hp))
theorem ev_gt {σ : L2.St} {H : Hp} {K : PySem.W.Frag} {xs : List V} {Q : VK} (k : ∀ a, (∀ H, SqT K H a xs) → Q (.ref a) H) : tGT K xs σ H Q := k
def sp_Holder_init (A : Ad) : Sp := fun vs H Q _ => ∃ x dx, vs = [.ref x] ∧ H x = some (.ins A.cHolder dx []) ∧ ∀ H', (∀ b o, b ≠ x → H b = some o → H' b = some o) → HoldZ A x (dx, x) Vaacld.start H' → Q .non H'
theorem first_loop : whole (readLoop 1) [1, 2, 0, 0, -1, 1, 0, 0, 1, 0, 0] = some Vaacld.start.loop := by decide +kernel
theorem sc_Holder_init : FnScope ["self"] ["self"] (defScope s_Holder_init) := ⟨rfl, rfl, rfl, by decide +kernel, rfl, by decide +kernel, by decide +kernel⟩
theorem b_Holder_init {K : PySem.W.Frag} {f : Addr} {fd : FuncData} (F : Fun K "__init__" "Holder.__init__" s_Holder_init f fd) : Binds K fd ["self"] [] := F.binds fun _ _ _ _ _ _ us hl => match us, hl with | [_], _ => rfl
theorem ok_Holder_init {P : Program} {w : World} {K : PySem.W.Frag} {mg : Str → Option Value} {base : Heap} {A : Ad} (T : Txt K mg A) : MkG P w K mg base CX0 7 A.cHolder "Holder" ["self"] (sp_Holder_init A) := by
  obtain ⟨f, fd, hm, M, F⟩ := T.d_Holder_init
  refine ⟨f, fd, hm, M, F.ok sc_Holder_init (fun vs H Q E h => ?_) (fun cdv A1 outer s H vs Q E hr h => ⟨_, (pss_cons (ps_fld (pv 0) (pe_callG (ok_f_read_loop T) (hr.mono (by decide)) passLN rfl (by exact (pa_cons pe_int (pa_cons (pe_callTy call_list_of (by rfl) T.n_list (by decide +kernel) (by exact (pa_cons (pe_gt T.t_FIRST_LOOP rfl) pa_nil))) pa_nil)))) rfl)
      (pss_one (ps_fld (pv 0) (pe_tup (by exact (pa_cons pe_int pa_nil))) rfl))), ?_⟩), b_Holder_init F⟩
  · obtain ⟨x, dx, rfl, _⟩ := h
    rfl
  · obtain ⟨x, dx, rfl, hx, k⟩ := h
    refine fun a ha => ?_
    refine ⟨a, [.int 1, .int 2, .int 0, .int 0, .int (-1), .int 1, .int 0, .int 0, .int 1, .int 0, .int 0], rfl, Or.inr (ha H), fun q nq => ?_⟩
    have e2 : Ex H _ := (Ex.new (o := .lst [.int 1, .int 2, .int 0, .int 0, .int (-1), .int 1, .int 0, .int 0, .int 1, .int 0, .int 0]) nq)
    refine ⟨q, 1, [1, 2, 0, 0, -1, 1, 0, 0, 1, 0, 0], rfl, upd_same, by decide, by decide, fun z => (by rw [first_loop] at z; cases z), fun l hl a H' e' n' => ?_⟩
    rw [first_loop] at hl
    injection hl with hl
    subst hl
    have hx' := e' _ _ (e2 _ _ hx)
    obtain ⟨N, fN, eN, hL⟩ := n'
    have Nx : N x = none := fN _ _ (e2 _ _ hx)
    refine ⟨_, rfl, x, A.cHolder, dx, _, rfl, hx', T.cls_Holder, T.na_Holder_loop, (by show 0 < 1000; decide), ?_⟩
    refine ⟨(by show 1 ≤ sizeLine; decide), fun p np => ?_⟩
    have npx : p ≠ x := fun z => by subst z; rw [upd_same] at np; cases np
    have np2 : H' p = none := by rw [upd_ne npx] at np; exact np
    refine ⟨_, rfl, x, A.cHolder, dx, _, rfl, (by rw [upd_ne npx.symm]; exact upd_same), T.cls_Holder, T.na_Holder_amounts, (by show 1 < 1000; decide), ?_⟩
    refine k _ (fun b o hb ho => ?_) ⟨a, p, 1, ⟨N, Nx, Nx, fun b o hb => ?_, hL⟩, upd_same, ?_, ?_, rfl, fun i => ?_, ⟨_, upd_same⟩⟩
    · have hb' := e' _ _ (e2 _ _ ho)
      rw [upd_ne hb, upd_ne (ne_of_none hb' np2), upd_ne hb]
      exact hb'
    · have nb := ne_of_none hb Nx
      have hb' := eN _ _ hb
      rw [upd_ne nb, upd_ne (ne_of_none hb' np2), upd_ne nb]
      exact hb'
    · show upd _ x _ p = _
      rw [upd_ne npx, upd_same]
      rfl
    · exact readLoop_ok (n := 1) (by decide) (by decide) first_loop
    · by_cases c : i < 1
      · have : i = 0 := by omega
        subst this
        decide
      · rw [va_ge (by show 1 ≤ i; omega)]
        decide

def sp_Holder_chosen (A : Ad) : Sp := fun vs H Q _ => ∃ h dx s, vs = [.ref h] ∧ HoldZ A h dx s H ∧ ∀ H', Ex H H' → Q (vO (chosen s.loop s.values)) H'
theorem sc_Holder_chosen : FnScope ["self"] ["self"] (defScope s_Holder_chosen) := ⟨rfl, rfl, rfl, by decide +kernel, rfl, by decide +kernel, by decide +kernel⟩
theorem b_Holder_chosen {K : PySem.W.Frag} {f : Addr} {fd : FuncData} (F : Fun K "chosen" "Holder.chosen" s_Holder_chosen f fd) : Binds K fd ["self"] [] := F.binds fun _ _ _ _ _ _ us hl => match us, hl with | [_], _ => rfl
theorem ok_Holder_chosen {P : Program} {w : World} {K : PySem.W.Frag} {mg : Str → Option Value} {base : Heap} {A : Ad} (T : Txt K mg A) : MtG P w K mg base CX0 5 A.cHolder "chosen" ["self"] (sp_Holder_chosen A) := by
  obtain ⟨f, fd, hc, hm, F⟩ := T.d_Holder_chosen
  refine ⟨f, fd, hc, hm, F.ok sc_Holder_chosen (fun vs H Q E h => ?_) (fun cdv A1 outer s H vs Q E hr h => ⟨_, (pss_one (ps_ret (pe_methG (ok_Loop_chosen T) (hr.mono (by decide)) pass0 (pe_fld (pv 0) rfl) (by exact (pa_cons (pe_fld (pv 0) rfl) pa_nil))))), ?_⟩), b_Holder_chosen F⟩
  · obtain ⟨x, dx, s, rfl, _⟩ := h
    rfl
  · obtain ⟨x, dx, s, rfl, ⟨a, p, n, Z⟩, k⟩ := h
    exact s_ret (ev_Loop_chosen (ev_fld (ev_var rfl) Z.obj T.cls_Holder T.na_Holder_loop rfl) (ev_fld (ev_var rfl) Z.obj T.cls_Holder T.na_Holder_amounts rfl) Z.loop Z.tup Z.wf Z.len) fun H1 e1 => k H1 e1
section
variable {K : PySem.W.Frag} {A : Ad} {σ : L2.St} {H : Hp} {to : TE} {E : XK} {h : Addr} {dx : Addr × Addr} {s : State}
theorem ev_Holder_chosen (ho : Ev to σ H (.ref h)) (z : HoldZ A h dx s H) : Ev (tMeth A.cHolder "chosen" (sp_Holder_chosen A) [] E to tNil) σ H (vO (chosen s.loop s.values)) := fun H1 e1 Q k =>
  ho H1 e1 _ fun H2 e2 => by
    obtain ⟨a, p, n, Z⟩ := z
    have Z2 := Z.mono (e1.trans e2)
    exact ⟨h, dx.1, _, rfl, Z2.obj, rfl, h, dx, s, rfl, ⟨a, p, n, Z2⟩, fun H' e3 => k H' (e2.trans e3)⟩
end
def sp_Holder_leaps (A : Ad) : Sp := fun vs H Q _ => ∃ h dx s, vs = [.ref h] ∧ HoldZ A h dx s H ∧ ∀ x w a n H', Ex H H' → LeapsZ A h x w a s.loop n (leaps s.loop s.values).values (leaps s.loop s.values).phases (.int (howNumber (leaps s.loop s.values).how)) H' → (leaps s.loop s.values).values.length = n → WfLoop n s.loop → n = s.values.length → Q (.ref x) H'
theorem sc_Holder_leaps : FnScope ["self"] ["self"] (defScope s_Holder_leaps) := ⟨rfl, rfl, rfl, by decide +kernel, rfl, by decide +kernel, by decide +kernel⟩
theorem b_Holder_leaps {K : PySem.W.Frag} {f : Addr} {fd : FuncData} (F : Fun K "leaps" "Holder.leaps" s_Holder_leaps f fd) : Binds K fd ["self"] [] := F.binds fun _ _ _ _ _ _ us hl => match us, hl with | [_], _ => rfl
theorem ok_Holder_leaps {P : Program} {w : World} {K : PySem.W.Frag} {mg : Str → Option Value} {base : Heap} {A : Ad} (T : Txt K mg A) : MtG P w K mg base CX0 13 A.cHolder "leaps" ["self"] (sp_Holder_leaps A) := by
  obtain ⟨f, fd, hc, hm, F⟩ := T.d_Holder_leaps
  refine ⟨f, fd, hc, hm, F.ok sc_Holder_leaps (fun vs H Q E h => ?_) (fun cdv A1 outer s H vs Q E hr h => ⟨_, (pss_one (ps_ret (pe_makeG (ok_Leaps_init T) (hr.mono (by decide)) pass0 rfl (by exact (pa_cons (pe_fld (pv 0) rfl) (pa_cons (pe_fld (pv 0) rfl) pa_nil)))))), ?_⟩), b_Holder_leaps F⟩
  · obtain ⟨x, dx, s, rfl, _⟩ := h
    rfl
  · obtain ⟨h, dx, s, rfl, ⟨a, p, n, Z⟩, k⟩ := h
    refine s_retM ?_
    refine cons_ev (ev_fld (ev_var rfl) Z.obj T.cls_Holder T.na_Holder_loop rfl) fun H1 e1 => ?_
    refine cons_ev (ev_fld (ev_var rfl) (e1 _ _ Z.obj) T.cls_Holder T.na_Holder_amounts rfl) fun H2 e2 => ?_
    have Z2 := Z.mono (e1.trans e2)
    refine fun x dy nx nd ne => ?_
    have e3 : Ex H2 (upd (upd H2 dy (.own x)) x (.ins A.cLeaps dy [])) := fun b o hb => by rw [upd_ne (ne_of_none hb nx), upd_ne (ne_of_none hb nd)]; exact hb
    have xh : x ≠ h := (ne_of_none Z2.obj nx).symm
    obtain ⟨H0, n0, n1, e0, hL⟩ := Z2.sub
    have H0x : H0 x = none := by
      cases y : H0 x with
      | none => rfl
      | some o => rw [e0 _ _ y] at nx; cases nx
    refine ⟨h, x, dy, a, p, s.loop, n, s.values, rfl, upd_same, xh, ⟨_, _, _, e3 _ _ Z2.obj⟩, ⟨H0, n0, H0x, e0.trans e3, hL⟩, e3 _ _ Z2.tup, Z.wf, Z.len, Z.bnd, fun H' w keep LZ hl => ⟨rfl, ?_⟩⟩
    exact k x w a n H' ((e1.trans e2).trans fun b o hb => keep b o (ne_of_none hb nx) (e3 _ _ hb)) LZ hl Z.wf Z.len.symm
section
variable {K : PySem.W.Frag} {A : Ad} {σ : L2.St} {H : Hp} {to : TE} {E : XK} {h : Addr} {dx : Addr × Addr} {s : State} {D : Ends} {tz : TS} {i : Nat}
theorem q_Holder_leaps (ho : Ev to σ H (.ref h)) (z : HoldZ A h dx s H) (k : ∀ x w a n H', Ex H H' → LeapsZ A h x w a s.loop n (leaps s.loop s.values).values (leaps s.loop s.values).phases (.int (howNumber (leaps s.loop s.values).how)) H' → (leaps s.loop s.values).values.length = n → WfLoop n s.loop → n = s.values.length → tz D (σ.set i (some (.ref x))) H') : tSeq (tAsg (tMeth A.cHolder "leaps" (sp_Holder_leaps A) [] E to tNil) (gName i)) tz D σ H :=
  ho H (Ex.refl H) _ fun H1 e1 => by
    obtain ⟨a, p, n, Z⟩ := z
    have Z2 := Z.mono e1
    exact ⟨h, dx.1, _, rfl, Z2.obj, rfl, h, dx, s, rfl, ⟨a, p, n, Z2⟩, fun x w a n H' e LZ hl wf hn => k x w a n H' (e1.trans e) LZ hl wf hn⟩
end
def sp_f_chosen (A : Ad) : Sp := fun vs H Q _ => ∃ h dx s, vs = [.ref h] ∧ HoldZ A h dx s H ∧ Out1 A h dx s .chosen H Q
theorem sc_f_chosen : FnScope ["holder", "number"] ["holder"] (defScope s_f_chosen) := ⟨rfl, rfl, rfl, by decide +kernel, rfl, by decide +kernel, by decide +kernel⟩
theorem b_f_chosen {K : PySem.W.Frag} {f : Addr} {fd : FuncData} (F : Fun K "chosen" "chosen" s_f_chosen f fd) : Binds K fd ["holder"] [] := F.binds fun _ _ _ _ _ _ us hl => match us, hl with | [_], _ => rfl
theorem ok_f_chosen {P : Program} {w : World} {K : PySem.W.Frag} {mg : Str → Option Value} {base : Heap} {A : Ad} (T : Txt K mg A) : FnG P w K mg base CX0 6 "chosen" ["holder"] (sp_f_chosen A) := by
  obtain ⟨f, fd, hm, F⟩ := T.d_f_chosen
  refine ⟨f, fd, hm, F.kp, F.ok sc_f_chosen (fun vs H Q E h => ?_) (fun cdv A1 outer s H vs Q E hr h => ⟨_, (pss_cons (ps_set (i := 1) sc_f_chosen.nd rfl (Or.inl rfl) (pe_methG0 (ok_Holder_chosen T) (hr.mono (by decide)) pass0 (pv 0)))
      (pss_one (ps_ret (pe_ifExp (pt_cmpR op_isN (pv 1) pe_non (nomark _)) (pe_lst (by exact (pa_cons pe_int pa_nil))) (pe_lst (by exact (pa_cons pe_int (pa_cons (pv 1) pa_nil)))))))), ?_⟩), b_f_chosen F⟩
  · obtain ⟨x, dx, s, rfl, _⟩ := h
    rfl
  · obtain ⟨h, dx, s, rfl, Z, o⟩ := h
    refine q_asg (ev_Holder_chosen (ev_var rfl) Z) fun H1 e1 => ?_
    cases hc : chosen s.loop s.values with
    | none =>
      refine s_retO (xs := [0]) (o.ex e1) (Z.mono e1) (el_if (b := true) (et_v (ev_is (ev_isN (ev_var rfl)) rfl)) (fun _ => el_lst (vs := [V.int 0]) (ea_cons ev_c ea_nil) (by show (1 : Nat) ≤ 100000; decide)) (fun h => by cases h)) ?_
      show (s, match chosen s.loop s.values with | none => ([0] : List Int) | some b => [1, Vaacld.int b]) = _
      rw [hc]
    | some b =>
      refine s_retO (xs := [1, ((b : Nat) : Int)]) (o.ex e1) (Z.mono e1) (el_if (b := false) (et_v (ev_is (ev_isN (ev_var rfl)) rfl)) (fun h => by cases h) (fun _ => el_lst (vs := [V.int 1, V.int ((b : Nat) : Int)]) (ea_cons ev_c (ea_cons (ev_var rfl) ea_nil)) (by show (2 : Nat) ≤ 100000; decide))) ?_
      show (s, match chosen s.loop s.values with | none => ([0] : List Int) | some b => [1, Vaacld.int b]) = _
      rw [hc]
      rfl

def sp_f_pattern (A : Ad) : Sp := fun vs H Q _ => ∃ h dx s, vs = [.ref h] ∧ HoldZ A h dx s H ∧ Out1 A h dx s .pattern H Q
theorem step_pattern (s : State) : step s .pattern = (s, VaaclBase.listed ((patternAt s.loop s.values).getD [])) := by
  show (s, match patternAt s.loop s.values with | none => ([0] : List Int) | some p => VaaclBase.listed p) = _
  cases patternAt s.loop s.values <;> rfl
theorem sc_f_pattern : FnScope ["holder", "found"] ["holder"] (defScope s_f_pattern) := ⟨rfl, rfl, rfl, by decide +kernel, rfl, by decide +kernel, by decide +kernel⟩
theorem b_f_pattern {K : PySem.W.Frag} {f : Addr} {fd : FuncData} (F : Fun K "pattern" "pattern" s_f_pattern f fd) : Binds K fd ["holder"] [] := F.binds fun _ _ _ _ _ _ us hl => match us, hl with | [_], _ => rfl
theorem ok_f_pattern {P : Program} {w : World} {K : PySem.W.Frag} {mg : Str → Option Value} {base : Heap} {A : Ad} (T : Txt K mg A) : FnG P w K mg base CX0 7 "pattern" ["holder"] (sp_f_pattern A) := by
  obtain ⟨f, fd, hm, F⟩ := T.d_f_pattern
  refine ⟨f, fd, hm, F.kp, F.ok sc_f_pattern (fun vs H Q E h => ?_) (fun cdv A1 outer s H vs Q E hr h => ⟨_, (pss_cons (ps_set (i := 1) sc_f_pattern.nd rfl (Or.inl rfl) (pe_callG (ok_f_pattern_at T) (hr.mono (by decide)) pass0 rfl (by exact (pa_cons (pe_fld (pv 0) rfl) (pa_cons (pe_fld (pv 0) rfl) pa_nil)))))
      (pss_one (ps_ret (pe_op op_cat (pe_lst (by exact (pa_cons (pe_callB call_len_seq (by rfl) T.n_len PySem.boot_len (by exact (pa_cons (pv 1) pa_nil))) pa_nil))) (pv 1))))), ?_⟩), b_f_pattern F⟩
  · obtain ⟨x, dx, s, rfl, _⟩ := h
    rfl
  · obtain ⟨h, dx, s, rfl, ⟨a, p, n, Z⟩, o⟩ := h
    refine q_asgN (en_pattern_at (ev_fld (ev_var rfl) Z.obj T.cls_Holder T.na_Holder_loop rfl) (ev_fld (ev_var rfl) Z.obj T.cls_Holder T.na_Holder_amounts rfl) Z.loop Z.tup Z.wf Z.len) fun v H1 e1 n1 => ?_
    obtain ⟨q, rfl, hq⟩ := n1.weak IsInts.mono
    have w3 := (patternAt_ok s.loop s.values).2
    have wl : ((nats ((patternAt s.loop s.values).getD [])).map V.int).length = ((patternAt s.loop s.values).getD []).length := by rw [List.length_map, nats_len]
    refine s_retO (xs := VaaclBase.listed ((patternAt s.loop s.values).getD [])) (o.ex e1) ⟨a, p, n, Z.mono e1⟩ ?_ (step_pattern s)
    have := el_catLV (σ := [some (.ref h), some (.ref q)]) (H := H1) (xs := [V.int ((nats ((patternAt s.loop s.values).getD [])).map V.int).length]) (el_lst (ea_cons (ev_len (K := K) (ev_var (i := 1) rfl) (Or.inl (SqL.of hq))) ea_nil) (by show (1 : Nat) ≤ 100000; decide)) (ev_var (i := 1) rfl) hq (by rw [wl]; show 1 + _ ≤ _; omega)
    rw [wl] at this
    exact this

def sp_f_given (A : Ad) : Sp := fun vs H Q _ => ∃ h dx s, vs = [.ref h] ∧ HoldZ A h dx s H ∧ Out1 A h dx s .given H Q
theorem sc_f_given : FnScope ["holder"] ["holder"] (defScope s_f_given) := ⟨rfl, rfl, rfl, by decide +kernel, rfl, by decide +kernel, by decide +kernel⟩
theorem b_f_given {K : PySem.W.Frag} {f : Addr} {fd : FuncData} (F : Fun K "given" "given" s_f_given f fd) : Binds K fd ["holder"] [] := F.binds fun _ _ _ _ _ _ us hl => match us, hl with | [_], _ => rfl
theorem ok_f_given {P : Program} {w : World} {K : PySem.W.Frag} {mg : Str → Option Value} {base : Heap} {A : Ad} (T : Txt K mg A) : FnG P w K mg base CX0 4 "given" ["holder"] (sp_f_given A) := by
  obtain ⟨f, fd, hm, F⟩ := T.d_f_given
  refine ⟨f, fd, hm, F.kp, F.ok sc_f_given (fun vs H Q E h => ?_) (fun cdv A1 outer s H vs Q E hr h => ⟨_, (pss_one (ps_ret (pe_op op_cat (pe_methG0 (ok_Loop_told T) (hr.mono (by decide)) pass0 (pe_fld (pv 0) rfl)) (pe_callTy call_list_of (by rfl) T.n_list (by decide +kernel) (by exact (pa_cons (pe_fld (pv 0) rfl) pa_nil)))))), ?_⟩), b_f_given F⟩
  · obtain ⟨x, dx, s, rfl, _⟩ := h
    rfl
  · obtain ⟨h, dx, s, rfl, ⟨a, p, n, Z⟩, o⟩ := h
    have n4 := Z.wf.four
    have lv := Z.len
    have fl := loopFlat_le Z.wf
    refine s_retO (xs := flatLoop s.loop ++ s.values) o ⟨a, p, n, Z⟩ ?_ rfl
    rw [List.map_append]
    refine el_catP (ep_Loop_told (ev_fld (ev_var rfl) Z.obj T.cls_Holder T.na_Holder_loop rfl) Z.loop Z.wf) (el_p (tup_list (ev_fld (ev_var rfl) Z.obj T.cls_Holder T.na_Holder_amounts rfl) Z.tup)) ?_
    rw [List.length_map, List.length_map]
    show (flatLoop s.loop).length + s.values.length ≤ 100000
    show (s.loop.flatMap VaaclBase.flatBranch).length + 1 + s.values.length ≤ 100000
    omega

theorem q_often {A : Ad} {σ : L2.St} {H : Hp} {to : TE} {E : XK} {a q : Addr} {l : Loop} {s : Values} {n : Nat} {pt : List Nat} {D : Ends} {tz : TS} {i : Nat} (h : EvP to σ H (fun v H' => ∃ x rw, v = .ref x ∧ H rw = none ∧ DoingAt A x rw a q l pt s n H')) (ok : DoingOk l pt s n) (k : ∀ H', Ex H H' → tz D (σ.set i (some (vI ((timesOf l pt s).map Int.ofNat)))) H') : tSeq (tAsg (tMeth A.cDoing "how_often" (sp_Doing_how_often A) [] E to tNil) (gName i)) tz D σ H :=
  h H (Ex.refl H) _ fun v H1 e1 hv => by
    obtain ⟨x, rw, rfl, nrw, hD⟩ := hv
    obtain ⟨zs, hz, Z⟩ := hD
    obtain ⟨dx, hx⟩ := Z.obj
    refine ⟨x, dx, _, rfl, hx, rfl, x, rw, a, q, l, pt, s, n, rfl, ⟨zs, hz, Z⟩, ok, fun v H' b d hv => ?_⟩
    subst hv
    exact k H' (b.ex nrw e1)
theorem step_times {s : State} (h : (patternAt s.loop s.values).getD [] ≠ []) : step s .times = (s, match timesOf s.loop ((patternAt s.loop s.values).getD []) s.values with | none => [0] | some q => [1, Vaacld.int q]) := by
  show (s, match patternAt s.loop s.values with | none => ([-4] : List Int) | some p => match timesOf s.loop p s.values with | none => [0] | some q => [1, Vaacld.int q]) = _
  cases e : patternAt s.loop s.values with
  | none => rw [e] at h; exact absurd rfl h
  | some p => rfl
theorem step_times0 {s : State} (h : (patternAt s.loop s.values).getD [] = []) : step s .times = (s, [-4]) := by
  show (s, match patternAt s.loop s.values with | none => ([-4] : List Int) | some p => match timesOf s.loop p s.values with | none => [0] | some q => [1, Vaacld.int q]) = _
  rw [pat_empty.mp h]
def sp_f_times (A : Ad) : Sp := fun vs H Q E => ∃ h dx s, vs = [.ref h] ∧ HoldZ A h dx s H ∧ Out1 A h dx s .times H Q ∧ Out2 A h dx s .times H E
theorem sc_f_times : FnScope ["holder", "found", "often"] ["holder"] (defScope s_f_times) := ⟨rfl, rfl, rfl, by decide +kernel, rfl, by decide +kernel, by decide +kernel⟩
theorem b_f_times {K : PySem.W.Frag} {f : Addr} {fd : FuncData} (F : Fun K "times" "times" s_f_times f fd) : Binds K fd ["holder"] [] := F.binds fun _ _ _ _ _ _ us hl => match us, hl with | [_], _ => rfl
theorem ok_f_times {P : Program} {w : World} {K : PySem.W.Frag} {mg : Str → Option Value} {base : Heap} {A : Ad} (T : Txt K mg A) : FnG P w K mg base (L2.CX P w) 9 "times" ["holder"] (sp_f_times A) := by
  obtain ⟨f, fd, hm, F⟩ := T.d_f_times
  refine ⟨f, fd, hm, F.kp, F.okX sc_f_times (fun vs H Q E h => ?_) (fun cdv A1 outer s H vs Q E hr h => ⟨_, (pss_cons (ps_set (i := 1) sc_f_times.nd rfl (Or.inl rfl) (pe_callG (ok_f_pattern_at T) (hr.mono (by decide)) pass0 rfl (by exact (pa_cons (pe_fld (pv 0) rfl) (pa_cons (pe_fld (pv 0) rfl) pa_nil)))))
      (pss_cons (ps_expr (pe_callG (ok_f_must_leaps T) (hr.mono (by decide)) (L2.passes_call (L2.takes_of rfl rfl rfl rfl) (fun _ _ _ _ h => h)) rfl (by exact (pa_cons (pe_cmpR (op_neE hr.units) (pv 1) (pe_lst (by exact pa_nil)) (nomark _)) (pa_cons (pe_un un_neg pe_int) pa_nil)))))
      (pss_cons (ps_set (i := 2) sc_f_times.nd rfl (Or.inl rfl) (pe_methG0 (ok_Doing_how_often T) (hr.mono (by decide)) pass0 (pe_makeG (ok_Doing_init T) (hr.mono (by decide)) pass0 rfl (by exact (pa_cons (pe_fld (pv 0) rfl) (pa_cons (pv 1) (pa_cons (pe_fld (pv 0) rfl) pa_nil)))))))
      (pss_one (ps_ret (pe_ifExp (pt_cmpR op_isN (pv 2) pe_non (nomark _)) (pe_lst (by exact (pa_cons pe_int pa_nil))) (pe_lst (by exact (pa_cons pe_int (pa_cons (pv 2) pa_nil)))))))))), ?_⟩), b_f_times F⟩
  · obtain ⟨x, dx, s, rfl, _⟩ := h
    rfl
  · obtain ⟨h, dx, s, rfl, ⟨a, p, n, Z⟩, o, o2⟩ := h
    have ok := ok_at Z.wf Z.len Z.bnd
    have st0 := step_times0 (s := s)
    have st1 := step_times (s := s)
    refine q_asgN (en_pattern_at (ev_fld (ev_var rfl) Z.obj T.cls_Holder T.na_Holder_loop rfl) (ev_fld (ev_var rfl) Z.obj T.cls_Holder T.na_Holder_amounts rfl) Z.loop Z.tup Z.wf Z.len) fun v H1 e1 n1 => ?_
    generalize (patternAt s.loop s.values).getD [] = pt at *
    obtain ⟨q, rfl, hq⟩ := n1.weak IsInts.mono
    have hem : (!((nats pt).map V.int).isEmpty) = true ↔ pt ≠ [] := by cases pt <;> simp [nats]
    refine q_mustL (k := -4) (ev_neE (ev_var rfl) (SqL.of hq) (el_lst ea_nil (Nat.zero_le _))) (ev_neg ev_c) (fun hb H2 e2 => ?_) (fun hb d H2 e2 hd => ?_)
    · have e12 := e1.trans e2
      refine q_often (ep_Doing (ev_fld (ev_var rfl) (e12 _ _ Z.obj) T.cls_Holder T.na_Holder_loop rfl) (ev_var rfl) (ev_fld (ev_var rfl) (e12 _ _ Z.obj) T.cls_Holder T.na_Holder_amounts rfl) (Z.loop.mono e12) (e2 _ _ hq) (e12 _ _ Z.tup) Z.len) ok fun H3 e3 => ?_
      have e13 := e12.trans e3
      have st := st1 (hem.mp hb)
      cases ht : timesOf s.loop pt s.values with
      | none =>
        rw [ht] at st
        exact s_retO (xs := [0]) (o.ex e13) ⟨a, p, n, Z.mono e13⟩ (el_if (b := true) (et_v (ev_is (ev_isN (ev_var rfl)) rfl)) (fun _ => el_lst (vs := [V.int 0]) (ea_cons ev_c ea_nil) (by show (1 : Nat) ≤ 100000; decide)) (fun h => by cases h)) st
      | some t =>
        rw [ht] at st
        exact s_retO (xs := [1, ((t : Nat) : Int)]) (o.ex e13) ⟨a, p, n, Z.mono e13⟩ (el_if (b := false) (et_v (ev_is (ev_isN (ev_var rfl)) rfl)) (fun h => by cases h) (fun _ => el_lst (vs := [V.int 1, V.int ((t : Nat) : Int)]) (ea_cons ev_c (ea_cons (ev_var rfl) ea_nil)) (by show (2 : Nat) ≤ 100000; decide))) st
    · have hpt : pt = [] := by
        by_cases c : pt = []
        · exact c
        · rw [hem.mpr c] at hb; cases hb
      exact o2 d H2 (-4) (but_of (e1.trans e2)) ⟨a, p, n, Z.mono (e1.trans e2)⟩ hd (st0 hpt)

def sp_f_done (A : Ad) : Sp := fun vs H Q _ => ∃ h dx s, vs = [.ref h] ∧ HoldZ A h dx s H ∧ Out1 A h dx s .done H Q
theorem sc_f_done : FnScope ["holder", "leaps"] ["holder"] (defScope s_f_done) := ⟨rfl, rfl, rfl, by decide +kernel, rfl, by decide +kernel, by decide +kernel⟩
theorem b_f_done {K : PySem.W.Frag} {f : Addr} {fd : FuncData} (F : Fun K "done" "done" s_f_done f fd) : Binds K fd ["holder"] [] := F.binds fun _ _ _ _ _ _ us hl => match us, hl with | [_], _ => rfl
theorem ok_f_done {P : Program} {w : World} {K : PySem.W.Frag} {mg : Str → Option Value} {base : Heap} {A : Ad} (T : Txt K mg A) : FnG P w K mg base CX0 14 "done" ["holder"] (sp_f_done A) := by
  obtain ⟨f, fd, hm, F⟩ := T.d_f_done
  refine ⟨f, fd, hm, F.kp, F.ok sc_f_done (fun vs H Q E h => ?_) (fun cdv A1 outer s H vs Q E hr h => ⟨_, (pss_cons (ps_set (i := 1) sc_f_done.nd rfl (Or.inl rfl) (pe_methG0 (ok_Holder_leaps T) (hr.mono (by decide)) pass0 (pv 0)))
      (pss_one (ps_ret (pe_op op_cat (pe_lst (by exact (pa_cons (pe_fld (pv 1) rfl) pa_nil))) (pe_methG0 (ok_Leaps_done T) (hr.mono (by decide)) pass0 (pv 1)))))), ?_⟩), b_f_done F⟩
  · obtain ⟨x, dx, s, rfl, _⟩ := h
    rfl
  · obtain ⟨h, dx, s, rfl, Z, o⟩ := h
    refine q_Holder_leaps (ev_var rfl) Z fun x w a n H1 e1 LZ hl wf hn => ?_
    obtain ⟨dl, p, hx, hp⟩ := LZ.obj
    have w3 := wf.three
    refine s_retO (xs := howNumber (leaps s.loop s.values).how :: (List.range s.loop.length).map fun b => Vaacld.int (doneIn (leaps s.loop s.values).phases b)) (o.ex e1) (Z.mono e1) ?_ rfl
    refine el_catP (xs := [V.int (howNumber (leaps s.loop s.values).how)]) (el_p (el_lst (ea_cons (ev_fld (ev_var rfl) hx T.cls_Leaps T.na_Leaps_end rfl) ea_nil) (by show (1 : Nat) ≤ 100000; decide))) (ep_Leaps_done (ev_var rfl) LZ wf) ?_
    rw [List.length_map, List.length_map, List.length_range]
    show 1 + _ ≤ _
    omega

theorem step_leap0 {s : State} (h : chosen s.loop s.values = none) : step s .leap = (s, [0]) := by
  have : leap s.loop s.values = .over := by unfold leap; rw [pat_none.mpr h]
  show (match leap s.loop s.values with | .over => (s, ([0] : List Int)) | .never p => (s, 2 :: VaaclBase.listed p) | .phase p t => if VaaclBase.isBeyond t then (s, [-7]) else ({ s with values := t }, 1 :: (phaseTold p ++ t))) = _
  rw [this]
theorem step_leap1 {s : State} {n : Nat} (wf : WfLoop n s.loop) (hs : s.values.length = n) (k : Bnd (10 ^ 12) s.values) (h : chosen s.loop s.values ≠ none) (ht : timesOf s.loop ((patternAt s.loop s.values).getD []) s.values = none) : step s .leap = (s, 2 :: VaaclBase.listed ((patternAt s.loop s.values).getD [])) := by
  have e := leap_is wf hs k
  rw [pat_some h] at e
  have e : leap s.loop s.values = match timesOf s.loop ((patternAt s.loop s.values).getD []) s.values with | none => .never ((patternAt s.loop s.values).getD []) | some t => .phase ⟨(patternAt s.loop s.values).getD [], t⟩ (LL.after s.loop n ((patternAt s.loop s.values).getD []) t s.values) := e
  rw [ht] at e
  show (match leap s.loop s.values with | .over => (s, ([0] : List Int)) | .never p => (s, 2 :: VaaclBase.listed p) | .phase p t => if VaaclBase.isBeyond t then (s, [-7]) else ({ s with values := t }, 1 :: (phaseTold p ++ t))) = _
  rw [e]
theorem step_leap2 {s : State} {n t : Nat} (wf : WfLoop n s.loop) (hs : s.values.length = n) (k : Bnd (10 ^ 12) s.values) (h : chosen s.loop s.values ≠ none) (ht : timesOf s.loop ((patternAt s.loop s.values).getD []) s.values = some t) : step s .leap = if VaaclBase.isBeyond (LL.after s.loop n ((patternAt s.loop s.values).getD []) t s.values) then (s, [-7]) else ({ s with values := LL.after s.loop n ((patternAt s.loop s.values).getD []) t s.values }, 1 :: (phaseTold ⟨(patternAt s.loop s.values).getD [], t⟩ ++ LL.after s.loop n ((patternAt s.loop s.values).getD []) t s.values)) := by
  have e := leap_is wf hs k
  rw [pat_some h] at e
  have e : leap s.loop s.values = match timesOf s.loop ((patternAt s.loop s.values).getD []) s.values with | none => .never ((patternAt s.loop s.values).getD []) | some t => .phase ⟨(patternAt s.loop s.values).getD [], t⟩ (LL.after s.loop n ((patternAt s.loop s.values).getD []) t s.values) := e
  rw [ht] at e
  show (match leap s.loop s.values with | .over => (s, ([0] : List Int)) | .never p => (s, 2 :: VaaclBase.listed p) | .phase p t => if VaaclBase.isBeyond t then (s, [-7]) else ({ s with values := t }, 1 :: (phaseTold p ++ t))) = _
  rw [e]
def sp_f_leap (A : Ad) : Sp := fun vs H Q E => ∃ h dx s, vs = [.ref h] ∧ HoldZ A h dx s H ∧ Out1 A h dx s .leap H Q ∧ Out2 A h dx s .leap H E
theorem sc_f_leap : FnScope ["holder", "phase"] ["holder"] (defScope s_f_leap) := ⟨rfl, rfl, rfl, by decide +kernel, rfl, by decide +kernel, by decide +kernel⟩
theorem b_f_leap {K : PySem.W.Frag} {f : Addr} {fd : FuncData} (F : Fun K "leap" "leap" s_f_leap f fd) : Binds K fd ["holder"] [] := F.binds fun _ _ _ _ _ _ us hl => match us, hl with | [_], _ => rfl
theorem ok_f_leap {P : Program} {w : World} {K : PySem.W.Frag} {mg : Str → Option Value} {base : Heap} {A : Ad} (T : Txt K mg A) : FnG P w K mg base (L2.CX P w) 10 "leap" ["holder"] (sp_f_leap A) := by
  obtain ⟨f, fd, hm, F⟩ := T.d_f_leap
  refine ⟨f, fd, hm, F.kp, F.okX sc_f_leap (fun vs H Q E h => ?_) (fun cdv A1 outer s H vs Q E hr h => ⟨_, (pss_cons (ps_if (pt_cmpR op_isN (pe_methG0 (ok_Holder_chosen T) (hr.mono (by decide)) pass0 (pv 0)) pe_non (nomark _)) (pss_one (ps_ret (pe_lst (by exact (pa_cons pe_int pa_nil))))) pss_nil)
      (pss_cons (ps_set (i := 1) sc_f_leap.nd rfl (Or.inl rfl) (pe_callG (ok_f_leap_from T) (hr.mono (by decide)) pass0 rfl (by exact (pa_cons (pe_fld (pv 0) rfl) (pa_cons (pe_fld (pv 0) rfl) pa_nil)))))
      (pss_cons (ps_if (pt_cmpR op_isN (pe_fld (pv 1) rfl) pe_non (nomark _)) (pss_one (ps_ret (pe_op op_cat (pe_lst (by exact (pa_cons pe_int (pa_cons (pe_callB call_len_seq (by rfl) T.n_len PySem.boot_len (by exact (pa_cons (pe_fld (pv 1) rfl) pa_nil))) pa_nil)))) (pe_fld (pv 1) rfl)))) pss_nil)
      (pss_cons (ps_expr (pe_callG (ok_f_must_leaps T) (hr.mono (by decide)) (L2.passes_call (L2.takes_of rfl rfl rfl rfl) (fun _ _ _ _ h => h)) rfl (by exact (pa_cons (pe_not (pe_callG (ok_f_is_beyond T) (hr.mono (by decide)) pass0 rfl (by exact (pa_cons (pe_fld (pv 1) rfl) pa_nil)))) (pa_cons (pe_un un_neg pe_int) pa_nil)))))
      (pss_cons (ps_fld (pv 0) (pe_fld (pv 1) rfl) rfl)
      (pss_one (ps_ret (pe_op op_cat (pe_op op_cat (pe_lst (by exact (pa_cons pe_int pa_nil))) (pe_methG0 (ok_Phase_told T) (hr.mono (by decide)) pass0 (pv 1))) (pe_callTy call_list_of (by rfl) T.n_list (by decide +kernel) (by exact (pa_cons (pe_fld (pv 1) rfl) pa_nil))))))))))), ?_⟩), b_f_leap F⟩
  · obtain ⟨x, dx, s, rfl, _⟩ := h
    rfl
  · obtain ⟨h, dx, s, rfl, ⟨a, p, n, Z⟩, o, o2⟩ := h
    have ok := ok_at Z.wf Z.len Z.bnd
    have le := fun q => times_le ok.wf ok.ok ok.len ok.three ok.bnd (q := q)
    refine q_when (b := (chosen s.loop s.values).isNone) (et_v (ev_is (ev_isN (ev_Holder_chosen (ev_var rfl) ⟨a, p, n, Z⟩)) (by rw [vO_isN]))) (fun hn H1 e1 => ?_) (fun hn H1 e1 => ?_)
    · have hn : chosen s.loop s.values = none := Option.isNone_iff_eq_none.mp hn
      exact s_retO (xs := [0]) (o.ex e1) ⟨a, p, n, Z.mono e1⟩ (el_lst (vs := [V.int 0]) (ea_cons ev_c ea_nil) (by show (1 : Nat) ≤ 100000; decide)) (step_leap0 hn)
    · have hn : chosen s.loop s.values ≠ none := fun z => by rw [z] at hn; cases hn
      refine q_asgC ?_
      refine cons_ev (ev_fld (ev_var rfl) (e1 _ _ Z.obj) T.cls_Holder T.na_Holder_loop rfl) fun H2 e2 => ?_
      refine cons_ev (ev_fld (ev_var rfl) ((e1.trans e2) _ _ Z.obj) T.cls_Holder T.na_Holder_amounts rfl) fun H3 e3 => ?_
      have e13 := (e1.trans e2).trans e3
      have Z3 := Z.mono e13
      refine ⟨s.loop, s.values, a, p, n, rfl, Z3.loop, Z3.tup, Z.wf, Z.len, Z.bnd, fun v H4 of m e4 n4 om => ?_⟩
      have e14 := e13.trans e4
      have Z4 := Z.mono e14
      have st1 := step_leap1 Z.wf Z.len Z.bnd hn
      have st2 := fun t => step_leap2 (t := t) Z.wf Z.len Z.bnd hn
      unfold OM at om
      generalize (patternAt s.loop s.values).getD [] = pt at *
      obtain ⟨N, fN, eN, y, dy, q, rfl, hy0, hq0⟩ := n4
      have hy := eN _ _ hy0
      have hq : IntsAt H4 q (nats pt) := eN _ _ hq0
      have w3 := ok.three
      have wl : ((nats pt).map V.int).length = pt.length := by rw [List.length_map, nats_len]
      cases ht : timesOf s.loop pt s.values with
      | none =>
        rw [ht] at om
        obtain ⟨rfl, rfl⟩ := om
        refine q_when (b := true) (et_v (ev_is (ev_isN (ev_fld (ev_var rfl) hy T.cls_Phase T.na_Phase_often rfl)) rfl)) (fun _ H5 e5 => ?_) (fun h => by cases h)
        refine s_retO (xs := 2 :: VaaclBase.listed pt) (o.ex (e14.trans e5)) ⟨a, p, n, Z4.mono e5⟩ ?_ (st1 ht)
        have := el_catLV (σ := [some (.ref h), some (.ref y)]) (H := H5) (xs := [V.int 2, V.int ((nats pt).map V.int).length]) (el_lst (ea_cons ev_c (ea_cons (ev_len (K := K) (ev_fld (ev_var (i := 1) rfl) (e5 _ _ hy) T.cls_Phase T.na_Phase_pattern rfl) (Or.inl (SqL.of (e5 _ _ hq)))) ea_nil)) (by show (2 : Nat) ≤ 100000; decide)) (ev_fld (K := K) (ev_var (i := 1) rfl) (e5 _ _ hy) T.cls_Phase T.na_Phase_pattern rfl) (e5 _ _ hq) (by rw [wl]; show 2 + _ ≤ _; omega)
        rw [wl] at this
        exact this
      | some t =>
        rw [ht] at om
        obtain ⟨rfl, pm, rfl, hm⟩ := om
        have tle := le t ht
        unfold howMost at tle
        have stt := st2 t ht
        have la := after_len ok.wf ok.ok ok.len t
        have n4' := ok.wf.four
        have pok : PhOk s.loop ⟨pt, t⟩ := ⟨ok.three, by show t ≤ 10 ^ 15; omega, ok.ok⟩
        refine q_when (b := false) (et_v (ev_is (ev_isN (ev_fld (ev_var rfl) hy T.cls_Phase T.na_Phase_often rfl)) rfl)) (fun h => by cases h) (fun _ H5 e5 => ?_)
        refine q_mustL (k := -7) (Evl.ev_notV (ev_is_beyond (s := LL.after s.loop n pt t s.values) (ev_fld (ev_var rfl) (e5 _ _ hy) T.cls_Phase T.na_Phase_amounts rfl) (e5 _ _ hm) (by omega))) (ev_neg ev_c) (fun hb H6 e6 => ?_) (fun hb d H6 e6 hd => ?_)
        · have hb : VaaclBase.isBeyond (LL.after s.loop n pt t s.values) = false := by
            cases z : VaaclBase.isBeyond (LL.after s.loop n pt t s.values) with
            | false => rfl
            | true => rw [z] at hb; cases hb
          have e46 := e5.trans e6
          have e16 := e14.trans e46
          have Nh : N h = none := fN _ _ (e13 _ _ Z.obj)
          refine q_fld (v := .ref pm) (ev_fld (ev_var rfl) (e46 _ _ hy) T.cls_Phase T.na_Phase_amounts rfl) (ev_var rfl) (e16 _ _ Z.obj) T.cls_Holder T.na_Holder_amounts (by show 2 < 1000; decide) fun H7 e7 => ?_
          rw [putF_am]
          have e17 := e16.trans e7
          have e47 := e46.trans e7
          have eN7 : Ex N (upd H7 h (.ins A.cHolder dx.1 (fH a pm))) := (eN.trans e47).mut Nh
          have hm7 : TupAt H7 pm (LL.after s.loop n pt t s.values) := e47 _ _ hm
          have nph : pm ≠ h := ne_of hm7 (e17 _ _ Z.obj) (by intro z; cases z)
          rw [hb] at stt
          have bnd := beyond_bnd hb
          refine s_retO' (xs := 1 :: (phaseTold ⟨pt, t⟩ ++ LL.after s.loop n pt t s.values)) (s' := { s with values := LL.after s.loop n pt t s.values }) o (But.mut (but_of e17)) ⟨_, upd_same⟩ ((Z.mono e17).put hm7 la bnd) ?_ stt
          have hp7 : TupAt (upd H7 h (.ins A.cHolder dx.1 (fH a pm))) pm (LL.after s.loop n pt t s.values) := by
            show upd H7 h _ pm = _
            rw [upd_ne nph]
            exact hm7
          have pl := phaseTold_len pok
          have := el_catP (σ := [some (.ref h), some (.ref y)]) (H := upd H7 h (.ins A.cHolder dx.1 (fH a pm))) (el_p (el_catP (xs := [V.int 1]) (el_p (el_lst (ea_cons ev_c ea_nil) (by show (1 : Nat) ≤ 100000; decide))) (ep_Phase_told (A := A) (E := E0) (to := tVar 1) (v := .ref y) (ph := ⟨pt, t⟩) (ev_var rfl) ⟨_, y, dy, q, rfl, eN7 _ _ hy0, eN7 _ _ hq0⟩ pok) (by rw [List.length_map]; show 1 + _ ≤ _; omega))) (el_p (tup_list (K := K) (ev_fld (K := K) (ev_var (i := 1) rfl) (eN7 _ _ hy0) T.cls_Phase T.na_Phase_amounts rfl) hp7)) (by rw [List.length_append, List.length_map, List.length_map]; show 1 + _ + _ ≤ _; omega)
          rw [List.append_assoc, ← List.map_append] at this
          exact this
        · have hb : VaaclBase.isBeyond (LL.after s.loop n pt t s.values) = true := by
            cases z : VaaclBase.isBeyond (LL.after s.loop n pt t s.values) with
            | true => rfl
            | false => rw [z] at hb; cases hb
          rw [hb] at stt
          have e16 := e14.trans (e5.trans e6)
          exact o2 d H6 (-7) (but_of e16) ⟨a, p, n, Z.mono e16⟩ hd stt

theorem flat_ints (f : Vaacld.Phase → List Int) (l : Loop) (ps : List Vaacld.Phase) (h : ∀ ph ∈ ps, PhOk l ph) (h8 : ps.length ≤ 8) : (ps.flatMap phaseTold).length ≤ 40 := by
  have := flatMap_le phaseTold 5 ps fun ph hph => phaseTold_len (h ph hph)
  omega
def sp_f_all_phases (A : Ad) : Sp := fun vs H Q _ => ∃ h dx s, vs = [.ref h] ∧ HoldZ A h dx s H ∧ Out1 A h dx s .phases H Q
theorem sc_f_all_phases : FnScope ["holder", "leaps", "found", "phase"] ["holder"] (defScope s_f_all_phases) := ⟨rfl, rfl, rfl, by decide +kernel, rfl, by decide +kernel, by decide +kernel⟩
theorem b_f_all_phases {K : PySem.W.Frag} {f : Addr} {fd : FuncData} (F : Fun K "all_phases" "all_phases" s_f_all_phases f fd) : Binds K fd ["holder"] [] := F.binds fun _ _ _ _ _ _ us hl => match us, hl with | [_], _ => rfl
theorem ok_f_all_phases {P : Program} {w : World} {K : PySem.W.Frag} {mg : Str → Option Value} {base : Heap} {A : Ad} (T : Txt K mg A) : FnG P w K mg base CX0 14 "all_phases" ["holder"] (sp_f_all_phases A) := by
  obtain ⟨f, fd, hm, F⟩ := T.d_f_all_phases
  refine ⟨f, fd, hm, F.kp, F.ok sc_f_all_phases (fun vs H Q E h => ?_) (fun cdv A1 outer s H vs Q E hr h => ⟨_, (pss_cons (ps_set (i := 1) sc_f_all_phases.nd rfl (Or.inl rfl) (pe_methG0 (ok_Holder_leaps T) (hr.mono (by decide)) pass0 (pv 0)))
      (pss_cons (ps_set (i := 2) sc_f_all_phases.nd rfl (Or.inl rfl) (pe_lst (by exact (pa_cons (pe_fld (pv 1) rfl) (pa_cons (pe_methG0 (ok_Leaps_rounds T) (hr.mono (by decide)) pass0 (pv 1)) (pa_cons (pe_callB call_len_seq (by rfl) T.n_len PySem.boot_len (by exact (pa_cons (pe_fld (pv 1) rfl) pa_nil))) pa_nil))))))
      (pss_cons (ps_for PassesOwn.never rfl (pi_list (pe_fld (pv 1) rfl)) (pg_name (i := 3) sc_f_all_phases.nd rfl (Or.inl rfl))
        (pss_one (ps_expr (pe_bm PySem.F.plainAttrs_list PySem.F.slot_list_extend PySem.F.type_list_extend mt_extend (pv 2) (by exact (pa_cons (pe_methG0 (ok_Phase_told T) (hr.mono (by decide)) pass0 (pv 3)) pa_nil))))))
      (pss_one (ps_ret (pe_op op_cat (pv 2) (pe_callTy call_list_of (by rfl) T.n_list (by decide +kernel) (by exact (pa_cons (pe_fld (pv 1) rfl) pa_nil))))))))), ?_⟩), b_f_all_phases F⟩
  · obtain ⟨x, dx, s, rfl, _⟩ := h
    rfl
  · obtain ⟨h, dx, s, rfl, Z, o⟩ := h
    refine q_Holder_leaps (ev_var rfl) Z fun x w a n H1 e1 LZ hl wf hn => ?_
    obtain ⟨dl, p, hx, hp⟩ := LZ.obj
    obtain ⟨zs, hzs, hps⟩ := LZ.list
    have few := LZ.few
    have phs := LZ.phs
    have lz := hps.length
    have n4 := wf.four
    have fl := flat_ints (fun _ => []) s.loop _ phs few
    have st : step s .phases = (s, Vaacld.leaptTold (leaps s.loop s.values)) := rfl
    unfold Vaacld.leaptTold at st
    generalize leaps s.loop s.values = R at *
    refine q_asgL (xs := [R.how |> howNumber, ((allRounds R.phases : Nat) : Int), ((R.phases.length : Nat) : Int)].map V.int) (el_lst (ea_cons (ev_fld (ev_var rfl) hx T.cls_Leaps T.na_Leaps_end rfl) (ea_cons (ev_Leaps_rounds (ev_var rfl) LZ) (ea_cons (ev_is (ev_len (ev_fld (ev_var rfl) hx T.cls_Leaps T.na_Leaps_phases rfl) (Or.inl (SqL.of hzs))) (by rw [lz])) ea_nil))) (by show (3 : Nat) ≤ 100000; decide)) fun pf H2 npf e2 hf => ?_
    have eD : Ex H1 (del H2 pf) := ex_del e2 npf
    have LZ2 := LZ.mono eD
    refine q_ext (F := fun v ph => PhV A v ph (del H2 pf)) (f := phaseTold) (l := R.phases) (p := pf) (ev_fld (ev_var rfl) (e2 _ _ hx) T.cls_Leaps T.na_Leaps_phases rfl) (SqL.of (eD _ _ hzs)) (Paired.imp2 hps fun v d y => PhV.mono _ _ eD y) rfl (by decide) hf (by show 3 + _ ≤ _; omega) (fun H' v ph hm hv e => ep_Phase_told (ev_var rfl) (PhV.mono _ _ e hv) (phs ph hm)) (fun σ' H' hs e hI => ?_)
    have hσ : ∃ y, σ' = [some (.ref h), some (.ref x), some (.ref pf), y] := by
      rcases hs with rfl | ⟨v, rfl⟩
      · exact ⟨_, rfl⟩
      · exact ⟨_, rfl⟩
    obtain ⟨y, rfl⟩ := hσ
    have e1' := eD.trans e
    have npf0 : H pf = none := fresh_back e1 npf
    refine s_retO (xs := howNumber R.how :: ((allRounds R.phases : Nat) : Int) :: ((R.phases.length : Nat) : Int) :: (R.phases.flatMap phaseTold ++ R.values)) (o.ex (e1.trans e1')) (Z.mono (e1.trans e1')) ?_ st
    have := el_catP (el_v (ev_var (σ := [some (.ref h), some (.ref x), some (.ref pf), y]) (i := 2) rfl) hI) (el_p (tup_list (K := K) (ev_fld (K := K) (ev_var (i := 1) rfl) (e1' _ _ hx) T.cls_Leaps T.na_Leaps_amounts rfl) (e1' _ _ hp))) (by rw [List.length_map, List.length_map, List.length_append]; show 3 + _ + _ ≤ _; omega)
    rw [← List.map_append] at this
    exact this

theorem leaps_bnd {l : Loop} : ∀ (k : Nat) (s : Values) (ps : List Vaacld.Phase), Bnd (10 ^ 12) s → (leapsFrom l k s ps).how = .over → Bnd (10 ^ 12) (leapsFrom l k s ps).values
  | 0, s, ps, hb, _ => hb
  | k + 1, s, ps, hb, ho => by
    have e : leapsFrom l (k + 1) s ps = match leap l s with | .over => (⟨.over, s, ps⟩ : Vaacld.Leapt) | .never _ => ⟨.never, s, ps⟩ | .phase p t => if VaaclBase.isBeyond t then ⟨.far, t, ps ++ [p]⟩ else leapsFrom l k t (ps ++ [p]) := rfl
    rw [e] at ho ⊢
    cases hl : leap l s with
    | over => exact hb
    | never p => exact hb
    | phase p t =>
      rw [hl] at ho
      have ho : (if VaaclBase.isBeyond t = true then (⟨.far, t, ps ++ [p]⟩ : Vaacld.Leapt) else leapsFrom l k t (ps ++ [p])).how = .over := ho
      show Bnd _ (if VaaclBase.isBeyond t = true then (⟨.far, t, ps ++ [p]⟩ : Vaacld.Leapt) else leapsFrom l k t (ps ++ [p])).values
      by_cases c : VaaclBase.isBeyond t = true
      · rw [if_pos c] at ho
        cases ho
      · rw [if_neg c] at ho ⊢
        exact leaps_bnd k t (ps ++ [p]) (beyond_bnd (by cases z : VaaclBase.isBeyond t with | false => rfl | true => exact absurd z c)) ho
def sp_f_go (A : Ad) : Sp := fun vs H Q E => ∃ h dx s, vs = [.ref h] ∧ HoldZ A h dx s H ∧ Out1 A h dx s .go H Q ∧ Out2 A h dx s .go H E
theorem step_go1 {s : State} (h : (leaps s.loop s.values).how = .over) : step s .go = ({ s with values := (leaps s.loop s.values).values }, ((allRounds (leaps s.loop s.values).phases : Nat) : Int) :: (leaps s.loop s.values).values) := if_pos h
theorem step_go0 {s : State} (h : (leaps s.loop s.values).how ≠ .over) : step s .go = (s, [-5]) := if_neg h
theorem sc_f_go : FnScope ["holder", "leaps"] ["holder"] (defScope s_f_go) := ⟨rfl, rfl, rfl, by decide +kernel, rfl, by decide +kernel, by decide +kernel⟩
theorem b_f_go {K : PySem.W.Frag} {f : Addr} {fd : FuncData} (F : Fun K "go" "go" s_f_go f fd) : Binds K fd ["holder"] [] := F.binds fun _ _ _ _ _ _ us hl => match us, hl with | [_], _ => rfl
theorem ok_f_go {P : Program} {w : World} {K : PySem.W.Frag} {mg : Str → Option Value} {base : Heap} {A : Ad} (T : Txt K mg A) : FnG P w K mg base (L2.CX P w) 14 "go" ["holder"] (sp_f_go A) := by
  obtain ⟨f, fd, hm, F⟩ := T.d_f_go
  refine ⟨f, fd, hm, F.kp, F.okX sc_f_go (fun vs H Q E h => ?_) (fun cdv A1 outer s H vs Q E hr h => ⟨_, (pss_cons (ps_set (i := 1) sc_f_go.nd rfl (Or.inl rfl) (pe_methG0 (ok_Holder_leaps T) (hr.mono (by decide)) pass0 (pv 0)))
      (pss_cons (ps_expr (pe_callG (ok_f_must_leaps T) (hr.mono (by decide)) (L2.passes_call (L2.takes_of rfl rfl rfl rfl) (fun _ _ _ _ h => h)) rfl (by exact (pa_cons (pe_cmpR op_eq (pe_fld (pv 1) rfl) (pe_gi T.i_OVER rfl) (nomark _)) (pa_cons (pe_un un_neg pe_int) pa_nil)))))
      (pss_cons (ps_fld (pv 0) (pe_fld (pv 1) rfl) rfl)
      (pss_one (ps_ret (pe_op op_cat (pe_lst (by exact (pa_cons (pe_methG0 (ok_Leaps_rounds T) (hr.mono (by decide)) pass0 (pv 1)) pa_nil))) (pe_callTy call_list_of (by rfl) T.n_list (by decide +kernel) (by exact (pa_cons (pe_fld (pv 1) rfl) pa_nil))))))))), ?_⟩), b_f_go F⟩
  · obtain ⟨x, dx, s, rfl, _⟩ := h
    rfl
  · obtain ⟨h, dx, s, rfl, Z, o, o2⟩ := h
    refine q_Holder_leaps (ev_var rfl) Z fun x w a n H1 e1 LZ hl wf hn => ?_
    obtain ⟨dl, p, hx, hp⟩ := LZ.obj
    have n4 := wf.four
    have g1 := step_go1 (s := s)
    have g0 := step_go0 (s := s)
    have bl := leaps_bnd (l := s.loop) 8 s.values []
    obtain ⟨a', p', n', ZP⟩ := Z
    have bl : (leaps s.loop s.values).how = .over → Bnd (10 ^ 12) (leaps s.loop s.values).values := bl ZP.bnd
    generalize leaps s.loop s.values = R at *
    have hov : decide (howNumber R.how = 0) = true ↔ R.how = .over := by cases R.how <;> simp [howNumber]
    refine q_mustL (b := decide (howNumber R.how = 0)) (k := -5) (ev_eq (ev_fld (ev_var rfl) hx T.cls_Leaps T.na_Leaps_end rfl) ev_c) (ev_neg ev_c) (fun hb H2 e2 => ?_) (fun hb d H2 e2 hd => ?_)
    · have hb := hov.mp hb
      have e12 := e1.trans e2
      refine q_fld (v := .ref p) (ev_fld (ev_var rfl) (e2 _ _ hx) T.cls_Leaps T.na_Leaps_amounts rfl) (ev_var rfl) (e12 _ _ ZP.obj) T.cls_Holder T.na_Holder_amounts (by show 2 < 1000; decide) fun H3 e3 => ?_
      rw [putF_am]
      have e13 := e12.trans e3
      have LZ3 := LZ.mono (e2.trans e3)
      have bm : But h H3 (upd H3 h (.ins A.cHolder dx.1 (fH a' p))) := But.mut (But.refl h H3)
      have LZ4 := LZ3.keep bm ⟨_, _, _, upd_same⟩
      obtain ⟨dl4, p4, hx4, hp4⟩ := LZ4.obj
      have hp3 : TupAt H3 p R.values := (e2.trans e3) _ _ hp
      have hnn : n' = n := by rw [hn]; exact ZP.len.symm
      refine s_retO' (xs := ((allRounds R.phases : Nat) : Int) :: R.values) (s' := { s with values := R.values }) o (But.mut (but_of e13)) ⟨_, upd_same⟩ ((ZP.mono e13).put hp3 (by rw [hl, hnn]) (bl hb)) ?_ (g1 hb)
      have := el_catP (σ := [some (.ref h), some (.ref x)]) (xs := [V.int ((allRounds R.phases : Nat) : Int)]) (el_p (el_lst (ea_cons (ev_Leaps_rounds (E := E0) (to := tVar 1) (ev_var rfl) LZ4) ea_nil) (by show (1 : Nat) ≤ 100000; decide))) (el_p (tup_list (K := K) (ev_fld (K := K) (ev_var (i := 1) rfl) hx4 T.cls_Leaps T.na_Leaps_amounts rfl) hp4)) (by rw [List.length_map]; show 1 + _ ≤ _; omega)
      exact this
    · have hb : R.how ≠ .over := fun z => by rw [hov.mpr z] at hb; cases hb
      have e12 := e1.trans e2
      exact o2 d H2 (-5) (but_of e12) ⟨a', p', n', ZP.mono e12⟩ hd (g0 hb)

theorem run_none {l : Loop} {s : Values} (h : chosen l s = none) : ∀ m k, runLoop l m s k = ⟨.over, s, k⟩
  | 0, k => by
    show (match chosen l s with | none => (⟨.over, s, k⟩ : VaaclBase.Out) | some _ => ⟨.long, s, k⟩) = _
    rw [h]
  | m + 1, k => by
    show (match chosen l s with | none => (⟨.over, s, k⟩ : VaaclBase.Out) | some i => if VaaclBase.isBeyond (moved (branchAt l i).move s) then ⟨.beyond, moved (branchAt l i).move s, k + 1⟩ else runLoop l m (moved (branchAt l i).move s) (k + 1)) = _
    rw [h]
theorem run_zero {l : Loop} {s : Values} (h : chosen l s ≠ none) (k : Nat) : runLoop l 0 s k = ⟨.long, s, k⟩ := by
  show (match chosen l s with | none => (⟨.over, s, k⟩ : VaaclBase.Out) | some _ => ⟨.long, s, k⟩) = _
  cases e : chosen l s with
  | none => exact absurd e h
  | some b => rfl
theorem run_some {l : Loop} {s : Values} {b : Nat} (h : chosen l s = some b) (m k : Nat) : runLoop l (m + 1) s k = if VaaclBase.isBeyond (moved (moveOf l b) s) = true then ⟨.beyond, moved (moveOf l b) s, k + 1⟩ else runLoop l m (moved (moveOf l b) s) (k + 1) := by
  show (match chosen l s with | none => (⟨.over, s, k⟩ : VaaclBase.Out) | some i => if VaaclBase.isBeyond (moved (branchAt l i).move s) then ⟨.beyond, moved (branchAt l i).move s, k + 1⟩ else runLoop l m (moved (branchAt l i).move s) (k + 1)) = _
  rw [h]
  rfl
def sp_f_run (A : Ad) : Sp := fun vs H Q E => ∃ h dx s most, vs = [.ref h, .int most] ∧ HoldZ A h dx s H ∧ Out1 A h dx s (.run most) H Q ∧ Out2 A h dx s (.run most) H E
theorem step_run0 {s : State} {m : Int} (h : m < 0 ∨ 2000 < m) : step s (.run m) = (s, [-3]) := if_pos h
theorem step_run1 {s : State} {m : Int} (h : 0 ≤ m ∧ m ≤ 2000) : step s (.run m) = (s, flatOut (runLoop s.loop m.toNat s.values 0)) := if_neg fun z => by
  have z : m < 0 ∨ 2000 < m := z
  omega
theorem sc_f_run : FnScope ["holder", "most", "amounts", "many", "number"] ["holder", "most"] (defScope s_f_run) := ⟨rfl, rfl, rfl, by decide +kernel, rfl, by decide +kernel, by decide +kernel⟩
theorem b_f_run {K : PySem.W.Frag} {f : Addr} {fd : FuncData} (F : Fun K "run" "run" s_f_run f fd) : Binds K fd ["holder", "most"] [] := F.binds fun _ _ _ _ _ _ us hl => match us, hl with | [_, _], _ => rfl
theorem ok_f_run {P : Program} {w : World} {K : PySem.W.Frag} {mg : Str → Option Value} {base : Heap} {A : Ad} (T : Txt K mg A) : FnG P w K mg base (L2.CX P w) 6 "run" ["holder", "most"] (sp_f_run A) := by
  obtain ⟨f, fd, hm, F⟩ := T.d_f_run
  refine ⟨f, fd, hm, F.kp, F.okX sc_f_run (fun vs H Q E h => ?_) (fun cdv A1 outer s H vs Q E hr h => ⟨_, (pss_cons (ps_expr (pe_callG (ok_f_must_leaps T) (hr.mono (by decide)) (L2.passes_call (L2.takes_of rfl rfl rfl rfl) (fun _ _ _ _ h => h)) rfl (by exact (pa_cons (pe_chain op_le op_le pe_int (pv 1) (pe_gi T.i_MOST_ROUNDS rfl)) (pa_cons (pe_un un_neg pe_int) pa_nil)))))
      (pss_cons (ps_set (i := 2) sc_f_run.nd rfl (Or.inl rfl) (pe_fld (pv 0) rfl))
      (pss_cons (ps_set (i := 3) sc_f_run.nd rfl (Or.inl rfl) pe_int)
      (pss_cons (ps_set (i := 4) sc_f_run.nd rfl (Or.inl rfl) (pe_methG0 (ok_Holder_chosen T) (hr.mono (by decide)) pass0 (pv 0)))
      (pss_cons (ps_while PassesOwn.leaving (PW.pt (pw_and (pt_cmpR op_notN (pv 4) pe_non (nomark _)) (pw_and1 (pt_cmpR op_lt (pv 3) (pv 1) (nomark _))))) (pss_cons (ps_set (i := 2) sc_f_run.nd rfl (Or.inl rfl) (pe_methG (ok_Loop_round_by T) (hr.mono (by decide)) pass0 (pe_fld (pv 0) rfl) (by exact (pa_cons (pv 4) (pa_cons (pv 2) pa_nil)))))
      (pss_cons (ps_set (i := 3) sc_f_run.nd rfl (Or.inl rfl) (pe_op op_add (pv 3) pe_int))
      (pss_cons (ps_if (pt_val (pe_callG (ok_f_is_beyond T) (hr.mono (by decide)) pass0 rfl (by exact (pa_cons (pv 2) pa_nil)))) (pss_one (ps_ret (pe_op op_cat (pe_lst (by exact (pa_cons pe_int (pa_cons (pv 3) pa_nil)))) (pe_callTy call_list_of (by rfl) T.n_list (by decide +kernel) (by exact (pa_cons (pv 2) pa_nil)))))) pss_nil)
      (pss_one (ps_set (i := 4) sc_f_run.nd rfl (Or.inl rfl) (pe_methG (ok_Loop_chosen T) (hr.mono (by decide)) pass0 (pe_fld (pv 0) rfl) (by exact (pa_cons (pv 2) pa_nil)))))))))
      (pss_one (ps_ret (pe_op op_cat (pe_lst (by exact (pa_cons (pe_ifExp (pt_cmpR op_isN (pv 4) pe_non (nomark _)) pe_int pe_int) (pa_cons (pv 3) pa_nil)))) (pe_callTy call_list_of (by rfl) T.n_list (by decide +kernel) (by exact (pa_cons (pv 2) pa_nil))))))))))), ?_⟩), b_f_run F⟩
  · obtain ⟨x, dx, s, most, rfl, _⟩ := h
    rfl
  · obtain ⟨h, dx, s, most, rfl, ⟨a, p, n, Z⟩, o, o2⟩ := h
    have n4 := Z.wf.four
    refine q_mustL (k := -3) (ev_chainI (a := 0) (b := most) (c := 2000) ev_c (ev_var rfl) ev_c) (ev_neg ev_c) (fun hb H1 e1 => ?_) (fun hb d H1 e1 hd => ?_)
    · rw [Bool.and_eq_true, decide_eq_true_iff, decide_eq_true_iff] at hb
      have st := step_run1 (s := s) hb
      obtain ⟨m0, rfl⟩ : ∃ m0 : Nat, most = ((m0 : Nat) : Int) := ⟨most.toNat, by omega⟩
      rw [Int.toNat_natCast] at st
      refine q_asg (v := .ref p) (ev_fld (ev_var rfl) (e1 _ _ Z.obj) T.cls_Holder T.na_Holder_amounts rfl) fun H2 e2 => ?_
      refine q_asg (v := .int 0) ev_c fun H3 e3 => ?_
      have e13 := (e1.trans e2).trans e3
      refine q_asg (ev_Holder_chosen (ev_var rfl) ⟨a, p, n, Z.mono e13⟩) fun H4 e4 => ?_
      have e14 := e13.trans e4
      have retw : ∀ (fl : Int) (ho : VaaclBase.Out) (σ' : L2.St) (H' : Hp) (pc : Addr) (te : TE), Ex H H' → TupAt H' pc ho.values → ho.values.length = n → fl = VaaclBase.howNumber ho.how → runLoop s.loop m0 s.values 0 = ho → σ'[2]? = some (some (.ref pc)) → σ'[3]? = some (some (.int ((ho.rounds : Nat) : Int))) → Ev te σ' H' (.int fl) →
          tRet (tOp rCat (tLst (tCons te (tCons (tVar 3) tNil))) (tCB (fun xs H Q => ∃ p ys, xs = [.ref p] ∧ (SqL K H p ys ∨ SqT K H p ys) ∧ ∀ l, H l = none → Q (.ref l) (upd H l (.lst ys))) (tCons (tVar 2) tNil))) { nx := fun _ H' => Q .non H', rt := Q } σ' H' := fun fl ho σ' H' pc te e hp hl hf hr s2 s3 hte => by
        rw [hr] at st
        refine s_retO (xs := flatOut ho) (o.ex e) ⟨a, p, n, Z.mono e⟩ ?_ st
        unfold flatOut
        rw [← hf]
        exact el_catP (xs := [V.int fl, V.int ((ho.rounds : Nat) : Int)]) (el_p (el_lst (ea_cons hte (ea_cons (ev_var s3) ea_nil)) (by show (2 : Nat) ≤ 100000; decide))) (el_p (tup_list (ev_var s2) hp)) (by rw [List.length_map]; show 2 + _ ≤ _; omega)
      refine q_while (fun m σ' H' => ∃ cur pc k, σ' = [some (.ref h), some (.int ((m0 : Nat) : Int)), some (.ref pc), some (.int ((k : Nat) : Int)), some (vO (chosen s.loop cur))] ∧ Ex H H' ∧ TupAt H' pc cur ∧ cur.length = n ∧ m + k = m0 ∧ runLoop s.loop m0 s.values 0 = runLoop s.loop m cur k) m0 ⟨s.values, p, 0, rfl, e14, e14 _ _ Z.tup, Z.len, rfl, rfl⟩ ?_
      rintro m σ' H' ⟨cur, pc, k, rfl, e, hp, hl, hm, hr⟩
      have Z5 := Z.mono e
      cases hc : chosen s.loop cur with
      | none =>
        refine ⟨false && false, et_and (a := false) (b := false) (et_v (ev_is (ev_notN (ev_var rfl)) rfl)) (fun h => by cases h), fun h => (by cases h), fun _ H5 e5 => ?_⟩
        rw [run_none hc] at hr
        exact retw 0 ⟨.over, cur, k⟩ _ H5 pc _ (e.trans e5) (e5 _ _ hp) hl rfl hr rfl rfl (ev_if (b := true) (et_v (ev_is (ev_isN (ev_var rfl)) rfl)) (fun _ => ev_c) (fun h => by cases h))
      | some b =>
        have hbl := chosen_lt hc
        refine ⟨true && decide (((k : Nat) : Int) < ((m0 : Nat) : Int)), et_and (a := true) (et_v (ev_is (ev_notN (ev_var rfl)) rfl)) (fun _ => et_v (ev_is (ev_i0 (ev_var rfl) (ev_var rfl)) rfl)), fun hb H5 e5 => ?_, fun hb H5 e5 => ?_⟩
        · have hk : k < m0 := by have : ((k : Nat) : Int) < ((m0 : Nat) : Int) := of_decide_eq_true hb; omega
          obtain ⟨m', rfl⟩ : ∃ m', m = m' + 1 := ⟨m - 1, by omega⟩
          rw [run_some hc] at hr
          have hl6 : (moved (moveOf s.loop b) cur).length = n := by rw [moved_len]; exact (moveOf_wf Z.wf hbl).len
          refine ⟨fun σ2 H2 => ∃ cur pc k, σ2 = [some (.ref h), some (.int ((m0 : Nat) : Int)), some (.ref pc), some (.int ((k : Nat) : Int)), some (vO (chosen s.loop cur))] ∧ Ex H H2 ∧ TupAt H2 pc cur ∧ cur.length = n ∧ m' + k = m0 ∧ runLoop s.loop m0 s.values 0 = runLoop s.loop m' cur k, fun σ2 H2 z => ⟨m', Nat.lt_succ_self m', z⟩, ?_⟩
          have Z6 := Z5.mono e5
          refine q_asgP (ep_Loop_round_by (b := b) (ev_fld (ev_var rfl) Z6.obj T.cls_Holder T.na_Holder_loop rfl) (ev_var rfl) (ev_var rfl) Z6.loop (e5 _ _ hp) Z.wf hl hbl) fun v H6 e6 hv => ?_
          obtain ⟨p6, rfl, hp6⟩ := hv
          refine q_asg (v := .int ((k + 1 : Nat) : Int)) (ev_is (ev_i0 (ev_var rfl) ev_c) rfl) fun H7 e7 => ?_
          have e67 := e6.trans e7
          have e17 := (e.trans e5).trans e67
          refine q_when (b := VaaclBase.isBeyond (moved (moveOf s.loop b) cur)) (et_b (ev_is_beyond (ev_var rfl) (e7 _ _ hp6) (by omega))) (fun hb H8 e8 => ?_) (fun hb H8 e8 => ?_)
          · rw [if_pos hb] at hr
            exact retw 1 ⟨.beyond, moved (moveOf s.loop b) cur, k + 1⟩ _ H8 p6 _ (e17.trans e8) ((e7.trans e8) _ _ hp6) hl6 rfl hr rfl rfl ev_c
          · rw [if_neg (by rw [hb]; exact Bool.false_ne_true)] at hr
            have Z8 := Z.mono (e17.trans e8)
            refine s_asg (ev_Loop_chosen (ev_fld (ev_var rfl) Z8.obj T.cls_Holder T.na_Holder_loop rfl) (ev_var rfl) Z8.loop ((e7.trans e8) _ _ hp6) Z.wf hl6) fun H9 e9 => ?_
            exact ⟨moved (moveOf s.loop b) cur, p6, k + 1, rfl, (e17.trans e8).trans e9, ((e7.trans e8).trans e9) _ _ hp6, hl6, by omega, hr⟩
        · have hk : m = 0 := by have : ¬ ((k : Nat) : Int) < ((m0 : Nat) : Int) := of_decide_eq_false hb; omega
          subst hk
          rw [run_zero (by rw [hc]; exact fun z => by cases z)] at hr
          exact retw 2 ⟨.long, cur, k⟩ _ H5 pc _ (e.trans e5) (e5 _ _ hp) hl rfl hr rfl rfl (ev_if (b := false) (et_v (ev_is (ev_isN (ev_var rfl)) rfl)) (fun h => by cases h) (fun _ => ev_c))
    · have hm : most < 0 ∨ 2000 < most := by
        rw [Bool.and_eq_false_iff, decide_eq_false_iff_not, decide_eq_false_iff_not] at hb
        omega
      exact o2 d H1 (-3) (but_of e1) ⟨a, p, n, Z.mono e1⟩ hd (step_run0 hm)

theorem begin_is : ∀ (n : Nat) (x : List Int), whole (readBegin n) x = if x.length = n ∧ (x.all fun v => decide ((if v < 0 then -v else v) ≤ 1000000)) = true then some x else none := by
  have rd : ∀ (v : Int) (r : List Int), readInt (-VaaclBase.BEGIN) VaaclBase.BEGIN (v :: r) = if (if v < 0 then -v else v) ≤ 1000000 then some (v, r) else none := fun v r => by
    show (if -VaaclBase.BEGIN ≤ v ∧ v ≤ VaaclBase.BEGIN then some (v, r) else none) = _
    have e : VaaclBase.BEGIN = 1000000 := rfl
    rw [e]
    by_cases c : -1000000 ≤ v ∧ v ≤ 1000000
    · rw [if_pos c, if_pos (by split <;> omega)]
    · rw [if_neg c, if_neg (by split <;> omega)]
  intro n
  induction n with
  | zero =>
    intro x
    cases x with
    | nil => rfl
    | cons v r =>
      show (none : Option Values) = _
      rw [if_neg fun z => by cases z.1]
  | succ n ih =>
    intro x
    rw [whole_bind]
    show ((readTimes (readInt (-VaaclBase.BEGIN) VaaclBase.BEGIN) (n + 1) x).bind _) = _
    rw [readTimes_bind]
    cases x with
    | nil =>
      show (none : Option Values) = _
      rw [if_neg fun z => by cases z.1]
    | cons v r =>
      rw [rd]
      by_cases c : (if v < 0 then -v else v) ≤ 1000000
      · rw [if_pos c]
        have ih := ih r
        rw [whole_bind] at ih
        have ih : ((readTimes (readInt (-VaaclBase.BEGIN) VaaclBase.BEGIN) n r).bind fun u => if u.2 = [] then some u.1 else none) = if r.length = n ∧ (r.all fun v => decide ((if v < 0 then -v else v) ≤ 1000000)) = true then some r else none := ih
        show ((readTimes (readInt (-VaaclBase.BEGIN) VaaclBase.BEGIN) n r).bind fun u => if u.2 = [] then some (v :: u.1) else none) = _
        have e2 : ((readTimes (readInt (-VaaclBase.BEGIN) VaaclBase.BEGIN) n r).bind fun u => if u.2 = [] then some (v :: u.1) else none) = ((readTimes (readInt (-VaaclBase.BEGIN) VaaclBase.BEGIN) n r).bind fun u => if u.2 = [] then some u.1 else none).map (fun y => v :: y) := by
          cases readTimes (readInt (-VaaclBase.BEGIN) VaaclBase.BEGIN) n r with
          | none => rfl
          | some u =>
            show (if u.2 = [] then some (v :: u.1) else none) = (if u.2 = [] then some u.1 else none).map (fun y => v :: y)
            split <;> rfl
        rw [e2, ih]
        by_cases d : r.length = n ∧ (r.all fun v => decide ((if v < 0 then -v else v) ≤ 1000000)) = true
        · rw [if_pos d, if_pos ⟨by rw [List.length_cons, d.1], by rw [List.all_cons, decide_eq_true c, d.2]; rfl⟩]
          rfl
        · rw [if_neg d, if_neg fun z => d ⟨by have := z.1; rw [List.length_cons] at this; omega, by have := z.2; rw [List.all_cons, decide_eq_true c, Bool.true_and] at this; exact this⟩]
          rfl
      · rw [if_neg c, if_neg fun z => by have := z.2; rw [List.all_cons, decide_eq_false c, Bool.false_and] at this; cases this]
        rfl
theorem step_values1 {s : State} {l : List Int} (h : l.length = s.values.length ∧ (l.all fun v => decide ((if v < 0 then -v else v) ≤ 1000000)) = true) : step s (.values l) = ({ s with values := l }, [0]) := by
  show (match whole (readBegin s.values.length) l with | none => (s, ([-1] : List Int)) | some v => ({ s with values := v }, [0])) = _
  rw [begin_is, if_pos h]
theorem step_values0 {s : State} {l : List Int} (h : ¬ (l.length = s.values.length ∧ (l.all fun v => decide ((if v < 0 then -v else v) ≤ 1000000)) = true)) : step s (.values l) = (s, [-1]) := by
  show (match whole (readBegin s.values.length) l with | none => (s, ([-1] : List Int)) | some v => ({ s with values := v }, [0])) = _
  rw [begin_is, if_neg h]
def sp_f_take_values (A : Ad) : Sp := fun vs H Q E => ∃ h dx s q l, vs = [.ref h, .ref q] ∧ HoldZ A h dx s H ∧ IntsAt H q l ∧ l.length ≤ 30000 ∧ Out1 A h dx s (.values l) H Q ∧ Out2 A h dx s (.values l) H E
theorem sc_f_take_values : FnScope ["holder", "row", "value"] ["holder", "row"] (defScope s_f_take_values) := ⟨rfl, rfl, rfl, by decide +kernel, rfl, by decide +kernel, by decide +kernel⟩
theorem b_f_take_values {K : PySem.W.Frag} {f : Addr} {fd : FuncData} (F : Fun K "take_values" "take_values" s_f_take_values f fd) : Binds K fd ["holder", "row"] [] := F.binds fun _ _ _ _ _ _ us hl => match us, hl with | [_, _], _ => rfl
theorem ok_f_take_values {P : Program} {w : World} {K : PySem.W.Frag} {mg : Str → Option Value} {base : Heap} {A : Ad} (T : Txt K mg A) : FnG P w K mg base (L2.CX P w) 4 "take_values" ["holder", "row"] (sp_f_take_values A) := by
  obtain ⟨f, fd, hm, F⟩ := T.d_f_take_values
  refine ⟨f, fd, hm, F.kp, F.okX sc_f_take_values (fun vs H Q E h => ?_) (fun cdv A1 outer s H vs Q E hr h => ⟨_, (pss_cons (ps_expr (pe_callG (ok_f_must_leaps T) (hr.mono (by decide)) (L2.passes_call (L2.takes_of rfl rfl rfl rfl) (fun _ _ _ _ h => h)) rfl (by exact (pa_cons (pe_and (pe_cmpR op_eq (pe_callB call_len_seq (by rfl) T.n_len PySem.boot_len (by exact (pa_cons (pv 1) pa_nil))) (pe_fld (pe_fld (pv 0) rfl) rfl) (nomark _)) (pe_one (pe_callB (cr_all rfl) (by rfl) T.n_all (by decide +kernel) (by exact (pa_cons (pe_lc (own := [("value", 2)]) (g := gName 2) (tt := tYes) rfl sc_f_take_values.nd (pi_list (pv 1)) (blkOk_by (own := [("value", 2)]) (N := ["holder", "row", "value"]) (sc := defScope s_f_take_values) (by decide +kernel)) (fun _ _ _ _ _ => (pg_name (i := 2) sc_f_take_values.nd rfl (Or.inl rfl))) (fun _ _ _ _ _ => pts_nil) (fun _ _ _ _ _ => (pe_cmpR op_le (pe_callB call_abs (by rfl) T.n_abs (by decide +kernel) (by exact (pa_cons (pv 2) pa_nil))) (pe_gi T.i_MOST_VALUE rfl) (nomark _)))) pa_nil))))) (pa_cons (pe_un un_neg pe_int) pa_nil)))))
      (pss_cons (ps_fld (pv 0) (pe_callTy call_tuple_of (by rfl) T.n_tuple (by decide +kernel) (by exact (pa_cons (pv 1) pa_nil))) rfl)
      (pss_one (ps_ret (pe_lst (by exact (pa_cons pe_int pa_nil))))))), ?_⟩), b_f_take_values F⟩
  · obtain ⟨x, dx, s, q, l, rfl, _⟩ := h
    rfl
  · obtain ⟨h, dx, s, q, l, rfl, ⟨a, p, n, Z⟩, hI, hz, o, o2⟩ := h
    obtain ⟨dl, pb, bs, hl1, hl2, hl3⟩ := Z.loop
    have hlen := Z.len
    have pr : ∀ s : List Int, Paired (fun v d => v = V.int d) (s.map V.int) s := fun s => by
      induction s with
      | nil => exact .nil
      | cons a r ih => exact .cons rfl ih
    refine q_mustL (k := -1) (b := decide (l.length = n) && (l.map fun v => decide ((if v < 0 then -v else v) ≤ (1000000 : Int))).all id) (Evl.ev_andV (ev_is (ev_eq (i := ((l.map V.int).length : Nat)) (j := (n : Int)) (ev_len (ev_var rfl) (Or.inl (SqL.of hI))) (ev_fld (ev_fld (ev_var rfl) Z.obj T.cls_Holder T.na_Holder_loop rfl) hl1 T.cls_Loop T.na_Loop_counters rfl)) (by rw [List.length_map]; congr 1; exact decide_eq_decide.mpr (by omega))) fun _ => ev_allL ?_) (ev_neg ev_c) (fun hb H1 e1 => ?_) (fun hb d H1 e1 hd => ?_)
    · rw [List.map_map]
      refine el_lcV (F := fun v d => v = V.int d) (V.bl ∘ fun v => decide ((if v < 0 then -v else v) ≤ (1000000 : Int))) (ev_var rfl) (SqL.of hI) (pr l) (by rw [List.length_map]; omega) (fun _ => rfl) fun x d hd hx => ?_
      subst hx
      exact ev_i0 (Evl.ev_cb (ea_cons (ev_var rfl) ea_nil) fun H1 e1 Q q => ⟨_, rfl, q H1 (Ex.refl H1)⟩) ev_c
    · rw [Bool.and_eq_true, decide_eq_true_iff, List.all_map] at hb
      have hc : l.length = s.values.length ∧ (l.all fun v => decide ((if v < 0 then -v else v) ≤ (1000000 : Int))) = true := ⟨by rw [hb.1, hlen], hb.2⟩
      refine q_fldU (eu_tuple (ev_var rfl) (SqL.of (e1 _ _ hI))) (ev_var rfl) (e1 _ _ Z.obj) T.cls_Holder T.na_Holder_amounts (by show 2 < 1000; decide) fun pv H2 npv e2 hpv => ?_
      have Z2 := Z.mono (e1.trans e2)
      rw [putF_am]
      have bl : Bnd (10 ^ 12) l := fun i => by
        by_cases c : i < l.length
        · have := List.all_eq_true.mp hc.2 l[i] (List.getElem_mem c)
          have this : decide ((if l[i] < 0 then -l[i] else l[i]) ≤ (1000000 : Int)) = true := this
          rw [decide_eq_true_iff] at this
          rw [va_lt c]
          split at this <;> omega
        · rw [va_ge (by omega)]
          omega
      exact s_retO' (xs := [0]) (s' := { s with values := l }) o (But.mut (but_of (e1.trans e2))) ⟨_, upd_same⟩ (Z2.put hpv hb.1 bl) (el_lst (vs := [V.int 0]) (ea_cons ev_c ea_nil) (by show (1 : Nat) ≤ 100000; decide)) (step_values1 hc)
    · refine o2 d H1 (-1) (but_of e1) ⟨a, p, n, Z.mono e1⟩ hd (step_values0 fun hc => ?_)
      rw [decide_eq_true (by rw [hc.1, hlen]), List.all_map] at hb
      have h2 : (l.all (id ∘ fun v => decide ((if v < 0 then -v else v) ≤ (1000000 : Int)))) = true := hc.2
      rw [h2] at hb
      cases hb

theorem eu_rep {K : PySem.W.Frag} {σ : L2.St} {H : Hp} {ta tb : TE} {n : Nat} (ha : EvU ta σ H [.int 0]) (hb : Ev tb σ H (.int ((n : Nat) : Int))) (h1 : 1 ≤ n) (h4 : n ≤ 4) : EvU (tOp (rRepX K) ta tb) σ H ((List.replicate n (0 : Int)).map V.int) := fun H1 e Q k =>
  ha H1 e _ fun p H2 np e2 hp => hb H2 (e.trans e2) _ fun H3 e3 => ⟨p, n, [.int 0], rfl, rfl, SqT.of (e3 _ _ hp), (fun z => by cases z), by omega, by omega, (by show 1 ≤ 1000; decide), fun h => by
    have hn : n = 1 := by omega
    subst hn
    exact k p H3 np (e2.trans e3) (e3 _ _ hp), fun h q hq => k q _ (fresh_back (e2.trans e3) hq) ((e2.trans e3).trans (Ex.new hq)) (by
      rw [upd_same, Int.toNat_natCast]
      congr 2
      have : ∀ m : Nat, (List.replicate m [V.int 0]).flatten = (List.replicate m (0 : Int)).map V.int := by
        intro m
        induction m with
        | zero => rfl
        | succ m ih => rw [List.replicate_succ, List.flatten_cons, ih, List.replicate_succ]; rfl
      exact this n)⟩
theorem step_loop0 {s : State} {c : Int} {l : List Int} (h : c < 1 ∨ 4 < c) : step s (.loop c l) = (s, [-2]) := if_pos h
theorem step_loop1 {s : State} {c : Int} {l : List Int} (h : 1 ≤ c ∧ c ≤ 4) (e : whole (readLoop c.toNat) l = none) : step s (.loop c l) = (s, [-1]) := by
  have : step s (.loop c l) = (match whole (readLoop c.toNat) l with | none => (s, ([-1] : List Int)) | some x => (⟨x, List.replicate c.toNat 0⟩, [Vaacld.int x.length])) := if_neg fun z => by
    have z : c < 1 ∨ 4 < c := z
    omega
  rw [this, e]
theorem step_loop2 {s : State} {c : Int} {l : List Int} {x : Loop} (h : 1 ≤ c ∧ c ≤ 4) (e : whole (readLoop c.toNat) l = some x) : step s (.loop c l) = (⟨x, List.replicate c.toNat 0⟩, [Vaacld.int x.length]) := by
  have : step s (.loop c l) = (match whole (readLoop c.toNat) l with | none => (s, ([-1] : List Int)) | some x => (⟨x, List.replicate c.toNat 0⟩, [Vaacld.int x.length])) := if_neg fun z => by
    have z : c < 1 ∨ 4 < c := z
    omega
  rw [this, e]
def sp_f_take_loop (A : Ad) : Sp := fun vs H Q E => ∃ h dx s q c l, vs = [.ref h, .int c, .ref q] ∧ HoldZ A h dx s H ∧ IntsAt H q l ∧ Out1 A h dx s (.loop c l) H Q ∧ Out2 A h dx s (.loop c l) H E
theorem sc_f_take_loop : FnScope ["holder", "counters", "row", "e"] ["holder", "counters", "row"] (defScope s_f_take_loop) := ⟨rfl, rfl, rfl, by decide +kernel, rfl, by decide +kernel, by decide +kernel⟩
theorem b_f_take_loop {K : PySem.W.Frag} {f : Addr} {fd : FuncData} (F : Fun K "take_loop" "take_loop" s_f_take_loop f fd) : Binds K fd ["holder", "counters", "row"] [] := F.binds fun _ _ _ _ _ _ us hl => match us, hl with | [_, _, _], _ => rfl
theorem ok_f_take_loop {P : Program} {w : World} {K : PySem.W.Frag} {mg : Str → Option Value} {base : Heap} {A : Ad} (T : Txt K mg A) : FnG P w K mg base (L2.CX P w) 7 "take_loop" ["holder", "counters", "row"] (sp_f_take_loop A) := by
  obtain ⟨f, fd, hm, F⟩ := T.d_f_take_loop
  obtain ⟨fI, fdI, hI, tI, F1, FH, bI⟩ := ok_Refusal_init (P := P) (w := w) (base := base) T
  obtain ⟨fr, fdr, hmr, hkr, Fr, br⟩ := (ok_f_read_loop (P := P) (w := w) (base := base) T).ex
  refine ⟨f, fd, hm, F.kp, F.okX sc_f_take_loop (fun vs H Q E h => ?_) (fun cdv A1 outer s H vs Q E hr h => ⟨_, (pss_cons (ps_expr (pe_callG (ok_f_must_leaps T) (hr.mono (by decide)) (L2.passes_call (L2.takes_of rfl rfl rfl rfl) (fun _ _ _ _ h => h)) rfl (by exact (pa_cons (pe_chain op_le op_le pe_int (pv 1) (pe_gi T.i_MOST_COUNTERS rfl)) (pa_cons (pe_un un_neg pe_int) pa_nil)))))
    (pss_cons (ps_try_asX (i := 3) (tb := fun W => sFld K (tVar 0) (tCallS (sp_f_read_loop A) (L2.WE W) (tCons (tVar 1) (tCons (tVar 2) tNil))) "loop") (ts := fun a cls _ => fun _ σ H => Raises (cxOf (L2.CX P w) P w K mg base ["holder", "counters", "row", "e"] "take_loop" (defScope s_f_take_loop) f cdv A1 outer s H E) cls ∧ σ[3]? = some (some (.ref a)) ∧ tMkO A.cRefusal (sp_Refusal_init K A) [] (tCons (tUn (rU fun i => .int (-i)) (tC (.int 1))) tNil) σ H fun c d H' => E c d H')
      rfl rfl sc_f_take_loop.nd rfl rfl ⟨rfl, by decide, .inl T.gNW⟩ (fun hd => PassesOwnAt.leaving) (L2.takes_of rfl rfl rfl rfl)
      (fun W pn xe tk _ => pss_one (ps_fld (pv 0) (pe_callS Fr (hr.mono (by decide)) rfl hmr hkr br (fun σ => L2N.passAt tk σ) (by exact (pa_cons (pv 1) (pa_cons (pv 2) pa_nil)))) rfl))
      (fun a oe cls d pn xe hz hf tk hot => by
        obtain ⟨vs0, hvs⟩ := hf
        exact pss_one (ps_raiseHF (i := 3) (n := "e") rfl List.mem_cons_self hvs (hz.2.2 vs0 hvs) hz.1 rfl rfl rfl tk (L2H.pmk5_oexH T.oRf hI tI FH (L2H.roomH_mark (hr.mono (by decide)) _) hot bI pass0 rfl T.gRf (by exact (pa_cons (pe_un un_neg pe_int) pa_nil))))))
    (pss_cons (ps_fld (pv 0) (pe_op op_repX (pe_tup (by exact (pa_cons pe_int pa_nil))) (pv 1)) rfl)
    (pss_one (ps_ret (pe_lst (by exact (pa_cons (pe_callB call_len_seq (by rfl) T.n_len PySem.boot_len (by exact (pa_cons (pe_fld (pe_fld (pv 0) rfl) rfl) pa_nil))) pa_nil)))))))), ?_⟩), b_f_take_loop F⟩
  · obtain ⟨x, dx, s, q, c, l, rfl, _⟩ := h
    rfl
  · obtain ⟨h, dx, s, q, c, l, rfl, ⟨a, p, n, Z⟩, hI, o, o2⟩ := h
    refine q_mustL (k := -2) (ev_chainI (a := 1) (b := c) (c := 4) ev_c (ev_var rfl) ev_c) (ev_neg ev_c) (fun hb H1 e1 => ?_) (fun hb d H1 e1 hd => ?_)
    · rw [Bool.and_eq_true, decide_eq_true_iff, decide_eq_true_iff] at hb
      obtain ⟨m, rfl⟩ : ∃ m : Nat, c = ((m : Nat) : Int) := ⟨c.toNat, by omega⟩
      have s1 := step_loop1 (s := s) (l := l) hb
      have s2 := fun x => step_loop2 (s := s) (l := l) (x := x) hb
      rw [Int.toNat_natCast] at s1 s2
      have hm1 : 1 ≤ m := by omega
      have hm4 : m ≤ 4 := by omega
      refine ⟨_, rfl, _, rfl, q, m, l, rfl, e1 _ _ hI, hm1, hm4, fun hno H2 e2 => ?_, fun x hx a' H2 e2 n2 => ?_⟩
      · refine ⟨true, T.eNW, fun _ ae nae => ⟨raises_own T.bNW T.tNW, rfl, ?_⟩, fun z => by cases z⟩
        refine ⟨_, rfl, (by show 1 ≤ 1000; decide), fun y ny => ?_⟩
        refine ⟨y, -1, rfl, T.oRf, T.nRf, upd_same, fun d nd nda => ⟨rfl, d, [("number", .int (-1))], upd_same, ?_, ?_, ?_⟩⟩
        · rw [upd_ne nda, upd_same]
        · rw [upd_ne nda] at nd
          exact nd
        · have e12 := e1.trans e2
          have eX : Ex H (upd (del (upd (upd (upd H2 y (exo y A.cRefusal none)) d (exd d [("number", V.int (-1))])) y (exo y A.cRefusal (some d))) y) d (HO.xd [("number", .int (-1))])) := fun b o hb => by
            have hb1 := e12 _ _ hb
            rw [upd_ne nda] at nd
            have nba := ne_of_none hb1 ny
            have nbd := ne_of_none hb1 nd
            rw [upd_ne nbd, del_ne nba, upd_ne nba, upd_ne nbd, upd_ne nba]
            exact hb1
          exact o2 d _ (-1) (but_of eX) ⟨a, p, n, Z.mono eX⟩ upd_same (s1 hno)
      · have st := s2 x hx
        have wf := readLoop_ok hm1 hm4 hx
        have w3 := wf.three
        have e12 := e1.trans e2
        obtain ⟨N, fN, eN, hL⟩ := n2
        have Nh : N h = none := fN _ _ (e1 _ _ Z.obj)
        refine ⟨_, rfl, h, A.cHolder, dx.1, _, rfl, e12 _ _ Z.obj, T.cls_Holder, T.na_Holder_loop, (by show 2 < 1000; decide), ?_⟩
        rw [putF_lo]
        refine q_fldU (eu_rep (n := m) (eu_tup (vs := [V.int 0]) (ea_cons ev_c ea_nil) (by show (1 : Nat) ≤ 100000; decide)) (ev_var rfl) hm1 hm4) (ev_var rfl) upd_same T.cls_Holder T.na_Holder_amounts (by show 2 < 1000; decide) fun pv H3 npv e3 hpv => ?_
        rw [putF_am]
        have npv0 : H2 pv = none := by
          have npx : pv ≠ h := fun z => by subst z; rw [upd_same] at npv; cases npv
          rw [upd_ne npx] at npv
          exact npv
        have pvh : pv ≠ h := ne_of hpv (e3 _ _ upd_same) (by intro z; cases z)
        have b13 : But h H (upd H3 h (.ins A.cHolder dx.1 (fH a' pv))) := fun b o' nb hb => by
          rw [upd_ne nb]
          refine e3 _ _ ?_
          rw [upd_ne nb]
          exact e12 _ _ hb
        have eN3 : Ex N (upd H3 h (.ins A.cHolder dx.1 (fH a' pv))) := ((eN.mut Nh).trans e3).mut Nh
        have Zn : HoldP A h dx a' pv m ⟨x, List.replicate m 0⟩ (upd H3 h (.ins A.cHolder dx.1 (fH a' pv))) := by
          obtain ⟨uo, huo⟩ := Z.out
          obtain ⟨u2, hu2⟩ := out_upd (h := h) (v := .ins A.cHolder dx.1 (fH a' p)) ⟨uo, e12 _ _ huo⟩
          refine ⟨⟨N, Nh, fN _ _ (e1 _ _ huo), eN3, hL⟩, upd_same, ?_, wf, by show (List.replicate m (0 : Int)).length = m; exact List.length_replicate, fun i => ?_, out_upd ⟨u2, e3 _ _ hu2⟩⟩
          · show upd H3 h _ pv = _
            rw [upd_ne pvh]
            exact hpv
          · have : valueAt (List.replicate m (0 : Int)) i = 0 := by
              by_cases c : i < m
              · rw [va_lt (by rw [List.length_replicate]; exact c), List.getElem_replicate]
              · rw [va_ge (by rw [List.length_replicate]; omega)]
            show _ ≤ valueAt (List.replicate m (0 : Int)) i ∧ valueAt (List.replicate m (0 : Int)) i ≤ _
            rw [this]
            decide
        obtain ⟨dl, pb, bs, hl1, hl2, hl3⟩ := Zn.loop
        have lb := hl3.length
        refine s_retO' (xs := [Vaacld.int x.length]) (s' := ⟨x, List.replicate m 0⟩) o b13 ⟨_, upd_same⟩ ⟨a', pv, m, Zn⟩ (el_lst (vs := [V.int ((x.length : Nat) : Int)]) (ea_cons (ev_is (ev_len (ev_fld (ev_fld (ev_var rfl) Zn.obj T.cls_Holder T.na_Holder_loop rfl) hl1 T.cls_Loop T.na_Loop_branches rfl) (Or.inl (SqL.of hl2))) (by rw [lb])) ea_nil) (by show (1 : Nat) ≤ 100000; decide)) st
    · have hm : c < 1 ∨ 4 < c := by
        rw [Bool.and_eq_false_iff, decide_eq_false_iff_not, decide_eq_false_iff_not] at hb
        omega
      exact o2 d H1 (-2) (but_of e1) ⟨a, p, n, Z.mono e1⟩ hd (step_loop0 hm)

open VaacldNeutral (callOf)
section
variable {K : PySem.W.Frag} {σ : L2.St} {H : Hp} {ta tb : TE} {D : Ends} {tz tu : TS} {i : Nat} {k j : Int}
theorem q_eqF (hσ : σ[i]? = some (some (.int k))) (hk : k ≠ j) (h : tz D σ H) : tSeq (tIfS (tTest (tOp rEq (tVar i) (tC (.int j)))) tu tNext) tz D σ H := ⟨_, hσ, rfl, _, rfl, by
  show (if decide (V.int k = V.int j) = true then _ else _)
  rw [if_neg fun z => hk (V.int.inj (of_decide_eq_true z))]
  exact h⟩
theorem q_eqT (hσ : σ[i]? = some (some (.int k))) (hk : k = j) (h : tu { D with nx := tz D } σ H) : tSeq (tIfS (tTest (tOp rEq (tVar i) (tC (.int j)))) tu tNext) tz D σ H := ⟨_, hσ, rfl, _, rfl, by
  show (if decide (V.int k = V.int j) = true then _ else _)
  rw [if_pos (decide_eq_true (by rw [hk]))]
  exact h⟩
theorem r_eqT (hσ : σ[i]? = some (some (.int k))) (hk : k = j) (h : tRet ta D σ H) : tRet (tIf (tTest (tOp rEq (tVar i) (tC (.int j)))) ta tb) D σ H := ⟨_, hσ, rfl, _, rfl, by
  show (if decide (V.int k = V.int j) = true then _ else _)
  rw [if_pos (decide_eq_true (by rw [hk]))]
  exact h⟩
theorem r_eqF (hσ : σ[i]? = some (some (.int k))) (hk : k ≠ j) (h : tRet tb D σ H) : tRet (tIf (tTest (tOp rEq (tVar i) (tC (.int j)))) ta tb) D σ H := ⟨_, hσ, rfl, _, rfl, by
  show (if decide (V.int k = V.int j) = true then _ else _)
  rw [if_neg fun z => hk (V.int.inj (of_decide_eq_true z))]
  exact h⟩
end
inductive CallIs : Int → List Int → List (List Int) → Call → Prop where
  | loop (n : Int) (l : List Int) : CallIs 0 [n] [l] (.loop n l)
  | values (l : List Int) : CallIs 1 [] [l] (.values l)
  | chosen : CallIs 2 [] [] .chosen
  | pattern : CallIs 3 [] [] .pattern
  | times : CallIs 4 [] [] .times
  | leap : CallIs 5 [] [] .leap
  | phases : CallIs 6 [] [] .phases
  | done : CallIs 7 [] [] .done
  | go : CallIs 8 [] [] .go
  | run (n : Int) : CallIs 9 [n] [] (.run n)
  | given : CallIs 10 [] [] .given
theorem isLists1 {l : List Int} {v : V} {H : Hp} (h : IsLists [l] v H) : ∃ r q, v = .ref r ∧ H r = some (.lst [.ref q]) ∧ IntsAt H q l := by
  obtain ⟨p, ys, rfl, hp, hy⟩ := h
  cases hy with
  | cons h1 h2 =>
    cases h2
    obtain ⟨q, rfl, hq⟩ := h1
    exact ⟨p, q, rfl, hp, hq⟩
def sp_f_told (A : Ad) : Sp := fun vs H Q E => ∃ h dx s k ws xs wq rv c, vs = [.ref h, .int k, .ref wq, rv] ∧ HoldZ A h dx s H ∧ IntsAt H wq ws ∧ IsLists xs rv H ∧ CallIs k ws xs c ∧ (∀ x ∈ xs, x.length ≤ 30000) ∧ Out1 A h dx s c H Q ∧ Out2 A h dx s c H E
theorem sc_f_told : FnScope ["holder", "which", "wholes", "rows"] ["holder", "which", "wholes", "rows"] (defScope s_f_told) := ⟨rfl, rfl, rfl, by decide +kernel, rfl, by decide +kernel, by decide +kernel⟩
theorem b_f_told {K : PySem.W.Frag} {f : Addr} {fd : FuncData} (F : Fun K "told" "told" s_f_told f fd) : Binds K fd ["holder", "which", "wholes", "rows"] [] := F.binds fun _ _ _ _ _ _ us hl => match us, hl with | [_, _, _, _], _ => rfl
theorem ok_f_told {P : Program} {w : World} {K : PySem.W.Frag} {mg : Str → Option Value} {base : Heap} {A : Ad} (T : Txt K mg A) : FnG P w K mg base (L2.CX P w) 15 "told" ["holder", "which", "wholes", "rows"] (sp_f_told A) := by
  obtain ⟨f, fd, hm, F⟩ := T.d_f_told
  refine ⟨f, fd, hm, F.kp, F.okX sc_f_told (fun vs H Q E h => ?_) (fun cdv A1 outer s H vs Q E hr h => ⟨_, (pss_cons (ps_if (pt_cmpR op_eq (pv 1) pe_int (nomark _)) (pss_one (ps_ret (pe_callG (ok_f_take_loop T) (hr.mono (by decide)) (L2.passes_call (L2.takes_of rfl rfl rfl rfl) (fun _ _ _ _ h => h)) rfl (by exact (pa_cons (pv 0) (pa_cons (pe_ix ix_list (pv 2) pe_int (fun _ _ => rfl)) (pa_cons (pe_ix ix_list (pv 3) pe_int (fun _ _ => rfl)) pa_nil))))))) pss_nil)
      (pss_cons (ps_if (pt_cmpR op_eq (pv 1) pe_int (nomark _)) (pss_one (ps_ret (pe_callG (ok_f_take_values T) (hr.mono (by decide)) (L2.passes_call (L2.takes_of rfl rfl rfl rfl) (fun _ _ _ _ h => h)) rfl (by exact (pa_cons (pv 0) (pa_cons (pe_ix ix_list (pv 3) pe_int (fun _ _ => rfl)) pa_nil)))))) pss_nil)
      (pss_cons (ps_if (pt_cmpR op_eq (pv 1) pe_int (nomark _)) (pss_one (ps_ret (pe_callG (ok_f_chosen T) (hr.mono (by decide)) pass0 rfl (by exact (pa_cons (pv 0) pa_nil))))) pss_nil)
      (pss_cons (ps_if (pt_cmpR op_eq (pv 1) pe_int (nomark _)) (pss_one (ps_ret (pe_callG (ok_f_pattern T) (hr.mono (by decide)) pass0 rfl (by exact (pa_cons (pv 0) pa_nil))))) pss_nil)
      (pss_cons (ps_if (pt_cmpR op_eq (pv 1) pe_int (nomark _)) (pss_one (ps_ret (pe_callG (ok_f_times T) (hr.mono (by decide)) (L2.passes_call (L2.takes_of rfl rfl rfl rfl) (fun _ _ _ _ h => h)) rfl (by exact (pa_cons (pv 0) pa_nil))))) pss_nil)
      (pss_cons (ps_if (pt_cmpR op_eq (pv 1) pe_int (nomark _)) (pss_one (ps_ret (pe_callG (ok_f_leap T) (hr.mono (by decide)) (L2.passes_call (L2.takes_of rfl rfl rfl rfl) (fun _ _ _ _ h => h)) rfl (by exact (pa_cons (pv 0) pa_nil))))) pss_nil)
      (pss_cons (ps_if (pt_cmpR op_eq (pv 1) pe_int (nomark _)) (pss_one (ps_ret (pe_callG (ok_f_all_phases T) (hr.mono (by decide)) pass0 rfl (by exact (pa_cons (pv 0) pa_nil))))) pss_nil)
      (pss_cons (ps_if (pt_cmpR op_eq (pv 1) pe_int (nomark _)) (pss_one (ps_ret (pe_callG (ok_f_done T) (hr.mono (by decide)) pass0 rfl (by exact (pa_cons (pv 0) pa_nil))))) pss_nil)
      (pss_cons (ps_if (pt_cmpR op_eq (pv 1) pe_int (nomark _)) (pss_one (ps_ret (pe_callG (ok_f_go T) (hr.mono (by decide)) (L2.passes_call (L2.takes_of rfl rfl rfl rfl) (fun _ _ _ _ h => h)) rfl (by exact (pa_cons (pv 0) pa_nil))))) pss_nil)
      (pss_one (ps_ret (pe_ifExp (pt_cmpR op_eq (pv 1) pe_int (nomark _)) (pe_callG (ok_f_run T) (hr.mono (by decide)) (L2.passes_call (L2.takes_of rfl rfl rfl rfl) (fun _ _ _ _ h => h)) rfl (by exact (pa_cons (pv 0) (pa_cons (pe_ix ix_list (pv 2) pe_int (fun _ _ => rfl)) pa_nil)))) (pe_callG (ok_f_given T) (hr.mono (by decide)) pass0 rfl (by exact (pa_cons (pv 0) pa_nil))))))))))))))), ?_⟩), b_f_told F⟩
  · obtain ⟨h, dx, s, k, ws, xs, wq, rv, c, rfl, _⟩ := h
    rfl
  · obtain ⟨h, dx, s, k, ws, xs, wq, rv, c, rfl, Z, hw, hr, hc, hz, o, o2⟩ := h
    cases hc with
    | loop n l =>
        obtain ⟨r, q, rfl, hr1, hq⟩ := isLists1 hr
        refine q_eqT rfl rfl ?_
        refine s_retC (cons_ev (ev_var rfl) fun H1 e1 => ?_)
        refine cons_ev (v := .int n) (ev_ixL (i := 0) (ev_var rfl) ev_c (SqL.of (e1 _ _ hw)) rfl) fun H2 e2 => ?_
        refine cons_ev (v := .ref q) (ev_ixL (i := 0) (ev_var rfl) ev_c (SqL.of ((e1.trans e2) _ _ hr1)) rfl) fun H3 e3 => ?_
        have e := (e1.trans e2).trans e3
        exact ⟨h, dx, s, q, n, l, rfl, Z.mono e, e _ _ hq, o.ex e, o2.ex e⟩
    | values l =>
        obtain ⟨r, q, rfl, hr1, hq⟩ := isLists1 hr
        refine q_eqF rfl (by decide) ?_
        refine q_eqT rfl rfl ?_
        refine s_retC (cons_ev (ev_var rfl) fun H1 e1 => ?_)
        refine cons_ev (v := .ref q) (ev_ixL (i := 0) (ev_var rfl) ev_c (SqL.of (e1 _ _ hr1)) rfl) fun H2 e2 => ?_
        have e := e1.trans e2
        exact ⟨h, dx, s, q, l, rfl, Z.mono e, e _ _ hq, hz l List.mem_cons_self, o.ex e, o2.ex e⟩
    | chosen =>
        refine q_eqF rfl (by decide) ?_
        refine q_eqF rfl (by decide) ?_
        refine q_eqT rfl rfl ?_
        refine s_retC (cons_ev (ev_var rfl) fun H1 e1 => ?_)
        exact ⟨h, dx, s, rfl, Z.mono e1, o.ex e1⟩
    | pattern =>
        refine q_eqF rfl (by decide) ?_
        refine q_eqF rfl (by decide) ?_
        refine q_eqF rfl (by decide) ?_
        refine q_eqT rfl rfl ?_
        refine s_retC (cons_ev (ev_var rfl) fun H1 e1 => ?_)
        exact ⟨h, dx, s, rfl, Z.mono e1, o.ex e1⟩
    | times =>
        refine q_eqF rfl (by decide) ?_
        refine q_eqF rfl (by decide) ?_
        refine q_eqF rfl (by decide) ?_
        refine q_eqF rfl (by decide) ?_
        refine q_eqT rfl rfl ?_
        refine s_retC (cons_ev (ev_var rfl) fun H1 e1 => ?_)
        exact ⟨h, dx, s, rfl, Z.mono e1, o.ex e1, o2.ex e1⟩
    | leap =>
        refine q_eqF rfl (by decide) ?_
        refine q_eqF rfl (by decide) ?_
        refine q_eqF rfl (by decide) ?_
        refine q_eqF rfl (by decide) ?_
        refine q_eqF rfl (by decide) ?_
        refine q_eqT rfl rfl ?_
        refine s_retC (cons_ev (ev_var rfl) fun H1 e1 => ?_)
        exact ⟨h, dx, s, rfl, Z.mono e1, o.ex e1, o2.ex e1⟩
    | phases =>
        refine q_eqF rfl (by decide) ?_
        refine q_eqF rfl (by decide) ?_
        refine q_eqF rfl (by decide) ?_
        refine q_eqF rfl (by decide) ?_
        refine q_eqF rfl (by decide) ?_
        refine q_eqF rfl (by decide) ?_
        refine q_eqT rfl rfl ?_
        refine s_retC (cons_ev (ev_var rfl) fun H1 e1 => ?_)
        exact ⟨h, dx, s, rfl, Z.mono e1, o.ex e1⟩
    | done =>
        refine q_eqF rfl (by decide) ?_
        refine q_eqF rfl (by decide) ?_
        refine q_eqF rfl (by decide) ?_
        refine q_eqF rfl (by decide) ?_
        refine q_eqF rfl (by decide) ?_
        refine q_eqF rfl (by decide) ?_
        refine q_eqF rfl (by decide) ?_
        refine q_eqT rfl rfl ?_
        refine s_retC (cons_ev (ev_var rfl) fun H1 e1 => ?_)
        exact ⟨h, dx, s, rfl, Z.mono e1, o.ex e1⟩
    | go =>
        refine q_eqF rfl (by decide) ?_
        refine q_eqF rfl (by decide) ?_
        refine q_eqF rfl (by decide) ?_
        refine q_eqF rfl (by decide) ?_
        refine q_eqF rfl (by decide) ?_
        refine q_eqF rfl (by decide) ?_
        refine q_eqF rfl (by decide) ?_
        refine q_eqF rfl (by decide) ?_
        refine q_eqT rfl rfl ?_
        refine s_retC (cons_ev (ev_var rfl) fun H1 e1 => ?_)
        exact ⟨h, dx, s, rfl, Z.mono e1, o.ex e1, o2.ex e1⟩
    | run n =>
        refine q_eqF rfl (by decide) ?_
        refine q_eqF rfl (by decide) ?_
        refine q_eqF rfl (by decide) ?_
        refine q_eqF rfl (by decide) ?_
        refine q_eqF rfl (by decide) ?_
        refine q_eqF rfl (by decide) ?_
        refine q_eqF rfl (by decide) ?_
        refine q_eqF rfl (by decide) ?_
        refine q_eqF rfl (by decide) ?_
        refine r_eqT rfl rfl ?_
        refine s_retC (cons_ev (ev_var rfl) fun H1 e1 => ?_)
        refine cons_ev (v := .int n) (ev_ixL (i := 0) (ev_var rfl) ev_c (SqL.of (e1 _ _ hw)) rfl) fun H2 e2 => ?_
        have e := e1.trans e2
        exact ⟨h, dx, s, n, rfl, Z.mono e, o.ex e, o2.ex e⟩
    | given =>
        refine q_eqF rfl (by decide) ?_
        refine q_eqF rfl (by decide) ?_
        refine q_eqF rfl (by decide) ?_
        refine q_eqF rfl (by decide) ?_
        refine q_eqF rfl (by decide) ?_
        refine q_eqF rfl (by decide) ?_
        refine q_eqF rfl (by decide) ?_
        refine q_eqF rfl (by decide) ?_
        refine q_eqF rfl (by decide) ?_
        refine r_eqF rfl (by decide) ?_
        refine s_retC (cons_ev (ev_var rfl) fun H1 e1 => ?_)
        exact ⟨h, dx, s, rfl, Z.mono e1, o.ex e1⟩

def sp_f_answer (A : Ad) : Sp := fun vs H Q _ => ∃ h dx s k ws xs wq rv c, vs = [.ref h, .int k, .ref wq, rv] ∧ HoldZ A h dx s H ∧ IntsAt H wq ws ∧ IsLists xs rv H ∧ CallIs k ws xs c ∧ (∀ x ∈ xs, x.length ≤ 30000) ∧ Out1 A h dx s c H Q
theorem sc_f_answer : FnScope ["holder", "which", "wholes", "rows", "e"] ["holder", "which", "wholes", "rows"] (defScope s_f_answer) := ⟨rfl, rfl, rfl, by decide +kernel, rfl, by decide +kernel, by decide +kernel⟩
theorem b_f_answer {K : PySem.W.Frag} {f : Addr} {fd : FuncData} (F : Fun K "answer" "answer" s_f_answer f fd) : Binds K fd ["holder", "which", "wholes", "rows"] [] := F.binds fun _ _ _ _ _ _ us hl => match us, hl with | [_, _, _, _], _ => rfl
theorem ok_f_answer {P : Program} {w : World} {K : PySem.W.Frag} {mg : Str → Option Value} {base : Heap} {A : Ad} (T : Txt K mg A) : FnG P w K mg base CX0 16 "answer" ["holder", "which", "wholes", "rows"] (sp_f_answer A) := by
  obtain ⟨f, fd, hm, F⟩ := T.d_f_answer
  obtain ⟨ft, fdt, hmt, hkt, Ft, bt⟩ := (ok_f_told (P := P) (w := w) (base := base) T).ex
  refine ⟨f, fd, hm, F.kp, F.ok sc_f_answer (fun vs H Q E h => ?_) (fun cdv A1 outer s H vs Q E hr h => ⟨_, (pss_one (L2.ps_try_as (i := 4) (tb := fun W => tRet (tCallS (sp_f_told A) (L2.WE W) (tCons (tVar 0) (tCons (tVar 1) (tCons (tVar 2) (tCons (tVar 3) tNil)))))) (ts := fun a cls d => tRet (tLst (tCons (tXf a cls d A.cRefusal "number" (tVar 4)) tNil)))
      rfl rfl sc_f_answer.nd rfl rfl ⟨rfl, by decide, .inl T.gRf⟩ takes0
      (fun W pn xe tk _ => pss_one (ps_ret (pe_callS Ft (hr.mono (by decide)) rfl hmt hkt bt (fun σ => L2.passAt tk σ) (by exact (pa_cons (pv 0) (pa_cons (pv 1) (pa_cons (pv 2) (pa_cons (pv 3) pa_nil))))))))
      (fun a oe cls d pn hz hf => pss_one (ps_ret (pe_lst (by exact (pa_cons (pe_xf T.fRf T.nRf hz hf (pv 4)) pa_nil))))))), ?_⟩), b_f_answer F⟩
  · obtain ⟨h, dx, s, k, ws, xs, wq, rv, c, rfl, _⟩ := h
    rfl
  · obtain ⟨h, dx, s, k, ws, xs, wq, rv, c, rfl, Z, hw, hr, hc, hz, o⟩ := h
    refine ⟨_, rfl, _, rfl, _, rfl, _, rfl, h, dx, s, k, ws, xs, wq, rv, c, rfl, Z, hw, hr, hc, hz, o, fun d H' k' b Z' hd st => ?_⟩
    refine ⟨true, T.eRf, fun _ a na => ?_, fun z => by cases z⟩
    refine ⟨_, rfl, rfl, rfl, d, _, _, rfl, hd, rfl, (by show 1 ≤ sizeLine; decide), fun p np => ?_⟩
    have np0 : H p = none := by
      cases y : H p with
      | none => rfl
      | some u =>
        by_cases c : p = h
        · subst c
          obtain ⟨a', p', n', Z'⟩ := Z'
          rw [Z'.obj] at np; cases np
        · rw [b p u c y] at np; cases np
    have e : Ex H' (upd H' p (.lst [.int k'])) := Ex.new np
    exact o (.ref p) _ s [k'] (b.trans (but_of e)) (Z'.mono e) ((NewAt.obj upd_same np0).imp fun H z => ⟨p, rfl, z⟩) st

/-! ### plain: the calls read off the list -/
theorem whole_id (c : List (List Int)) : PyVaacld.whole c = c := by
  unfold PyVaacld.whole
  split <;> rfl
def NUM : List Nat := [1, 0, 0, 0, 0, 0, 0, 0, 0, 1, 0]
def ROW : List Nat := [1, 1, 0, 0, 0, 0, 0, 0, 0, 0, 0]
theorem shape_is {p : Int} {n k : Nat} (h : PyVaacld.shape p = some (n, k)) : ∃ i : Nat, i < 11 ∧ p = ((i : Nat) : Int) ∧ NUM[i]? = some n ∧ ROW[i]? = some k := by
  unfold PyVaacld.shape at h
  by_cases c0 : p = 0
  · rw [if_pos c0] at h
    injection h with h
    injection h with h1 h2
    subst h1 h2
    exact ⟨0, by decide, c0, rfl, rfl⟩
  rw [if_neg c0] at h
  by_cases c1 : p = 1
  · rw [if_pos c1] at h
    injection h with h
    injection h with h1 h2
    subst h1 h2
    exact ⟨1, by decide, c1, rfl, rfl⟩
  rw [if_neg c1] at h
  by_cases c2 : p = 2
  · rw [if_pos c2] at h
    injection h with h
    injection h with h1 h2
    subst h1 h2
    exact ⟨2, by decide, c2, rfl, rfl⟩
  rw [if_neg c2] at h
  by_cases c3 : p = 3
  · rw [if_pos c3] at h
    injection h with h
    injection h with h1 h2
    subst h1 h2
    exact ⟨3, by decide, c3, rfl, rfl⟩
  rw [if_neg c3] at h
  by_cases c4 : p = 4
  · rw [if_pos c4] at h
    injection h with h
    injection h with h1 h2
    subst h1 h2
    exact ⟨4, by decide, c4, rfl, rfl⟩
  rw [if_neg c4] at h
  by_cases c5 : p = 5
  · rw [if_pos c5] at h
    injection h with h
    injection h with h1 h2
    subst h1 h2
    exact ⟨5, by decide, c5, rfl, rfl⟩
  rw [if_neg c5] at h
  by_cases c6 : p = 6
  · rw [if_pos c6] at h
    injection h with h
    injection h with h1 h2
    subst h1 h2
    exact ⟨6, by decide, c6, rfl, rfl⟩
  rw [if_neg c6] at h
  by_cases c7 : p = 7
  · rw [if_pos c7] at h
    injection h with h
    injection h with h1 h2
    subst h1 h2
    exact ⟨7, by decide, c7, rfl, rfl⟩
  rw [if_neg c7] at h
  by_cases c8 : p = 8
  · rw [if_pos c8] at h
    injection h with h
    injection h with h1 h2
    subst h1 h2
    exact ⟨8, by decide, c8, rfl, rfl⟩
  rw [if_neg c8] at h
  by_cases c9 : p = 9
  · rw [if_pos c9] at h
    injection h with h
    injection h with h1 h2
    subst h1 h2
    exact ⟨9, by decide, c9, rfl, rfl⟩
  rw [if_neg c9] at h
  by_cases c10 : p = 10
  · rw [if_pos c10] at h
    injection h with h
    injection h with h1 h2
    subst h1 h2
    exact ⟨10, by decide, c10, rfl, rfl⟩
  rw [if_neg c10] at h
  cases h
theorem calls_nil {sh : Int → Option (Nat × Nat)} {f : Nat} {cs : List (List (List Int))} (h : PyFlat.calls sh f [] = some cs) : cs = [] := by
  cases f <;> (injection h with h; exact h.symm)
theorem calls_inv {sh : Int → Option (Nat × Nat)} {f : Nat} {p : Int} {r : List Int} {cs : List (List (List Int))} (h : PyFlat.calls sh f (p :: r) = some cs) : ∃ f' n k xs t cs', f = f' + 1 ∧ sh p = some (n, k) ∧ n ≤ r.length ∧ PyFlat.rows k (r.drop n) = some (xs, t) ∧ PyFlat.calls sh f' t = some cs' ∧ cs = ((p :: r.take n) :: xs) :: cs' := by
  cases f with
  | zero => cases h
  | succ f =>
    have h : (match PyFlat.call sh (p :: r) with | none => none | some (c, t) => match PyFlat.calls sh f t with | none => none | some cs => some (c :: cs)) = some cs := h
    have hc : PyFlat.call sh (p :: r) = match sh p with | none => none | some (n, k) => if r.length < n then none else match PyFlat.rows k (r.drop n) with | none => none | some (xs, t) => some ((p :: r.take n) :: xs, t) := rfl
    rw [hc] at h
    cases hs : sh p with
    | none => rw [hs] at h; cases h
    | some nk =>
      obtain ⟨n, k⟩ := nk
      rw [hs] at h
      by_cases hl : r.length < n
      · have h : (match (if r.length < n then none else match PyFlat.rows k (r.drop n) with | none => none | some (xs, t) => some ((p :: r.take n) :: xs, t)) with | none => none | some (c, t) => match PyFlat.calls sh f t with | none => none | some cs => some (c :: cs)) = some cs := h
        rw [if_pos hl] at h
        cases h
      · have h : (match (if r.length < n then none else match PyFlat.rows k (r.drop n) with | none => none | some (xs, t) => some ((p :: r.take n) :: xs, t)) with | none => none | some (c, t) => match PyFlat.calls sh f t with | none => none | some cs => some (c :: cs)) = some cs := h
        rw [if_neg hl] at h
        cases hr : PyFlat.rows k (r.drop n) with
        | none => rw [hr] at h; cases h
        | some xt =>
          obtain ⟨xs, t⟩ := xt
          rw [hr] at h
          have h : (match PyFlat.calls sh f t with | none => none | some cs => some (((p :: r.take n) :: xs) :: cs)) = some cs := h
          cases hcs : PyFlat.calls sh f t with
          | none => rw [hcs] at h; cases h
          | some cs' =>
            rw [hcs] at h
            injection h with h
            exact ⟨f, n, k, xs, t, cs', rfl, rfl, by omega, hr, hcs, h.symm⟩
theorem rows0 {r t : List Int} {xs : List (List Int)} (h : PyFlat.rows 0 r = some (xs, t)) : xs = [] ∧ t = r := by
  injection h with h
  injection h with h1 h2
  exact ⟨h1.symm, h2.symm⟩
theorem rows1 {r t : List Int} {xs : List (List Int)} (h : PyFlat.rows 1 r = some (xs, t)) : ∃ (m : Nat) (r' : List Int), r = ((m : Nat) : Int) :: r' ∧ m ≤ r'.length ∧ xs = [r'.take m] ∧ t = r'.drop m := by
  cases r with
  | nil => cases h
  | cons a r' =>
    have h : (match (if 0 ≤ a ∧ a.toNat ≤ r'.length then some (r'.take a.toNat, r'.drop a.toNat) else none) with | none => none | some (x, s) => match (some (([] : List (List Int)), s)) with | none => none | some (xs, t) => some (x :: xs, t)) = some (xs, t) := h
    by_cases c : 0 ≤ a ∧ a.toNat ≤ r'.length
    · rw [if_pos c] at h
      injection h with h
      injection h with h1 h2
      exact ⟨a.toNat, r', by congr 1; omega, c.2, h1.symm, h2.symm⟩
    · rw [if_neg c] at h
      cases h
theorem asked_is {p : Int} {ws : List Int} {xs : List (List Int)} (h : VaacldNeutral.asked1 ((p :: ws) :: xs) = true) : ∃ c, CallIs p ws xs c ∧ callOf ((p :: ws) :: xs) = some c ∧ ∀ x ∈ xs, x.length ≤ 30000 := by
  generalize hc : (p :: ws) :: xs = c at h
  have sz : ∀ (a : List Int) (m : Nat), VaacldNeutral.allWhole a m = true → m ≤ 30000 → ∀ x ∈ [a], x.length ≤ 30000 := fun a m ha hm x hx => by
    rw [List.mem_singleton.mp hx]
    unfold VaacldNeutral.allWhole at ha
    rw [Bool.and_eq_true, decide_eq_true_iff] at ha
    omega
  have no : ∀ x ∈ ([] : List (List Int)), x.length ≤ 30000 := fun x hx => (nomatch hx)
  unfold VaacldNeutral.asked1 at h
  split at h
  · cases hc
    rw [Bool.and_eq_true] at h
    exact ⟨_, .loop _ _, rfl, sz _ 100 h.2 (by decide)⟩
  · cases hc
    exact ⟨_, .values _, rfl, sz _ 10 h (by decide)⟩
  · cases hc; exact ⟨_, .chosen, rfl, no⟩
  · cases hc; exact ⟨_, .pattern, rfl, no⟩
  · cases hc; exact ⟨_, .times, rfl, no⟩
  · cases hc; exact ⟨_, .leap, rfl, no⟩
  · cases hc; exact ⟨_, .phases, rfl, no⟩
  · cases hc; exact ⟨_, .done, rfl, no⟩
  · cases hc; exact ⟨_, .go, rfl, no⟩
  · cases hc; exact ⟨_, .run _, rfl, no⟩
  · cases hc; exact ⟨_, .given, rfl, no⟩
  · cases h
theorem played_cons {s s' : State} {k : Int} {ws : List Int} {xs : List (List Int)} {c : Call} {ans : List Int} {cs : List (List (List Int))} (hc : callOf ((k :: ws) :: xs) = some c) (st : step s c = (s', ans)) : PyFlat.told (PyFlat.played VaacldNeutral.step s (((k :: ws) :: xs) :: cs)) = ((ans.length : Nat) : Int) :: (ans ++ PyFlat.told (PyFlat.played VaacldNeutral.step s' cs)) := by
  have : VaacldNeutral.step s ((k :: ws) :: xs) = (s', ans) := by
    unfold VaacldNeutral.step
    rw [hc]
    exact st
  unfold PyFlat.told
  show ((VaacldNeutral.step s ((k :: ws) :: xs)).2 :: PyFlat.played VaacldNeutral.step (VaacldNeutral.step s ((k :: ws) :: xs)).1 cs).flatMap _ = _
  rw [this, List.flatMap_cons]
  rfl
theorem asked_inv {l : List Int} (h : PyVaacld.answers_asked l = true) : ∃ raw, PyFlat.calls PyVaacld.shape l.length l = some raw ∧ (∀ c ∈ raw, VaacldNeutral.asked1 c = true) ∧ (PyVaacld.answers l).length ≤ 10000000 ∧ PyVaacld.answers l = PyFlat.told (PyFlat.played VaacldNeutral.step VaacldNeutral.start raw) := by
  unfold PyVaacld.answers_asked at h
  cases e : PyFlat.calls PyVaacld.shape l.length l with
  | none => rw [e] at h; cases h
  | some raw =>
    rw [e] at h
    have h : (!raw.isEmpty && PyFlat.atMost 20 raw && PyInside.calls PyVaacld.bound raw && VaacldNeutral.asked (raw.map PyVaacld.whole) && PyFlat.short 10000000 (PyVaacld.answers l)) = true := h
    have hw : raw.map PyVaacld.whole = raw := by
      have : PyVaacld.whole = id := by funext c; exact whole_id c
      rw [this, List.map_id]
    rw [hw, Bool.and_eq_true, Bool.and_eq_true] at h
    obtain ⟨⟨_, h1⟩, h2⟩ := h
    unfold VaacldNeutral.asked at h1
    rw [Bool.and_eq_true, List.all_eq_true] at h1
    refine ⟨raw, rfl, h1.1, of_decide_eq_true h2, ?_⟩
    unfold PyVaacld.answers PyVaacld.calls
    rw [e]
    show PyFlat.told (PyFlat.played VaacldNeutral.step VaacldNeutral.start (raw.map PyVaacld.whole)) = _
    rw [hw]
section
variable {K : PySem.W.Frag} {A : Ad} {σ : L2.St} {H H' : Hp} {te ta tb : TE} {h p d : Addr} {s : State} {D : Ends} {tz : TS} {i : Nat}
theorem HoldZ.turn {dx dx' : Addr × Addr} (z : HoldZ A h dx s H) (hd : dx'.1 = dx.1) (np : H dx'.2 = none) (e : Ex H H') (hp : ∃ u, H' dx'.2 = some u) : HoldZ A h dx' s H' := by
  obtain ⟨a, q, n, ⟨H0, n0, n1, e0, hL⟩, h1, h2, h3, h4, h5, h6⟩ := z
  refine ⟨a, q, n, ⟨H0, n0, ?_, e0.trans e, hL⟩, by rw [hd]; exact e _ _ h1, e _ _ h2, h3, h4, h5, hp⟩
  cases y : H0 dx'.2 with
  | none => rfl
  | some o => rw [e0 _ _ y] at np; cases np
theorem HoldZ.mutO {dx : Addr × Addr} {xs ys : List V} (z : HoldZ A h dx s H) (hp : H dx.2 = some (.lst xs)) : HoldZ A h dx s (upd H dx.2 (.lst ys)) := by
  obtain ⟨a, q, n, ⟨H0, n0, n1, e0, hL⟩, h1, h2, h3, h4, h5, h6⟩ := z
  refine ⟨a, q, n, ⟨H0, n0, n1, e0.mut n1, hL⟩, ?_, ?_, h3, h4, h5, ⟨_, upd_same⟩⟩
  · rw [upd_ne (ne_of h1 hp (by intro z; cases z))]
    exact h1
  · show upd H dx.2 _ q = _
    rw [upd_ne (ne_of h2 hp (by intro z; cases z))]
    exact h2
theorem ev_ixG {xs : List V} {v : V} {j : Int} (hb : Ev tb σ H (.int j)) (ha : atI xs j = some v) : Ev (tOp (rIxT K) (tGT K xs) tb) σ H v := fun H1 e Q k => fun a hq => hb H1 e _ fun H2 e2 => Evl.rv_ixT (hq H2) ha H2 (Ex.refl H2) Q fun H3 e3 => k H3 (e2.trans e3)
theorem q_lst1 {xs : List V} (hv : EvL te σ H xs) (k : ∀ q r H1, Ex H H1 → H1 q = some (.lst xs) → H1 r = some (.lst [.ref q]) → tz D (σ.set i (some (.ref r))) H1) : tSeq (tAsg (tLst (tCons te tNil)) (gName i)) tz D σ H :=
  hv H (Ex.refl H) _ fun q H1 nq e1 hq => ⟨(by show 1 ≤ sizeLine; decide), fun r nr => k q r _ (e1.trans (Ex.new nr)) ((Ex.new nr) _ _ hq) upd_same⟩
theorem el_midS {l : List Int} {a : Addr} {k m : Nat} {tc : TE} (ha : Ev ta σ H (.ref a)) (hp : SqL K H a (l.map V.int)) (hk : Ev tb σ H (.int k)) (hm : Ev tc σ H (.int m)) : EvL (tSl (rSlL K) ta (tPart tb) (tPart tc)) σ H (((l.drop k).take (m - k)).map V.int) := by
  rw [← cut_mid]
  exact el_sl ha (eo_some hk) (eo_some hm) hp
theorem q_appZ {l : Addr} {xs : List V} {v : V} (hl : H l = some (.lst xs)) (ha : Ev ta σ H (.ref l)) (h : Ev te σ H v) (hz : xs.length < sizeLine) (k : ∀ H1, Ex H H1 → tz D σ (upd H1 l (.lst (xs ++ [v])))) :
    tSeq (tDrop (tBM K "list" rAppend ta (tCons te tNil))) tz D σ H := ha H (Ex.refl H) _ fun H1 e1 =>
  ⟨Or.inl ⟨rfl, xs, Evl.sq_of (e1 l _ hl)⟩, h H1 e1 _ fun H2 e2 => ⟨l, xs, v, rfl, rfl, (e1.trans e2) l _ hl, hz, k H2 (e1.trans e2)⟩⟩
theorem ep_Holder {E : XK} : EvP (tMake A.cHolder (sp_Holder_init A) [] E tNil) σ H (fun v H' => ∃ x dx, v = .ref x ∧ H x = none ∧ HoldZ A x (dx, x) Vaacld.start H') := fun H1 e1 Q k =>
  fun x dx nx nd ne => ⟨x, dx, rfl, upd_same, fun H' keep z => ⟨rfl, k _ H' (fun b o hb => keep b o (ne_of_none hb nx) (by rw [upd_ne (ne_of_none hb nx), upd_ne (ne_of_none hb nd)]; exact hb)) ⟨x, dx, rfl, fresh_back e1 nx, z⟩⟩⟩
end
def sp_answers (K : PySem.W.Frag) : Sp := fun vs H Q _ => ∃ a l, vs = [.ref a] ∧ SqL K H a (l.map V.int) ∧ PyVaacld.answers_asked l = true ∧ ∀ H' p, H' p = some (.lst ((PyVaacld.answers l).map V.int)) → Q (.ref p) H'
def sp_f_answers (K : PySem.W.Frag) (A : Ad) : Sp := sp_answers K
theorem sc_f_answers : FnScope ["calls", "holder", "found", "at", "which", "end", "wholes", "rows", "numbers"] ["calls"] (defScope s_f_answers) := ⟨rfl, rfl, rfl, by decide +kernel, rfl, by decide +kernel, by decide +kernel⟩
theorem b_f_answers {K : PySem.W.Frag} {f : Addr} {fd : FuncData} (F : Fun K "answers" "answers" s_f_answers f fd) : Binds K fd ["calls"] [] := F.binds fun _ _ _ _ _ _ us hl => match us, hl with | [_], _ => rfl
theorem ok_f_answers {P : Program} {w : World} {K : PySem.W.Frag} {mg : Str → Option Value} {base : Heap} {A : Ad} {f : Addr} {fd : FuncData} (T : Txt K mg A) (F : Fun K "answers" "answers" s_f_answers f fd) : FnOk P w K mg base CX0 17 f fd ["calls"] (sp_f_answers K A) := by
  refine F.ok sc_f_answers (fun vs H Q E h => ?_) (fun cdv A1 outer s H vs Q E hr h => ⟨_, (pss_cons (ps_set (i := 1) sc_f_answers.nd rfl (Or.inl rfl) (pe_makeG0 (ok_Holder_init T) (hr.mono (by decide)) pass0 rfl))
      (pss_cons (ps_set (i := 2) sc_f_answers.nd rfl (Or.inl rfl) (pe_lst (by exact pa_nil)))
      (pss_cons (ps_set (i := 3) sc_f_answers.nd rfl (Or.inl rfl) pe_int)
      (pss_cons (ps_while PassesOwn.never (pt_cmpR op_lt (pv 3) (pe_callB call_len_seq (by rfl) T.n_len PySem.boot_len (by exact (pa_cons (pv 0) pa_nil))) (nomark _)) (pss_cons (ps_set (i := 4) sc_f_answers.nd rfl (Or.inl rfl) (pe_ix ix_list (pv 0) (pv 3) (fun _ _ => rfl)))
      (pss_cons (ps_set (i := 5) sc_f_answers.nd rfl (Or.inl rfl) (pe_op op_add (pe_op op_add (pv 3) pe_int) (pe_ix ix_tup (pe_gt T.t_NUMBERS rfl) (pv 4) (fun _ _ => rfl))))
      (pss_cons (ps_set (i := 6) sc_f_answers.nd rfl (Or.inl rfl) (pe_slice sl_list (pv 0) (po_some (pe_op op_add (pv 3) pe_int)) (po_some (pv 5))))
      (pss_cons (ps_set (i := 7) sc_f_answers.nd rfl (Or.inl rfl) (pe_lst (by exact pa_nil)))
      (Evl.pss_cut (ps_if (pt_cmpR op_eq (pe_ix ix_tup (pe_gt T.t_ROWS rfl) (pv 4) (fun _ _ => rfl)) pe_int (nomark _)) (pss_cons (ps_set (i := 7) sc_f_answers.nd rfl (Or.inl rfl) (pe_lst (by exact (pa_cons (pe_slice sl_list (pv 0) (po_some (pe_op op_add (pv 5) pe_int)) (po_some (pe_op op_add (pe_op op_add (pv 5) pe_int) (pe_ix ix_list (pv 0) (pv 5) (fun _ _ => rfl))))) pa_nil))))
      (pss_one (ps_set (i := 5) sc_f_answers.nd rfl (Or.inl rfl) (pe_op op_add (pe_op op_add (pv 5) pe_int) (pe_ix ix_list (pv 0) (pv 5) (fun _ _ => rfl)))))) pss_nil)
      (pss_cons (ps_set (i := 8) sc_f_answers.nd rfl (Or.inl rfl) (pe_callG (ok_f_answer T) (hr.mono (by decide)) pass0 rfl (by exact (pa_cons (pv 1) (pa_cons (pv 4) (pa_cons (pv 6) (pa_cons (pv 7) pa_nil)))))))
      (pss_cons (ps_expr (pe_bm PySem.F.plainAttrs_list PySem.F.slot_list_append PySem.F.type_list_append mt_append (pv 2) (by exact (pa_cons (pe_callB call_len_seq (by rfl) T.n_len PySem.boot_len (by exact (pa_cons (pv 8) pa_nil))) pa_nil))))
      (pss_cons (ps_expr (pe_bm PySem.F.plainAttrs_list PySem.F.slot_list_extend PySem.F.type_list_extend mt_extend (pv 2) (by exact (pa_cons (pv 8) pa_nil))))
      (pss_one (ps_set (i := 3) sc_f_answers.nd rfl (Or.inl rfl) (pv 5))))))))))))
      (pss_one (ps_ret (pv 2))))))), ?_⟩)
  · obtain ⟨a, l, rfl, _⟩ := h
    rfl
  · obtain ⟨a, l, rfl, hl, hask, k⟩ := h
    obtain ⟨raw, hraw, hall, hbig, hans⟩ := asked_inv hask
    generalize PyVaacld.answers l = R at *
    refine q_asgP ep_Holder fun v H1 e1 hv => ?_
    obtain ⟨h, dd, rfl, nh, Z⟩ := hv
    refine q_asgL (el_lst ea_nil (Nat.zero_le _)) fun p H2 np e2 hp => ?_
    have Z2 : HoldZ A h (dd, p) Vaacld.start H2 := Z.turn rfl np e2 ⟨_, hp⟩
    have np0 : H p = none := fresh_back e1 np
    have nhp : h ≠ p := by
      obtain ⟨a', q', n', z⟩ := Z
      exact ne_of_none z.obj np
    refine q_asg (v := .int ((0 : Nat) : Int)) ev_c fun H3 e3 => ?_
    have ll : (l.map V.int).length = l.length := List.length_map ..
    refine q_while (fun m σ' H' => ∃ at' f cs s fnd y4 y5 y6 y7 y8, σ' = [some (.ref a), some (.ref h), some (.ref p), some (.int ((at' : Nat) : Int)), y4, y5, y6, y7, y8] ∧ m = l.length - at' ∧ at' ≤ l.length ∧ Ex H H' ∧ HoldZ A h (dd, p) s H' ∧ IntsAt H' p fnd ∧ PyFlat.calls PyVaacld.shape f (l.drop at') = some cs ∧ (∀ c ∈ cs, VaacldNeutral.asked1 c = true) ∧ fnd ++ PyFlat.told (PyFlat.played VaacldNeutral.step s cs) = R) l.length
      ⟨0, l.length, raw, Vaacld.start, [], none, none, none, none, none, rfl, rfl, Nat.zero_le _, (e1.trans e2).trans e3, Z2.mono e3, e3 _ _ hp, hraw, hall, by rw [List.nil_append]; exact hans.symm⟩ ?_
    rintro m σ' H' ⟨at', f', cs, s', fnd, y4, y5, y6, y7, y8, rfl, hm, hat, e, ZH, hf, hcs, hall', hR⟩
    have hl' := ex_l e hl
    refine ⟨decide (((at' : Nat) : Int) < (((l.map V.int).length : Nat) : Int)), et_v (ev_is (ev_i0 (ev_var rfl) (ev_len (ev_var rfl) (Or.inl hl'))) rfl), fun hb H4 e4 => ?_, fun hb H4 e4 => ?_⟩
    · have hb : ((at' : Nat) : Int) < (((l.map V.int).length : Nat) : Int) := of_decide_eq_true hb
      have hlt : at' < l.length := by omega
      rw [List.drop_eq_getElem_cons hlt] at hcs
      obtain ⟨f2, n, kk, xs, t, cs', rfl, hsh, hn, hrows, hcs', rfl⟩ := calls_inv hcs
      obtain ⟨i, hi, hpi, hN, hRw⟩ := shape_is hsh
      obtain ⟨c, hcall, hcof, hsz⟩ := asked_is (hall' _ List.mem_cons_self)
      rw [List.length_drop] at hn
      rw [List.drop_drop] at hrows
      have hatl : ∀ j (hj : j < l.length), atI (l.map V.int) ((j : Nat) : Int) = some (.int l[j]) := fun j hj => atI_nat (by rw [List.getElem?_map, List.getElem?_eq_getElem hj]; rfl)
      have gN : atI [V.int 1, .int 0, .int 0, .int 0, .int 0, .int 0, .int 0, .int 0, .int 0, .int 1, .int 0] l[at'] = some (.int ((n : Nat) : Int)) := by
        rw [hpi]
        refine atI_nat ?_
        have : ([V.int 1, .int 0, .int 0, .int 0, .int 0, .int 0, .int 0, .int 0, .int 0, .int 1, .int 0] : List V) = NUM.map fun x => V.int ((x : Nat) : Int) := rfl
        rw [this, List.getElem?_map, hN]
        rfl
      have gR : atI [V.int 1, .int 1, .int 0, .int 0, .int 0, .int 0, .int 0, .int 0, .int 0, .int 0, .int 0] l[at'] = some (.int ((kk : Nat) : Int)) := by
        rw [hpi]
        refine atI_nat ?_
        have : ([V.int 1, .int 1, .int 0, .int 0, .int 0, .int 0, .int 0, .int 0, .int 0, .int 0, .int 0] : List V) = ROW.map fun x => V.int ((x : Nat) : Int) := rfl
        rw [this, List.getElem?_map, hRw]
        rfl
      have hk01 : kk = 0 ∨ kk = 1 := by
        have : i < ROW.length := hi
        rw [List.getElem?_eq_getElem this] at hRw
        injection hRw with hRw
        have all : ∀ x ∈ ROW, x = 0 ∨ x = 1 := by decide
        have := all _ (List.getElem_mem this)
        rw [hRw] at this
        exact this
      refine ⟨fun σ2 H2 => ∃ m', m' < m ∧ ∃ at' f cs s fnd y4 y5 y6 y7 y8, σ2 = [some (.ref a), some (.ref h), some (.ref p), some (.int ((at' : Nat) : Int)), y4, y5, y6, y7, y8] ∧ m' = l.length - at' ∧ at' ≤ l.length ∧ Ex H H2 ∧ HoldZ A h (dd, p) s H2 ∧ IntsAt H2 p fnd ∧ PyFlat.calls PyVaacld.shape f (l.drop at') = some cs ∧ (∀ c ∈ cs, VaacldNeutral.asked1 c = true) ∧ fnd ++ PyFlat.told (PyFlat.played VaacldNeutral.step s cs) = R, fun σ2 H2 z => z, ?_⟩
      have hl4 := ex_l e4 hl'
      refine q_asg (v := .int l[at']) (ev_ixL (ev_var rfl) (ev_var rfl) hl4 (hatl at' hlt)) fun H5 e5 => ?_
      have hl5 := ex_l e5 hl4
      refine q_asg (v := .int ((at' + 1 + n : Nat) : Int)) (ev_is (ev_i0 (ev_i0 (ev_var rfl) ev_c) (ev_ixG (ev_var rfl) gN)) rfl) fun H6 e6 => ?_
      have hl6 := ex_l e6 hl5
      refine q_asgL (el_midS (k := at' + 1) (m := at' + 1 + n) (ev_var rfl) hl6 (ev_is (ev_i0 (ev_var rfl) ev_c) rfl) (ev_var rfl)) fun wq H7 nwq e7 hwq => ?_
      have eqn : at' + 1 + n - (at' + 1) = n := by omega
      rw [eqn] at hwq
      have hl7 := ex_l e7 hl6
      refine q_asgL (el_lst ea_nil (Nat.zero_le _)) fun rq0 H8 nrq0 e8 hrq0 => ?_
      have hl8 := ex_l e8 hl7
      have e48 := (((e4.trans e5).trans e6).trans e7).trans e8
      refine ⟨fun σ2 H2 => ∃ en rq, σ2 = [some (.ref a), some (.ref h), some (.ref p), some (.int ((at' : Nat) : Int)), some (.int l[at']), some (.int ((en : Nat) : Int)), some (.ref wq), some (.ref rq), y8] ∧ Ex H8 H2 ∧ IsLists xs (.ref rq) H2 ∧ PyFlat.calls PyVaacld.shape f2 (l.drop en) = some cs' ∧ en ≤ l.length ∧ at' < en, ?_, ?_⟩
      · refine s_when (b := decide (((kk : Nat) : Int) = 1)) (et_v (ev_eq (ev_ixG (ev_var rfl) gR) ev_c)) (fun hb2 H9 e9 => ?_) (fun hb2 H9 e9 => ?_)
        · have hk1 : kk = 1 := by have := of_decide_eq_true hb2; omega
          subst hk1
          obtain ⟨mm, r', hr', hmm, rfl, rfl⟩ := rows1 hrows
          have hen : at' + 1 + n < l.length := by
            by_cases c : at' + 1 + n < l.length
            · exact c
            · rw [List.drop_eq_nil_of_le (by omega)] at hr'
              cases hr'
          rw [List.drop_eq_getElem_cons hen] at hr'
          injection hr' with hr1 hr2
          subst hr2
          rw [List.length_drop] at hmm
          have hl9 := ex_l e9 hl8
          have evm : ∀ σ2 HH, SqL K HH a (l.map V.int) → σ2[0]? = some (some (.ref a)) → σ2[5]? = some (some (.int ((at' + 1 + n : Nat) : Int))) → Ev (tOp (rI0 fun i j => .int (i + j)) (tOp (rI0 fun i j => .int (i + j)) (tVar 5) (tC (.int 1))) (tOp (rIxL K) (tVar 0) (tVar 5))) σ2 HH (.int ((at' + 1 + n + 1 + mm : Nat) : Int)) := fun σ2 HH hs h0 h5 =>
            ev_is (ev_i0 (ev_i0 (ev_var h5) ev_c) (ev_ixL (ev_var h0) (ev_var h5) hs (hatl _ hen))) (by rw [hr1]; rfl)
          refine q_lst1 (el_midS (k := at' + 1 + n + 1) (m := at' + 1 + n + 1 + mm) (ev_var rfl) hl9 (ev_is (ev_i0 (ev_var rfl) ev_c) rfl) (evm _ _ hl9 rfl rfl)) fun q r HA eA hq hr => ?_
          have eqm : at' + 1 + n + 1 + mm - (at' + 1 + n + 1) = mm := by omega
          rw [eqm] at hq
          refine s_asg (evm _ _ (ex_l eA hl9) rfl rfl) fun HB eB => ?_
          refine ⟨at' + 1 + n + 1 + mm, r, rfl, (e9.trans eA).trans eB, ⟨r, [.ref q], rfl, eB _ _ hr, .cons ⟨q, rfl, eB _ _ hq⟩ .nil⟩, ?_, by omega, by omega⟩
          rw [List.drop_drop] at hcs'
          exact hcs'
        · have hk0 : kk = 0 := by have := of_decide_eq_false hb2; omega
          subst hk0
          obtain ⟨rfl, rfl⟩ := rows0 hrows
          exact ⟨at' + 1 + n, rq0, rfl, e9, ⟨rq0, [], rfl, e9 _ _ hrq0, .nil⟩, hcs', by omega, by omega⟩
      · rintro σ2 H9 ⟨en, rq, rfl, e9, hrl, hcs9, hen, hae⟩
        have e49 := e48.trans e9
        refine q_asgC ?_
        refine cons_ev (ev_var rfl) fun HA eA => ?_
        refine cons_ev (ev_var rfl) fun HB eB => ?_
        refine cons_ev (ev_var rfl) fun HC eC => ?_
        refine cons_ev (ev_var rfl) fun HD eD => ?_
        have eAD := ((eA.trans eB).trans eC).trans eD
        have e4D := e49.trans eAD
        have hwD : IntsAt HD wq ((l.drop (at' + 1)).take n) := ((e8.trans e9).trans eAD) _ _ hwq
        refine ⟨h, (dd, p), s', l[at'], _, xs, wq, .ref rq, c, rfl, ZH.mono e4D, hwD, IsLists.mono _ _ eAD hrl, hcall, hsz, fun v HE s2 ans b ZE nE st => ?_⟩
        have hfD : IntsAt HD p fnd := e4D _ _ hf
        obtain ⟨N, fN, eN, nq, rfl, hnq⟩ := nE
        have npq : nq ≠ p := fun z => by
          subst z
          have y : N nq = some (.lst (ans.map V.int)) := hnq
          rw [fN _ _ hfD] at y
          cases y
        have hfE : IntsAt HE p fnd := b _ _ nhp.symm hfD
        have hnE : IntsAt HE nq ans := eN _ _ hnq
        have pc := played_cons (cs := cs') hcof st
        rw [pc] at hR
        have hlen : fnd.length + (1 + ans.length) ≤ 10000000 := by
          rw [← hR, List.length_append, List.length_cons, List.length_append] at hbig
          omega
        have eHD : Ex H HE := fun b' o' hb' => b b' o' (ne_of_none hb' nh) (e4D _ _ (e _ _ hb'))
        refine q_appZ (xs := fnd.map V.int) hfE (ev_var rfl) (ev_len (ev_var rfl) (Or.inl (SqL.of hnE))) (by rw [List.length_map]; show fnd.length < 16777216; omega) fun HF eF => ?_
        have hF1 : IntsAt (upd HF p (.lst (fnd.map V.int ++ [.int (((ans.map V.int).length : Nat) : Int)]))) nq ans := by
          show upd HF p _ nq = _
          rw [upd_ne npq]
          exact eF _ _ hnE
        have ZF := (ZE.mono eF).mutO (dx := (dd, p)) (ys := fnd.map V.int ++ [.int (((ans.map V.int).length : Nat) : Int)]) (eF _ _ hfE)
        refine q_any (s_ext (xs := fnd.map V.int ++ [.int (((ans.map V.int).length : Nat) : Int)]) (ys := ans.map V.int) upd_same (ev_var rfl) (el_v (ev_var rfl) hF1) (by rw [List.length_append, List.length_map, List.length_map]; show fnd.length + 1 + ans.length ≤ 16777216; omega) fun HG eG => ?_)
        have ZG := (ZF.mono eG).mutO (dx := (dd, p)) (ys := fnd.map V.int ++ [.int (((ans.map V.int).length : Nat) : Int)] ++ ans.map V.int) (eG _ _ upd_same)
        have eFin : Ex H (upd HG p (.lst (fnd.map V.int ++ [.int (((ans.map V.int).length : Nat) : Int)] ++ ans.map V.int))) := (((eHD.trans eF).mut np0).trans eG).mut np0
        refine s_asg (v := .int ((en : Nat) : Int)) (ev_var rfl) fun HI eI => ?_
        refine ⟨l.length - en, by omega, en, f2, cs', s2, fnd ++ ((ans.length : Nat) : Int) :: ans, _, _, _, _, _, rfl, rfl, hen, eFin.trans eI, ZG.mono eI, ?_, hcs9, fun c' hc' => hall' c' (List.mem_cons_of_mem _ hc'), ?_⟩
        · show HI p = _
          rw [eI _ _ upd_same, List.map_append, List.map_cons, List.append_assoc, List.length_map]
          rfl
        · rw [← hR, List.append_assoc]
          rfl
    · have hb : ¬ ((at' : Nat) : Int) < (((l.map V.int).length : Nat) : Int) := of_decide_eq_false hb
      rw [List.drop_eq_nil_of_le (by omega)] at hcs
      have := calls_nil hcs
      subst this
      have hR : fnd ++ [] = R := hR
      rw [List.append_nil] at hR
      subst hR
      exact s_ret (ev_var rfl) fun H5 e5 => k _ _ ((e4.trans e5) _ _ hf)


end LW

set_option maxRecDepth 100000
set_option maxHeartbeats 4000000
namespace LW
open PySem PySem.Spec PyProof.Rows L2 LL

/-! ### what the top has left -/
theorem ig_mk {K : PySem.W.Frag} {h : Heap} {mg : Str → Option Value} {x : Str} {i : Int} {t : Tok} (X : K.In h) (G : h.Ns mainGlobals mg) (a : PySem.W.nsIn K mainGlobals x = some (some (.int i t))) : IntG mg x i := ⟨t, PySem.W.mg_of X G a⟩
theorem tg_mk {K : PySem.W.Frag} {h : Heap} {mg : Str → Option Value} {x : Str} {xs : List V} {a : Addr} {d : Option Addr} {its : Array Value} {n : Nat} {sl : Array (Option Value)} (X : K.In h) (G : h.Ns mainGlobals mg) (a1 : PySem.W.nsIn K mainGlobals x = some (some (.ref a))) (l : K.lookup a = some ⟨.type "tuple", d, .seq its n, sl⟩) (hs : its.size ≤ sizeLine) (v : Vals xs its.toList) : TupG K mg x xs := ⟨a, PySem.W.mg_of X G a1, fun H => Or.inr ⟨_, its, n, l, rfl, rfl, hs, v⟩⟩
theorem fd_mk {K : PySem.W.Frag} {h : Heap} {mg : Str → Option Value} {x qual : Str} {st : Stmt} {f : Addr} {oc : Value} {od an : Option Addr} {osl : Array (Option Value)} {kV doc pm cdv ct : Value} (X : K.In h) (G : h.Ns mainGlobals mg) (a : PySem.W.nsIn K mainGlobals x = some (some (.ref f))) (l : K.lookup f = some ⟨oc, od, .func (PySem.W.fnOf qual qual (defArgs st) (defBody st) (defScope st) .none kV doc pm an cdv ct), osl⟩)
    (c : PySem.W.codeIn K cdv qual = true) (k : PySem.W.keepIn K (.ref f) = true) : ∃ (f : Addr) (fd : FuncData), mg x = some (.ref f) ∧ Fun K qual qual st f fd := ⟨f, _, PySem.W.mg_of X G a, fun_mk l c k⟩
theorem cl_mk {K : PySem.W.Frag} {C : Addr} (pg : PySem.W.plainGet K C Str.empty = true) (hd : PySem.W.hasDictIn K C = true) (po : PySem.W.plainOver K C = true) (sa : PySem.W.findIn K (.ref C) "__setattr__" = some (some (.builtin "object.__setattr__"))) : Cls K C := ⟨pg, hd, po, sa⟩
def MtD0 (K : PySem.W.Frag) (C : Addr) (m qual : Str) (st : Stmt) : Prop := ∃ (f : Addr) (fd : FuncData), Meth K C m f ∧ Fun K m qual st f fd
theorem MtD0.at {K : PySem.W.Frag} {C : Addr} {m qual : Str} {st : Stmt} (z : MtD0 K C m qual st) (c : Cls K C) : MtD K C m qual st := by
  obtain ⟨f, fd, h1, h2⟩ := z
  exact ⟨f, fd, c, h1, h2⟩
theorem mt_mk {K : PySem.W.Frag} {C : Addr} {m qual : Str} {st : Stmt} {f : Addr} {oc : Value} {od an : Option Addr} {osl : Array (Option Value)} {kV doc pm cdv ct : Value} (a : PySem.W.findIn K (.ref C) m = some (some (.ref f))) (i : PySem.W.isFn K (.ref f) = true) (l : K.lookup f = some ⟨oc, od, .func (PySem.W.fnOf m qual (defArgs st) (defBody st) (defScope st) .none kV doc pm an cdv ct), osl⟩)
    (c : PySem.W.codeIn K cdv qual = true) (k : PySem.W.keepIn K (.ref f) = true) : MtD0 K C m qual st := ⟨f, _, ⟨a, i, k⟩, fun_mk l c k⟩
def MkD0 (K : PySem.W.Frag) (C : Addr) (qual : Str) (st : Stmt) : Prop := ∃ (f : Addr) (fd : FuncData), Mk K C f ∧ Fun K "__init__" qual st f fd
theorem MkD0.at {K : PySem.W.Frag} {mg : Str → Option Value} {C : Addr} {x qual : Str} {st : Stmt} (z : MkD0 K C qual st) (a : mg x = some (.ref C)) : MkD K mg C x qual st := by
  obtain ⟨f, fd, h1, h2⟩ := z
  exact ⟨f, fd, a, h1, h2⟩
theorem mk_mk {K : PySem.W.Frag} {C : Addr} {qual : Str} {st : Stmt} {f : Addr} {oc : Value} {od an : Option Addr} {osl : Array (Option Value)} {kV doc pm cdv ct : Value} (mk : PySem.W.makesIn K C = true) (kc : PySem.W.keepIn K (.ref C) = true) (a : PySem.W.findIn K (.ref C) "__init__" = some (some (.ref f))) (i : PySem.W.isFn K (.ref f) = true) (l : K.lookup f = some ⟨oc, od, .func (PySem.W.fnOf "__init__" qual (defArgs st) (defBody st) (defScope st) .none kV doc pm an cdv ct), osl⟩)
    (c : PySem.W.codeIn K cdv qual = true) (k : PySem.W.keepIn K (.ref f) = true) : MkD0 K C qual st := ⟨f, _, ⟨mk, a, i, kc⟩, fun_mk l c k⟩
def RfD (K : PySem.W.Frag) (C : Addr) : Prop := ∃ (f : Addr) (fd : FuncData), PySem.W.findIn K (.ref C) "__init__" = some (some (.ref f)) ∧ PySem.W.typeIn K (.ref f) = some (.type "function") ∧ Fun K "__init__" "Refusal.__init__" s_Refusal_init f fd
theorem rf_mk {K : PySem.W.Frag} {C : Addr} {f : Addr} {oc : Value} {od an : Option Addr} {osl : Array (Option Value)} {kV doc pm cdv ct : Value} (a : PySem.W.findIn K (.ref C) "__init__" = some (some (.ref f))) (i : PySem.W.typeIn K (.ref f) = some (.type "function")) (l : K.lookup f = some ⟨oc, od, .func (PySem.W.fnOf "__init__" "Refusal.__init__" (defArgs s_Refusal_init) (defBody s_Refusal_init) (defScope s_Refusal_init) .none kV doc pm an cdv ct), osl⟩)
    (c : PySem.W.codeIn K cdv "Refusal.__init__" = true) (k : PySem.W.keepIn K (.ref f) = true) : RfD K C := ⟨f, _, a, i, fun_mk l c k⟩
theorem ox_mk {K : PySem.W.Frag} {C : Addr} {nm q : Str} {N : Addr} {bs : List Value} {sn : List Str} {sub : List Value} {ab : Bool} {col : Option Bool} {dd : Option Addr} {m0 m1 m2 m3 m5 : Option Value}
    (xL : K.lookup C = some (excClassObj nm q C N bs [.type "ValueError", .type "Exception", .type "BaseException", .type "object"] true sn sub ab col dd m0 m1 m2 m3 m5 "ValueError.__new__")) (sa : PySem.W.findIn K (.ref C) "__setattr__" = some (some (.builtin "object.__setattr__"))) (e : PySem.W.subIn K (.ref C) (.type "BaseException") = some true) (t : PySem.W.typeIn K (.ref C) = some (.type "type")) (k : PySem.W.keepIn K (.ref C) = true) : OexC K C := ⟨⟨nm, q, N, bs, _, sn, sub, ab, col, dd, m0, m1, m2, m3, m5, xL, by decide +kernel⟩, sa, e, t, k⟩
theorem xf_mk {K : PySem.W.Frag} {C : Addr} (ga : PySem.W.findIn K (.ref C) "__getattribute__" = some (some (.builtin "BaseException.__getattribute__"))) (gg : PySem.W.findIn K (.ref C) "__getattr__" = some none) (e : PySem.W.subIn K (.ref C) (.type "BaseException") = some true) (hd : PySem.W.hasDictIn K C = true) : XfC K C := ⟨ga, gg, e, hd⟩
/-- an error of the class at S is what «except S» names -/
theorem exm_mk {K : PySem.W.Frag} {S : Addr} (h1 : PySem.W.subIn K (.ref S) (.type "BaseException") = some true) (h2 : PySem.W.isClsIn K S = true) (h3 : PySem.W.typeIn K (.ref S) = some (.type "type")) (h4 : PySem.W.subIn K (.ref S) (.ref S) = some true) : PySem.W.exmOne K (.ref S) (.ref S) = some true := by
  have e1 : (PySem.W.subIn K (.ref S) (.type "BaseException") == some true) = true := by rw [h1] <;> rfl
  have e2 : ((PySem.W.clsIn K S).isSome && PySem.W.typeIn K (.ref S) == some (.type "type")) = true := by
    have h2' : (PySem.W.clsIn K S).isSome = true := h2
    rw [h2', h3] <;> rfl
  show (if (PySem.W.subIn K (.ref S) (.type "BaseException") == some true) = true then (if ((PySem.W.clsIn K S).isSome && PySem.W.typeIn K (.ref S) == some (.type "type")) = true then PySem.W.subIn K (.ref S) (.ref S) else none) else none) = some true
  rw [if_pos e1, if_pos e2]
  exact h4
theorem txt_mk {K : PySem.W.Frag} {h : Heap} {mg : Str → Option Value} {cTest cGift cBranch cLoop cDoing cPhase cLeaps cNumbers cHolder cNotWhole cRefusal : Addr} (X : K.In h) (G : h.Ns mainGlobals mg)
    (n_len : PySem.W.nsIn K mainGlobals "len" = some none)
    (n_all : PySem.W.nsIn K mainGlobals "all" = some none)
    (n_any : PySem.W.nsIn K mainGlobals "any" = some none)
    (n_min : PySem.W.nsIn K mainGlobals "min" = some none)
    (n_max : PySem.W.nsIn K mainGlobals "max" = some none)
    (n_abs : PySem.W.nsIn K mainGlobals "abs" = some none)
    (n_sum : PySem.W.nsIn K mainGlobals "sum" = some none)
    (n_int : PySem.W.nsIn K mainGlobals "int" = some none)
    (n_tuple : PySem.W.nsIn K mainGlobals "tuple" = some none)
    (n_list : PySem.W.nsIn K mainGlobals "list" = some none)
    (n_zip : PySem.W.nsIn K mainGlobals "zip" = some none)
    (n_enumerate : PySem.W.nsIn K mainGlobals "enumerate" = some none)
    (n_range : PySem.W.nsIn K mainGlobals "range" = some none)
    (n_ValueError : PySem.W.nsIn K mainGlobals "ValueError" = some none)
    (i_AGAIN : IntG mg "AGAIN" 144)
    (i_AT_LEAST : IntG mg "AT_LEAST" 1)
    (i_AT_MOST : IntG mg "AT_MOST" 0)
    (i_BELOW : IntG mg "BELOW" 2)
    (i_FAR : IntG mg "FAR" 2)
    (i_FARTHEST : IntG mg "FARTHEST" 1000000000000)
    (i_FIRST_TIMES : IntG mg "FIRST_TIMES" 4)
    (i_LONGEST : IntG mg "LONGEST" 3)
    (i_LOOK_AHEAD : IntG mg "LOOK_AHEAD" 6)
    (i_MANY : IntG mg "MANY" 3)
    (i_MOST_BRANCHES : IntG mg "MOST_BRANCHES" 3)
    (i_MOST_COUNTERS : IntG mg "MOST_COUNTERS" 4)
    (i_MOST_GIVEN : IntG mg "MOST_GIVEN" 99)
    (i_MOST_PHASES : IntG mg "MOST_PHASES" 8)
    (i_MOST_ROUNDS : IntG mg "MOST_ROUNDS" 2000)
    (i_MOST_TESTED : IntG mg "MOST_TESTED" 999999)
    (i_MOST_TESTS : IntG mg "MOST_TESTS" 3)
    (i_MOST_VALUE : IntG mg "MOST_VALUE" 1000000)
    (i_NEVER : IntG mg "NEVER" 1)
    (i_OVER : IntG mg "OVER" 0)
    (i_REMAINDER : IntG mg "REMAINDER" 3)
    (t_DIVISORS : TupG K mg "DIVISORS" [.int 2, .int 3, .int 4, .int 6])
    (t_FIRST_LOOP : TupG K mg "FIRST_LOOP" [.int 1, .int 2, .int 0, .int 0, .int (-1), .int 1, .int 0, .int 0, .int 1, .int 0, .int 0])
    (t_NUMBERS : TupG K mg "NUMBERS" [.int 1, .int 0, .int 0, .int 0, .int 0, .int 0, .int 0, .int 0, .int 0, .int 1, .int 0])
    (t_ROWS : TupG K mg "ROWS" [.int 1, .int 1, .int 0, .int 0, .int 0, .int 0, .int 0, .int 0, .int 0, .int 0, .int 0])
    (a_Test : PySem.W.nsIn K mainGlobals "Test" = some (some (.ref cTest)))
    (cls_Test : Cls K cTest)
    (na_Test_kind : NoAttr K cTest "kind")
    (na_Test_counter : NoAttr K cTest "counter")
    (na_Test_one : NoAttr K cTest "one")
    (na_Test_other : NoAttr K cTest "other")
    (a_Gift : PySem.W.nsIn K mainGlobals "Gift" = some (some (.ref cGift)))
    (cls_Gift : Cls K cGift)
    (na_Gift_counter : NoAttr K cGift "counter")
    (na_Gift_number : NoAttr K cGift "number")
    (a_Branch : PySem.W.nsIn K mainGlobals "Branch" = some (some (.ref cBranch)))
    (cls_Branch : Cls K cBranch)
    (na_Branch_tests : NoAttr K cBranch "tests")
    (na_Branch_gifts : NoAttr K cBranch "gifts")
    (a_Loop : PySem.W.nsIn K mainGlobals "Loop" = some (some (.ref cLoop)))
    (cls_Loop : Cls K cLoop)
    (na_Loop_counters : NoAttr K cLoop "counters")
    (na_Loop_branches : NoAttr K cLoop "branches")
    (a_Doing : PySem.W.nsIn K mainGlobals "Doing" = some (some (.ref cDoing)))
    (cls_Doing : Cls K cDoing)
    (na_Doing_loop : NoAttr K cDoing "loop")
    (na_Doing_pattern : NoAttr K cDoing "pattern")
    (na_Doing_rows : NoAttr K cDoing "rows")
    (a_Phase : PySem.W.nsIn K mainGlobals "Phase" = some (some (.ref cPhase)))
    (cls_Phase : Cls K cPhase)
    (na_Phase_pattern : NoAttr K cPhase "pattern")
    (na_Phase_often : NoAttr K cPhase "often")
    (na_Phase_amounts : NoAttr K cPhase "amounts")
    (a_Leaps : PySem.W.nsIn K mainGlobals "Leaps" = some (some (.ref cLeaps)))
    (cls_Leaps : Cls K cLeaps)
    (na_Leaps_loop : NoAttr K cLeaps "loop")
    (na_Leaps_amounts : NoAttr K cLeaps "amounts")
    (na_Leaps_phases : NoAttr K cLeaps "phases")
    (na_Leaps_end : NoAttr K cLeaps "end")
    (a_Numbers : PySem.W.nsIn K mainGlobals "Numbers" = some (some (.ref cNumbers)))
    (cls_Numbers : Cls K cNumbers)
    (na_Numbers_counters : NoAttr K cNumbers "counters")
    (na_Numbers_row : NoAttr K cNumbers "row")
    (na_Numbers_read : NoAttr K cNumbers "read")
    (a_Holder : PySem.W.nsIn K mainGlobals "Holder" = some (some (.ref cHolder)))
    (cls_Holder : Cls K cHolder)
    (na_Holder_loop : NoAttr K cHolder "loop")
    (na_Holder_amounts : NoAttr K cHolder "amounts")
    (gNW : PySem.W.nsIn K mainGlobals "NotWhole" = some (some (.ref cNotWhole)))
    (gRf : PySem.W.nsIn K mainGlobals "Refusal" = some (some (.ref cRefusal)))
    (d_Test_init : MkD0 K cTest "Test.__init__" s_Test_init)
    (d_Test_excess : MtD0 K cTest "excess" "Test.excess" s_Test_excess)
    (d_Test_lack : MtD0 K cTest "lack" "Test.lack" s_Test_lack)
    (d_Test_holds : MtD0 K cTest "holds" "Test.holds" s_Test_holds)
    (d_Test_told : MtD0 K cTest "told" "Test.told" s_Test_told)
    (d_Gift_init : MkD0 K cGift "Gift.__init__" s_Gift_init)
    (d_Gift_value : MtD0 K cGift "value" "Gift.value" s_Gift_value)
    (d_Gift_told : MtD0 K cGift "told" "Gift.told" s_Gift_told)
    (d_Branch_init : MkD0 K cBranch "Branch.__init__" s_Branch_init)
    (d_Branch_holds : MtD0 K cBranch "holds" "Branch.holds" s_Branch_holds)
    (d_Branch_moved : MtD0 K cBranch "moved" "Branch.moved" s_Branch_moved)
    (d_Branch_told : MtD0 K cBranch "told" "Branch.told" s_Branch_told)
    (d_Loop_init : MkD0 K cLoop "Loop.__init__" s_Loop_init)
    (d_Loop_chosen : MtD0 K cLoop "chosen" "Loop.chosen" s_Loop_chosen)
    (d_Loop_round_by : MtD0 K cLoop "round_by" "Loop.round_by" s_Loop_round_by)
    (d_Loop_told : MtD0 K cLoop "told" "Loop.told" s_Loop_told)
    (d_f_is_beyond : ∃ (f : Addr) (fd : FuncData), mg "is_beyond" = some (.ref f) ∧ Fun K "is_beyond" "is_beyond" s_f_is_beyond f fd)
    (d_f_next_branches : ∃ (f : Addr) (fd : FuncData), mg "next_branches" = some (.ref f) ∧ Fun K "next_branches" "next_branches" s_f_next_branches f fd)
    (d_f_pattern_at : ∃ (f : Addr) (fd : FuncData), mg "pattern_at" = some (.ref f) ∧ Fun K "pattern_at" "pattern_at" s_f_pattern_at f fd)
    (d_f_behind_once : ∃ (f : Addr) (fd : FuncData), mg "behind_once" = some (.ref f) ∧ Fun K "behind_once" "behind_once" s_f_behind_once f fd)
    (d_f_clauses_at : ∃ (f : Addr) (fd : FuncData), mg "clauses_at" = some (.ref f) ∧ Fun K "clauses_at" "clauses_at" s_f_clauses_at f fd)
    (d_f_all_clauses : ∃ (f : Addr) (fd : FuncData), mg "all_clauses" = some (.ref f) ∧ Fun K "all_clauses" "all_clauses" s_f_all_clauses f fd)
    (d_f_is_followed : ∃ (f : Addr) (fd : FuncData), mg "is_followed" = some (.ref f) ∧ Fun K "is_followed" "is_followed" s_f_is_followed f fd)
    (d_f_first_above : ∃ (f : Addr) (fd : FuncData), mg "first_above" = some (.ref f) ∧ Fun K "first_above" "first_above" s_f_first_above f fd)
    (d_f_clause_fails : ∃ (f : Addr) (fd : FuncData), mg "clause_fails" = some (.ref f) ∧ Fun K "clause_fails" "clause_fails" s_f_clause_fails f fd)
    (d_Doing_init : MkD0 K cDoing "Doing.__init__" s_Doing_init)
    (d_Doing_behind : MtD0 K cDoing "behind" "Doing.behind" s_Doing_behind)
    (d_Doing_gone : MtD0 K cDoing "gone" "Doing.gone" s_Doing_gone)
    (d_Doing_clauses : MtD0 K cDoing "clauses" "Doing.clauses" s_Doing_clauses)
    (d_Doing_fails_within : MtD0 K cDoing "fails_within" "Doing.fails_within" s_Doing_fails_within)
    (d_Doing_fails_from : MtD0 K cDoing "fails_from" "Doing.fails_from" s_Doing_fails_from)
    (d_Doing_how_often : MtD0 K cDoing "how_often" "Doing.how_often" s_Doing_how_often)
    (d_Phase_init : MkD0 K cPhase "Phase.__init__" s_Phase_init)
    (d_Phase_rounds : MtD0 K cPhase "rounds" "Phase.rounds" s_Phase_rounds)
    (d_Phase_told : MtD0 K cPhase "told" "Phase.told" s_Phase_told)
    (d_f_leap_from : ∃ (f : Addr) (fd : FuncData), mg "leap_from" = some (.ref f) ∧ Fun K "leap_from" "leap_from" s_f_leap_from f fd)
    (d_Leaps_init : MkD0 K cLeaps "Leaps.__init__" s_Leaps_init)
    (d_Leaps_go_on : MtD0 K cLeaps "go_on" "Leaps.go_on" s_Leaps_go_on)
    (d_Leaps_rounds : MtD0 K cLeaps "rounds" "Leaps.rounds" s_Leaps_rounds)
    (d_Leaps_done : MtD0 K cLeaps "done" "Leaps.done" s_Leaps_done)
    (d_f_must_reading : ∃ (f : Addr) (fd : FuncData), mg "must_reading" = some (.ref f) ∧ Fun K "must" "must" s_f_must_reading f fd)
    (d_Numbers_init : MkD0 K cNumbers "Numbers.__init__" s_Numbers_init)
    (d_Numbers_is_over : MtD0 K cNumbers "is_over" "Numbers.is_over" s_Numbers_is_over)
    (d_Numbers_take : MtD0 K cNumbers "take" "Numbers.take" s_Numbers_take)
    (d_Numbers_take_counter : MtD0 K cNumbers "take_counter" "Numbers.take_counter" s_Numbers_take_counter)
    (d_Numbers_take_test : MtD0 K cNumbers "take_test" "Numbers.take_test" s_Numbers_take_test)
    (d_Numbers_take_gift : MtD0 K cNumbers "take_gift" "Numbers.take_gift" s_Numbers_take_gift)
    (d_Numbers_take_branch : MtD0 K cNumbers "take_branch" "Numbers.take_branch" s_Numbers_take_branch)
    (d_f_read_loop : ∃ (f : Addr) (fd : FuncData), mg "read_loop" = some (.ref f) ∧ Fun K "read_loop" "read_loop" s_f_read_loop f fd)
    (d_f_must_leaps : ∃ (f : Addr) (fd : FuncData), mg "must_leaps" = some (.ref f) ∧ Fun K "must" "must" s_f_must_leaps f fd)
    (d_Holder_init : MkD0 K cHolder "Holder.__init__" s_Holder_init)
    (d_Holder_chosen : MtD0 K cHolder "chosen" "Holder.chosen" s_Holder_chosen)
    (d_Holder_leaps : MtD0 K cHolder "leaps" "Holder.leaps" s_Holder_leaps)
    (d_f_take_loop : ∃ (f : Addr) (fd : FuncData), mg "take_loop" = some (.ref f) ∧ Fun K "take_loop" "take_loop" s_f_take_loop f fd)
    (d_f_take_values : ∃ (f : Addr) (fd : FuncData), mg "take_values" = some (.ref f) ∧ Fun K "take_values" "take_values" s_f_take_values f fd)
    (d_f_chosen : ∃ (f : Addr) (fd : FuncData), mg "chosen" = some (.ref f) ∧ Fun K "chosen" "chosen" s_f_chosen f fd)
    (d_f_pattern : ∃ (f : Addr) (fd : FuncData), mg "pattern" = some (.ref f) ∧ Fun K "pattern" "pattern" s_f_pattern f fd)
    (d_f_times : ∃ (f : Addr) (fd : FuncData), mg "times" = some (.ref f) ∧ Fun K "times" "times" s_f_times f fd)
    (d_f_leap : ∃ (f : Addr) (fd : FuncData), mg "leap" = some (.ref f) ∧ Fun K "leap" "leap" s_f_leap f fd)
    (d_f_all_phases : ∃ (f : Addr) (fd : FuncData), mg "all_phases" = some (.ref f) ∧ Fun K "all_phases" "all_phases" s_f_all_phases f fd)
    (d_f_done : ∃ (f : Addr) (fd : FuncData), mg "done" = some (.ref f) ∧ Fun K "done" "done" s_f_done f fd)
    (d_f_go : ∃ (f : Addr) (fd : FuncData), mg "go" = some (.ref f) ∧ Fun K "go" "go" s_f_go f fd)
    (d_f_run : ∃ (f : Addr) (fd : FuncData), mg "run" = some (.ref f) ∧ Fun K "run" "run" s_f_run f fd)
    (d_f_given : ∃ (f : Addr) (fd : FuncData), mg "given" = some (.ref f) ∧ Fun K "given" "given" s_f_given f fd)
    (d_f_told : ∃ (f : Addr) (fd : FuncData), mg "told" = some (.ref f) ∧ Fun K "told" "told" s_f_told f fd)
    (d_f_answer : ∃ (f : Addr) (fd : FuncData), mg "answer" = some (.ref f) ∧ Fun K "answer" "answer" s_f_answer f fd)
    (d_f_answers : ∃ (f : Addr) (fd : FuncData), mg "answers" = some (.ref f) ∧ Fun K "answers" "answers" s_f_answers f fd)
    (xNW : PySem.W.excIn K cNotWhole [.type "ValueError", .type "Exception", .type "BaseException", .type "object"] "ValueError.__new__" = true)
    (kNW : PySem.W.keepIn K (.ref cNotWhole) = true)
    (bNW : PySem.W.subIn K (.ref cNotWhole) (.type "BaseException") = some true)
    (tNW : PySem.W.typeIn K (.ref cNotWhole) = some (.type "type"))
    (isNW : PySem.W.isClsIn K cNotWhole = true)
    (sNW : PySem.W.subIn K (.ref cNotWhole) (.ref cNotWhole) = some true)
    (oRf : OexC K cRefusal)
    (fRf : XfC K cRefusal)
    (nRf : PySem.W.findIn K (.ref cRefusal) "number" = some none)
    (isRf : PySem.W.isClsIn K cRefusal = true)
    (sRf : PySem.W.subIn K (.ref cRefusal) (.ref cRefusal) = some true)
    (iRf : RfD K cRefusal)
    (vVE : PySem.W.findCls K (.type "ValueError") (.type "type") "__init__" = some (.val (.builtin "ValueError.__init__"))) :
    Txt K mg ⟨cTest, cGift, cBranch, cLoop, cDoing, cPhase, cLeaps, cNumbers, cHolder, cNotWhole, cRefusal⟩ :=
  { n_len := PySem.W.mg_none_of X G n_len
    n_all := PySem.W.mg_none_of X G n_all
    n_any := PySem.W.mg_none_of X G n_any
    n_min := PySem.W.mg_none_of X G n_min
    n_max := PySem.W.mg_none_of X G n_max
    n_abs := PySem.W.mg_none_of X G n_abs
    n_sum := PySem.W.mg_none_of X G n_sum
    n_int := PySem.W.mg_none_of X G n_int
    n_tuple := PySem.W.mg_none_of X G n_tuple
    n_list := PySem.W.mg_none_of X G n_list
    n_zip := PySem.W.mg_none_of X G n_zip
    n_enumerate := PySem.W.mg_none_of X G n_enumerate
    n_range := PySem.W.mg_none_of X G n_range
    n_ValueError := PySem.W.mg_none_of X G n_ValueError
    i_AGAIN := i_AGAIN
    i_AT_LEAST := i_AT_LEAST
    i_AT_MOST := i_AT_MOST
    i_BELOW := i_BELOW
    i_FAR := i_FAR
    i_FARTHEST := i_FARTHEST
    i_FIRST_TIMES := i_FIRST_TIMES
    i_LONGEST := i_LONGEST
    i_LOOK_AHEAD := i_LOOK_AHEAD
    i_MANY := i_MANY
    i_MOST_BRANCHES := i_MOST_BRANCHES
    i_MOST_COUNTERS := i_MOST_COUNTERS
    i_MOST_GIVEN := i_MOST_GIVEN
    i_MOST_PHASES := i_MOST_PHASES
    i_MOST_ROUNDS := i_MOST_ROUNDS
    i_MOST_TESTED := i_MOST_TESTED
    i_MOST_TESTS := i_MOST_TESTS
    i_MOST_VALUE := i_MOST_VALUE
    i_NEVER := i_NEVER
    i_OVER := i_OVER
    i_REMAINDER := i_REMAINDER
    t_DIVISORS := t_DIVISORS
    t_FIRST_LOOP := t_FIRST_LOOP
    t_NUMBERS := t_NUMBERS
    t_ROWS := t_ROWS
    cls_Test := cls_Test
    na_Test_kind := na_Test_kind
    na_Test_counter := na_Test_counter
    na_Test_one := na_Test_one
    na_Test_other := na_Test_other
    cls_Gift := cls_Gift
    na_Gift_counter := na_Gift_counter
    na_Gift_number := na_Gift_number
    cls_Branch := cls_Branch
    na_Branch_tests := na_Branch_tests
    na_Branch_gifts := na_Branch_gifts
    cls_Loop := cls_Loop
    na_Loop_counters := na_Loop_counters
    na_Loop_branches := na_Loop_branches
    cls_Doing := cls_Doing
    na_Doing_loop := na_Doing_loop
    na_Doing_pattern := na_Doing_pattern
    na_Doing_rows := na_Doing_rows
    cls_Phase := cls_Phase
    na_Phase_pattern := na_Phase_pattern
    na_Phase_often := na_Phase_often
    na_Phase_amounts := na_Phase_amounts
    cls_Leaps := cls_Leaps
    na_Leaps_loop := na_Leaps_loop
    na_Leaps_amounts := na_Leaps_amounts
    na_Leaps_phases := na_Leaps_phases
    na_Leaps_end := na_Leaps_end
    cls_Numbers := cls_Numbers
    na_Numbers_counters := na_Numbers_counters
    na_Numbers_row := na_Numbers_row
    na_Numbers_read := na_Numbers_read
    cls_Holder := cls_Holder
    na_Holder_loop := na_Holder_loop
    na_Holder_amounts := na_Holder_amounts
    gNW := PySem.W.mg_of X G gNW
    gRf := PySem.W.mg_of X G gRf
    d_Test_init := d_Test_init.at (PySem.W.mg_of X G a_Test)
    d_Test_excess := d_Test_excess.at cls_Test
    d_Test_lack := d_Test_lack.at cls_Test
    d_Test_holds := d_Test_holds.at cls_Test
    d_Test_told := d_Test_told.at cls_Test
    d_Gift_init := d_Gift_init.at (PySem.W.mg_of X G a_Gift)
    d_Gift_value := d_Gift_value.at cls_Gift
    d_Gift_told := d_Gift_told.at cls_Gift
    d_Branch_init := d_Branch_init.at (PySem.W.mg_of X G a_Branch)
    d_Branch_holds := d_Branch_holds.at cls_Branch
    d_Branch_moved := d_Branch_moved.at cls_Branch
    d_Branch_told := d_Branch_told.at cls_Branch
    d_Loop_init := d_Loop_init.at (PySem.W.mg_of X G a_Loop)
    d_Loop_chosen := d_Loop_chosen.at cls_Loop
    d_Loop_round_by := d_Loop_round_by.at cls_Loop
    d_Loop_told := d_Loop_told.at cls_Loop
    d_f_is_beyond := d_f_is_beyond
    d_f_next_branches := d_f_next_branches
    d_f_pattern_at := d_f_pattern_at
    d_f_behind_once := d_f_behind_once
    d_f_clauses_at := d_f_clauses_at
    d_f_all_clauses := d_f_all_clauses
    d_f_is_followed := d_f_is_followed
    d_f_first_above := d_f_first_above
    d_f_clause_fails := d_f_clause_fails
    d_Doing_init := d_Doing_init.at (PySem.W.mg_of X G a_Doing)
    d_Doing_behind := d_Doing_behind.at cls_Doing
    d_Doing_gone := d_Doing_gone.at cls_Doing
    d_Doing_clauses := d_Doing_clauses.at cls_Doing
    d_Doing_fails_within := d_Doing_fails_within.at cls_Doing
    d_Doing_fails_from := d_Doing_fails_from.at cls_Doing
    d_Doing_how_often := d_Doing_how_often.at cls_Doing
    d_Phase_init := d_Phase_init.at (PySem.W.mg_of X G a_Phase)
    d_Phase_rounds := d_Phase_rounds.at cls_Phase
    d_Phase_told := d_Phase_told.at cls_Phase
    d_f_leap_from := d_f_leap_from
    d_Leaps_init := d_Leaps_init.at (PySem.W.mg_of X G a_Leaps)
    d_Leaps_go_on := d_Leaps_go_on.at cls_Leaps
    d_Leaps_rounds := d_Leaps_rounds.at cls_Leaps
    d_Leaps_done := d_Leaps_done.at cls_Leaps
    d_f_must_reading := d_f_must_reading
    d_Numbers_init := d_Numbers_init.at (PySem.W.mg_of X G a_Numbers)
    d_Numbers_is_over := d_Numbers_is_over.at cls_Numbers
    d_Numbers_take := d_Numbers_take.at cls_Numbers
    d_Numbers_take_counter := d_Numbers_take_counter.at cls_Numbers
    d_Numbers_take_test := d_Numbers_take_test.at cls_Numbers
    d_Numbers_take_gift := d_Numbers_take_gift.at cls_Numbers
    d_Numbers_take_branch := d_Numbers_take_branch.at cls_Numbers
    d_f_read_loop := d_f_read_loop
    d_f_must_leaps := d_f_must_leaps
    d_Holder_init := d_Holder_init.at (PySem.W.mg_of X G a_Holder)
    d_Holder_chosen := d_Holder_chosen.at cls_Holder
    d_Holder_leaps := d_Holder_leaps.at cls_Holder
    d_f_take_loop := d_f_take_loop
    d_f_take_values := d_f_take_values
    d_f_chosen := d_f_chosen
    d_f_pattern := d_f_pattern
    d_f_times := d_f_times
    d_f_leap := d_f_leap
    d_f_all_phases := d_f_all_phases
    d_f_done := d_f_done
    d_f_go := d_f_go
    d_f_run := d_f_run
    d_f_given := d_f_given
    d_f_told := d_f_told
    d_f_answer := d_f_answer
    d_f_answers := d_f_answers
    xNW := xNW
    kNW := kNW
    bNW := bNW
    tNW := tNW
    eNW := exm_mk bNW isNW tNW sNW
    oRf := oRf
    fRf := fRf
    nRf := nRf
    eRf := exm_mk oRf.exC isRf oRf.tyC sRf
    iRf := iRf
    vVE := vVE }
theorem all_mk {P : Program} {w : World} {K : PySem.W.Frag} {mg : Str → Option Value} {fa : Addr} {A : Ad} (hfa : mg "answers" = some (.ref fa)) (T : Txt K mg A) :
    ∃ fd : FuncData, (∀ (s : Shared) (us : List Value), us.length = (["calls"] : List Str).length → BindsTo s fd ⟨us, []⟩ ((["calls"] : List Str).zip us)) ∧ ∀ base : Heap, K.In base → base.Ns mainGlobals mg → FnOk P w K mg base CX0 17 fa fd ["calls"] (sp_answers K) := by
  obtain ⟨f, fd, hm, F⟩ := T.d_f_answers
  have e := hfa.symm.trans hm
  cases e
  refine ⟨fd, ?_, fun base _ _ => ok_f_answers T F⟩
  obtain ⟨oc, od, kV, doc, pm, an, cdv, ct, osl, rfl, lk, hcd⟩ := F.ex
  exact fun s us hu => match us, hu with | [_], _ => .of_eq rfl
end LW

set_option maxRecDepth 100000
set_option maxHeartbeats 4000000
open PySem PySem.W PyProof.Rows
set_option maxRecDepth 100000 in
set_option maxHeartbeats 0 in
theorem PySem.Challenge.cw_loopleaps_s01_answers_holds : PySem.Challenge.rw_loopleaps_s01_answers.Holds := by
  w_on; k_headS; (case hw => exact ⟨[.list [.int 2]], by decide +kernel, by decide +kernel⟩)
  k_fillS
  refine L2.walk_specK (r := PySem.Challenge.rw_loopleaps_s01_answers) (k := 17) (CX := L2.CX0) (ps := ["calls"]) (sp := LW.sp_answers) (by decide +kernel) rfl rfl ⟨rfl, by decide, by decide⟩ (fun w h Y => PySem.W.kIn_of Y) ?F ?S (fun _ _ _ _ z => z)
  case F =>
    intro w mg fa h Y KX G hmg
    refine' LW.all_mk hmg ?T
    (case T =>
      refine' LW.txt_mk KX G ?n_len ?n_all ?n_any ?n_min ?n_max ?n_abs ?n_sum ?n_int ?n_tuple ?n_list ?n_zip ?n_enumerate ?n_range ?n_ValueError ?i_AGAIN ?i_AT_LEAST ?i_AT_MOST ?i_BELOW ?i_FAR ?i_FARTHEST ?i_FIRST_TIMES ?i_LONGEST ?i_LOOK_AHEAD ?i_MANY ?i_MOST_BRANCHES ?i_MOST_COUNTERS ?i_MOST_GIVEN ?i_MOST_PHASES ?i_MOST_ROUNDS ?i_MOST_TESTED ?i_MOST_TESTS ?i_MOST_VALUE ?i_NEVER ?i_OVER ?i_REMAINDER ?t_DIVISORS ?t_FIRST_LOOP ?t_NUMBERS ?t_ROWS ?a_Test ?cls_Test ?na_Test_kind ?na_Test_counter ?na_Test_one ?na_Test_other ?a_Gift ?cls_Gift ?na_Gift_counter ?na_Gift_number ?a_Branch ?cls_Branch ?na_Branch_tests ?na_Branch_gifts ?a_Loop ?cls_Loop ?na_Loop_counters ?na_Loop_branches ?a_Doing ?cls_Doing ?na_Doing_loop ?na_Doing_pattern ?na_Doing_rows ?a_Phase ?cls_Phase ?na_Phase_pattern ?na_Phase_often ?na_Phase_amounts ?a_Leaps ?cls_Leaps ?na_Leaps_loop ?na_Leaps_amounts ?na_Leaps_phases ?na_Leaps_end ?a_Numbers ?cls_Numbers ?na_Numbers_counters ?na_Numbers_row ?na_Numbers_read ?a_Holder ?cls_Holder ?na_Holder_loop ?na_Holder_amounts ?gNW ?gRf ?d_Test_init ?d_Test_excess ?d_Test_lack ?d_Test_holds ?d_Test_told ?d_Gift_init ?d_Gift_value ?d_Gift_told ?d_Branch_init ?d_Branch_holds ?d_Branch_moved ?d_Branch_told ?d_Loop_init ?d_Loop_chosen ?d_Loop_round_by ?d_Loop_told ?d_f_is_beyond ?d_f_next_branches ?d_f_pattern_at ?d_f_behind_once ?d_f_clauses_at ?d_f_all_clauses ?d_f_is_followed ?d_f_first_above ?d_f_clause_fails ?d_Doing_init ?d_Doing_behind ?d_Doing_gone ?d_Doing_clauses ?d_Doing_fails_within ?d_Doing_fails_from ?d_Doing_how_often ?d_Phase_init ?d_Phase_rounds ?d_Phase_told ?d_f_leap_from ?d_Leaps_init ?d_Leaps_go_on ?d_Leaps_rounds ?d_Leaps_done ?d_f_must_reading ?d_Numbers_init ?d_Numbers_is_over ?d_Numbers_take ?d_Numbers_take_counter ?d_Numbers_take_test ?d_Numbers_take_gift ?d_Numbers_take_branch ?d_f_read_loop ?d_f_must_leaps ?d_Holder_init ?d_Holder_chosen ?d_Holder_leaps ?d_f_take_loop ?d_f_take_values ?d_f_chosen ?d_f_pattern ?d_f_times ?d_f_leap ?d_f_all_phases ?d_f_done ?d_f_go ?d_f_run ?d_f_given ?d_f_told ?d_f_answer ?d_f_answers ?xNW ?kNW ?bNW ?tNW ?isNW ?sNW ?oRf ?fRf ?nRf ?isRf ?sRf ?iRf ?vVE
      (case n_len => k_is)
      (case n_all => k_is)
      (case n_any => k_is)
      (case n_min => k_is)
      (case n_max => k_is)
      (case n_abs => k_is)
      (case n_sum => k_is)
      (case n_int => k_is)
      (case n_tuple => k_is)
      (case n_list => k_is)
      (case n_zip => k_is)
      (case n_enumerate => k_is)
      (case n_range => k_is)
      (case n_ValueError => k_is)
      (case i_AGAIN => refine' LW.ig_mk KX G ?a; (case a => k_is))
      (case i_AT_LEAST => refine' LW.ig_mk KX G ?a; (case a => k_is))
      (case i_AT_MOST => refine' LW.ig_mk KX G ?a; (case a => k_is))
      (case i_BELOW => refine' LW.ig_mk KX G ?a; (case a => k_is))
      (case i_FAR => refine' LW.ig_mk KX G ?a; (case a => k_is))
      (case i_FARTHEST => refine' LW.ig_mk KX G ?a; (case a => k_is))
      (case i_FIRST_TIMES => refine' LW.ig_mk KX G ?a; (case a => k_is))
      (case i_LONGEST => refine' LW.ig_mk KX G ?a; (case a => k_is))
      (case i_LOOK_AHEAD => refine' LW.ig_mk KX G ?a; (case a => k_is))
      (case i_MANY => refine' LW.ig_mk KX G ?a; (case a => k_is))
      (case i_MOST_BRANCHES => refine' LW.ig_mk KX G ?a; (case a => k_is))
      (case i_MOST_COUNTERS => refine' LW.ig_mk KX G ?a; (case a => k_is))
      (case i_MOST_GIVEN => refine' LW.ig_mk KX G ?a; (case a => k_is))
      (case i_MOST_PHASES => refine' LW.ig_mk KX G ?a; (case a => k_is))
      (case i_MOST_ROUNDS => refine' LW.ig_mk KX G ?a; (case a => k_is))
      (case i_MOST_TESTED => refine' LW.ig_mk KX G ?a; (case a => k_is))
      (case i_MOST_TESTS => refine' LW.ig_mk KX G ?a; (case a => k_is))
      (case i_MOST_VALUE => refine' LW.ig_mk KX G ?a; (case a => k_is))
      (case i_NEVER => refine' LW.ig_mk KX G ?a; (case a => k_is))
      (case i_OVER => refine' LW.ig_mk KX G ?a; (case a => k_is))
      (case i_REMAINDER => refine' LW.ig_mk KX G ?a; (case a => k_is))
      (case t_DIVISORS => refine' LW.tg_mk KX G ?a ?l ?s ?v; (case a => k_is); (case l => k_is); (case s => decide); (case v => exact .cons ⟨_, rfl⟩ (.cons ⟨_, rfl⟩ (.cons ⟨_, rfl⟩ (.cons ⟨_, rfl⟩ (.nil))))))
      (case t_FIRST_LOOP => refine' LW.tg_mk KX G ?a ?l ?s ?v; (case a => k_is); (case l => k_is); (case s => decide); (case v => exact .cons ⟨_, rfl⟩ (.cons ⟨_, rfl⟩ (.cons ⟨_, rfl⟩ (.cons ⟨_, rfl⟩ (.cons ⟨_, rfl⟩ (.cons ⟨_, rfl⟩ (.cons ⟨_, rfl⟩ (.cons ⟨_, rfl⟩ (.cons ⟨_, rfl⟩ (.cons ⟨_, rfl⟩ (.cons ⟨_, rfl⟩ (.nil)))))))))))))
      (case t_NUMBERS => refine' LW.tg_mk KX G ?a ?l ?s ?v; (case a => k_is); (case l => k_is); (case s => decide); (case v => exact .cons ⟨_, rfl⟩ (.cons ⟨_, rfl⟩ (.cons ⟨_, rfl⟩ (.cons ⟨_, rfl⟩ (.cons ⟨_, rfl⟩ (.cons ⟨_, rfl⟩ (.cons ⟨_, rfl⟩ (.cons ⟨_, rfl⟩ (.cons ⟨_, rfl⟩ (.cons ⟨_, rfl⟩ (.cons ⟨_, rfl⟩ (.nil)))))))))))))
      (case t_ROWS => refine' LW.tg_mk KX G ?a ?l ?s ?v; (case a => k_is); (case l => k_is); (case s => decide); (case v => exact .cons ⟨_, rfl⟩ (.cons ⟨_, rfl⟩ (.cons ⟨_, rfl⟩ (.cons ⟨_, rfl⟩ (.cons ⟨_, rfl⟩ (.cons ⟨_, rfl⟩ (.cons ⟨_, rfl⟩ (.cons ⟨_, rfl⟩ (.cons ⟨_, rfl⟩ (.cons ⟨_, rfl⟩ (.cons ⟨_, rfl⟩ (.nil)))))))))))))
      (case a_Test => k_is)
      (case cls_Test => refine' LW.cl_mk ?a ?b ?c ?d; (case a => k_is); (case b => k_is); (case c => k_is); (case d => k_is))
      (case na_Test_kind => show PySem.W.findIn _ _ _ = _; k_is)
      (case na_Test_counter => show PySem.W.findIn _ _ _ = _; k_is)
      (case na_Test_one => show PySem.W.findIn _ _ _ = _; k_is)
      (case na_Test_other => show PySem.W.findIn _ _ _ = _; k_is)
      (case a_Gift => k_is)
      (case cls_Gift => refine' LW.cl_mk ?a ?b ?c ?d; (case a => k_is); (case b => k_is); (case c => k_is); (case d => k_is))
      (case na_Gift_counter => show PySem.W.findIn _ _ _ = _; k_is)
      (case na_Gift_number => show PySem.W.findIn _ _ _ = _; k_is)
      (case a_Branch => k_is)
      (case cls_Branch => refine' LW.cl_mk ?a ?b ?c ?d; (case a => k_is); (case b => k_is); (case c => k_is); (case d => k_is))
      (case na_Branch_tests => show PySem.W.findIn _ _ _ = _; k_is)
      (case na_Branch_gifts => show PySem.W.findIn _ _ _ = _; k_is)
      (case a_Loop => k_is)
      (case cls_Loop => refine' LW.cl_mk ?a ?b ?c ?d; (case a => k_is); (case b => k_is); (case c => k_is); (case d => k_is))
      (case na_Loop_counters => show PySem.W.findIn _ _ _ = _; k_is)
      (case na_Loop_branches => show PySem.W.findIn _ _ _ = _; k_is)
      (case a_Doing => k_is)
      (case cls_Doing => refine' LW.cl_mk ?a ?b ?c ?d; (case a => k_is); (case b => k_is); (case c => k_is); (case d => k_is))
      (case na_Doing_loop => show PySem.W.findIn _ _ _ = _; k_is)
      (case na_Doing_pattern => show PySem.W.findIn _ _ _ = _; k_is)
      (case na_Doing_rows => show PySem.W.findIn _ _ _ = _; k_is)
      (case a_Phase => k_is)
      (case cls_Phase => refine' LW.cl_mk ?a ?b ?c ?d; (case a => k_is); (case b => k_is); (case c => k_is); (case d => k_is))
      (case na_Phase_pattern => show PySem.W.findIn _ _ _ = _; k_is)
      (case na_Phase_often => show PySem.W.findIn _ _ _ = _; k_is)
      (case na_Phase_amounts => show PySem.W.findIn _ _ _ = _; k_is)
      (case a_Leaps => k_is)
      (case cls_Leaps => refine' LW.cl_mk ?a ?b ?c ?d; (case a => k_is); (case b => k_is); (case c => k_is); (case d => k_is))
      (case na_Leaps_loop => show PySem.W.findIn _ _ _ = _; k_is)
      (case na_Leaps_amounts => show PySem.W.findIn _ _ _ = _; k_is)
      (case na_Leaps_phases => show PySem.W.findIn _ _ _ = _; k_is)
      (case na_Leaps_end => show PySem.W.findIn _ _ _ = _; k_is)
      (case a_Numbers => k_is)
      (case cls_Numbers => refine' LW.cl_mk ?a ?b ?c ?d; (case a => k_is); (case b => k_is); (case c => k_is); (case d => k_is))
      (case na_Numbers_counters => show PySem.W.findIn _ _ _ = _; k_is)
      (case na_Numbers_row => show PySem.W.findIn _ _ _ = _; k_is)
      (case na_Numbers_read => show PySem.W.findIn _ _ _ = _; k_is)
      (case a_Holder => k_is)
      (case cls_Holder => refine' LW.cl_mk ?a ?b ?c ?d; (case a => k_is); (case b => k_is); (case c => k_is); (case d => k_is))
      (case na_Holder_loop => show PySem.W.findIn _ _ _ = _; k_is)
      (case na_Holder_amounts => show PySem.W.findIn _ _ _ = _; k_is)
      (case gNW => k_is)
      (case gRf => k_is)
      (case d_Test_init => refine' LW.mk_mk ?m ?n ?a ?i ?l ?c ?k; (case m => k_is); (case n => k_is); (case a => k_is); (case i => k_is); (case l => k_is); (case c => k_is); (case k => k_is))
      (case d_Test_excess => refine' LW.mt_mk ?a ?i ?l ?c ?k; (case a => k_is); (case i => k_is); (case l => k_is); (case c => k_is); (case k => k_is))
      (case d_Test_lack => refine' LW.mt_mk ?a ?i ?l ?c ?k; (case a => k_is); (case i => k_is); (case l => k_is); (case c => k_is); (case k => k_is))
      (case d_Test_holds => refine' LW.mt_mk ?a ?i ?l ?c ?k; (case a => k_is); (case i => k_is); (case l => k_is); (case c => k_is); (case k => k_is))
      (case d_Test_told => refine' LW.mt_mk ?a ?i ?l ?c ?k; (case a => k_is); (case i => k_is); (case l => k_is); (case c => k_is); (case k => k_is))
      (case d_Gift_init => refine' LW.mk_mk ?m ?n ?a ?i ?l ?c ?k; (case m => k_is); (case n => k_is); (case a => k_is); (case i => k_is); (case l => k_is); (case c => k_is); (case k => k_is))
      (case d_Gift_value => refine' LW.mt_mk ?a ?i ?l ?c ?k; (case a => k_is); (case i => k_is); (case l => k_is); (case c => k_is); (case k => k_is))
      (case d_Gift_told => refine' LW.mt_mk ?a ?i ?l ?c ?k; (case a => k_is); (case i => k_is); (case l => k_is); (case c => k_is); (case k => k_is))
      (case d_Branch_init => refine' LW.mk_mk ?m ?n ?a ?i ?l ?c ?k; (case m => k_is); (case n => k_is); (case a => k_is); (case i => k_is); (case l => k_is); (case c => k_is); (case k => k_is))
      (case d_Branch_holds => refine' LW.mt_mk ?a ?i ?l ?c ?k; (case a => k_is); (case i => k_is); (case l => k_is); (case c => k_is); (case k => k_is))
      (case d_Branch_moved => refine' LW.mt_mk ?a ?i ?l ?c ?k; (case a => k_is); (case i => k_is); (case l => k_is); (case c => k_is); (case k => k_is))
      (case d_Branch_told => refine' LW.mt_mk ?a ?i ?l ?c ?k; (case a => k_is); (case i => k_is); (case l => k_is); (case c => k_is); (case k => k_is))
      (case d_Loop_init => refine' LW.mk_mk ?m ?n ?a ?i ?l ?c ?k; (case m => k_is); (case n => k_is); (case a => k_is); (case i => k_is); (case l => k_is); (case c => k_is); (case k => k_is))
      (case d_Loop_chosen => refine' LW.mt_mk ?a ?i ?l ?c ?k; (case a => k_is); (case i => k_is); (case l => k_is); (case c => k_is); (case k => k_is))
      (case d_Loop_round_by => refine' LW.mt_mk ?a ?i ?l ?c ?k; (case a => k_is); (case i => k_is); (case l => k_is); (case c => k_is); (case k => k_is))
      (case d_Loop_told => refine' LW.mt_mk ?a ?i ?l ?c ?k; (case a => k_is); (case i => k_is); (case l => k_is); (case c => k_is); (case k => k_is))
      (case d_f_is_beyond => refine' LW.fd_mk KX G ?a ?l ?c ?k; (case a => k_is); (case l => k_is); (case c => k_is); (case k => k_is))
      (case d_f_next_branches => refine' LW.fd_mk KX G ?a ?l ?c ?k; (case a => k_is); (case l => k_is); (case c => k_is); (case k => k_is))
      (case d_f_pattern_at => refine' LW.fd_mk KX G ?a ?l ?c ?k; (case a => k_is); (case l => k_is); (case c => k_is); (case k => k_is))
      (case d_f_behind_once => refine' LW.fd_mk KX G ?a ?l ?c ?k; (case a => k_is); (case l => k_is); (case c => k_is); (case k => k_is))
      (case d_f_clauses_at => refine' LW.fd_mk KX G ?a ?l ?c ?k; (case a => k_is); (case l => k_is); (case c => k_is); (case k => k_is))
      (case d_f_all_clauses => refine' LW.fd_mk KX G ?a ?l ?c ?k; (case a => k_is); (case l => k_is); (case c => k_is); (case k => k_is))
      (case d_f_is_followed => refine' LW.fd_mk KX G ?a ?l ?c ?k; (case a => k_is); (case l => k_is); (case c => k_is); (case k => k_is))
      (case d_f_first_above => refine' LW.fd_mk KX G ?a ?l ?c ?k; (case a => k_is); (case l => k_is); (case c => k_is); (case k => k_is))
      (case d_f_clause_fails => refine' LW.fd_mk KX G ?a ?l ?c ?k; (case a => k_is); (case l => k_is); (case c => k_is); (case k => k_is))
      (case d_Doing_init => refine' LW.mk_mk ?m ?n ?a ?i ?l ?c ?k; (case m => k_is); (case n => k_is); (case a => k_is); (case i => k_is); (case l => k_is); (case c => k_is); (case k => k_is))
      (case d_Doing_behind => refine' LW.mt_mk ?a ?i ?l ?c ?k; (case a => k_is); (case i => k_is); (case l => k_is); (case c => k_is); (case k => k_is))
      (case d_Doing_gone => refine' LW.mt_mk ?a ?i ?l ?c ?k; (case a => k_is); (case i => k_is); (case l => k_is); (case c => k_is); (case k => k_is))
      (case d_Doing_clauses => refine' LW.mt_mk ?a ?i ?l ?c ?k; (case a => k_is); (case i => k_is); (case l => k_is); (case c => k_is); (case k => k_is))
      (case d_Doing_fails_within => refine' LW.mt_mk ?a ?i ?l ?c ?k; (case a => k_is); (case i => k_is); (case l => k_is); (case c => k_is); (case k => k_is))
      (case d_Doing_fails_from => refine' LW.mt_mk ?a ?i ?l ?c ?k; (case a => k_is); (case i => k_is); (case l => k_is); (case c => k_is); (case k => k_is))
      (case d_Doing_how_often => refine' LW.mt_mk ?a ?i ?l ?c ?k; (case a => k_is); (case i => k_is); (case l => k_is); (case c => k_is); (case k => k_is))
      (case d_Phase_init => refine' LW.mk_mk ?m ?n ?a ?i ?l ?c ?k; (case m => k_is); (case n => k_is); (case a => k_is); (case i => k_is); (case l => k_is); (case c => k_is); (case k => k_is))
      (case d_Phase_rounds => refine' LW.mt_mk ?a ?i ?l ?c ?k; (case a => k_is); (case i => k_is); (case l => k_is); (case c => k_is); (case k => k_is))
      (case d_Phase_told => refine' LW.mt_mk ?a ?i ?l ?c ?k; (case a => k_is); (case i => k_is); (case l => k_is); (case c => k_is); (case k => k_is))
      (case d_f_leap_from => refine' LW.fd_mk KX G ?a ?l ?c ?k; (case a => k_is); (case l => k_is); (case c => k_is); (case k => k_is))
      (case d_Leaps_init => refine' LW.mk_mk ?m ?n ?a ?i ?l ?c ?k; (case m => k_is); (case n => k_is); (case a => k_is); (case i => k_is); (case l => k_is); (case c => k_is); (case k => k_is))
      (case d_Leaps_go_on => refine' LW.mt_mk ?a ?i ?l ?c ?k; (case a => k_is); (case i => k_is); (case l => k_is); (case c => k_is); (case k => k_is))
      (case d_Leaps_rounds => refine' LW.mt_mk ?a ?i ?l ?c ?k; (case a => k_is); (case i => k_is); (case l => k_is); (case c => k_is); (case k => k_is))
      (case d_Leaps_done => refine' LW.mt_mk ?a ?i ?l ?c ?k; (case a => k_is); (case i => k_is); (case l => k_is); (case c => k_is); (case k => k_is))
      (case d_f_must_reading => refine' LW.fd_mk KX G ?a ?l ?c ?k; (case a => k_is); (case l => k_is); (case c => k_is); (case k => k_is))
      (case d_Numbers_init => refine' LW.mk_mk ?m ?n ?a ?i ?l ?c ?k; (case m => k_is); (case n => k_is); (case a => k_is); (case i => k_is); (case l => k_is); (case c => k_is); (case k => k_is))
      (case d_Numbers_is_over => refine' LW.mt_mk ?a ?i ?l ?c ?k; (case a => k_is); (case i => k_is); (case l => k_is); (case c => k_is); (case k => k_is))
      (case d_Numbers_take => refine' LW.mt_mk ?a ?i ?l ?c ?k; (case a => k_is); (case i => k_is); (case l => k_is); (case c => k_is); (case k => k_is))
      (case d_Numbers_take_counter => refine' LW.mt_mk ?a ?i ?l ?c ?k; (case a => k_is); (case i => k_is); (case l => k_is); (case c => k_is); (case k => k_is))
      (case d_Numbers_take_test => refine' LW.mt_mk ?a ?i ?l ?c ?k; (case a => k_is); (case i => k_is); (case l => k_is); (case c => k_is); (case k => k_is))
      (case d_Numbers_take_gift => refine' LW.mt_mk ?a ?i ?l ?c ?k; (case a => k_is); (case i => k_is); (case l => k_is); (case c => k_is); (case k => k_is))
      (case d_Numbers_take_branch => refine' LW.mt_mk ?a ?i ?l ?c ?k; (case a => k_is); (case i => k_is); (case l => k_is); (case c => k_is); (case k => k_is))
      (case d_f_read_loop => refine' LW.fd_mk KX G ?a ?l ?c ?k; (case a => k_is); (case l => k_is); (case c => k_is); (case k => k_is))
      (case d_f_must_leaps => refine' LW.fd_mk KX G ?a ?l ?c ?k; (case a => k_is); (case l => k_is); (case c => k_is); (case k => k_is))
      (case d_Holder_init => refine' LW.mk_mk ?m ?n ?a ?i ?l ?c ?k; (case m => k_is); (case n => k_is); (case a => k_is); (case i => k_is); (case l => k_is); (case c => k_is); (case k => k_is))
      (case d_Holder_chosen => refine' LW.mt_mk ?a ?i ?l ?c ?k; (case a => k_is); (case i => k_is); (case l => k_is); (case c => k_is); (case k => k_is))
      (case d_Holder_leaps => refine' LW.mt_mk ?a ?i ?l ?c ?k; (case a => k_is); (case i => k_is); (case l => k_is); (case c => k_is); (case k => k_is))
      (case d_f_take_loop => refine' LW.fd_mk KX G ?a ?l ?c ?k; (case a => k_is); (case l => k_is); (case c => k_is); (case k => k_is))
      (case d_f_take_values => refine' LW.fd_mk KX G ?a ?l ?c ?k; (case a => k_is); (case l => k_is); (case c => k_is); (case k => k_is))
      (case d_f_chosen => refine' LW.fd_mk KX G ?a ?l ?c ?k; (case a => k_is); (case l => k_is); (case c => k_is); (case k => k_is))
      (case d_f_pattern => refine' LW.fd_mk KX G ?a ?l ?c ?k; (case a => k_is); (case l => k_is); (case c => k_is); (case k => k_is))
      (case d_f_times => refine' LW.fd_mk KX G ?a ?l ?c ?k; (case a => k_is); (case l => k_is); (case c => k_is); (case k => k_is))
      (case d_f_leap => refine' LW.fd_mk KX G ?a ?l ?c ?k; (case a => k_is); (case l => k_is); (case c => k_is); (case k => k_is))
      (case d_f_all_phases => refine' LW.fd_mk KX G ?a ?l ?c ?k; (case a => k_is); (case l => k_is); (case c => k_is); (case k => k_is))
      (case d_f_done => refine' LW.fd_mk KX G ?a ?l ?c ?k; (case a => k_is); (case l => k_is); (case c => k_is); (case k => k_is))
      (case d_f_go => refine' LW.fd_mk KX G ?a ?l ?c ?k; (case a => k_is); (case l => k_is); (case c => k_is); (case k => k_is))
      (case d_f_run => refine' LW.fd_mk KX G ?a ?l ?c ?k; (case a => k_is); (case l => k_is); (case c => k_is); (case k => k_is))
      (case d_f_given => refine' LW.fd_mk KX G ?a ?l ?c ?k; (case a => k_is); (case l => k_is); (case c => k_is); (case k => k_is))
      (case d_f_told => refine' LW.fd_mk KX G ?a ?l ?c ?k; (case a => k_is); (case l => k_is); (case c => k_is); (case k => k_is))
      (case d_f_answer => refine' LW.fd_mk KX G ?a ?l ?c ?k; (case a => k_is); (case l => k_is); (case c => k_is); (case k => k_is))
      (case d_f_answers => refine' LW.fd_mk KX G ?a ?l ?c ?k; (case a => k_is); (case l => k_is); (case c => k_is); (case k => k_is))
      (case xNW => k_exc)
      (case kNW => k_is)
      (case bNW => k_is)
      (case tNW => k_is)
      (case isNW => k_is)
      (case sNW => first | rfl | k_is)
      (case oRf => refine' LW.ox_mk ?x ?s ?e ?t ?k; (case x => k_is); (case s => k_is); (case e => k_is); (case t => k_is); (case k => k_is))
      (case fRf => refine' LW.xf_mk ?a ?b ?e ?h; (case a => k_is); (case b => k_is); (case e => k_is); (case h => k_is))
      (case nRf => k_is)
      (case isRf => k_is)
      (case sRf => first | rfl | k_is)
      (case iRf => refine' LW.rf_mk ?a ?i ?l ?c ?k; (case a => k_is); (case i => k_is); (case l => k_is); (case c => k_is); (case k => k_is))
      (case vVE => first | rfl | k_is))
  case S =>
    intro K H xs a hO hwi hask hx
    cases hx with
    | cons h1 h2 =>
      cases h2
      cases h1 with
      | lst hs ha =>
        have e := L2.ints_dw a.1 _ ha
        subst e
        exact ⟨_, a.1, rfl, hs, hask, fun H' p hp => .lst (L2.SqL.of hp) (L2.dw_ints _)⟩
