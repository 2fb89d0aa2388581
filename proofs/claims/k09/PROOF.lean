import PyProof.Rows.All
import Wide.All
import OpenK.AllK
import Wide.FinOn
import HandS.ForMost
import HandS.SortKw
import KE.KMinKey
import KE.KStateDown
import HandS.Exc
import HandS.TryOnly
import HandS.ExcOwn
import HandS.WordsExc
import HandS.Defaults
import HandS.Sort
import HandS.SortInts
import HandS.SetFor
import HandS.Strs
import HandS.Deep
import HandS.Evl
import HandS.IsInst
import HandS.Conv
import HandS.Walk
import HandS.Head0
import HandS.Head1
import HandS.Head2
import HandS.HeadEnd
import HandS.HeadHook1
import HandS.HeadHook2
import KE.SortData
import HandS.Rev
import HandS.RevTup
import PySem.Challenge.RW_roadgaps_k09_whole_crossed_alike
set_option Elab.async false
set_option linter.all false
set_option Elab.async false
set_option linter.all false
set_option maxHeartbeats 4000000
/-! Rg, part M: the mathematics, in plain Lean: what the program's functions compute. -/
namespace Rg

/-! ### sorting -/
def sortI (ns : List Int) : List Int := ns.mergeSort fun a b => decide (a ≤ b)
theorem sortI_perm (ns : List Int) : (sortI ns).Perm ns := List.mergeSort_perm ns _
theorem sortI_up (ns : List Int) : (sortI ns).Pairwise (· ≤ ·) := by
  have h := List.pairwise_mergeSort (le := fun a b : Int => decide (a ≤ b)) (fun a b c h1 h2 => by simp at *; omega) (fun a b => by simp; omega) ns
  exact h.imp fun h => by simpa using h
theorem up_unique {a b : List Int} (h : a.Perm b) (ha : a.Pairwise (· ≤ ·)) (hb : b.Pairwise (· ≤ ·)) : a = b :=
  h.eq_of_pairwise (le := (· ≤ ·)) (fun x y _ _ h1 h2 => by omega) ha hb
theorem sortI_eq {a ns : List Int} (h : a.Perm ns) (ha : a.Pairwise (· ≤ ·)) : a = sortI ns := up_unique (h.trans (sortI_perm ns).symm) ha (sortI_up ns)
theorem sortI_congr {a b : List Int} (h : a.Perm b) : sortI a = sortI b := up_unique ((sortI_perm a).trans (h.trans (sortI_perm b).symm)) (sortI_up a) (sortI_up b)
theorem sortI_len (ns : List Int) : (sortI ns).length = ns.length := (sortI_perm ns).length_eq
theorem sortI_id {ns : List Int} (h : ns.Pairwise (· ≤ ·)) : sortI ns = ns := (sortI_eq (List.Perm.refl _) h).symm

/-! ### distances: |x_k - x_j|, j below k -/
def ab (i : Int) : Int := if i < 0 then -i else i
def gi (ns : List Int) (k : Nat) : Int := ns.getD k 0
def rowD (ns : List Int) (k : Nat) : List Int := (List.range k).map fun j => ab (gi ns k - gi ns j)
def allD (ns : List Int) : Nat → List Int
  | 0 => []
  | k + 1 => allD ns k ++ rowD ns k
def btw (ns : List Int) : List Int := sortI (allD ns ns.length)
theorem rowD_len (ns : List Int) (k : Nat) : (rowD ns k).length = k := by simp [rowD]
theorem allD_len2 (ns : List Int) : ∀ k : Nat, 2 * (allD ns k).length + k = k * k
  | 0 => rfl
  | k + 1 => by
    have h := allD_len2 ns k
    have e : (k + 1) * (k + 1) = k * k + 2 * k + 1 := by rw [Nat.add_mul, Nat.mul_add]; omega
    rw [allD, List.length_append, rowD_len, e]
    omega
theorem allD_le (ns : List Int) (k m : Nat) (h : k ≤ m) : (allD ns k).length ≤ m * m := by
  have h1 := allD_len2 ns k
  have h2 : k * k ≤ m * m := Nat.mul_le_mul h h
  omega
theorem btw_len2 (ns : List Int) : 2 * (btw ns).length + ns.length = ns.length * ns.length := by
  rw [btw, sortI_len]
  exact allD_len2 ns ns.length

/-! ### a road, a list of distances: what is refused -/
def roadOk (ns : List Int) : Prop := 1 ≤ ns.length ∧ ns.length ≤ 50 ∧ gi ns 0 = 0 ∧ gi ns (ns.length - 1) ≤ 4000 ∧ ∀ k, k + 1 < ns.length → gi ns k < gi ns (k + 1)
def gapsOk (ns : List Int) : Prop := ∀ k, k < ns.length → 1 ≤ gi ns k ∧ gi ns k ≤ 4000 ∧ (0 < k → gi ns (k - 1) ≤ gi ns k)
open Classical in
noncomputable def refRoad (ns : List Int) : Option String := if roadOk ns then none else some "NoRoad"
open Classical in
noncomputable def refGaps (ns : List Int) : Option String := if 21 < ns.length then some "TooMany" else if gapsOk ns then none else some "NoGaps"
theorem refRoad_ok {ns : List Int} (h : roadOk ns) : refRoad ns = none := if_pos h
theorem refRoad_no {ns : List Int} (h : ¬ roadOk ns) : refRoad ns = some "NoRoad" := if_neg h
theorem refRoad_none {ns : List Int} (h : refRoad ns = none) : roadOk ns := by
  unfold refRoad at h
  split at h
  · assumption
  · cases h
theorem refGaps_ok {ns : List Int} (h1 : ns.length ≤ 21) (h : gapsOk ns) : refGaps ns = none := by
  unfold refGaps
  rw [if_neg (by omega), if_pos h]
theorem refGaps_many {ns : List Int} (h1 : 21 < ns.length) : refGaps ns = some "TooMany" := if_pos h1
theorem refGaps_no {ns : List Int} (h1 : ns.length ≤ 21) (h : ¬ gapsOk ns) : refGaps ns = some "NoGaps" := by
  unfold refGaps
  rw [if_neg (by omega), if_neg h]
theorem refGaps_none {ns : List Int} (h : refGaps ns = none) : ns.length ≤ 21 ∧ gapsOk ns := by
  unfold refGaps at h
  split at h
  · cases h
  · split at h
    · exact ⟨by omega, by assumption⟩
    · cases h

/-! ### a list without some of it -/
def wo : List Int → List Int → List Int × Option Int
  | left, [] => (left, none)
  | left, d :: ds => if d ∈ left then wo (left.erase d) ds else (left, some d)
theorem wo_in {left ds : List Int} {d : Int} (h : d ∈ left) : wo left (d :: ds) = wo (left.erase d) ds := if_pos h
theorem wo_out {left ds : List Int} {d : Int} (h : d ∉ left) : wo left (d :: ds) = (left, some d) := if_neg h
theorem wo_len : ∀ (ds left : List Int), (wo left ds).1.length ≤ left.length
  | [], _ => Nat.le_refl _
  | d :: ds, left => by
    by_cases h : d ∈ left
    · rw [wo_in h]
      have h1 := wo_len ds (left.erase d)
      have h2 := List.length_erase_le (a := d) (l := left)
      omega
    · rw [wo_out h]
      exact Nat.le_refl _
/-- the place of the first d, and the list without it -/
theorem erase_at : ∀ {xs : List Int} {d : Int}, d ∈ xs → ∃ j, xs[j]? = some d ∧ (∀ m, m < j → xs[m]? ≠ some d) ∧ xs.eraseIdx j = xs.erase d
  | [], d, h => by cases h
  | x :: xs, d, h => by
    by_cases e : x = d
    · subst e
      exact ⟨0, rfl, fun m hm => by omega, by simp⟩
    · have hm : d ∈ xs := by
        rcases List.mem_cons.mp h with z | z
        · exact absurd z.symm e
        · exact z
      obtain ⟨j, h1, h2, h3⟩ := erase_at hm
      refine ⟨j + 1, by simpa using h1, fun m hm => ?_, ?_⟩
      · cases m with
        | zero => simpa using e
        | succ m => simpa using h2 m (by omega)
      · rw [List.erase_cons_tail (by simpa using e), ← h3]
        rfl
theorem drop_at {α : Type} {xs : List α} {i : Nat} {x : α} (h : xs[i]? = some x) : xs.drop i = x :: xs.drop (i + 1) := by
  obtain ⟨hi, e⟩ := List.getElem?_eq_some_iff.mp h
  rw [← e]
  exact List.drop_eq_getElem_cons hi

/-! ### the law's own: cells, roads -/
def cell (ns : List Int) (k : Int) : Int := gi ns k.toNat
def lroad (ns : List Int) (first steps : Int) : Nat → List Int
  | 0 => [0]
  | n + 1 => lroad ns first steps n ++ [gi (lroad ns first steps n) n + 1 + cell ns (first + n) % steps]
theorem lroad_len (ns : List Int) (first steps : Int) : ∀ n, (lroad ns first steps n).length = n + 1
  | 0 => rfl
  | n + 1 => by rw [lroad, List.length_append, lroad_len ns first steps n]; rfl
/-- b - a for each a below b -/
def lallR (xs : List Int) (a : Int) : List Int := (xs.filter fun b => decide (a < b)).map fun b => b - a
def lall (ns : List Int) : List Int := ns.flatMap (lallR ns)
theorem take_more {α : Type} {l : List α} {i : Nat} {x : α} (h : l[i]? = some x) : l.take (i + 1) = l.take i ++ [x] := by
  rw [List.take_add_one, h]
  rfl
theorem lallR_more {ns : List Int} {j : Nat} {x y : Int} (h : ns[j]? = some y) : lallR (ns.take (j + 1)) x = lallR (ns.take j) x ++ if x < y then [y - x] else [] := by
  unfold lallR
  rw [take_more h, List.filter_append, List.map_append]
  congr 1
  by_cases c : x < y
  · rw [if_pos c, List.filter_cons_of_pos (by simpa using c)]
    rfl
  · rw [if_neg c, List.filter_cons_of_neg (by simpa using c)]
    rfl
theorem lallR_len (ns : List Int) (a : Int) : (lallR ns a).length ≤ ns.length := by
  unfold lallR
  rw [List.length_map]
  exact List.length_filter_le _ _
theorem lall_len (ns xs : List Int) : (xs.flatMap (lallR ns)).length ≤ xs.length * ns.length := by
  induction xs with
  | nil => simp
  | cons x xs ih =>
    have := lallR_len ns x
    rw [List.flatMap_cons, List.length_append, List.length_cons, Nat.succ_mul]
    omega
theorem lall_part (ns : List Int) (i j : Nat) (x : Int) : ((ns.take i).flatMap (lallR ns) ++ lallR (ns.take j) x).length ≤ ns.length * ns.length + ns.length := by
  have h1 := lall_len ns (ns.take i)
  have h2 := lallR_len (ns.take j) x
  have h3 : (ns.take i).length ≤ ns.length := List.length_take_le' i ns
  have h4 : (ns.take j).length ≤ ns.length := List.length_take_le' j ns
  have h5 := Nat.mul_le_mul h3 (Nat.le_refl ns.length)
  rw [List.length_append]
  omega
theorem gi_ext {ns ms : List Int} (hl : ns.length = ms.length) (h : ∀ k, k < ms.length → gi ns k = gi ms k) : ns = ms := by
  refine List.ext_getElem hl fun k h1 h2 => ?_
  have := h k h2
  simpa [gi, List.getD_eq_getElem?_getD, List.getElem?_eq_getElem h1, List.getElem?_eq_getElem h2] using this
theorem roadOk.small {ns : List Int} (h : roadOk ns) : ns.length ≤ 100 := by
  have := h.2.1
  omega
def lbw (ns : List Int) : List Int := sortI (lall ns)
theorem lbw_len (ns : List Int) : (lbw ns).length ≤ ns.length * ns.length := by
  rw [lbw, sortI_len]
  exact lall_len ns ns
theorem lbw_pos {ns : List Int} {d : Int} (h : d ∈ lbw ns) : 1 ≤ d := by
  have h := (sortI_perm (lall ns)).mem_iff.mp h
  obtain ⟨a, _, h⟩ := List.mem_flatMap.mp h
  unfold lallR at h
  obtain ⟨b, hb, rfl⟩ := List.mem_map.mp h
  have := (List.mem_filter.mp hb).2
  simp at this
  omega
theorem gi_mem {ns : List Int} {k : Nat} (h : k < ns.length) : gi ns k ∈ ns := by
  simp [gi, List.getD_eq_getElem?_getD, List.getElem?_eq_getElem h]
theorem gi_get {ns : List Int} {k : Nat} (h : k < ns.length) : ns[k]? = some (gi ns k) := by
  simp [gi, List.getD_eq_getElem?_getD, List.getElem?_eq_getElem h]
theorem gi_of {ns : List Int} {k : Nat} {x : Int} (h : ns[k]? = some x) : gi ns k = x := by
  simp [gi, List.getD_eq_getElem?_getD, h]

/-! ### the greatest, the least -/
def maxD (d : Int) : List Int → Int
  | [] => d
  | [x] => x
  | x :: y :: r => max x (maxD d (y :: r))
def minD (d : Int) : List Int → Int
  | [] => d
  | [x] => x
  | x :: y :: r => min x (minD d (y :: r))
theorem maxD_spec (d : Int) : ∀ ns : List Int, ns ≠ [] → maxD d ns ∈ ns ∧ ∀ k ∈ ns, k ≤ maxD d ns
  | [], h => absurd rfl h
  | [x], _ => by simp [maxD]
  | x :: y :: r, _ => by
    obtain ⟨h1, h2⟩ := maxD_spec d (y :: r) (List.cons_ne_nil _ _)
    have e : maxD d (x :: y :: r) = max x (maxD d (y :: r)) := rfl
    rw [e]
    refine ⟨?_, fun k hk => ?_⟩
    · by_cases c : x ≤ maxD d (y :: r)
      · rw [Int.max_eq_right c]
        exact List.mem_cons_of_mem _ h1
      · rw [Int.max_eq_left (by omega)]
        exact List.mem_cons_self
    · rcases List.mem_cons.mp hk with rfl | hk
      · omega
      · have := h2 k hk
        omega
theorem minD_spec (d : Int) : ∀ ns : List Int, ns ≠ [] → minD d ns ∈ ns ∧ ∀ k ∈ ns, minD d ns ≤ k
  | [], h => absurd rfl h
  | [x], _ => by simp [minD]
  | x :: y :: r, _ => by
    obtain ⟨h1, h2⟩ := minD_spec d (y :: r) (List.cons_ne_nil _ _)
    have e : minD d (x :: y :: r) = min x (minD d (y :: r)) := rfl
    rw [e]
    refine ⟨?_, fun k hk => ?_⟩
    · by_cases c : x ≤ minD d (y :: r)
      · rw [Int.min_eq_left c]
        exact List.mem_cons_self
      · rw [Int.min_eq_right (by omega)]
        exact List.mem_cons_of_mem _ h1
    · rcases List.mem_cons.mp hk with rfl | hk
      · omega
      · have := h2 k hk
        omega
theorem maxD_eq {d m : Int} {ns : List Int} (h1 : m ∈ ns) (h2 : ∀ k ∈ ns, k ≤ m) : m = maxD d ns := by
  obtain ⟨k1, k2⟩ := maxD_spec d ns (List.ne_nil_of_mem h1)
  have := k2 m h1
  have := h2 _ k1
  omega
theorem minD_eq {d m : Int} {ns : List Int} (h1 : m ∈ ns) (h2 : ∀ k ∈ ns, m ≤ k) : m = minD d ns := by
  obtain ⟨k1, k2⟩ := minD_spec d ns (List.ne_nil_of_mem h1)
  have := k2 m h1
  have := h2 _ k1
  omega

/-! ### the law's list of distances -/
def steps4 (c : Int) : Int := gi [3, 9, 60, 600] (c / 7 % 4).toNat
theorem gi4 {x y z u : Int} {i : Int} (h0 : 0 ≤ i) (h4 : i < 4) : gi [x, y, z, u] i.toNat = x ∨ gi [x, y, z, u] i.toNat = y ∨ gi [x, y, z, u] i.toNat = z ∨ gi [x, y, z, u] i.toNat = u := by
  have : i.toNat = 0 ∨ i.toNat = 1 ∨ i.toNat = 2 ∨ i.toNat = 3 := by omega
  rcases this with e | e | e | e <;> rw [e] <;> simp [gi]
theorem gi3 {x y z : Int} {i : Int} (h0 : 0 ≤ i) (h4 : i < 3) : gi [x, y, z] i.toNat = x ∨ gi [x, y, z] i.toNat = y ∨ gi [x, y, z] i.toNat = z := by
  have : i.toNat = 0 ∨ i.toNat = 1 ∨ i.toNat = 2 := by omega
  rcases this with e | e | e <;> rw [e] <;> simp [gi]
theorem steps4_pos (c : Int) : 0 < steps4 c ∧ steps4 c ≤ 600 := by
  have := gi4 (x := 3) (y := 9) (z := 60) (u := 600) (i := c / 7 % 4) (by omega) (by omega)
  unfold steps4
  omega
def lmade (ns : List Int) (first : Int) : List Int := lroad ns (first + 1) (steps4 (cell ns first)) (cell ns first % 7).toNat
def lg1 (m c : Int) (g : List Int) : List Int := if m = 1 ∧ g ≠ [] then g.eraseIdx (c % g.length).toNat else g
def lg2 (m c : Int) (g : List Int) : List Int := if m = 2 ∧ g ≠ [] then g.set (c % g.length).toNat (1 + c / 21 % (gi g (g.length - 1) + 2)) else g
def lg3 (m c : Int) (g : List Int) : List Int := if m = 3 ∧ g.length < 21 then g ++ [1 + c / 21 % (maxD 0 g + 2)] else g
def lgaps (ns : List Int) (first : Int) : List Int := sortI (lg3 (cell ns first / 28 % 6) (cell ns (first + 7)) (lg2 (cell ns first / 28 % 6) (cell ns (first + 7)) (lg1 (cell ns first / 28 % 6) (cell ns (first + 7)) (lbw (lmade ns first)))))
theorem lg1_len (m c : Int) (g : List Int) : (lg1 m c g).length ≤ g.length := by
  unfold lg1
  split
  · exact List.length_eraseIdx_le _ _
  · exact Nat.le_refl _
theorem lg2_len (m c : Int) (g : List Int) : (lg2 m c g).length = g.length := by
  unfold lg2
  split
  · exact List.length_set
  · rfl
theorem lg1_pos {m c : Int} {g : List Int} (h : ∀ d ∈ g, 1 ≤ d) : ∀ d ∈ lg1 m c g, 1 ≤ d := by
  unfold lg1
  split
  · exact fun d hd => h d (List.mem_of_mem_eraseIdx hd)
  · exact h
theorem top_pos {g : List Int} (h : ∀ d ∈ g, 1 ≤ d) (hn : g ≠ []) : 1 ≤ gi g (g.length - 1) := by
  have hp : 0 < g.length := List.length_pos_iff.mpr hn
  exact h _ (gi_mem (by omega))
theorem maxD_pos {g : List Int} (h : ∀ d ∈ g, 1 ≤ d) : 0 ≤ maxD 0 g := by
  by_cases hn : g = []
  · subst hn
    exact Int.le_refl 0
  · have := h _ (maxD_spec 0 g hn).1
    omega
theorem lg2_pos {m c : Int} {g : List Int} (h : ∀ d ∈ g, 1 ≤ d) : ∀ d ∈ lg2 m c g, 1 ≤ d := by
  unfold lg2
  split
  · rename_i hc
    intro d hd
    rcases List.mem_or_eq_of_mem_set hd with z | z
    · exact h d z
    · have h1 := top_pos h hc.2
      have h2 := Int.emod_nonneg (c / 21) (b := gi g (g.length - 1) + 2) (by omega)
      omega
  · exact h

/-! ### all distances, each pair once -/
def prs : List Int → List Int
  | [] => []
  | x :: xs => xs.map (fun y => ab (x - y)) ++ prs xs
theorem ab_swap (x y : Int) : ab (x - y) = ab (y - x) := by
  unfold ab
  split <;> split <;> omega
theorem ab_nonneg (x : Int) : 0 ≤ ab x := by
  unfold ab
  split <;> omega
theorem prs_perm {a b : List Int} (h : a.Perm b) : (prs a).Perm (prs b) := by
  induction h with
  | nil => exact .refl _
  | cons x h ih => exact (h.map _).append ih
  | swap x y l =>
    show ((ab (y - x) :: l.map fun z => ab (y - z)) ++ (l.map (fun z => ab (x - z)) ++ prs l)).Perm ((ab (x - y) :: l.map fun z => ab (x - z)) ++ (l.map (fun z => ab (y - z)) ++ prs l))
    rw [ab_swap y x, List.cons_append, List.cons_append]
    refine List.Perm.cons _ ?_
    rw [← List.append_assoc, ← List.append_assoc]
    exact List.perm_append_comm.append_right _
  | trans _ _ ih1 ih2 => exact ih1.trans ih2
theorem prs_len2 : ∀ ns : List Int, 2 * (prs ns).length + ns.length = ns.length * ns.length
  | [] => rfl
  | x :: xs => by
    have h := prs_len2 xs
    have e : (xs.length + 1) * (xs.length + 1) = xs.length * xs.length + 2 * xs.length + 1 := by rw [Nat.add_mul, Nat.mul_add]; omega
    rw [prs, List.length_append, List.length_map, List.length_cons, e]
    omega
theorem prs_snoc (l : List Int) (x : Int) : (prs (l ++ [x])).Perm (prs l ++ l.map fun y => ab (x - y)) := by
  have h : (prs (l ++ [x])).Perm (prs (x :: l)) := prs_perm (List.perm_append_comm (l₁ := l) (l₂ := [x]))
  exact h.trans List.perm_append_comm
theorem rowD_take (ns : List Int) {k : Nat} (hk : k ≤ ns.length) (x : Int) : ((List.range k).map fun j => ab (x - gi ns j)) = (ns.take k).map fun y => ab (x - y) := by
  refine List.ext_getElem (by simp; omega) fun i h1 h2 => ?_
  simp at h1
  have hi : i < ns.length := by omega
  simp [gi, List.getD_eq_getElem?_getD, List.getElem?_eq_getElem hi]
theorem allD_prs (ns : List Int) : ∀ k, k ≤ ns.length → (allD ns k).Perm (prs (ns.take k))
  | 0, _ => by simp [allD, prs]
  | k + 1, h => by
    have ih := allD_prs ns k (by omega)
    rw [allD, take_more (gi_get (by omega : k < ns.length)), rowD, rowD_take ns (by omega)]
    exact (ih.append_right _).trans (prs_snoc _ _).symm
theorem btw_prs (ns : List Int) : btw ns = sortI (prs ns) := by
  have h := allD_prs ns ns.length (Nat.le_refl _)
  rw [List.take_length] at h
  exact sortI_congr h
theorem btw_perm {a b : List Int} (h : a.Perm b) : btw a = btw b := by
  rw [btw_prs, btw_prs]
  exact sortI_congr (prs_perm h)
theorem flat_split {α : Type} (f g : α → List Int) : ∀ l : List α, (l.flatMap fun a => f a ++ g a).Perm (l.flatMap f ++ l.flatMap g)
  | [] => .refl _
  | x :: l => by
    have h := flat_split f g l
    rw [List.flatMap_cons, List.flatMap_cons, List.flatMap_cons]
    refine ((List.Perm.append_left _ h).trans ?_)
    rw [List.append_assoc, List.append_assoc]
    refine List.Perm.append_left _ ?_
    rw [← List.append_assoc, ← List.append_assoc]
    exact List.perm_append_comm.append_right _
theorem lall_one (x : Int) : ∀ xs : List Int, x ∉ xs → (lallR xs x ++ xs.flatMap fun a => if a < x then [x - a] else []).Perm (xs.map fun y => ab (x - y))
  | [], _ => .refl _
  | y :: ys, h => by
    have h1 : x ≠ y := fun e => h (by rw [e]; exact List.mem_cons_self)
    have ih := lall_one x ys fun z => h (List.mem_cons_of_mem _ z)
    rw [List.flatMap_cons, List.map_cons]
    by_cases c : x < y
    · have e1 : lallR (y :: ys) x = (y - x) :: lallR ys x := by
        unfold lallR
        rw [List.filter_cons_of_pos (by simpa using c)]
        rfl
      have e2 : ab (x - y) = y - x := by
        unfold ab
        split <;> omega
      rw [e1, e2, if_neg (by omega)]
      exact ih.cons _
    · have e1 : lallR (y :: ys) x = lallR ys x := by
        unfold lallR
        rw [List.filter_cons_of_neg (by simpa using c)]
      have e2 : ab (x - y) = x - y := by
        unfold ab
        split <;> omega
      rw [e1, e2, if_pos (by omega)]
      refine List.Perm.trans ?_ (ih.cons _)
      rw [List.singleton_append]
      exact List.perm_middle
theorem lall_prs : ∀ ns : List Int, ns.Nodup → (lall ns).Perm (prs ns)
  | [], _ => .refl _
  | x :: xs, h => by
    have hn := List.nodup_cons.mp h
    have ih := lall_prs xs hn.2
    have e1 : lallR (x :: xs) x = lallR xs x := by
      unfold lallR
      rw [List.filter_cons_of_neg (by simp)]
    have e2 : lallR (x :: xs) = fun a => (if a < x then [x - a] else []) ++ lallR xs a := by
      funext a
      unfold lallR
      by_cases c : a < x
      · rw [List.filter_cons_of_pos (by simpa using c), if_pos c]
        rfl
      · rw [List.filter_cons_of_neg (by simpa using c), if_neg c]
        rfl
    unfold lall
    rw [List.flatMap_cons, e1, e2]
    refine (List.Perm.append_left _ (flat_split _ _ xs)).trans ?_
    rw [← List.append_assoc]
    exact (lall_one x xs hn.1).append ih
theorem lbw_btw {ns : List Int} (h : ns.Nodup) : lbw ns = btw ns := by
  rw [btw_prs]
  exact sortI_congr (lall_prs ns h)
theorem up_nodup {ns : List Int} (h : ns.Pairwise (· < ·)) : ns.Nodup := h.imp fun h e => by omega
theorem btw_up (ns : List Int) : (btw ns).Pairwise (· ≤ ·) := sortI_up _

/-! ### roads by what they hold -/
theorem gi_pair {ns : List Int} (h : ns.Pairwise (· < ·)) {i j : Nat} (hij : i < j) (hj : j < ns.length) : gi ns i < gi ns j := by
  have := List.pairwise_iff_getElem.mp h i j (by omega) hj hij
  simpa [gi, List.getD_eq_getElem?_getD, List.getElem?_eq_getElem hj, List.getElem?_eq_getElem (show i < ns.length by omega)] using this
theorem up_of_step {ns : List Int} (h : ∀ k, k + 1 < ns.length → gi ns k < gi ns (k + 1)) : ns.Pairwise (· < ·) := by
  have far : ∀ d i, i + d + 1 < ns.length → gi ns i < gi ns (i + d + 1) := by
    intro d
    induction d with
    | zero => exact fun i hi => h i hi
    | succ d ih => exact fun i hi => Int.lt_trans (ih i (by omega)) (h (i + d + 1) hi)
  refine List.pairwise_iff_getElem.mpr fun i j hi hj hij => ?_
  have := far (j - i - 1) i (by omega)
  rw [show i + (j - i - 1) + 1 = j by omega] at this
  simpa [gi, List.getD_eq_getElem?_getD, List.getElem?_eq_getElem hj, List.getElem?_eq_getElem hi] using this
theorem roadOk_of {ns : List Int} (h0 : ns ≠ []) (h1 : ns.length ≤ 50) (h2 : gi ns 0 = 0) (h3 : ∀ x ∈ ns, x ≤ 4000) (h4 : ns.Pairwise (· < ·)) : roadOk ns := by
  have hp := List.length_pos_iff.mpr h0
  exact ⟨hp, h1, h2, h3 _ (gi_mem (by omega)), fun k hk => gi_pair h4 (Nat.lt_succ_self k) hk⟩
theorem roadOk.up {ns : List Int} (h : roadOk ns) : ns.Pairwise (· < ·) := up_of_step h.2.2.2.2
theorem roadOk.ne {ns : List Int} (h : roadOk ns) : ns ≠ [] := List.length_pos_iff.mp h.1
theorem gi_snoc_lt {xs : List Int} {y : Int} {k : Nat} (h : k < xs.length) : gi (xs ++ [y]) k = gi xs k := by
  simp [gi, List.getD_eq_getElem?_getD, List.getElem?_append_left h]
theorem gi_snoc {xs : List Int} {y : Int} : gi (xs ++ [y]) xs.length = y := by
  simp [gi, List.getD_eq_getElem?_getD]
theorem lroad_facts (ns : List Int) (first : Int) {steps : Int} (hs : 0 < steps) : ∀ n, gi (lroad ns first steps n) 0 = 0 ∧ (∀ x ∈ lroad ns first steps n, 0 ≤ x ∧ x ≤ n * steps) ∧ (lroad ns first steps n).Pairwise (· < ·) ∧ (∀ x ∈ lroad ns first steps n, x ≤ gi (lroad ns first steps n) n)
  | 0 => by simp [lroad, gi]
  | n + 1 => by
    obtain ⟨h1, h2, h3, h4⟩ := lroad_facts ns first hs n
    have hl := lroad_len ns first steps n
    have hm1 := Int.emod_nonneg (cell ns (first + n)) (b := steps) (by omega)
    have hm2 := Int.emod_lt_of_pos (cell ns (first + n)) hs
    have hg : gi (lroad ns first steps n) n ∈ lroad ns first steps n := gi_mem (by omega)
    have hgb := h2 _ hg
    have he : ((n + 1 : Nat) : Int) * steps = n * steps + steps := by rw [Int.natCast_add, Int.add_mul]; omega
    have hlast : gi (lroad ns first steps (n + 1)) (n + 1) = gi (lroad ns first steps n) n + 1 + cell ns (first + n) % steps := by
      rw [lroad]
      have := gi_snoc (xs := lroad ns first steps n) (y := gi (lroad ns first steps n) n + 1 + cell ns (first + n) % steps)
      rw [hl] at this
      exact this
    refine ⟨?_, fun x hx => ?_, ?_, fun x hx => ?_⟩
    · rw [lroad, gi_snoc_lt (by omega), h1]
    · rw [lroad] at hx
      rcases List.mem_append.mp hx with hx | hx
      · have := h2 x hx
        omega
      · rw [List.mem_singleton.mp hx]
        omega
    · rw [lroad]
      refine List.pairwise_append.mpr ⟨h3, List.pairwise_singleton _ _, fun x hx y hy => ?_⟩
      rw [List.mem_singleton.mp hy]
      have := h4 x hx
      omega
    · rw [hlast]
      rw [lroad] at hx
      rcases List.mem_append.mp hx with hx | hx
      · have := h4 x hx
        omega
      · rw [List.mem_singleton.mp hx]
        omega
theorem lroad_ok (ns : List Int) (first : Int) {steps : Int} {n : Nat} (hs : 0 < steps) (h1 : n ≤ 49) (h2 : n * steps ≤ 4000) : roadOk (lroad ns first steps n) := by
  obtain ⟨k1, k2, k3, _⟩ := lroad_facts ns first hs n
  have hl := lroad_len ns first steps n
  refine roadOk_of (fun z => by rw [z] at hl; cases hl) (by omega) k1 (fun x hx => ?_) k3
  have := k2 x hx
  omega
/-! ### the law's list of distances is one -/
theorem gapsOk_of {ns : List Int} (h1 : ns.Pairwise (· ≤ ·)) (h2 : ∀ d ∈ ns, 1 ≤ d ∧ d ≤ 4000) : gapsOk ns := fun k hk => by
  have hm := h2 _ (gi_mem hk)
  refine ⟨hm.1, hm.2, fun h0 => ?_⟩
  have := List.pairwise_iff_getElem.mp h1 (k - 1) k (by omega) hk (by omega)
  simpa [gi, List.getD_eq_getElem?_getD, List.getElem?_eq_getElem hk, List.getElem?_eq_getElem (show k - 1 < ns.length by omega)] using this
theorem prs_le {M : Int} : ∀ {ns : List Int}, (∀ x ∈ ns, 0 ≤ x ∧ x ≤ M) → ∀ d ∈ prs ns, d ≤ M
  | [], _, d, hd => by cases hd
  | x :: xs, h, d, hd => by
    rcases List.mem_append.mp hd with hd | hd
    · obtain ⟨y, hy, rfl⟩ := List.mem_map.mp hd
      have h1 := h x List.mem_cons_self
      have h2 := h y (List.mem_cons_of_mem _ hy)
      unfold ab
      split <;> omega
    · exact prs_le (fun y hy => h y (List.mem_cons_of_mem _ hy)) d hd
theorem lbw_le {M : Int} {ns : List Int} (hn : ns.Nodup) (h : ∀ x ∈ ns, 0 ≤ x ∧ x ≤ M) : ∀ d ∈ lbw ns, d ≤ M := fun d hd => by
  rw [lbw_btw hn, btw_prs] at hd
  exact prs_le h d ((sortI_perm _).mem_iff.mp hd)
theorem lg1_le {M m c : Int} {g : List Int} (h : ∀ d ∈ g, d ≤ M) : ∀ d ∈ lg1 m c g, d ≤ M := by
  unfold lg1
  split
  · exact fun d hd => h d (List.mem_of_mem_eraseIdx hd)
  · exact h
theorem lg2_le {M m c : Int} {g : List Int} (hp : ∀ d ∈ g, 1 ≤ d) (h : ∀ d ∈ g, d ≤ M) : ∀ d ∈ lg2 m c g, d ≤ M + 2 := by
  unfold lg2
  split
  · rename_i hc
    intro d hd
    rcases List.mem_or_eq_of_mem_set hd with z | z
    · have := h d z
      omega
    · have h1 := top_pos hp hc.2
      have h3 : 0 < g.length := List.length_pos_iff.mpr hc.2
      have h4 := h _ (gi_mem (ns := g) (k := g.length - 1) (by omega))
      have h2 := Int.emod_lt_of_pos (c / 21) (b := gi g (g.length - 1) + 2) (by omega)
      omega
  · intro d hd
    have := h d hd
    omega
theorem lmade_ok (ns : List Int) (first : Int) : roadOk (lmade ns first) ∧ (lmade ns first).length ≤ 7 ∧ ∀ x ∈ lmade ns first, 0 ≤ x ∧ x ≤ 3600 := by
  have hs := steps4_pos (cell ns first)
  have hn : (cell ns first % 7).toNat ≤ 6 := by omega
  have hmul : (((cell ns first % 7).toNat : Nat) : Int) * steps4 (cell ns first) ≤ 3600 := by
    have := Int.mul_le_mul (show (((cell ns first % 7).toNat : Nat) : Int) ≤ 6 by omega) hs.2 (by omega) (by decide)
    omega
  refine ⟨lroad_ok ns (first + 1) hs.1 (by omega) (by omega), ?_, fun x hx => ?_⟩
  · rw [lmade, lroad_len]
    omega
  · have := (lroad_facts ns (first + 1) hs.1 (cell ns first % 7).toNat).2.1 x hx
    omega
theorem lgaps_ok (ns : List Int) (first : Int) : (lgaps ns first).length ≤ 21 ∧ gapsOk (lgaps ns first) := by
  obtain ⟨h1, h2, h3⟩ := lmade_ok ns first
  have hn := up_nodup h1.up
  have hlen : (lbw (lmade ns first)).length ≤ 21 := by
    have := btw_len2 (lmade ns first)
    have hm := Nat.mul_le_mul (show (lmade ns first).length - 1 ≤ 6 by omega) h2
    have e : (lmade ns first).length * (lmade ns first).length = ((lmade ns first).length - 1) * (lmade ns first).length + (lmade ns first).length := by
      have hp := h1.1
      obtain ⟨k, hk⟩ : ∃ k, (lmade ns first).length = k + 1 := ⟨(lmade ns first).length - 1, by omega⟩
      rw [hk, Nat.add_sub_cancel, ← Nat.succ_mul]
    rw [lbw_btw hn]
    omega
  have hp0 : ∀ d ∈ lbw (lmade ns first), 1 ≤ d := fun d hd => lbw_pos hd
  have hm0 := lbw_le hn h3
  unfold lgaps
  generalize lbw (lmade ns first) = g0 at *
  generalize cell ns first / 28 % 6 = m
  generalize cell ns (first + 7) = c
  have l1 := lg1_len m c g0
  have l2 := lg2_len m c (lg1 m c g0)
  have p2 := lg2_pos (m := m) (c := c) (lg1_pos (m := m) (c := c) hp0)
  have m2 : ∀ d ∈ lg2 m c (lg1 m c g0), d ≤ 3602 := lg2_le (m := m) (c := c) (lg1_pos (m := m) (c := c) hp0) (lg1_le (m := m) (c := c) hm0)
  generalize lg2 m c (lg1 m c g0) = g2 at *
  have hM : 0 ≤ maxD 0 g2 ∧ maxD 0 g2 ≤ 3602 := by
    refine ⟨maxD_pos p2, ?_⟩
    by_cases hz : g2 = []
    · subst hz
      decide
    · exact m2 _ (maxD_spec 0 g2 hz).1
  have h2 := Int.emod_lt_of_pos (c / 21) (b := maxD 0 g2 + 2) (by omega)
  have h4 := Int.emod_nonneg (c / 21) (b := maxD 0 g2 + 2) (by omega)
  refine ⟨?_, gapsOk_of (sortI_up _) fun d hd => ?_⟩
  · rw [sortI_len, lg3]
    split
    · rw [List.length_append, List.length_singleton]
      omega
    · omega
  · have hd := (sortI_perm _).mem_iff.mp hd
    rw [lg3] at hd
    split at hd
    · rcases List.mem_append.mp hd with hd | hd
      · have a1 := p2 d hd
        have a2 := m2 d hd
        omega
      · rw [List.mem_singleton.mp hd]
        omega
    · have a1 := p2 d hd
      have a2 := m2 d hd
      omega
end Rg

set_option Elab.async false
set_option linter.all false
set_option maxRecDepth 100000
set_option maxHeartbeats 400000
/-! Rg, part MM: max(xs, default=i), min(xs, default=i) of a list of ints, empty or not. -/
namespace PySem

/-! ### max(xs, default=d) -/
section
variable {prog : Program} {w : World} {A : Around} {R : Result → Shared → Prop} {I S : Addr} {fp wr : List Addr} {n : Nat} {P : Nat → Value → Prop} {St : Nat → Heap → Prop} {bt : Nat → Nat → Bool} {kd : Str} {d : Value}
/-- what stands in the best one's list ahead of turn i -/
def maxBest (P : Nat → Value → Prop) (bt : Nat → Nat → Bool) (i : Nat) (o : List Value) : Prop := (i = 0 ∧ o = []) ∨ (0 < i ∧ ∃ v, o = [v, v] ∧ P (argBest bt (i - 1)) v)
theorem max_turns (W : Walks prog w A.in1 I fp wr n P St) (hcmp : CmpOf prog w A.in1 .Gt P bt) (hS : S ∉ fp) : ∀ (k i : Nat) (s : Shared) (o : List Value) (c : Nat), i + k = n → St i s.heap → maxBest P bt i o →
    s.heap.get? S = some { cls := .type "list", dict := none, data := .seq o.toArray c, slots := #[] } →
    (∀ v h' tk, (n = 0 → v = d) → (0 < n → P (argBest bt (n - 1)) v) → (∀ b u, b ∉ wr → b ≠ S → s.heap.get? b = some u → h'.get? b = some u) → R (.ok (.ret v)) { s with heap := h', toks := tk }) →
    codeAny (model prog w) A (.builtin "max.loop" ⟨[.ref I, .none, .ref S], [(kd, d)]⟩) R s := by
  have nm : (toString "max" ++ toString ".loop" : String) = "max.loop" := by decide
  have hw : S ∉ wr := fun h => hS (W.sub _ h)
  intro k
  induction k with
  | zero =>
    intro i s o c hk hst hb ho hR
    refine codeAny_builtin F.entry_max_loop ?_
    rw [Around.under_plainId F.plain_max_loop _]
    refine wpAny_bind (wpAny_seqItems ho rfl ?_)
    have hin : n = i := by omega
    refine wpAny_bind (wpAny_tryCatch (W.done s _ _ (hin ▸ hst) fun h1 tk1 k1 => ?_))
    have ho1 := k1 S _ hw ho
    rcases hb with ⟨i0, rfl⟩ | ⟨i0, v, rfl, hp⟩
    · refine wpAny_bind (wpAny_rule (wpAny_pure (hR d h1 tk1 (fun _ => rfl) (fun z => by omega) fun b u hbw _ e => k1 b u hbw e)))
    · refine wpAny_bind ?_
      refine wpAny_updateSeq ho1 rfl (wpAny_bind (wpAny_letGo (wpAny_pure ?_)))
      refine hR v _ tk1 (fun z => by omega) (fun _ => by rw [hin]; exact hp) fun b u hbw hbS e => ?_
      exact (Heap.get?_update_other _ _ (Ne.symm hbS)).trans (k1 b u hbw e)
  | succ k ih =>
    intro i s o c hk hst hb ho hR
    refine codeAny_builtin F.entry_max_loop ?_
    rw [Around.under_plainId F.plain_max_loop _]
    refine wpAny_bind (wpAny_seqItems ho rfl ?_)
    refine wpAny_bind (wpAny_tryCatch (W.item i s _ _ (by omega) hst fun x h1 tk1 hx st1 k1 => ?_))
    have ho1 := k1 S _ hw ho
    have still : ∀ {h2 : Heap}, (∀ b u, b ≠ S → h1.get? b = some u → h2.get? b = some u) → St (i + 1) h2 := fun e => W.frame _ _ _ st1 fun b hbf u q => e b u (fun z => hS (z ▸ hbf)) q
    have next : ∀ (h2 : Heap) (o2 : List Value) (c2 : Nat), (∀ b u, b ≠ S → h1.get? b = some u → h2.get? b = some u) → maxBest P bt (i + 1) o2 → h2.get? S = some { cls := .type "list", dict := none, data := .seq o2.toArray c2, slots := #[] } →
        codeAny (model prog w) A (.builtin "max.loop" ⟨[.ref I, .none, .ref S], [(kd, d)]⟩) R { s with heap := h2, toks := tk1 } := fun h2 o2 c2 e b2 q => by
      refine ih (i + 1) _ o2 c2 (by omega) (still e) b2 q fun v h3 tk3 z1 z2 k3 => hR v h3 tk3 z1 z2 fun b u hbw hbS q2 => ?_
      exact k3 b u hbw hbS (e b u hbS (k1 b u hbw q2))
    rcases hb with ⟨i0, rfl⟩ | ⟨i0, v, rfl, hp⟩
    · subst i0
      refine wpAny_bind (wpAny_pure ?_)
      refine wpAny_bind ?_
      refine wpAny_updateSeq ho1 rfl ?_
      rw [nm]
      refine wpAny_pure ⟨plainId_quiet F.plain_max_loop _, next _ [x, x] _ (fun b u hbS e => (Heap.get?_update_other _ _ (Ne.symm hbS)).trans e) (.inr ⟨Nat.succ_pos _, x, rfl, hx⟩) (Heap.get?_update_self _ ho1 rfl)⟩
    · obtain ⟨j, rfl⟩ : ∃ j, i = j + 1 := ⟨i - 1, by omega⟩
      refine wpAny_bind (wpAny_pure ?_)
      refine wpAny_bind (wpAny_tryCatch (wpAny_holding (wpAny_bind (hcmp (j + 1) (argBest bt j) x v _ _ _ hx hp ?_))))
      refine wpAny_bind (wpAny_holding (wpAny_truthy_bool ?_))
      refine wpAny_bind (wpAny_letGo (wpAny_pure ?_))
      cases hc : bt (j + 1) (argBest bt j) with
      | true =>
        rw [if_pos rfl]
        refine wpAny_bind ?_
        refine wpAny_updateSeq ho1 rfl (wpAny_bind (wpAny_letGo ?_))
        rw [nm]
        refine wpAny_pure ⟨plainId_quiet F.plain_max_loop _, next _ [x, x] _ (fun b u hbS e => (Heap.get?_update_other _ _ (Ne.symm hbS)).trans e) (.inr ⟨Nat.succ_pos _, x, rfl, ?_⟩) (Heap.get?_update_self _ ho1 rfl)⟩
        show P (argBest bt (j + 1)) x
        simpa only [argBest, hc, if_true] using hx
      | false =>
        rw [if_neg Bool.false_ne_true]
        refine wpAny_bind (wpAny_letGo ?_)
        rw [nm]
        refine wpAny_pure ⟨plainId_quiet F.plain_max_loop _, next _ [v, v] _ (fun b u _ e => e) (.inr ⟨Nat.succ_pos _, v, rfl, ?_⟩) ho1⟩
        show P (argBest bt (j + 1)) v
        have e : argBest bt (j + 1) = argBest bt j := by simp only [argBest, hc, Bool.false_eq_true, if_false]
        rw [e]
        exact hp
end
theorem args_max_dflt (a v : Value) : argsOk "max" ⟨[a], [(Str.ofString "default", v)]⟩ := by unfold argsOk; kernel_rfl
section
variable {prog : Program} {w : World} {A : Around} {E : Value → Shared → Prop} {s : Shared} {l : Addr} {its : List Value} {ns : List Int} {Q : Value → Shared → Prop} {d : Value}
theorem max_dflt_items {xs : Array (Int × Tok)} (hh : A.handled = none) (hl : s.heap.IsList l (intItems xs))
    (h : ∀ v h' tk, (xs.size = 0 → v = d) → (0 < xs.size → (intItems xs)[argBest (fun i j => decide (numAt xs i > numAt xs j)) (xs.size - 1)]? = some v) → (∀ b o, s.heap.get? b = some o → h'.get? b = some o) → Q v { s with heap := h', toks := tk }) :
    wpAny (model prog w) A (call (.builtin "max") [.ref l] [(Str.ofString "default", d)]) Q E s := by
  have nm : (toString "max" ++ toString ".loop" : String) = "max.loop" := by decide
  refine PyProof.Rows.kmk_tree F.kind_max F.plain_max F.entry_max (args_max_dflt _ _) ?_
  show wpAny _ A.in1 (Builtin.Builtins.bindParams "max" ["key", "default"] 0 ⟨[], [(Str.ofString "default", d)]⟩ >>= _) _ _ s
  refine wpAny_bind (wpAny_of_eq (show Builtin.Builtins.bindParams "max" ["key", "default"] 0 ⟨[], [(Str.ofString "default", d)]⟩ = pure [none, some d] from rfl) ?_)
  refine wpAny_bind (wpAny_pure (wpAny_bind (iter_intList hl fun s2 e st hfp hne => ?_)))
  subst e
  refine wpAny_bind (wpAny_newObj_type ?_)
  rw [nm]
  have hsz : (intItems xs).size = xs.size := by simp [intItems]
  have W := Walks.list (prog := prog) (w := w) (A := A.in1) hh s.heap.objs.size l hne (intItems xs)
  rw [hsz] at W
  refine wpAny_pure ⟨plainId_quiet F.plain_max_loop _, max_turns W (CmpOf.ints_gt (numAt xs) fun _ _ => intItems_at) (fun hm => Nat.lt_irrefl _ (hfp _ hm)) xs.size 0 _ [] _ (Nat.zero_add _)
    (W.frame _ _ _ st fun b _ o e => Heap.get?_push_of_some _ e) (.inl ⟨rfl, rfl⟩) (Heap.get?_push_size _ rfl) fun v h' tk z1 z2 k => ?_⟩
  exact h v h' tk z1 z2 (old_kept fun b o hb e => k b o hb (Nat.ne_of_lt (Heap.lt_size e)) (Heap.get?_push_of_some _ e))
end

/-! ### min(xs, default=d) -/
section
variable {prog : Program} {w : World} {A : Around} {R : Result → Shared → Prop} {I S : Addr} {fp wr : List Addr} {n : Nat} {P : Nat → Value → Prop} {St : Nat → Heap → Prop} {bt : Nat → Nat → Bool} {kd : Str} {d : Value}
/-- what stands in the best one's list ahead of turn i -/
def minBest (P : Nat → Value → Prop) (bt : Nat → Nat → Bool) (i : Nat) (o : List Value) : Prop := (i = 0 ∧ o = []) ∨ (0 < i ∧ ∃ v, o = [v, v] ∧ P (argBest bt (i - 1)) v)
theorem min_turns (W : Walks prog w A.in1 I fp wr n P St) (hcmp : CmpOf prog w A.in1 .Lt P bt) (hS : S ∉ fp) : ∀ (k i : Nat) (s : Shared) (o : List Value) (c : Nat), i + k = n → St i s.heap → minBest P bt i o →
    s.heap.get? S = some { cls := .type "list", dict := none, data := .seq o.toArray c, slots := #[] } →
    (∀ v h' tk, (n = 0 → v = d) → (0 < n → P (argBest bt (n - 1)) v) → (∀ b u, b ∉ wr → b ≠ S → s.heap.get? b = some u → h'.get? b = some u) → R (.ok (.ret v)) { s with heap := h', toks := tk }) →
    codeAny (model prog w) A (.builtin "min.loop" ⟨[.ref I, .none, .ref S], [(kd, d)]⟩) R s := by
  have nm : (toString "min" ++ toString ".loop" : String) = "min.loop" := by decide
  have hw : S ∉ wr := fun h => hS (W.sub _ h)
  intro k
  induction k with
  | zero =>
    intro i s o c hk hst hb ho hR
    refine codeAny_builtin F.entry_min_loop ?_
    rw [Around.under_plainId F.plain_min_loop _]
    refine wpAny_bind (wpAny_seqItems ho rfl ?_)
    have hin : n = i := by omega
    refine wpAny_bind (wpAny_tryCatch (W.done s _ _ (hin ▸ hst) fun h1 tk1 k1 => ?_))
    have ho1 := k1 S _ hw ho
    rcases hb with ⟨i0, rfl⟩ | ⟨i0, v, rfl, hp⟩
    · refine wpAny_bind (wpAny_rule (wpAny_pure (hR d h1 tk1 (fun _ => rfl) (fun z => by omega) fun b u hbw _ e => k1 b u hbw e)))
    · refine wpAny_bind ?_
      refine wpAny_updateSeq ho1 rfl (wpAny_bind (wpAny_letGo (wpAny_pure ?_)))
      refine hR v _ tk1 (fun z => by omega) (fun _ => by rw [hin]; exact hp) fun b u hbw hbS e => ?_
      exact (Heap.get?_update_other _ _ (Ne.symm hbS)).trans (k1 b u hbw e)
  | succ k ih =>
    intro i s o c hk hst hb ho hR
    refine codeAny_builtin F.entry_min_loop ?_
    rw [Around.under_plainId F.plain_min_loop _]
    refine wpAny_bind (wpAny_seqItems ho rfl ?_)
    refine wpAny_bind (wpAny_tryCatch (W.item i s _ _ (by omega) hst fun x h1 tk1 hx st1 k1 => ?_))
    have ho1 := k1 S _ hw ho
    have still : ∀ {h2 : Heap}, (∀ b u, b ≠ S → h1.get? b = some u → h2.get? b = some u) → St (i + 1) h2 := fun e => W.frame _ _ _ st1 fun b hbf u q => e b u (fun z => hS (z ▸ hbf)) q
    have next : ∀ (h2 : Heap) (o2 : List Value) (c2 : Nat), (∀ b u, b ≠ S → h1.get? b = some u → h2.get? b = some u) → minBest P bt (i + 1) o2 → h2.get? S = some { cls := .type "list", dict := none, data := .seq o2.toArray c2, slots := #[] } →
        codeAny (model prog w) A (.builtin "min.loop" ⟨[.ref I, .none, .ref S], [(kd, d)]⟩) R { s with heap := h2, toks := tk1 } := fun h2 o2 c2 e b2 q => by
      refine ih (i + 1) _ o2 c2 (by omega) (still e) b2 q fun v h3 tk3 z1 z2 k3 => hR v h3 tk3 z1 z2 fun b u hbw hbS q2 => ?_
      exact k3 b u hbw hbS (e b u hbS (k1 b u hbw q2))
    rcases hb with ⟨i0, rfl⟩ | ⟨i0, v, rfl, hp⟩
    · subst i0
      refine wpAny_bind (wpAny_pure ?_)
      refine wpAny_bind ?_
      refine wpAny_updateSeq ho1 rfl ?_
      rw [nm]
      refine wpAny_pure ⟨plainId_quiet F.plain_min_loop _, next _ [x, x] _ (fun b u hbS e => (Heap.get?_update_other _ _ (Ne.symm hbS)).trans e) (.inr ⟨Nat.succ_pos _, x, rfl, hx⟩) (Heap.get?_update_self _ ho1 rfl)⟩
    · obtain ⟨j, rfl⟩ : ∃ j, i = j + 1 := ⟨i - 1, by omega⟩
      refine wpAny_bind (wpAny_pure ?_)
      refine wpAny_bind (wpAny_tryCatch (wpAny_holding (wpAny_bind (hcmp (j + 1) (argBest bt j) x v _ _ _ hx hp ?_))))
      refine wpAny_bind (wpAny_holding (wpAny_truthy_bool ?_))
      refine wpAny_bind (wpAny_letGo (wpAny_pure ?_))
      cases hc : bt (j + 1) (argBest bt j) with
      | true =>
        rw [if_pos rfl]
        refine wpAny_bind ?_
        refine wpAny_updateSeq ho1 rfl (wpAny_bind (wpAny_letGo ?_))
        rw [nm]
        refine wpAny_pure ⟨plainId_quiet F.plain_min_loop _, next _ [x, x] _ (fun b u hbS e => (Heap.get?_update_other _ _ (Ne.symm hbS)).trans e) (.inr ⟨Nat.succ_pos _, x, rfl, ?_⟩) (Heap.get?_update_self _ ho1 rfl)⟩
        show P (argBest bt (j + 1)) x
        simpa only [argBest, hc, if_true] using hx
      | false =>
        rw [if_neg Bool.false_ne_true]
        refine wpAny_bind (wpAny_letGo ?_)
        rw [nm]
        refine wpAny_pure ⟨plainId_quiet F.plain_min_loop _, next _ [v, v] _ (fun b u _ e => e) (.inr ⟨Nat.succ_pos _, v, rfl, ?_⟩) ho1⟩
        show P (argBest bt (j + 1)) v
        have e : argBest bt (j + 1) = argBest bt j := by simp only [argBest, hc, Bool.false_eq_true, if_false]
        rw [e]
        exact hp
end
theorem args_min_dflt (a v : Value) : argsOk "min" ⟨[a], [(Str.ofString "default", v)]⟩ := by unfold argsOk; kernel_rfl
section
variable {prog : Program} {w : World} {A : Around} {E : Value → Shared → Prop} {s : Shared} {l : Addr} {its : List Value} {ns : List Int} {Q : Value → Shared → Prop} {d : Value}
theorem min_dflt_items {xs : Array (Int × Tok)} (hh : A.handled = none) (hl : s.heap.IsList l (intItems xs))
    (h : ∀ v h' tk, (xs.size = 0 → v = d) → (0 < xs.size → (intItems xs)[argBest (fun i j => decide (numAt xs i < numAt xs j)) (xs.size - 1)]? = some v) → (∀ b o, s.heap.get? b = some o → h'.get? b = some o) → Q v { s with heap := h', toks := tk }) :
    wpAny (model prog w) A (call (.builtin "min") [.ref l] [(Str.ofString "default", d)]) Q E s := by
  have nm : (toString "min" ++ toString ".loop" : String) = "min.loop" := by decide
  refine PyProof.Rows.kmk_tree F.kind_min F.plain_min F.entry_min (args_min_dflt _ _) ?_
  show wpAny _ A.in1 (Builtin.Builtins.bindParams "min" ["key", "default"] 0 ⟨[], [(Str.ofString "default", d)]⟩ >>= _) _ _ s
  refine wpAny_bind (wpAny_of_eq (show Builtin.Builtins.bindParams "min" ["key", "default"] 0 ⟨[], [(Str.ofString "default", d)]⟩ = pure [none, some d] from rfl) ?_)
  refine wpAny_bind (wpAny_pure (wpAny_bind (iter_intList hl fun s2 e st hfp hne => ?_)))
  subst e
  refine wpAny_bind (wpAny_newObj_type ?_)
  rw [nm]
  have hsz : (intItems xs).size = xs.size := by simp [intItems]
  have W := Walks.list (prog := prog) (w := w) (A := A.in1) hh s.heap.objs.size l hne (intItems xs)
  rw [hsz] at W
  refine wpAny_pure ⟨plainId_quiet F.plain_min_loop _, min_turns W (CmpOf.ints_lt (numAt xs) fun _ _ => intItems_at) (fun hm => Nat.lt_irrefl _ (hfp _ hm)) xs.size 0 _ [] _ (Nat.zero_add _)
    (W.frame _ _ _ st fun b _ o e => Heap.get?_push_of_some _ e) (.inl ⟨rfl, rfl⟩) (Heap.get?_push_size _ rfl) fun v h' tk z1 z2 k => ?_⟩
  exact h v h' tk z1 z2 (old_kept fun b o hb e => k b o hb (Nat.ne_of_lt (Heap.lt_size e)) (Heap.get?_push_of_some _ e))
end
end PySem

namespace L2
open PySem PySem.Spec PyProof.Rows
/-- max(xs, default=i) -/
def rmaxDf (K : PySem.W.Frag) : List V → List V → Hp → VK → Prop := fun vs zs H Q => ∃ (a : Addr) (ns : List Int) (i : Int), vs = [V.ref a] ∧ zs = [V.int i] ∧ SqL K H a (ns.map V.int) ∧ (ns = [] → Q (.int i) H) ∧ (∀ m, m ∈ ns → (∀ k ∈ ns, k ≤ m) → Q (.int m) H)
theorem cr_maxDf {X : Cx} (hc : X.calm = true) : CallRK X (.builtin "max") [Str.ofString "default"] (rmaxDf X.K) := by
  intro pins s σ H vs zs us ws Q I r rz h
  obtain ⟨a, ns, i, rfl, rfl, hs, q0, q1⟩ := h
  obtain ⟨its, rv, hl, _⟩ := I.list hs
  rw [Vals.ref1 r]
  obtain ⟨w1, rfl, t, rfl⟩ := vals1 rz
  obtain ⟨xs, e⟩ := rv.ints.allInts.items
  have hn : numsOf (intItems xs).toList = ns := by rw [← e]; exact rv.ints.numsOf
  rw [nums_intItems] at hn
  have hl2 := hl.isList
  rw [e] at hl2
  have hlen : ns.length = xs.size := by rw [← hn, List.length_map, Array.length_toList]
  refine PySem.max_dflt_items (I.ok.hd hc) hl2 fun v h' tk z1 z2 hk => ?_
  by_cases hz : xs.size = 0
  · rw [z1 hz]
    exact ⟨.int i, H, I.kept hk, ⟨_, rfl⟩, q0 (List.eq_nil_of_length_eq_zero (by omega))⟩
  · obtain ⟨t2, rfl⟩ := intItems_at (z2 (by omega))
    obtain ⟨h1, h2⟩ := argBest_gt (numAt xs) (xs.size - 1)
    refine ⟨.int _, H, I.kept hk, ⟨_, rfl⟩, q1 _ ?_ fun k hkm => ?_⟩
    · rw [← hn, numAt_eq]
      exact PySem.getD_mem (by rw [List.length_map, Array.length_toList]; omega)
    · rw [← hn] at hkm
      obtain ⟨j, hj, rfl⟩ := mem_getD hkm
      rw [List.length_map, Array.length_toList] at hj
      rw [← numAt_eq]
      exact h2 j (by omega)
end L2

namespace L2
open PySem PySem.Spec PyProof.Rows
/-- min(xs, default=i) -/
def rminDf (K : PySem.W.Frag) : List V → List V → Hp → VK → Prop := fun vs zs H Q => ∃ (a : Addr) (ns : List Int) (i : Int), vs = [V.ref a] ∧ zs = [V.int i] ∧ SqL K H a (ns.map V.int) ∧ (ns = [] → Q (.int i) H) ∧ (∀ m, m ∈ ns → (∀ k ∈ ns, m ≤ k) → Q (.int m) H)
theorem cr_minDf {X : Cx} (hc : X.calm = true) : CallRK X (.builtin "min") [Str.ofString "default"] (rminDf X.K) := by
  intro pins s σ H vs zs us ws Q I r rz h
  obtain ⟨a, ns, i, rfl, rfl, hs, q0, q1⟩ := h
  obtain ⟨its, rv, hl, _⟩ := I.list hs
  rw [Vals.ref1 r]
  obtain ⟨w1, rfl, t, rfl⟩ := vals1 rz
  obtain ⟨xs, e⟩ := rv.ints.allInts.items
  have hn : numsOf (intItems xs).toList = ns := by rw [← e]; exact rv.ints.numsOf
  rw [nums_intItems] at hn
  have hl2 := hl.isList
  rw [e] at hl2
  have hlen : ns.length = xs.size := by rw [← hn, List.length_map, Array.length_toList]
  refine PySem.min_dflt_items (I.ok.hd hc) hl2 fun v h' tk z1 z2 hk => ?_
  by_cases hz : xs.size = 0
  · rw [z1 hz]
    exact ⟨.int i, H, I.kept hk, ⟨_, rfl⟩, q0 (List.eq_nil_of_length_eq_zero (by omega))⟩
  · obtain ⟨t2, rfl⟩ := intItems_at (z2 (by omega))
    obtain ⟨h1, h2⟩ := argBest_lt (numAt xs) (xs.size - 1)
    refine ⟨.int _, H, I.kept hk, ⟨_, rfl⟩, q1 _ ?_ fun k hkm => ?_⟩
    · rw [← hn, numAt_eq]
      exact PySem.getD_mem (by rw [List.length_map, Array.length_toList]; omega)
    · rw [← hn] at hkm
      obtain ⟨j, hj, rfl⟩ := mem_getD hkm
      rw [List.length_map, Array.length_toList] at hj
      rw [← numAt_eq]
      exact h2 j (by omega)
end L2

set_option Elab.async false
set_option linter.all false
set_option maxRecDepth 100000
set_option maxHeartbeats 1000000
/-! Rg, part A: what all laws of this program share: a def's promise by its name, lists of ints, what a call hands back. -/
namespace Rg
open PySem PySem.Spec PyProof.Rows L2 Evl

/-! ### lists of ints -/
abbrev Ints (ns : List Int) : List V := ns.map V.int
abbrev Lst (H : Hp) (a : Addr) (xs : List V) : Prop := H a = some (.lst xs)
abbrev IL (H : Hp) (a : Addr) (ns : List Int) : Prop := H a = some (.lst (Ints ns))
/-! ### what a call hands back -/
/-- a new list | a value, the heap grown -/
def RL (xs : List V) (H : Hp) (Q : VK) : Prop := ∀ p H', H p = none → Ex H H' → H' p = some (.lst xs) → Q (.ref p) H'
def RVal (v : V) (H : Hp) (Q : VK) : Prop := ∀ H', Ex H H' → Q v H'

/-- what is refused: the class x is let out, the heap grown; else k -/
def Out (K : PySem.W.Frag) (r : Option String) (H : Hp) (E : XK) (k : Prop) : Prop := match r with
  | some x => ∀ H', Ex H H' → E (.ref (He.ga K (Str.ofString x))) none H'
  | none => k
theorem Out.imp {K : PySem.W.Frag} {r : Option String} {H H1 : Hp} {E : XK} {k k' : Prop} (h : Out K r H E k) (e : Ex H H1) (f : r = none → k → k') : Out K r H1 E k' := by
  cases r with
  | some x => exact fun H' e' => h H' (e.trans e')
  | none => exact f rfl h
theorem Out.ok {K : PySem.W.Frag} {r : Option String} {H : Hp} {E : XK} {k : Prop} (hr : r = none) (h : k) : Out K r H E k := by
  subst hr
  exact h
theorem Out.get {K : PySem.W.Frag} {r : Option String} {H : Hp} {E : XK} {k : Prop} (h : Out K r H E k) (hr : r = none) : k := by
  subst hr
  exact h
theorem Out.bad {K : PySem.W.Frag} {r : Option String} {x : String} {H : Hp} {E : XK} {k : Prop} (h : Out K r H E k) (hr : r = some x) {H' : Hp} (e : Ex H H') : E (.ref (He.ga K (Str.ofString x))) none H' := by
  subst hr
  exact h H' e
def optV : Option Int → V
  | none => .non
  | some d => .int d
/-! ### a def of the top, by its name -/
section
variable {P : Program} {w : World} {K : PySem.W.Frag} {mg : Str → Option Value} {base : Heap}
structure Has (P : Program) (w : World) (K : PySem.W.Frag) (mg : Str → Option Value) (base : Heap) (CX : CXT) (k : Nat) (x : Str) (ps : List Str) (sp : Sp) : Prop where
  ex : ∃ f fd, FnOk P w K mg base CX k f fd ps sp ∧ mg x = some (.ref f) ∧ PySem.W.keepIn K (.ref f) = true ∧ Binds K fd ps [] ∧ ∃ oc od osl, K.lookup f = some ⟨oc, od, .func fd, osl⟩
theorem Has.mono {CX : CXT} {j k : Nat} {x : Str} {ps : List Str} {sp : Sp} (h : Has P w K mg base CX j x ps sp) (le : j ≤ k) : Has P w K mg base CX k x ps sp := by
  obtain ⟨f, fd, F, r⟩ := h.ex
  exact ⟨f, fd, F.mono le, r⟩
theorem _root_.L2.FunD.look {x qual : Str} {params : Arguments} {body : List Stmt} {scope : Scope} {dvs : List V} {kws : List (Str × V)} {f : Addr} {fd : FuncData} (F : FunD K x qual params body scope dvs kws f fd) : ∃ oc od osl, K.lookup f = some ⟨oc, od, .func fd, osl⟩ := by
  obtain ⟨oc, od, dV, kV, doc, pm, an, cdv, ct, osl, _, lk, _⟩ := F.ex
  exact ⟨oc, od, osl, lk⟩
structure Df (K : PySem.W.Frag) (mg : Str → Option Value) (x : Str) (st : Stmt) : Prop where
  ex : ∃ f fd, FunD K x x (defArgs st) (defBody st) (defScope st) [] [] f fd ∧ mg x = some (.ref f)
abbrev BindOk (x : Str) (st : Stmt) (ps : List Str) : Prop := ∀ (kV doc pm : Value) (an : Option Addr) (cdv ct : Value) (us : List Value), us.length = ps.length → bindArgs (PySem.W.fnOf x x (defArgs st) (defBody st) (defScope st) .none kV doc pm an cdv ct) ⟨us, []⟩ = pure (ps.zip us)
/-- THE RULE: a def that lets no exception out -/
theorem Df.has0 {x : Str} {st : Stmt} {N ps : List Str} {k : Nat} {sp : Sp} (D : Df K mg x st) (S : FnScope N ps (defScope st)) (hb : BindOk x st ps) (len : ∀ vs H Q E, sp vs H Q E → vs.length = ps.length)
    (hbody : ∀ (f : Addr) (cdv : Value) (A : Around) (outer : List Env) (s : Shared) (H : Hp) (vs : List V) (Q : VK) (E : XK), Room k (A.deeper (envOfC x (defScope st) s.heap.objs.size f cdv)) → sp vs H Q E →
      ∃ t, PSs (cxOf CX0 P w K mg base N x (defScope st) f cdv A outer s H E).nox (defBody st) t ∧ t { nx := fun _ H' => Q .non H', rt := Q } (start N vs) H) : Has P w K mg base CX0 (k + 1) x ps sp := by
  obtain ⟨f, fd, F, g⟩ := D.ex
  refine ⟨f, fd, F.ok S len (fun cdv A outer s H vs Q E hr h => ?_), g, F.kp, F.bindsN hb, F.look⟩
  obtain ⟨t, h1, h2⟩ := hbody f cdv A outer s H vs Q E hr h
  exact ⟨t, h1.nox, h2⟩
/-- a def that may raise -/
theorem Df.hasX {x : Str} {st : Stmt} {N ps : List Str} {k : Nat} {sp : Sp} (D : Df K mg x st) (S : FnScope N ps (defScope st)) (hb : BindOk x st ps) (len : ∀ vs H Q E, sp vs H Q E → vs.length = ps.length)
    (hbody : ∀ (f : Addr) (cdv : Value) (A : Around) (outer : List Env) (s : Shared) (H : Hp) (vs : List V) (Q : VK) (E : XK), Room k (A.deeper (envOfC x (defScope st) s.heap.objs.size f cdv)) → sp vs H Q E →
      ∃ t, PSs (cxOf (L2.CX P w) P w K mg base N x (defScope st) f cdv A outer s H E) (defBody st) t ∧ t { nx := fun _ H' => Q .non H', rt := Q } (start N vs) H) : Has P w K mg base (L2.CX P w) (k + 1) x ps sp := by
  obtain ⟨f, fd, F, g⟩ := D.ex
  exact ⟨f, fd, F.ok S len (hbody f), g, F.kp, F.bindsN hb, F.look⟩
/-- the law's own def, at the end -/
theorem Df.end_ {x p : Str} {st : Stmt} {k : Nat} {sp : Sp} {f : Addr} (D : Df K mg x st) (hb : BindOk x st [p]) (hfa : mg x = some (.ref f)) (h : ∀ base : Heap, K.In base → base.Ns mainGlobals mg → Has P w K mg base CX0 k x [p] sp) :
    ∃ fd : FuncData, (∀ (s : Shared) (v : Value), BindsTo s fd ⟨[v], []⟩ [(p, v)]) ∧ ∀ base : Heap, K.In base → base.Ns mainGlobals mg → FnOk P w K mg base CX0 k f fd [p] sp := by
  obtain ⟨f1, fd, F, g⟩ := D.ex
  rw [g] at hfa
  cases hfa
  obtain ⟨oc, od, osl, lk⟩ := F.look
  refine ⟨fd, fun s v => F.bindsA hb s [v] rfl, fun base a b => ?_⟩
  obtain ⟨f2, fd2, F2, g2, _, _, oc2, od2, osl2, lk2⟩ := (h base a b).ex
  rw [g] at g2
  cases g2
  rw [lk] at lk2
  cases lk2
  exact F2
end
section
variable {X : Cx}
theorem pe_callH {CX : CXT} {k : Nat} {x : Str} {ps : List Str} {sp : Sp} {E : XK} {p pos : Pos} {e : Expr} {es : List Expr} {t : TA} (F : Has X.prog X.w X.K X.mg X.base CX k x ps sp) (hr : Room k X.A) (hg : Gl X x) (hx : Passes CX X E)
    (ha : PA X (e :: es) t) (hdb : (x == ("__debug__" : Str)) = false := by decide) (he : starEach (e :: es) X.env = (false, eval e X.env) :: starEach es X.env := by rfl) (hpl : (backTo pos (starEach es X.env)).any (·.1) = false := by rfl) :
    PE X (.Call (.Name x p) (e :: es) [] pos) (tCall sp [] E t) := by
  obtain ⟨f, fd, F, hm, hk, hb, _⟩ := F.ex
  exact pe_call F hr hg hm hk hb .nil hx ha hdb he hpl
end
theorem passE0 {X : Cx} : Passes (L2.CX X.prog X.w) X E0 := fun _ _ _ _ _ _ _ ⟨_, _, _, _, _, _, _, _, _, _, _, _, h⟩ => h.elim
theorem passX {X : Cx} {E : XK} (tk : Takes X (fun cls d _ H => E cls d H)) : Passes (L2.CX X.prog X.w) X E := passes_call tk fun _ _ _ _ h => h
/-- an own exception class of the top, without __init__ -/
structure Ec (K : PySem.W.Frag) (mg : Str → Option Value) (x : Str) : Prop where
  g : mg x = some (.ref (He.ga K x))
  ex : PySem.W.excIn K (He.ga K x) He.veBase "ValueError.__new__" = true
  k : PySem.W.keepIn K (.ref (He.ga K x)) = true
  b : PySem.W.subIn K (.ref (He.ga K x)) (.type "BaseException") = some true
  t : PySem.W.typeIn K (.ref (He.ga K x)) = some (.type "type")
theorem ec_mk {K : PySem.W.Frag} {h : Heap} {mg : Str → Option Value} {x : Str} (X : K.In h) (G : h.Ns mainGlobals mg) (c1 : (He.Fa.glo x).ok K = true) (c2 : (He.Fa.exc x).ok K = true) : Ec K mg x := by
  obtain ⟨e1, e2⟩ := He.ba c2
  obtain ⟨e2, e3⟩ := He.ba e2
  obtain ⟨e3, e4⟩ := He.ba e3
  exact ⟨He.glo_ok X G c1, e1, e2, of_decide_eq_true e3, of_decide_eq_true e4⟩
/-- raise X('..') -/
def tRz (cls : Value) (W : WX) : TS := fun _ σ H => W cls none σ H
theorem ps_raiseC {X : Cx} {W : WX} {x m : Str} {j : Nat} {p p2 pos pos2 : Pos} (C : Ec X.K X.mg x) (hc : X.calm = true) (tk : Takes X W) (hg : Gl X x) (hdb : (x == ("__debug__" : Str)) = false := by decide) :
    PS X (.Raise (some (.Call (.Name x p) [.Constant (.str m) j p2] [] pos)) none pos2) (tRz (.ref (He.ga X.K x)) W) :=
  ps_raise hc tk (pmk_own PySem.F.excBase_ValueError C.ex C.g C.k (raises_own C.b C.t) hg hdb)
theorem hD_of {k : Nat} {A : Around} (hr : Room k A) : A.units + 64 < cLine := by have := hr.units; omega

/-! ### builtins that the top leaves alone -/
structure Bs (mg : Str → Option Value) : Prop where
  n_len : mg "len" = none
  n_range : mg "range" = none
  n_sorted : mg "sorted" = none
  n_list : mg "list" = none
  n_set : mg "set" = none
  n_abs : mg "abs" = none
  n_max : mg "max" = none
  n_min : mg "min" = none
  n_isinstance : mg "isinstance" = none
  n_int : mg "int" = none
  n_bool : mg "bool" = none
  n_enumerate : mg "enumerate" = none
  n_reversed : mg "reversed" = none
  n_str : mg "str" = none
  n_tuple : mg "tuple" = none
  n_ValueError : mg "ValueError" = none

/-! ### calls of built-ins by what they evaluate to -/
section
variable {K : PySem.W.Frag} {σ : L2.St} {H H' : Hp} {ta tb te : TE}
theorem il_upd {l : Addr} {ys : List V} {zs : List Int} (h : ys = Ints zs) : IL (upd H l (.lst ys)) l zs := by
  show upd H l (.lst ys) l = _
  rw [upd_same, h]
theorem ints_app (xs : List Int) (v : Int) : Ints xs ++ [V.int v] = Ints (xs ++ [v]) := by simp [Ints]
theorem ix_nat {n j : Nat} (h : j < n) : ixN n (j : Int) = some j := ixN_nat h
theorem ix_at {n : Nat} {i : Int} (h0 : 0 ≤ i) (h : i < (n : Int)) : ixN n i = some i.toNat := by
  have e : i = ((i.toNat : Nat) : Int) := by omega
  rw [e, ixN_nat (by omega)]
  congr 1
theorem atI_ints {ns : List Int} {i : Int} (h0 : 0 ≤ i) (h : i < (ns.length : Int)) : atI (Ints ns) i = some (.int (gi ns i.toNat)) := by
  unfold atI
  rw [List.length_map, ix_at h0 h]
  show (Ints ns)[i.toNat]? = _
  have hk : i.toNat < ns.length := by omega
  rw [List.getElem?_map, List.getElem?_eq_getElem hk]
  simp [gi, List.getD_eq_getElem?_getD, List.getElem?_eq_getElem hk]
theorem atI_intsN {ns : List Int} {i : Nat} (h : i < ns.length) : atI (Ints ns) (i : Int) = some (.int (gi ns i)) := atI_ints (by omega) (by omega)
theorem atI_neg1 {ns : List Int} (h : ns ≠ []) : atI (Ints ns) (-1) = some (.int (gi ns (ns.length - 1))) := by
  have hp : 0 < ns.length := List.length_pos_iff.mpr h
  have hk : ns.length - 1 < ns.length := by omega
  have e := atI_last (xs := (Ints ns).dropLast) (v := .int (gi ns (ns.length - 1)))
  have e2 : (Ints ns).dropLast ++ [V.int (gi ns (ns.length - 1))] = Ints ns := by
    rw [show V.int (gi ns (ns.length - 1)) = (Ints ns).getLast (by simpa using h) by
      rw [List.getLast_eq_getElem]
      simp [gi, List.getD_eq_getElem?_getD, List.getElem?_eq_getElem hk]]
    exact List.dropLast_concat_getLast _
  rw [e2] at e
  exact e
theorem rv_ixI {a : Addr} {ns : List Int} {i : Int} (h : IL H a ns) (h0 : 0 ≤ i) (h1 : i < (ns.length : Int)) : RV (rIxL K) (.ref a) (.int i) H (.int (gi ns i.toNat)) := rv_ixL (sq_of h) (atI_ints h0 h1)
theorem rv_ixIN {a : Addr} {ns : List Int} {i : Nat} (h : IL H a ns) (h1 : i < ns.length) : RV (rIxL K) (.ref a) (.int (i : Int)) H (.int (gi ns i)) := rv_ixL (sq_of h) (atI_intsN h1)
theorem ev_lenI {a : Addr} {ns : List Int} (ha : Ev ta σ H (.ref a)) (h : IL H a ns) : Ev (tCB (rLenS K) (tCons ta tNil)) σ H (.int (ns.length : Int)) := by
  have z := ev_len (K := K) ha (sq_of h)
  rw [List.length_map] at z
  exact z
theorem v_ {i : Nat} {v : V} (h : σ[i]? = some (some v) := by rfl) : Ev (tVar i) σ H v := ev_var h
theorem o_ {f : Int → Int → V} {i j : Int} (ha : Ev ta σ H (.int i)) (hb : Ev tb σ H (.int j)) : Ev (tOp (rI0 f) ta tb) σ H (f i j) := ev_op ha hb rv_I0
theorem oc_ {C : Int → Int → Prop} {f : Int → Int → V} {i j : Int} (ha : Ev ta σ H (.int i)) (hb : Ev tb σ H (.int j)) (hc : C i j) : Ev (tOp (rI C f) ta tb) σ H (f i j) := ev_op ha hb (rv_I hc)
theorem add_ {i j : Int} (ha : Ev ta σ H (.int i)) (hb : Ev tb σ H (.int j)) : Ev (tOp (rI0 fun i j => .int (i + j)) ta tb) σ H (.int (i + j)) := ev_op ha hb (rv_I0 (g := fun i j => .int (i + j)))
theorem sub_ {i j : Int} (ha : Ev ta σ H (.int i)) (hb : Ev tb σ H (.int j)) : Ev (tOp (rI0 fun i j => .int (i - j)) ta tb) σ H (.int (i - j)) := ev_op ha hb (rv_I0 (g := fun i j => .int (i - j)))
theorem mod_ {i j : Int} (ha : Ev ta σ H (.int i)) (hb : Ev tb σ H (.int j)) (hc : 0 < j) : Ev (tOp (rI (fun _ j => 0 < j) fun i j => .int (i % j)) ta tb) σ H (.int (i % j)) := ev_op ha hb (rv_I (C := fun _ j => 0 < j) (g := fun i j => .int (i % j)) hc)
theorem div_ {i j : Int} (ha : Ev ta σ H (.int i)) (hb : Ev tb σ H (.int j)) (hc : CDiv i j) : Ev (tOp (rI CDiv fun i j => .int (i / j)) ta tb) σ H (.int (i / j)) := ev_op ha hb (rv_I (C := CDiv) (g := fun i j => .int (i / j)) hc)
theorem ng_ {i : Int} (ha : Ev ta σ H (.int i)) : Ev (tUn (rU fun i => .int (-i)) ta) σ H (.int (-i)) := ev_un ha ru_neg
/-- xs[i] of a list of ints -/
theorem ixI_ {a : Addr} {ns : List Int} {i : Int} (h : IL H a ns) (ha : Ev ta σ H (.ref a)) (hi : Ev tb σ H (.int i)) (h0 : 0 ≤ i) (h1 : i < (ns.length : Int)) : Ev (tOp (rIxL K) ta tb) σ H (.int (gi ns i.toNat)) := ev_op ha hi (rv_ixI h h0 h1)
theorem ixN_ {a : Addr} {ns : List Int} {i : Nat} (h : IL H a ns) (ha : Ev ta σ H (.ref a)) (hi : Ev tb σ H (.int (i : Int))) (h1 : i < ns.length) : Ev (tOp (rIxL K) ta tb) σ H (.int (gi ns i)) := ev_op ha hi (rv_ixIN h h1)
/-- xs[-1] -/
theorem ixL_ {a : Addr} {ns : List Int} (h : IL H a ns) (ha : Ev ta σ H (.ref a)) (h1 : ns ≠ []) : Ev (tOp (rIxL K) ta (tUn (rU fun i => .int (-i)) (tC (.int 1)))) σ H (.int (gi ns (ns.length - 1))) :=
  ev_op ha (ng_ ev_c) (rv_ixL (sq_of h) (atI_neg1 h1))
theorem ev_chain {tc : TE} {r r' : R2} {x y z : V} {k1 k2 : Bool} (ha : Ev ta σ H x) (hb : Ev tb σ H y) (hr : RV r x y H (.bl k1)) (hc : k1 = true → Ev tc σ H z) (hr' : k1 = true → RV r' y z H (.bl k2)) : Ev (tChain r r' ta tb tc) σ H (.bl (k1 && k2)) := fun H1 e Q q =>
  ha H1 e _ fun H2 e2 => hb H2 (e.trans e2) _ fun H3 e3 => hr H3 ((e.trans e2).trans e3) _ fun H4 e4 => ⟨k1, rfl, by
    have e5 := ((e.trans e2).trans e3).trans e4
    cases k1 with
    | true =>
      show tc σ H4 _
      exact hc rfl H4 e5 _ fun H5 e6 => hr' rfl H5 (e5.trans e6) Q fun H6 e7 => q H6 ((((e2.trans e3).trans e4).trans e6).trans e7)
    | false =>
      show Q (.bl false) H4
      exact q H4 ((e2.trans e3).trans e4)⟩
theorem dIn (d : Int) (ns : List Int) : inV (.int d) (Ints ns) = decide (d ∈ ns) := by
  unfold inV
  induction ns with
  | nil => simp
  | cons x xs ih =>
    show ((V.int x :: Ints xs).any fun y => eqV y (V.int d)) = _
    rw [List.any_cons, ih]
    have e : eqV (.int x) (.int d) = (x == d) := rfl
    rw [e, Bool.eq_iff_iff, Bool.or_eq_true, beq_iff_eq, decide_eq_true_eq, decide_eq_true_eq, List.mem_cons]
    exact or_congr_left ⟨fun h => h.symm, fun h => h.symm⟩
theorem flats (ns : List Int) : (Ints ns).all flatV = true := by
  simp [Ints, flatV]
/-- d in xs, d not in xs -/
theorem in_ {a : Addr} {ns : List Int} {d : Int} (h : IL H a ns) (hd : Ev ta σ H (.int d)) (ha : Ev tb σ H (.ref a)) : Ev (tOp (rIn K false) ta tb) σ H (.bl (decide (d ∈ ns))) := by
  have z := ev_op hd ha (rv_isL (K := K) (sq_of h) rfl (flats ns))
  rw [dIn] at z
  exact z
theorem ni_ {a : Addr} {ns : List Int} {d : Int} (h : IL H a ns) (hd : Ev ta σ H (.int d)) (ha : Ev tb σ H (.ref a)) : Ev (tOp (rIn K true) ta tb) σ H (.bl (!decide (d ∈ ns))) := by
  have z := ev_op hd ha (rv_niL (K := K) (sq_of h) rfl (flats ns))
  rw [dIn] at z
  exact z
/-- xs.remove(d) -/
theorem s_rem {D : Ends} {l : Addr} {ns : List Int} {d : Int} (hl : IL H l ns) (ha : Ev ta σ H (.ref l)) (h : Ev te σ H (.int d)) (hd : d ∈ ns) (k : ∀ H1, Ex H H1 → D.nx σ (upd H1 l (.lst (Ints (ns.erase d))))) :
    tDrop (tBM K "list" rRemI ta (tCons te tNil)) D σ H := ha H (Ex.refl H) _ fun H1 e1 =>
  ⟨Or.inl ⟨rfl, Ints ns, sq_of (e1 l _ hl)⟩, h H1 e1 _ fun H2 e2 => by
    obtain ⟨j, h1, h2, h3⟩ := erase_at hd
    refine ⟨l, ns, d, j, rfl, rfl, e2 l _ (e1 l _ hl), h1, h2, ?_⟩
    rw [h3]
    exact k H2 (e1.trans e2)⟩
/-- list(xs) -/
theorem el_copy {a : Addr} {xs : List V} (ha : Ev ta σ H (.ref a)) (h : Lst H a xs) : EvL (tCB (rListS K) (tCons ta tNil)) σ H xs := el_list ha (sq_of h)
/-- isinstance(n, int), isinstance(n, bool) -/
theorem isi_ {x : V} {n : String} {t : Value} {b : Bool} (ha : Ev ta σ H x) (hc : Ev tb σ H (.ty n)) (ty : ∀ H1, Ex H H1 → TyX K H1 x t) (hk : PySem.W.kitOne K t (.type n) = some b) : Ev (tCB (rIsi K) (tCons ta (tCons tb tNil))) σ H (.bl b) := fun H1 e Q q =>
  ha H1 e _ fun H2 e2 => hc H2 (e.trans e2) _ fun H3 e3 => ⟨x, .ty n, t, .type n, b, rfl, .ty n, ty H3 ((e.trans e2).trans e3), hk, q H3 (e2.trans e3)⟩
theorem ints_at {ns : List Int} {i : Nat} {x : V} (h : (Ints ns)[i]? = some x) : ∃ d, ns[i]? = some d ∧ x = V.int d := by
  rw [List.getElem?_map] at h
  cases e : ns[i]? with
  | none =>
    rw [e] at h
    cases h
  | some d =>
    rw [e] at h
    exact ⟨d, rfl, (Option.some.inj h).symm⟩
/-- f(..) as a statement -/
theorem s_call {D : Ends} {sp : Sp} {dvs vs : List V} {E : XK} {t : TA} (h : EvA t σ H vs) (hs : ∀ H1, Ex H H1 → sp (vs ++ dvs) H1 (fun _ H2 => D.nx σ H2) E) : tDrop (tCall sp dvs E t) D σ H := h H (Ex.refl H) _ fun H1 e1 => hs H1 e1
/-- return f(..) op e -/
theorem s_retop {D : Ends} {sp : Sp} {dvs vs : List V} {E : XK} {t : TA} {r : R2} (h : EvA t σ H vs) (hs : ∀ H1, Ex H H1 → sp (vs ++ dvs) H1 (fun x H2 => tb σ H2 fun y H3 => r x y H3 D.rt) E) : tRet (tOp r (tCall sp dvs E t) tb) D σ H := h H (Ex.refl H) _ fun H1 e1 => hs H1 e1
/-- return f(..) -/
theorem s_retcall {D : Ends} {sp : Sp} {dvs vs : List V} {E : XK} {t : TA} (h : EvA t σ H vs) (hs : ∀ H1, Ex H H1 → sp (vs ++ dvs) H1 D.rt E) : tRet (tCall sp dvs E t) D σ H := h H (Ex.refl H) _ fun H1 e1 => hs H1 e1
/-- x = f(..) -/
theorem s_setcall {D : Ends} {sp : Sp} {dvs vs : List V} {E : XK} {t : TA} {i : Nat} (h : EvA t σ H vs) (hs : ∀ H1, Ex H H1 → sp (vs ++ dvs) H1 (fun x H2 => D.nx (σ.set i (some x)) H2) E) : tAsg (tCall sp dvs E t) (gName i) D σ H := h H (Ex.refl H) _ fun H1 e1 => hs H1 e1
/-- if not f(..): u; else: w -/
theorem s_ifnotcall {D : Ends} {sp : Sp} {dvs vs : List V} {E : XK} {t : TA} {u w : TS} (h : EvA t σ H vs) (hs : ∀ H1, Ex H H1 → sp (vs ++ dvs) H1 (fun x H2 => ∃ k, x = .bl k ∧ (if (!k) = true then u D σ H2 else w D σ H2)) E) : tIfS (tNot (tB (tCall sp dvs E t))) u w D σ H := h H (Ex.refl H) _ fun H1 e1 => hs H1 e1
/-! ### lists of ints as data -/
def dI (ns : List Int) : PyData := .list (ns.map .int)
theorem dpAll_I (ns : List Int) : DpAll K H (Ints ns) (ns.map .int) := by
  induction ns with
  | nil => exact .nil
  | cons x xs ih => exact .cons (.int x) ih
theorem dp_I {a : Addr} {ns : List Int} (h : IL H a ns) : Dp K H (.ref a) (dI ns) := .lst (sq_of h) (dpAll_I ns)
theorem lay_Is (ns : List Int) : PyData.canLayAll0 (ns.map .int) = true := by
  induction ns with
  | nil => rfl
  | cons x xs ih => simp [PyData.canLayAll0, PyData.canLay0, ih]
theorem depth_Is (ns : List Int) : PyData.depthAll (ns.map .int) = 0 := by
  induction ns with
  | nil => rfl
  | cons x xs ih => simp [PyData.depthAll, PyData.depth, ih]
theorem sh_I (ns : List Int) : SeqAt.shaped (dI ns) = true := by
  simp [SeqAt.shaped, dI, PyData.canLay0, PyData.depth, lay_Is, depth_Is]
theorem eqvs_I : ∀ ns ms : List Int, PyData.eqvAll (ns.map .int) (ms.map .int) = decide (ns = ms)
  | [], [] => by simp [PyData.eqvAll]
  | [], _ :: _ => by simp [PyData.eqvAll]
  | _ :: _, [] => by simp [PyData.eqvAll]
  | x :: xs, y :: ys => by
    rw [Bool.eq_iff_iff]
    simp [PyData.eqvAll, PyData.eqv, eqvs_I xs ys]
theorem eqv_I (ns ms : List Int) : PyData.eqv (dI ns) (dI ms) = decide (ns = ms) := by
  simp [dI, PyData.eqv, eqvs_I]
theorem eqv_NI (ms : List Int) : PyData.eqv .none (dI ms) = false := by
  simp [dI, PyData.eqv]
/-- xs == ys, != -/
theorem eqI_ {a b : Addr} {ns ms : List Int} (ha : Ev ta σ H (.ref a)) (h1 : IL H a ns) (hb : Ev tb σ H (.ref b)) (h2 : IL H b ms) : Ev (tOp (rEqD K) ta tb) σ H (.bl (decide (ns = ms))) := fun H1 e Q q =>
  ha H1 e _ fun H2 e2 => hb H2 (e.trans e2) _ fun H3 e3 => ⟨dI ns, dI ms, dp_I (((e.trans e2).trans e3) a _ h1), dp_I (((e.trans e2).trans e3) b _ h2), sh_I _, sh_I _, by
    rw [eqv_I]
    exact q H3 (e2.trans e3)⟩
theorem neI_ {a b : Addr} {ns ms : List Int} (ha : Ev ta σ H (.ref a)) (h1 : IL H a ns) (hb : Ev tb σ H (.ref b)) (h2 : IL H b ms) : Ev (tOp (rNeD K) ta tb) σ H (.bl (!decide (ns = ms))) := fun H1 e Q q =>
  ha H1 e _ fun H2 e2 => hb H2 (e.trans e2) _ fun H3 e3 => ⟨dI ns, dI ms, dp_I (((e.trans e2).trans e3) a _ h1), dp_I (((e.trans e2).trans e3) b _ h2), sh_I _, sh_I _, by
    rw [eqv_I]
    exact q H3 (e2.trans e3)⟩
theorem neIN_ {a : Addr} {ns ms : List Int} (ha : Ev ta σ H (.ref a)) (h1 : IL H a ns) (hb : EvL tb σ H (Ints ms)) : Ev (tOp (rNeD K) ta tb) σ H (.bl (!decide (ns = ms))) := fun H1 e Q q =>
  ha H1 e _ fun H2 e2 => hb H2 (e.trans e2) _ fun b H3 _ e3 h2 => ⟨dI ns, dI ms, dp_I (((e.trans e2).trans e3) a _ h1), dp_I h2, sh_I _, sh_I _, by
    rw [eqv_I]
    exact q H3 (e2.trans e3)⟩
theorem eqIN_ {a : Addr} {ns ms : List Int} (ha : Ev ta σ H (.ref a)) (h1 : IL H a ns) (hb : EvL tb σ H (Ints ms)) : Ev (tOp (rEqD K) ta tb) σ H (.bl (decide (ns = ms))) := fun H1 e Q q =>
  ha H1 e _ fun H2 e2 => hb H2 (e.trans e2) _ fun b H3 _ e3 h2 => ⟨dI ns, dI ms, dp_I (((e.trans e2).trans e3) a _ h1), dp_I h2, sh_I _, sh_I _, by
    rw [eqv_I]
    exact q H3 (e2.trans e3)⟩
/-- [3, 9, ..][i] -/
theorem menu_ {ns : List Int} {i : Int} (h : EvL ta σ H (Ints ns)) (hi : ∀ H1, Ex H H1 → Ev tb σ H1 (.int i)) (h0 : 0 ≤ i) (h1 : i < (ns.length : Int)) : Ev (tOp (rIxL K) ta tb) σ H (.int (gi ns i.toNat)) :=
  ev_opL1 h hi fun p H1 hp _ => rv_ixI hp h0 h1
theorem ints_erase : ∀ (ns : List Int) (k : Nat), (Ints ns).eraseIdx k = Ints (ns.eraseIdx k)
  | [], k => rfl
  | x :: xs, 0 => rfl
  | x :: xs, k + 1 => congrArg (V.int x :: ·) (ints_erase xs k)
theorem ints_set : ∀ (ns : List Int) (k : Nat) (v : Int), (Ints ns).set k (.int v) = Ints (ns.set k v)
  | [], k, v => rfl
  | x :: xs, 0, v => rfl
  | x :: xs, k + 1, v => congrArg (V.int x :: ·) (ints_set xs k v)
/-- xs.pop(i) as a statement -/
theorem s_popAt {D : Ends} {l : Addr} {ns : List Int} {i : Int} (hl : IL H l ns) (ha : Ev ta σ H (.ref l)) (h : Ev te σ H (.int i)) (h0 : 0 ≤ i) (h1 : i < (ns.length : Int)) (hz : ns.length < 1000000) (k : ∀ H1, Ex H H1 → D.nx σ (upd H1 l (.lst (Ints (ns.eraseIdx i.toNat))))) :
    tDrop (tBM K "list" rPopAt ta (tCons te tNil)) D σ H := ha H (Ex.refl H) _ fun H1 e1 =>
  ⟨Or.inl ⟨rfl, Ints ns, sq_of (e1 l _ hl)⟩, h H1 e1 _ fun H2 e2 => by
    refine ⟨l, Ints ns, i, i.toNat, .int (gi ns i.toNat), rfl, rfl, e2 l _ (e1 l _ hl), by omega, by omega, ?_, ?_, ?_⟩
    · rw [List.length_map]
      exact (ixN_seq (ix_at h0 h1)).1
    · have hk : i.toNat < ns.length := by omega
      rw [List.getElem?_map, gi_get hk]
      rfl
    · rw [ints_erase]
      exact k H2 (e1.trans e2)⟩
/-- xs[i] = n -/
theorem s_setI {D : Ends} {l : Addr} {ns : List Int} {i v : Int} (hl : IL H l ns) (h : Ev te σ H (.int v)) (ho : Ev ta σ H (.ref l)) (hi : Ev tb σ H (.int i)) (h0 : 0 ≤ i) (h1 : i < (ns.length : Int)) (k : ∀ H1, Ex H H1 → D.nx σ (upd H1 l (.lst (Ints (ns.set i.toNat v))))) :
    tAsg te (gSub ta tb rSetL) D σ H := h H (Ex.refl H) _ fun H1 e1 => ho H1 e1 _ fun H2 e2 => hi H2 (e1.trans e2) _ fun H3 e3 => by
  refine ⟨l, Ints ns, i, i.toNat, rfl, rfl, ((e1.trans e2).trans e3) l _ hl, ?_, ?_⟩
  · rw [List.length_map]
    exact ix_at h0 h1
  · show D.nx σ (upd H3 l (.lst ((Ints ns).set i.toNat (.int v))))
    rw [ints_set]
    exact k H3 ((e1.trans e2).trans e3)
/-- max(xs, default=d), min(xs, default=d) -/
theorem ev_maxD {a : Addr} {ns : List Int} {d : Int} (ha : Ev ta σ H (.ref a)) (h : IL H a ns) : Ev (tCKw (rmaxDf K) (tCons ta tNil) (tCons (tC (.int d)) tNil)) σ H (.int (maxD d ns)) := fun H1 e Q q =>
  ha H1 e _ fun H2 e2 => ⟨a, ns, d, rfl, rfl, sq_of ((e.trans e2) a _ h), fun z => by
    subst z
    exact q H2 e2, fun m h1 h2 => by
    rw [maxD_eq h1 h2 (d := d)]
    exact q H2 e2⟩
theorem ev_minD {a : Addr} {ns : List Int} {d : Int} (ha : Ev ta σ H (.ref a)) (h : IL H a ns) : Ev (tCKw (rminDf K) (tCons ta tNil) (tCons (tC (.int d)) tNil)) σ H (.int (minD d ns)) := fun H1 e Q q =>
  ha H1 e _ fun H2 e2 => ⟨a, ns, d, rfl, rfl, sq_of ((e.trans e2) a _ h), fun z => by
    subst z
    exact q H2 e2, fun m h1 h2 => by
    rw [minD_eq h1 h2 (d := d)]
    exact q H2 e2⟩
/-- if t: a, between other statements: M holds behind it either way -/
theorem s_cutif {D : Ends} {t : TT} {u w rest : TS} {b : Bool} (M : L2.St → Hp → Prop) (h : EvT t σ H b) (h1 : b = true → ∀ H1, Ex H H1 → u { D with nx := M } σ H1) (h2 : b = false → ∀ H1, Ex H H1 → w { D with nx := M } σ H1)
    (k : ∀ σ' H', M σ' H' → rest D σ' H') : tCut (tIfS t u w) rest D σ H := ⟨M, s_if h h1 h2, k⟩
theorem cw_ex {H H1 H2 : Hp} {f : Nat → Bool} {v : Nat → V} {Dl : Addr} {i : Nat} (p : Cw H f v Dl i H1) (e : Ex H1 H2) : Cw H f v Dl i H2 := ⟨p.1, p.2.1.trans e, e Dl _ p.2.2⟩
/-- a comprehension over enumerate(xs): two names -/
theorem el_lcE {a : Addr} {xs : List V} {tA : TA} {tt : TT} {j0 j1 : Nat} {vs : List Nat} (f : Nat → Bool) (v : Nat → V) (h : EvA tA σ H [.ref a]) (hx : Lst H a xs) (hz : xs.length ≤ 40000) (hw : ∀ x y, wipe (((wipe σ vs).set j0 (some x)).set j1 (some y)) vs = wipe σ vs)
    (ht : ∀ (i : Nat) (x : V) H1, Ex H H1 → xs[i]? = some x → EvT tt (((wipe σ vs).set j0 (some (.int (i : Nat)))).set j1 (some x)) H1 (f i))
    (he : ∀ (i : Nat) (x : V) H1, Ex H H1 → xs[i]? = some x → f i = true → Ev te (((wipe σ vs).set j0 (some (.int (i : Nat)))).set j1 (some x)) H1 (v i)) :
    EvL (tLc (iEnum K tA) (gTup K 2 (gCons (gName j0) (gCons (gName j1) gNil))) tt te vs) σ H (given xs.length f v) := fun H0 e Q q => h H0 e _ fun H1 e1 => ⟨a, xs, rfl, sq_of ((e.trans e1) a _ hx), fun Dl hD =>
  lc_it (walk_enum (xs := xs)) (Cw H1 f v Dl) ⟨hD, Ex.new hD, upd_same⟩ (fun i H' _ p => sq_of (((e.trans e1).trans p.2.1) a _ hx)) (fun i z H2 H3 hi p y => by
    obtain ⟨T, x, y, rfl, nT, rfl, h1, h2⟩ := y
    cases (Option.some.inj h1)
    have p3 : Cw H1 f v Dl i (upd H2 T (.tup [.int (i : Nat), y])) := cw_ex p (Ex.new nT)
    refine ⟨T, [.int (i : Nat), y], rfl, st_of upd_same, rfl, _, _, rfl, _, _, rfl, rfl, hw _ _, ?_⟩
    exact cw_turn p3 (by omega) (ht i y H1 (e.trans e1) h2) (fun hf => he i y H1 (e.trans e1) h2 hf)) (fun H' p => q Dl H' (fresh_back e1 p.1) (e1.trans p.2.1) p.2.2)⟩
/-- a comprehension over reversed(xs) -/
theorem el_lcRev {a : Addr} {xs : List V} {tA : TA} {tt : TT} {j : Nat} {vs : List Nat} (f : Nat → Bool) (v : Nat → V) (h : EvA tA σ H [.ref a]) (hx : Lst H a xs) (hz : xs.length ≤ 40000) (hw : ∀ x, wipe ((wipe σ vs).set j (some x)) vs = wipe σ vs)
    (ht : ∀ (i : Nat) (x : V) H1, Ex H H1 → i < xs.length → xs[xs.length - 1 - i]? = some x → EvT tt ((wipe σ vs).set j (some x)) H1 (f i))
    (he : ∀ (i : Nat) (x : V) H1, Ex H H1 → i < xs.length → xs[xs.length - 1 - i]? = some x → f i = true → Ev te ((wipe σ vs).set j (some x)) H1 (v i)) :
    EvL (tLc (iRev K tA) (gName j) tt te vs) σ H (given xs.length f v) := fun H0 e Q q => h H0 e _ fun H1 e1 => ⟨a, xs, rfl, sq_of ((e.trans e1) a _ hx), fun Dl hD =>
  lc_it (walk_rev (xs := xs)) (Cw H1 f v Dl) ⟨hD, Ex.new hD, upd_same⟩ (fun i H' _ p => sq_of (((e.trans e1).trans p.2.1) a _ hx)) (fun i z H2 H3 hi p y => by
    obtain ⟨rfl, h2⟩ := y
    exact ⟨hw _, cw_turn p (by omega) (ht i z H1 (e.trans e1) hi h2) (fun hf => he i z H1 (e.trans e1) hi h2 hf)⟩) (fun H' p => q Dl H' (fresh_back e1 p.1) (e1.trans p.2.1) p.2.2)⟩
theorem given_ints (n : Nat) (f : Nat → Bool) (g : Nat → Int) : given n f (fun i => .int (g i)) = Ints (((List.range n).filter f).map g) := by
  simp [given, Ints]
theorem given_all (n : Nat) (v : Nat → V) : given n (fun _ => true) v = (List.range n).map v := by
  unfold given
  rw [List.filter_eq_self.mpr (fun _ _ => rfl)]
/-- t[i] of a tuple, xs[i] of any list -/
theorem ixT_ {p : Addr} {xs : List V} {i : Int} {v : V} (h : H p = some (.tup xs)) (ha : Ev ta σ H (.ref p)) (hi : Ev tb σ H (.int i)) (hv : atI xs i = some v) : Ev (tOp (rIxT K) ta tb) σ H v := ev_op ha hi (rv_ixT (st_of h) hv)
theorem ixV_ {p : Addr} {xs : List V} {i : Int} {v : V} (h : Lst H p xs) (ha : Ev ta σ H (.ref p)) (hi : Ev tb σ H (.int i)) (hv : atI xs i = some v) : Ev (tOp (rIxL K) ta tb) σ H v := ev_op ha hi (rv_ixL (sq_of h) hv)
theorem isN_ {x : V} (ha : Ev ta σ H x) : Ev (tOp (fun x y H Q => y = .non ∧ Q (.bl (decide (x = .non))) H) ta (tC .non)) σ H (.bl (decide (x = .non))) := fun H1 e Q q => ha H1 e _ fun H2 e2 => ⟨rfl, q H2 e2⟩
theorem notN_ {x : V} (ha : Ev ta σ H x) : Ev (tOp (fun x y H Q => y = .non ∧ Q (.bl (!decide (x = .non))) H) ta (tC .non)) σ H (.bl (!decide (x = .non))) := fun H1 e Q q => ha H1 e _ fun H2 e2 => ⟨rfl, q H2 e2⟩
/-! ### lists of lists of ints as data -/
def dLL (ls : List (List Int)) : PyData := .list (ls.map dI)
theorem lay_LL : ∀ ls : List (List Int), PyData.canLayAll0 (ls.map dI) = true
  | [] => rfl
  | x :: xs => by simp [PyData.canLayAll0, PyData.canLay0, dI, lay_Is, lay_LL xs]
theorem depth_LL : ∀ ls : List (List Int), PyData.depthAll (ls.map dI) ≤ 1
  | [] => Nat.zero_le _
  | x :: xs => by
    have h := depth_LL xs
    simp [PyData.depthAll, PyData.depth, dI, depth_Is]
    omega
theorem sh_LL (ls : List (List Int)) : SeqAt.shaped (dLL ls) = true := by
  have h := depth_LL ls
  simp [SeqAt.shaped, dLL, PyData.canLay0, PyData.depth, lay_LL]
  omega
theorem eqvs_LL : ∀ ns ms : List (List Int), PyData.eqvAll (ns.map dI) (ms.map dI) = decide (ns = ms)
  | [], [] => by simp [PyData.eqvAll]
  | [], _ :: _ => by simp [PyData.eqvAll]
  | _ :: _, [] => by simp [PyData.eqvAll]
  | x :: xs, y :: ys => by
    rw [Bool.eq_iff_iff]
    simp [PyData.eqvAll, eqv_I, eqvs_LL xs ys]
theorem eqv_LL (ns ms : List (List Int)) : PyData.eqv (dLL ns) (dLL ms) = decide (ns = ms) := by
  simp [dLL, PyData.eqv, eqvs_LL]
/-- lists of ints at these addresses -/
inductive ILs (H : Hp) : List V → List (List Int) → Prop where
  | nil : ILs H [] []
  | cons {a : Addr} {ns : List Int} {vs : List V} {ls : List (List Int)} : IL H a ns → ILs H vs ls → ILs H (.ref a :: vs) (ns :: ls)
theorem ILs.dp {vs : List V} {ls : List (List Int)} (h : ILs H vs ls) : DpAll K H vs (ls.map dI) := by
  induction h with
  | nil => exact .nil
  | cons h _ ih => exact .cons (dp_I h) ih
theorem ILs.ex {vs : List V} {ls : List (List Int)} (h : ILs H vs ls) (e : Ex H H') : ILs H' vs ls := by
  induction h with
  | nil => exact .nil
  | cons h _ ih => exact .cons (e _ _ h) ih
theorem dp_LL {p : Addr} {vs : List V} {ls : List (List Int)} (h : Lst H p vs) (hl : ILs H vs ls) : Dp K H (.ref p) (dLL ls) := .lst (sq_of h) hl.dp
theorem neLL_ {a : Addr} {vs ws : List V} {ns ms : List (List Int)} (ha : Ev ta σ H (.ref a)) (h1 : Lst H a vs) (l1 : ILs H vs ns) (hb : EvL tb σ H ws) (l2 : ILs H ws ms) : Ev (tOp (rNeD K) ta tb) σ H (.bl (!decide (ns = ms))) := fun H1 e Q q =>
  ha H1 e _ fun H2 e2 => hb H2 (e.trans e2) _ fun b H3 _ e3 h2 => ⟨dLL ns, dLL ms, dp_LL (((e.trans e2).trans e3) a _ h1) (l1.ex ((e.trans e2).trans e3)), dp_LL h2 (l2.ex ((e.trans e2).trans e3)), sh_LL _, sh_LL _, by
    rw [eqv_LL]
    exact q H3 (e2.trans e3)⟩
theorem eqLL_ {a : Addr} {vs ws : List V} {ns ms : List (List Int)} (ha : Ev ta σ H (.ref a)) (h1 : Lst H a vs) (l1 : ILs H vs ns) (hb : EvL tb σ H ws) (l2 : ILs H ws ms) : Ev (tOp (rEqD K) ta tb) σ H (.bl (decide (ns = ms))) := fun H1 e Q q =>
  ha H1 e _ fun H2 e2 => hb H2 (e.trans e2) _ fun b H3 _ e3 h2 => ⟨dLL ns, dLL ms, dp_LL (((e.trans e2).trans e3) a _ h1) (l1.ex ((e.trans e2).trans e3)), dp_LL h2 (l2.ex ((e.trans e2).trans e3)), sh_LL _, sh_LL _, by
    rw [eqv_LL]
    exact q H3 (e2.trans e3)⟩
theorem Ex.at {a : Addr} {o : HO} (e : Ex H H') (h : H a = some o) : H' a = some o := e a o h
theorem ev_abs {i : Int} (ha : Ev ta σ H (.int i)) : Ev (tCB (fun xs H Q => ∃ i, xs = [.int i] ∧ Q (.int (if i < 0 then -i else i)) H) (tCons ta tNil)) σ H (.int (ab i)) := fun H1 e Q q =>
  ha H1 e _ fun H2 e2 => ⟨i, rfl, q H2 e2⟩
theorem el_sorted {a : Addr} {ns : List Int} (ha : Ev ta σ H (.ref a)) (h : IL H a ns) : EvL (tCB (rSortedI K) (tCons ta tNil)) σ H (Ints (sortI ns)) := fun H1 e Q q =>
  ha H1 e _ fun H2 e2 => ⟨a, ns, rfl, sq_of ((e.trans e2) a _ h), fun ns' p hp hu hn => by
    rw [sortI_eq hp hu]
    exact q p _ (fresh_back e2 hn) (e2.trans (Ex.new hn)) upd_same⟩
theorem el_sortedN {ns : List Int} (ha : EvL ta σ H (Ints ns)) : EvL (tCB (rSortedI K) (tCons ta tNil)) σ H (Ints (sortI ns)) := fun H1 e Q q =>
  ha H1 e _ fun a H2 _ e2 h2 => ⟨a, ns, rfl, sq_of h2, fun ns' p hp hu hn => by
    rw [sortI_eq hp hu]
    exact q p _ (fresh_back e2 hn) (e2.trans (Ex.new hn)) upd_same⟩
end
end Rg

set_option Elab.async false
set_option linter.all false
set_option maxRecDepth 100000
set_option maxHeartbeats 1000000
/-! Rg, part Set: set(xs) of a list of ints, its length, its sorted list. -/
namespace L2
open PySem PySem.Spec PyProof.Rows
/-- the empty set that a call of set begins with -/
abbrev newS (w : World) : Obj := { cls := .type "set", dict := none, data := .set #[] 0 (.fresh 0 0 (!w.params.followText "set-order")) }
section
variable {P : Program} {w : World} {A : Around} {E : Value → Shared → Prop} {s : Shared}
set_option maxHeartbeats 3200000 in
theorem set_of_list {l : Addr} {items : Array Value} (ns : List Int) {Q : Value → Shared → Prop} (free : A.handled = none) (isL : s.heap.IsList l items) (allI : IntsAre items.toList ns) (room : ns.length + 1 < scanBound)
    (then_ : ∀ (g : Heap) (tk c : Nat), SetR w g s.heap.objs.size (fun j => decide (j ∈ ns)) c → (∀ b o, s.heap.get? b = some o → g.get? b = some o) → Q (.ref s.heap.objs.size) { s with heap := g, toks := tk }) :
    wpAny (model P w) A (call (.type "set") [.ref l]) Q E s := by
  have size : items.size = ns.length := by have q := IntsAre.length allI; rwa [Array.length_toList] at q
  have ⟨c0, tl0, a1⟩ := F.called_set.mro
  have a2 := F.called_set.made
  have a3 := F.called_set.sub
  have a4 := F.called_set.notType
  have a5 := F.called_set.canCreate
  have a6 := F.typeCall_set_1 (.ref l)
  have a7 := F.called_set.init.lookup
  have a8 := F.called_set.init.bind (.ref s.heap.objs.size)
  refine wpAny_call (codeAny_of_tree ?_)
  show wpAny _ _ (callAny (.type "set") _) _ _ _
  refine wpAny_pure ⟨Code.quiet_builtin _ (by decide +kernel), codeAny_builtin F.entry_type_call ?_⟩
  rw [Around.under_plain (weight_type_call_type "set" [.ref l] []) rfl]
  repeat (any_goals (first | assumption | wp_step))
  refine codeAny_mono (code_set_led1 (.ref l) (E := E) (Q₁ := fun x t => x = .ref s.heap.objs.size ∧ t = { s with heap := s.heap.push (newS w) }) ⟨rfl, rfl⟩) fun r t hr => ?_
  cases r with
  | error e => exact hr
  | ok fl =>
    cases fl with
    | ret x =>
      obtain ⟨rfl, rfl⟩ := hr
      have atS : (s.heap.push (newS w)).get? s.heap.objs.size = some (newS w) := Heap.get?_push_size _ rfl
      have ty : Shared.TypeIs { s with heap := s.heap.push (newS w) } (.ref s.heap.objs.size) "set" := ⟨_, atS, rfl⟩
      repeat (any_goals (first | assumption | wp_step))
      refine codeAny_mono (codeAny_call_builtin (R := wants (fun r u => r = .none ∧ ∃ g tk c, u = { s with heap := g, toks := tk } ∧ SetR w g s.heap.objs.size (fun j => decide (j ∈ ns)) c ∧ (∀ b o, s.heap.get? b = some o → g.get? b = some o)) E) F.called_set.init.plain F.entry_set_init (check_set_init_1 ty ?_)) fun r u hu => ?_
      · obtain ⟨⟨lc, ld, la, ls⟩, lo, l1, ln, l2⟩ := isL
        simp only at l1 l2
        subst l1 l2
        have lt : l < s.heap.objs.size := Heap.lt_size lo
        have lo1 : (s.heap.push (newS w)).get? l = some { cls := .type "list", dict := ld, data := .seq items ln, slots := ls } := Heap.get?_push_of_some _ lo
        have b1 := F.sub_list_set
        have b2 := F.sub_list_frozenset
        have b3 : (Value.type "list" == Value.type "dict") = false := by decide
        have isL1 : (s.heap.push (newS w)).IsList l items := ⟨_, lo1, rfl, ln, rfl⟩
        unfold Builtin.«set.__init__» noKeywords Builtin.Frozenset.updateFrom
        generalize e : pyIter = it
        wp_walk
        subst e
        refine wpAny_pyIter_list isL1 (wpAny_bind (wpAny_runValue ?_))
        have free3 : A.in1.in1.in1.handled = none := by simp [free]
        have two : (s.heap.push (newS w)).objs.size = s.heap.objs.size + 1 := Heap.size_push ..
        have ne1 : l ≠ (s.heap.push (newS w)).objs.size := by rw [two]; exact Nat.ne_of_lt (Nat.lt_succ_of_lt lt)
        have ne2 : s.heap.objs.size ∉ [(s.heap.push (newS w)).objs.size, l] := by
          rw [two]
          simp only [List.mem_cons, List.not_mem_nil, or_false, not_or]
          exact ⟨Nat.ne_of_lt (Nat.lt_succ_self _), Nat.ne_of_gt lt⟩
        refine set_update_ints (Walks.toS (Walks.list free3 _ l ne1 items)) s.heap.objs.size ne2 ns size room (fun i v hv => ?vals) (items.size - 0) 0 _ (by omega) (Nat.zero_le _) ⟨⟨_, Heap.get?_push_size _ rfl, rfl, rfl⟩, isL1.push _⟩ ?start ?stop
        case vals =>
          have hi : i < ns.length := by rw [← size]; exact (Array.getElem?_eq_some_iff.mp hv).1
          obtain ⟨t, q⟩ := PyProof.Rows.IntsAre.int_at allI i v (by rw [Array.getElem?_toList]; exact hv)
          refine ⟨ns[i], t, List.getElem?_eq_getElem hi, ?_⟩
          rw [q, List.getD_eq_getElem?_getD, List.getElem?_eq_getElem hi] <;> rfl
        case start => exact ⟨0, Nat.le_refl 0, setR_new_at (Heap.get?_push_of_some _ atS)⟩
        case stop =>
          intro u c m _ R
          obtain ⟨g, g2, d2, t2, o2⟩ := u
          obtain rfl : g2 = s.gens := m.gens
          obtain rfl : d2 = s.drawn := m.drawn
          obtain rfl : o2 = s.os := m.os
          show wpAny _ _ _ _ _ _
          refine wpAny_pure ?_
          show wpAny _ _ (ret Value.none) _ _ _
          refine wpAny_pure ⟨rfl, g, t2, c, rfl, R, fun b o q => ?_⟩
          have lb := Heap.lt_size q
          refine m.heap b o ?_ (Heap.get?_push_of_some _ (Heap.get?_push_of_some _ q))
          rw [two]
          simp only [List.mem_cons, List.not_mem_nil, or_false, not_or]
          exact ⟨Nat.ne_of_lt lb, Nat.ne_of_lt (Nat.lt_succ_of_lt lb)⟩
      · cases r with
        | error e => exact hu
        | ok fl2 =>
          cases fl2 with
          | ret x =>
            obtain ⟨rfl, g, tk, c, rfl, R, keep⟩ := hu
            repeat (any_goals (first | assumption | wp_step))
            exact then_ _ _ _ R keep
          | _ => exact hu.elim
    | _ => exact hr.elim
end
/-- set(xs), ints: its members, how many -/
def rSetI (K : PySem.W.Frag) (w : World) : List V → Hp → VK → Prop := fun xs H Q => ∃ (p : Addr) (ns : List Int), xs = [.ref p] ∧ SqL K H p (ns.map V.int) ∧ ns.length ≤ 4000 ∧
  ∀ (a : Addr) (c : Nat), H a = none → (∃ ks : List Int, ks.Nodup ∧ (∀ k, k ∈ ks ↔ k ∈ ns) ∧ ks.length = c) → Q (.ref a) (upd H a (SetO w a (fun j => decide (j ∈ ns)) c))
theorem cr_setI {X : Cx} (hc : X.calm = true) : CallR X (.type "set") (rSetI X.K X.w) := by
  intro pins s σ H xs us Q I r h
  obtain ⟨p, ns, rfl, hs, hl, q⟩ := h
  obtain ⟨its, rv, pl, hz⟩ := I.list hs
  rw [Vals.ref1 r]
  refine set_of_list ns (I.ok.hd hc) pl.isList (by simpa using rv.ints) (by unfold scanBound; omega) fun g tk c R keep => ?_
  refine ⟨.ref _, upd H s.heap.objs.size (SetO X.w s.heap.objs.size (fun j => decide (j ∈ ns)) c), I.laid (t' := tk) keep (Nat.le_refl _) (setO_new R), rfl, q _ c (I.hok.fresh (Nat.le_refl _)) ?_⟩
  obtain ⟨o, es, ep, t, ho, hx, hd, gd, nd, hm, hb, hf, hn, _⟩ := R
  exact ⟨es.toList.map keyOf, nd, fun k => by rw [← hm]; simp, by rw [List.length_map, Array.length_toList, hn]⟩
/-- len of a set of ints -/
theorem cr_lenSet {X : Cx} : CallR X (.builtin "len") (fun xs H Q => ∃ (a : Addr) (S : Int → Bool) (n : Nat), xs = [.ref a] ∧ H a = some (SetO X.w a S n) ∧ Q (.int n) H) := by
  intro pins s σ H xs us Q I r h
  obtain ⟨a, S, n, rfl, ha, q⟩ := h
  rw [Vals.ref1 r]
  obtain ⟨o, es, ep, t, ho, hx, hd, gd, nd, hm, hb, hf, hn, _⟩ := setO_get I ha
  refine call_len_set ho hx hd hf (by unfold scanBound at hb; omega) ⟨.int n, H, I.tok _, ⟨_, by rw [hn]⟩, q⟩
end L2

set_option Elab.async false
set_option linter.all false
set_option maxRecDepth 100000
set_option maxHeartbeats 1000000
/-! Rg, part T: places to try, the trials as a forest, and how a forest stands in the heap. -/
namespace Rg
open PySem PySem.Spec PyProof.Rows L2 Evl
/-! ### sorted, none twice -/
def insD (x : Int) : List Int → List Int
  | [] => [x]
  | y :: ys => if x < y then x :: y :: ys else if x = y then y :: ys else y :: insD x ys
def sortD : List Int → List Int
  | [] => []
  | x :: xs => insD x (sortD xs)
theorem insD_mem {x z : Int} : ∀ {l : List Int}, z ∈ insD x l ↔ z = x ∨ z ∈ l
  | [] => by simp [insD]
  | y :: ys => by
    unfold insD
    split
    · simp
    · split
      · rename_i h
        subst h
        simp
      · rw [List.mem_cons, insD_mem, List.mem_cons]
        exact ⟨fun h => by rcases h with h | h | h <;> simp [h], fun h => by rcases h with h | h | h <;> simp [h]⟩
theorem insD_up {x : Int} : ∀ {l : List Int}, l.Pairwise (· < ·) → (insD x l).Pairwise (· < ·)
  | [], _ => List.pairwise_singleton _ _
  | y :: ys, h => by
    obtain ⟨h1, h2⟩ := List.pairwise_cons.mp h
    unfold insD
    split
    · rename_i c
      refine List.pairwise_cons.mpr ⟨fun z hz => ?_, h⟩
      rcases List.mem_cons.mp hz with rfl | hz
      · exact c
      · exact Int.lt_trans c (h1 z hz)
    · split
      · exact h
      · refine List.pairwise_cons.mpr ⟨fun z hz => ?_, insD_up h2⟩
        rcases insD_mem.mp hz with rfl | hz
        · omega
        · exact h1 z hz
theorem sortD_mem {z : Int} : ∀ {l : List Int}, z ∈ sortD l ↔ z ∈ l
  | [] => Iff.rfl
  | x :: xs => by rw [sortD, insD_mem, sortD_mem, List.mem_cons]
theorem sortD_up : ∀ l : List Int, (sortD l).Pairwise (· < ·)
  | [] => .nil
  | x :: xs => insD_up (sortD_up xs)
theorem perm_mem {a b : List Int} (ha : a.Nodup) (hb : b.Nodup) (h : ∀ z, z ∈ a ↔ z ∈ b) : a.Perm b := (List.perm_ext_iff_of_nodup ha hb).mpr h
theorem sortD_eq {a ns : List Int} (ha : a.Pairwise (· < ·)) (h : ∀ z, z ∈ a ↔ z ∈ ns) : a = sortD ns :=
  up_unique (perm_mem (up_nodup ha) (up_nodup (sortD_up ns)) fun z => by rw [h, sortD_mem]) (ha.imp fun h => by omega) ((sortD_up ns).imp fun h => by omega)
theorem sortD_id {a : List Int} (ha : a.Pairwise (· < ·)) : sortD a = a := (sortD_eq ha fun _ => Iff.rfl).symm
theorem insD_len (x : Int) : ∀ l : List Int, (insD x l).length ≤ l.length + 1
  | [] => Nat.le_refl _
  | y :: ys => by
    have := insD_len x ys
    unfold insD
    split
    · simp
    · split
      · simp
      · simp
        omega
theorem sortD_len : ∀ l : List Int, (sortD l).length ≤ l.length
  | [] => Nat.le_refl _
  | x :: xs => by
    have h1 := insD_len x (sortD xs)
    have h2 := sortD_len xs
    rw [sortD, List.length_cons]
    omega
/-! ### places to try -/
def topI (l : List Int) : Int := gi l (l.length - 1)
def leftP (gs here : List Int) : List Int := (wo gs (btw here)).1
def lackP (gs here : List Int) : Option Int := (wo gs (btw here)).2
def nextP (gs here : List Int) : List Int := if leftP gs here = [] then [] else (sortD [topI (leftP gs here), maxD 0 here - topI (leftP gs here)]).filter fun x => !decide (x ∈ here)
theorem nextP_nin {gs here : List Int} {x : Int} (h : x ∈ nextP gs here) : x ∉ here := by
  unfold nextP at h
  split at h
  · cases h
  · simpa using (List.mem_filter.mp h).2
theorem nextP_len (gs here : List Int) : (nextP gs here).length ≤ 2 := by
  unfold nextP
  split
  · exact Nat.zero_le _
  · exact Nat.le_trans (List.length_filter_le _ _) (sortD_len _)
theorem wo_full : ∀ (ds left : List Int), (wo left ds).2 = none → (wo left ds).1.length + ds.length = left.length
  | [], left, _ => rfl
  | d :: ds, left, h => by
    by_cases c : d ∈ left
    · rw [wo_in c] at h ⊢
      have := wo_full ds (left.erase d) h
      have h2 := List.length_erase_of_mem c
      have h3 := List.length_pos_of_mem c
      rw [List.length_cons]
      omega
    · rw [wo_out c] at h
      cases h
theorem leftP_len {gs here : List Int} (h : lackP gs here = none) : 2 * (leftP gs here).length + here.length * here.length = 2 * gs.length + here.length := by
  have h1 := wo_full (btw here) gs h
  have h2 := btw_len2 here
  unfold leftP
  omega
/-- where something may be tried, there are at most six places -/
theorem next_few {gs here : List Int} (hl : gs.length ≤ 21) (h7 : here.length ≤ 7) (h : lackP gs here = none) (hn : nextP gs here ≠ []) : here.length ≤ 6 := by
  have h1 := leftP_len h
  by_cases c : here.length = 7
  · rw [c] at h1
    have h0 : leftP gs here = [] := List.eq_nil_of_length_eq_zero (by omega)
    unfold nextP at hn
    rw [if_pos h0] at hn
    exact absurd rfl hn
  · omega
/-! ### forests: trials side by side -/
inductive Fo where
  | nil : Fo
  | cons (place : Int) (lack : Option Int) (sub rest : Fo) : Fo
def fo (f : Int → Option Int × Fo) : List Int → Fo
  | [] => .nil
  | x :: xs => .cons x (f x).1 (f x).2 (fo f xs)
def subs (gs : List Int) : Nat → List Int → Fo
  | 0, _ => .nil
  | n + 1, here => if (lackP gs here).isSome then .nil else fo (fun x => (lackP gs (here ++ [x]), subs gs n (here ++ [x]))) (nextP gs here)
def trF (gs : List Int) (n : Nat) (places : List Int) (x : Int) : Option Int × Fo := (lackP gs (places ++ [x]), subs gs n (places ++ [x]))
theorem subs_lack {gs here : List Int} {n : Nat} (h : lackP gs here ≠ none) : subs gs n here = .nil := by
  cases n with
  | zero => rfl
  | succ n =>
    rw [subs, if_pos]
    cases e : lackP gs here with
    | none => exact absurd e h
    | some d => rfl
theorem subs_on {gs here : List Int} {n : Nat} (h : lackP gs here = none) : subs gs (n + 1) here = fo (trF gs n here) (nextP gs here) := by
  rw [subs, h]
  rfl
theorem subs_end {gs here : List Int} {n : Nat} (h : nextP gs here = []) : subs gs n here = .nil := by
  cases n with
  | zero => rfl
  | succ n =>
    rw [subs, h]
    cases lackP gs here <;> rfl
/-- how deep -/
def Fo.dep : Fo → Nat
  | .nil => 0
  | .cons _ _ s r => max (s.dep + 1) r.dep
theorem fo_dep {f : Int → Option Int × Fo} {n : Nat} : ∀ {xs : List Int}, (∀ x ∈ xs, (f x).2.dep + 1 ≤ n) → (fo f xs).dep ≤ n
  | [], _ => Nat.zero_le _
  | x :: xs, h => by
    have h1 := h x List.mem_cons_self
    have h2 := fo_dep (xs := xs) fun y hy => h y (List.mem_cons_of_mem _ hy)
    show max ((f x).2.dep + 1) (fo f xs).dep ≤ n
    omega
theorem subs_dep (gs : List Int) : ∀ (n : Nat) (here : List Int), (subs gs n here).dep ≤ n
  | 0, _ => Nat.le_refl _
  | n + 1, here => by
    rw [subs]
    split
    · exact Nat.zero_le _
    · exact fo_dep fun x _ => Nat.succ_le_succ (subs_dep gs n (here ++ [x]))
def ends (gs : List Int) : List Int := [0, topI gs]
def trialsF (gs : List Int) : Fo := if gs = [] then .nil else fo (trF gs 4 (ends gs)) (nextP gs (ends gs))
theorem trialsF_dep (gs : List Int) : (trialsF gs).dep ≤ 5 := by
  unfold trialsF
  split
  · exact Nat.zero_le _
  · exact fo_dep fun x _ => Nat.succ_le_succ (subs_dep gs 4 _)
theorem btw_two (t : Int) (h : 0 ≤ t) : btw [0, t] = [t] := by
  have e : allD [0, t] 2 = [t] := by
    have : ab (t - 0) = t := by
      unfold ab
      split <;> omega
    simp [allD, rowD, gi, List.range_succ]
    simpa using this
  rw [btw, show ([0, t] : List Int).length = 2 from rfl, e, sortI, List.mergeSort_singleton]
theorem topI_mem {gs : List Int} (h : gs ≠ []) : topI gs ∈ gs := by
  have := List.length_pos_iff.mpr h
  exact gi_mem (by omega)
theorem ends_lack {gs : List Int} (h : gs ≠ []) (h1 : ∀ d ∈ gs, 1 ≤ d) : lackP gs (ends gs) = none := by
  have hm := topI_mem h
  have := h1 _ hm
  rw [lackP, ends, btw_two _ (by omega), wo_in hm]
  rfl
theorem ends_nodup {gs : List Int} (h : gs ≠ []) (h1 : ∀ d ∈ gs, 1 ≤ d) : (ends gs).Nodup := by
  have := h1 _ (topI_mem h)
  simp [ends]
  omega
theorem gapsOk.pos {gs : List Int} (h : gapsOk gs) : ∀ d ∈ gs, 1 ≤ d := fun d hd => by
  obtain ⟨k, hk, rfl⟩ := List.getElem_of_mem hd
  have := (h k hk).1
  simpa [gi, List.getD_eq_getElem?_getD, List.getElem?_eq_getElem hk] using this
/-! ### a forest in the heap: all its objects new beside B -/
inductive FoAt (B H : Hp) : List V → Fo → Prop where
  | nil : FoAt B H [] .nil
  | cons {p l : Addr} {x : Int} {o : Option Int} {vs ws : List V} {s r : Fo} : B p = none → B l = none → H p = some (.tup [.int x, optV o, .ref l]) → H l = some (.lst vs) → FoAt B H vs s → FoAt B H ws r → FoAt B H (.ref p :: ws) (.cons x o s r)
theorem FoAt.go {B H B' H' : Hp} {vs : List V} {t : Fo} (h : FoAt B H vs t) (b : ∀ a, B a = none → B' a = none) (e : ∀ a o, B a = none → H a = some o → H' a = some o) : FoAt B' H' vs t := by
  induction h with
  | nil => exact .nil
  | cons h1 h2 h3 h4 _ _ ih1 ih2 => exact .cons (b _ h1) (b _ h2) (e _ _ h1 h3) (e _ _ h2 h4) ih1 ih2
theorem FoAt.ex {B H H' : Hp} {vs : List V} {t : Fo} (h : FoAt B H vs t) (e : Ex H H') : FoAt B H' vs t := h.go (fun _ z => z) fun a o _ z => e a o z
theorem FoAt.base {B B' H : Hp} {vs : List V} {t : Fo} (h : FoAt B H vs t) (e : Ex B' B) : FoAt B' H vs t := h.go (fun _ z => fresh_back e z) fun _ _ _ z => z
theorem FoAt.snoc {B H : Hp} {vs : List V} {x : Int} {f : Int → Option Int × Fo} {xs : List Int} {v : V} (h : FoAt B H vs (fo f xs)) (h1 : FoAt B H [v] (.cons x (f x).1 (f x).2 .nil)) : FoAt B H (vs ++ [v]) (fo f (xs ++ [x])) := by
  induction xs generalizing vs with
  | nil =>
    cases h
    exact h1
  | cons y ys ih =>
    cases h with
    | cons a1 a2 a3 a4 a5 a6 => exact .cons a1 a2 a3 a4 a5 (ih a6)
theorem FoAt.len {B H : Hp} {vs : List V} {f : Int → Option Int × Fo} {xs : List Int} (h : FoAt B H vs (fo f xs)) : vs.length = xs.length := by
  induction xs generalizing vs with
  | nil =>
    cases h
    rfl
  | cons y ys ih =>
    cases h with
    | cons a1 a2 a3 a4 a5 a6 => exact congrArg Nat.succ (ih a6)
def Fo.at : Fo → Nat → Option (Int × Option Int × Fo)
  | .nil, _ => none
  | .cons x o s _, 0 => some (x, o, s)
  | .cons _ _ _ r, k + 1 => r.at k
def Fo.len : Fo → Nat
  | .nil => 0
  | .cons _ _ _ r => r.len + 1
theorem FoAt.many {B H : Hp} {vs : List V} {t : Fo} (h : FoAt B H vs t) : vs.length = t.len := by
  induction h with
  | nil => rfl
  | cons _ _ _ _ _ _ _ ih => exact congrArg Nat.succ ih
theorem FoAt.nth {B H : Hp} {vs : List V} {t : Fo} (h : FoAt B H vs t) : ∀ {k : Nat}, k < t.len → ∃ (p l : Addr) (x : Int) (o : Option Int) (us : List V) (s : Fo), t.at k = some (x, o, s) ∧ s.dep + 1 ≤ t.dep ∧ vs[k]? = some (.ref p) ∧ B p = none ∧ B l = none ∧ H p = some (.tup [.int x, optV o, .ref l]) ∧ H l = some (.lst us) ∧ FoAt B H us s := by
  induction h with
  | nil => exact fun h => absurd h (Nat.not_lt_zero _)
  | @cons p l x o us ws s r h1 h2 h3 h4 h5 _ _ ih =>
    intro k hk
    cases k with
    | zero => exact ⟨p, l, x, o, us, s, rfl, Nat.le_max_left _ _, rfl, h1, h2, h3, h4, h5⟩
    | succ k =>
      obtain ⟨p, l, x, o, us, s', a1, a2, a3⟩ := ih (Nat.lt_of_succ_lt_succ hk)
      exact ⟨p, l, x, o, us, s', a1, Nat.le_trans a2 (Nat.le_max_right _ _), a3⟩
/-- nowhere are there many side by side -/
def FoFew : Fo → Prop
  | .nil => True
  | .cons _ _ s r => s.len ≤ 100 ∧ FoFew s ∧ FoFew r
theorem FoFew.at {x : Int} {o : Option Int} {s : Fo} : ∀ {t : Fo} {k : Nat}, FoFew t → t.at k = some (x, o, s) → s.len ≤ 100 ∧ FoFew s
  | .nil, _, _, h => by cases h
  | .cons _ _ _ _, 0, hf, h => by
    cases h
    exact ⟨hf.1, hf.2.1⟩
  | .cons _ _ _ r, k + 1, hf, h => FoFew.at (t := r) hf.2.2 h
theorem fo_len (f : Int → Option Int × Fo) : ∀ xs : List Int, (fo f xs).len = xs.length
  | [] => rfl
  | x :: xs => congrArg Nat.succ (fo_len f xs)
theorem fo_few {f : Int → Option Int × Fo} : ∀ {xs : List Int}, (∀ x ∈ xs, (f x).2.len ≤ 100 ∧ FoFew (f x).2) → FoFew (fo f xs)
  | [], _ => trivial
  | x :: xs, h => ⟨(h x List.mem_cons_self).1, (h x List.mem_cons_self).2, fo_few fun y hy => h y (List.mem_cons_of_mem _ hy)⟩
theorem subs_few (gs : List Int) : ∀ (n : Nat) (here : List Int), (subs gs n here).len ≤ 100 ∧ FoFew (subs gs n here)
  | 0, _ => ⟨Nat.zero_le _, trivial⟩
  | n + 1, here => by
    rw [subs]
    split
    · exact ⟨Nat.zero_le _, trivial⟩
    · refine ⟨?_, fo_few fun x _ => subs_few gs n (here ++ [x])⟩
      rw [fo_len]
      have := nextP_len gs here
      omega
theorem trialsF_few (gs : List Int) : (trialsF gs).len ≤ 100 ∧ FoFew (trialsF gs) := by
  unfold trialsF
  split
  · exact ⟨Nat.zero_le _, trivial⟩
  · refine ⟨?_, fo_few fun x _ => subs_few gs 4 _⟩
    rw [fo_len]
    have := nextP_len gs (ends gs)
    omega
/-- what evaluates to a new list of trials -/
def EvF (te : TE) (σ : L2.St) (H : Hp) (t : Fo) : Prop := ∀ H1, Ex H H1 → ∀ Q : VK, (∀ p vs H2 B, H1 p = none → Ex H1 H2 → H2 p = some (.lst vs) → Ex H1 B → B p ≠ none → FoAt B H2 vs t → Q (.ref p) H2) → te σ H1 Q
section
variable {K : PySem.W.Frag} {σ : L2.St} {H H' : Hp} {ta tb te tl : TE} {tt : TT}
theorem el_lcFo {j : Nat} {vs : List Nat} {ps : List Int} (f : Int → Option Int × Fo) (h : EvL tl σ H (Ints ps)) (hz : ps.length ≤ 40000) (hw : ∀ x, wipe ((wipe σ vs).set j (some x)) vs = wipe σ vs)
    (ht : ∀ (x : V) H1, Ex H H1 → EvT tt ((wipe σ vs).set j (some x)) H1 true)
    (he : ∀ x ∈ ps, ∀ H1, Ex H H1 → ∀ Q : VK, (∀ v H2, Ex H1 H2 → FoAt H1 H2 [v] (.cons x (f x).1 (f x).2 .nil) → Q v H2) → te ((wipe σ vs).set j (some (.int x))) H1 Q) : EvF (tLc (iList K tl) (gName j) tt te vs) σ H (fo f ps) := fun H0 e Q q => h H0 e _ fun a H1 ha e1 hx => ⟨a, rfl, ⟨_, sq_of hx⟩, fun Dl hD =>
  lc_list (xs := Ints ps) (fun i H' => ∃ ws, Ex H1 H' ∧ H' Dl = some (.lst ws) ∧ FoAt (upd H1 Dl (.lst [])) H' ws (fo f (ps.take i))) ⟨[], Ex.new hD, upd_same, .nil⟩ (fun i H' _ ⟨_, p, _⟩ => sq_of (p a _ hx)) (fun i x H' hi ⟨ws, p1, p2, p3⟩ => by
    obtain ⟨d, hd, rfl⟩ := ints_at hi
    have hm : d ∈ ps := List.mem_of_getElem? hd
    have hlen : ws.length ≤ 40000 := by
      have := p3.len
      have h2 : (ps.take i).length ≤ ps.length := List.length_take_le' i ps
      omega
    refine ⟨hw _, ht _ H (Ex.refl H) H' ((e.trans e1).trans p1) _ fun H3 e3 => ?_⟩
    show te _ H3 _
    refine he d hm H3 (((e.trans e1).trans p1).trans e3) _ fun v H4 e4 h4 => ⟨ws, e4 Dl _ (e3 Dl _ p2), sz_lt (by omega), ws ++ [v], Ex.mut ((p1.trans e3).trans e4) hD, upd_same, ?_⟩
    have hne : ∀ b, upd H1 Dl (.lst []) b = none → b ≠ Dl := fun b hb c => by
      rw [c, upd_same] at hb
      cases hb
    have hup : ∀ b o, upd H1 Dl (.lst []) b = none → H4 b = some o → upd H4 Dl (.lst (ws ++ [v])) b = some o := fun b o hb h => by
      rw [upd_ne (hne b hb)]
      exact h
    rw [take_more hd]
    refine FoAt.snoc (p3.go (fun _ z => z) fun b o hb h => hup b o hb (e4 b o (e3 b o h))) (h4.go (fun b hb => ?_) fun b o hb h => ?_)
    · by_cases c : b = Dl
      · rw [c, e3 Dl _ p2] at hb
        cases hb
      · rw [upd_ne c]
        exact fresh_back (p1.trans e3) hb
    · by_cases c : b = Dl
      · rw [c, e3 Dl _ p2] at hb
        cases hb
      · rw [upd_ne c]
        exact h) (fun H' ⟨ws, p1, p2, p3⟩ => by
    rw [List.length_map, List.take_length] at p3
    exact q Dl ws H' _ (fresh_back e1 hD) (e1.trans p1) p2 (e1.trans (Ex.new hD)) (by rw [upd_same]; exact fun z => by cases z) p3)⟩
/-- sorted(set(xs)) -/
theorem set_many {ks ns : List Int} (nd : ks.Nodup) (h : ∀ k, k ∈ ks ↔ k ∈ ns) : ks.length = (sortD ns).length :=
  (perm_mem nd (up_nodup (sortD_up ns)) fun z => by rw [h, sortD_mem]).length_eq
theorem el_sortSet {w : World} {ns : List Int} (h : EvL ta σ H (Ints ns)) (hz : ns.length < 64) : EvL (tCB (rSortedSet w) (tCons (tCB (rSetI K w) (tCons ta tNil)) tNil)) σ H (Ints (sortD ns)) := fun H1 e Q q =>
  h H1 e _ fun p H2 hp e2 h2 => ⟨p, ns, rfl, sq_of h2, by omega, fun a c ha ⟨ks, nd, hm, hc⟩ => ⟨a, _, c, rfl, upd_same, by
    have := set_many nd hm
    have := sortD_len ns
    omega, fun ms r up mem _ hr => by
    obtain rfl : ms = sortD ns := sortD_eq up (fun z => by rw [mem, decide_eq_true_eq])
    exact q r _ (fresh_back (e2.trans (Ex.new ha)) hr) ((e2.trans (Ex.new ha)).trans (Ex.new hr)) upd_same⟩⟩
/-- len(set(xs)) -/
theorem ev_lenSet {w : World} {a : Addr} {ns : List Int} (h : Ev ta σ H (.ref a)) (hx : IL H a ns) (hz : ns.length ≤ 4000) : Ev (tCB (fun xs H Q => ∃ (a : Addr) (S : Int → Bool) (n : Nat), xs = [.ref a] ∧ H a = some (SetO w a S n) ∧ Q (.int n) H) (tCons (tCB (rSetI K w) (tCons ta tNil)) tNil)) σ H (.int ((sortD ns).length : Nat)) := fun H1 e Q q =>
  h H1 e _ fun H2 e2 => ⟨a, ns, rfl, sq_of ((e.trans e2) a _ hx), hz, fun b c hb ⟨ks, nd, hm, hc⟩ => ⟨b, _, c, rfl, upd_same, by
    rw [← hc, set_many nd hm]
    exact q _ (e2.trans (Ex.new hb))⟩⟩
theorem ev_max {a : Addr} {ns : List Int} (h : Ev ta σ H (.ref a)) (hx : IL H a ns) (hn : ns ≠ []) : Ev (tCB (rMax K) (tCons ta tNil)) σ H (.int (maxD 0 ns)) := fun H1 e Q q =>
  h H1 e _ fun H2 e2 => ⟨a, ns, rfl, sq_of ((e.trans e2) a _ hx), List.length_pos_iff.mpr hn, fun m h1 h2 => by
    rw [maxD_eq h1 h2 (d := 0)]
    exact q H2 e2⟩
/-- xs + [..] -/
theorem el_cat {a : Addr} {xs ys : List Int} (h : Ev ta σ H (.ref a)) (hx : IL H a xs) (hb : EvL tb σ H (Ints ys)) (hz : xs.length + ys.length ≤ 100000) : EvL (tOp rCat ta tb) σ H (Ints (xs ++ ys)) := fun H1 e Q q =>
  h H1 e _ fun H2 e2 => hb H2 (e.trans e2) _ fun b H3 hb e3 h3 => ⟨a, b, Ints xs, Ints ys, rfl, rfl, ((e.trans e2).trans e3) a _ hx, h3, sz_of (by rw [List.length_map, List.length_map]; exact hz), fun p hp =>
    q p _ (fresh_back (e2.trans e3) hp) ((e2.trans e3).trans (Ex.new hp)) (by rw [upd_same]; simp [Ints])⟩
theorem ev_lenT {p : Addr} {xs : List V} (h : Ev ta σ H (.ref p)) (hp : H p = some (.tup xs)) : Ev (tCB (rLenS K) (tCons ta tNil)) σ H (.int (xs.length : Int)) := fun H1 e Q q =>
  h H1 e _ fun H2 e2 => ⟨p, xs, rfl, .inr (st_of ((e.trans e2) p _ hp)), q H2 e2⟩
theorem et_tru {x : V} {k : Bool} (h : Ev ta σ H x) (hk : ∀ H1, Ex H H1 → TruV K x H1 k) : EvT (fun σ H Q => ta σ H fun x H' => ∃ k, TruV K x H' k ∧ Q k H') σ H k := fun H1 e Q q =>
  h H1 e _ fun H2 e2 => ⟨k, hk H2 (e.trans e2), q H2 e2⟩
theorem et_truL {a : Addr} {xs : List V} (h : Ev ta σ H (.ref a)) (hx : Lst H a xs) : EvT (fun σ H Q => ta σ H fun x H' => ∃ k, TruV K x H' k ∧ Q k H') σ H (!xs.isEmpty) := et_tru h fun H1 e => .inl ⟨xs, sq_of (e a _ hx), rfl⟩
theorem range_gi (xs : List Int) : (List.range xs.length).map (gi xs) = xs := by
  refine List.ext_getElem (by simp) fun k h1 h2 => ?_
  simp [gi, List.getD_eq_getElem?_getD, List.getElem?_eq_getElem h2]
theorem given_lst (xs : List Int) (f : Int → Bool) (g : Int → Int) : given (Ints xs).length (fun i => f (gi xs i)) (fun i => .int (g (gi xs i))) = Ints ((xs.filter f).map g) := by
  rw [List.length_map, given_ints]
  congr 1
  have h := congrArg (fun l => (l.filter f).map g) (range_gi xs)
  simp only [List.filter_map, List.map_map] at h
  exact h
/-- [g x for x in xs if f x], ints -/
theorem el_lcI {a : Addr} {j : Nat} {vs : List Nat} {xs : List Int} (f : Int → Bool) (g : Int → Int) (h : Ev tl σ H (.ref a)) (hx : IL H a xs) (hz : xs.length ≤ 40000) (hw : ∀ x, wipe ((wipe σ vs).set j (some x)) vs = wipe σ vs)
    (ht : ∀ x ∈ xs, ∀ H1, Ex H H1 → EvT tt ((wipe σ vs).set j (some (.int x))) H1 (f x)) (he : ∀ x ∈ xs, ∀ H1, Ex H H1 → f x = true → Ev te ((wipe σ vs).set j (some (.int x))) H1 (.int (g x))) : EvL (tLc (iList K tl) (gName j) tt te vs) σ H (Ints ((xs.filter f).map g)) := by
  rw [← given_lst]
  refine el_lcL _ _ h (sq_of hx) (by rw [List.length_map]; exact hz) hw (fun i x H1 e1 hi => ?_) (fun i x H1 e1 hi hf => ?_)
  · obtain ⟨d, hd, rfl⟩ := ints_at hi
    rw [gi_of hd]
    exact ht d (List.mem_of_getElem? hd) H1 e1
  · obtain ⟨d, hd, rfl⟩ := ints_at hi
    rw [gi_of hd] at hf ⊢
    exact he d (List.mem_of_getElem? hd) H1 e1 hf
theorem el_lcNI {j : Nat} {vs : List Nat} {xs : List Int} (f : Int → Bool) (g : Int → Int) (h : EvL tl σ H (Ints xs)) (hz : xs.length ≤ 40000) (hw : ∀ x, wipe ((wipe σ vs).set j (some x)) vs = wipe σ vs)
    (ht : ∀ x ∈ xs, ∀ H1, Ex H H1 → EvT tt ((wipe σ vs).set j (some (.int x))) H1 (f x)) (he : ∀ x ∈ xs, ∀ H1, Ex H H1 → f x = true → Ev te ((wipe σ vs).set j (some (.int x))) H1 (.int (g x))) : EvL (tLc (iList K tl) (gName j) tt te vs) σ H (Ints ((xs.filter f).map g)) := by
  rw [← given_lst]
  refine el_lcNL _ _ h (by rw [List.length_map]; exact hz) hw (fun i x H1 e1 hi => ?_) (fun i x H1 e1 hi hf => ?_)
  · obtain ⟨d, hd, rfl⟩ := ints_at hi
    rw [gi_of hd]
    exact ht d (List.mem_of_getElem? hd) H1 e1
  · obtain ⟨d, hd, rfl⟩ := ints_at hi
    rw [gi_of hd] at hf ⊢
    exact he d (List.mem_of_getElem? hd) H1 e1 hf
theorem t_call {ta' : TA} {sp : Sp} {dvs vs : List V} {E : XK} {Q : VK} (h : EvA ta' σ H vs) (hs : ∀ H1, Ex H H1 → sp (vs ++ dvs) H1 Q E) : tCall sp dvs E ta' σ H Q := h H (Ex.refl H) _ hs
theorem t_callN {ta' tr : TA} {sp sp2 : Sp} {dvs d2 : List V} {E E2 : XK} {Q : VK} (h : tCall sp2 d2 E2 ta' σ H (fun x H1 => tr σ H1 fun xs H2 => sp ((x :: xs) ++ dvs) H2 Q E)) : tCall sp dvs E (tCons (tCall sp2 d2 E2 ta') tr) σ H Q := h
theorem t_args {ta' : TA} {vs : List V} {Q : List V → Hp → Prop} (h : EvA ta' σ H vs) (hs : ∀ H1, Ex H H1 → Q vs H1) : ta' σ H Q := h H (Ex.refl H) _ hs
theorem et_yes : EvT tYes σ H true := fun H1 _ Q q => q H1 (Ex.refl H1)
/-- return (x, o, xs): a new tuple with a new list at its end -/
theorem s_retUL {D : Ends} {xs : List V} {t1 t2 : TE} {v1 v2 : V} (h1 : Ev t1 σ H v1) (h2 : Ev t2 σ H v2) (hl : EvL te σ H xs) (k : ∀ (p l : Addr) H1, H p = none → H l = none → Ex H H1 → H1 p = some (.tup [v1, v2, .ref l]) → H1 l = some (.lst xs) → D.rt (.ref p) H1) : tRet (tTup (tCons t1 (tCons t2 (tCons te tNil)))) D σ H :=
  h1 H (Ex.refl H) _ fun H1 e1 => h2 H1 e1 _ fun H2 e2 => hl H2 (e1.trans e2) _ fun l H3 hl e3 h3 => ⟨(by show (3 : Nat) ≤ sizeLine; decide), fun p hp =>
    k p l _ (fresh_back ((e1.trans e2).trans e3) hp) (fresh_back (e1.trans e2) hl) (((e1.trans e2).trans e3).trans (Ex.new hp)) upd_same ((Ex.new hp) l _ h3)⟩
theorem s_retUF {D : Ends} {t : Fo} {t1 t2 : TE} {v1 v2 : V} (h1 : Ev t1 σ H v1) (h2 : Ev t2 σ H v2) (hl : EvF te σ H t) (k : ∀ (p l : Addr) ws H1, H p = none → H l = none → Ex H H1 → H1 p = some (.tup [v1, v2, .ref l]) → H1 l = some (.lst ws) → FoAt H H1 ws t → D.rt (.ref p) H1) : tRet (tTup (tCons t1 (tCons t2 (tCons te tNil)))) D σ H :=
  h1 H (Ex.refl H) _ fun H1 e1 => h2 H1 e1 _ fun H2 e2 => hl H2 (e1.trans e2) _ fun l ws H3 B hl e3 h3 eB hB hF => ⟨(by show (3 : Nat) ≤ sizeLine; decide), fun p hp =>
    k p l ws _ (fresh_back ((e1.trans e2).trans e3) hp) (fresh_back (e1.trans e2) hl) (((e1.trans e2).trans e3).trans (Ex.new hp)) upd_same ((Ex.new hp) l _ h3) ((hF.ex (Ex.new hp)).base ((e1.trans e2).trans eB))⟩
theorem s_retF {D : Ends} {t : Fo} (h : EvF te σ H t) (k : ∀ p ws H1 B, H p = none → Ex H H1 → H1 p = some (.lst ws) → Ex H B → B p ≠ none → FoAt B H1 ws t → D.rt (.ref p) H1) : tRet te D σ H := h H (Ex.refl H) _ k
theorem s_asgF {D : Ends} {t : Fo} {i : Nat} (h : EvF te σ H t) (k : ∀ p ws H1 B, H p = none → Ex H H1 → H1 p = some (.lst ws) → Ex H B → B p ≠ none → FoAt B H1 ws t → D.nx (σ.set i (some (.ref p))) H1) : tAsg te (gName i) D σ H := h H (Ex.refl H) _ k
/-- xs.append(e), whatever e is -/
theorem s_appX {D : Ends} {l : Addr} {xs : List V} (hl : H l = some (.lst xs)) (ha : Ev ta σ H (.ref l)) (h : ∀ H1, Ex H H1 → ∀ Q : VK, (∀ v H2, Ex H1 H2 → Q v H2) → te σ H1 Q) (hz : xs.length < 100000) (k : ∀ v H1, Ex H H1 → D.nx σ (upd H1 l (.lst (xs ++ [v])))) :
    tDrop (tBM K "list" rAppend ta (tCons te tNil)) D σ H := ha H (Ex.refl H) _ fun H1 e1 =>
  ⟨Or.inl ⟨rfl, xs, sq_of (e1 l _ hl)⟩, h H1 e1 _ fun v H2 e2 => ⟨l, xs, v, rfl, rfl, e2 l _ (e1 l _ hl), sz_lt hz, k v H2 (e1.trans e2)⟩⟩
/-- (0, None, []) -/
theorem any_tup3 {t1 t2 : TE} {v1 v2 : V} {xs : List V} (h1 : Ev t1 σ H v1) (h2 : Ev t2 σ H v2) (h3 : EvL te σ H xs) : ∀ H1, Ex H H1 → ∀ Q : VK, (∀ v H2, Ex H1 H2 → Q v H2) → tTup (tCons t1 (tCons t2 (tCons te tNil))) σ H1 Q := fun H1 e Q q =>
  h1 H1 e _ fun H2 e2 => h2 H2 (e.trans e2) _ fun H3 e3 => h3 H3 ((e.trans e2).trans e3) _ fun l H4 hl e4 h4 => ⟨(by show (3 : Nat) ≤ sizeLine; decide), fun p hp => q _ _ (((e2.trans e3).trans e4).trans (Ex.new hp))⟩
/-- xs.clear() -/
theorem s_clear {D : Ends} {l : Addr} {xs : List V} (hl : H l = some (.lst xs)) (ha : Ev ta σ H (.ref l)) (k : ∀ H1, Ex H H1 → D.nx σ (upd H1 l (.lst []))) : tDrop (tBM0 K "list" rClear ta) D σ H := ha H (Ex.refl H) _ fun H1 e1 =>
  ⟨Or.inl ⟨rfl, xs, sq_of (e1 l _ hl)⟩, l, xs, rfl, rfl, e1 l _ hl, k H1 e1⟩
end
/-- a promise that nobody can ask for -/
theorem Df.none {P : Program} {w : World} {K : PySem.W.Frag} {mg : Str → Option Value} {base : Heap} {CX : CXT} {x : Str} {st : Stmt} {ps : List Str} {k : Nat} {sp : Sp} (D : Df K mg x st) (hb : BindOk x st ps) (no : ∀ vs H Q E, ¬ sp vs H Q E) : Has P w K mg base CX k x ps sp := by
  obtain ⟨f, fd, F, g⟩ := D.ex
  exact ⟨f, fd, ⟨fun vs H Q E h => absurd h (no vs H Q E), fun A outer s H args us vs Q E _ _ _ _ h => absurd h (no vs H Q E)⟩, g, F.kp, F.bindsN hb, F.look⟩
end Rg

set_option Elab.async false
set_option linter.all false
set_option maxRecDepth 100000
set_option maxHeartbeats 1000000
/-! Rg, part N: the roads that the trials find are all roads with these distances. -/
namespace Rg
/-! ### without, as what is left of a heap of numbers -/
theorem wo_perm : ∀ (ds left : List Int), (wo left ds).2 = none → left.Perm (ds ++ (wo left ds).1)
  | [], left, _ => .refl _
  | d :: ds, left, h => by
    by_cases c : d ∈ left
    · rw [wo_in c] at h ⊢
      exact (List.perm_cons_erase c).trans ((wo_perm ds _ h).cons d)
    · rw [wo_out c] at h
      cases h
theorem wo_sub : ∀ (ds left rest : List Int), left.Perm (ds ++ rest) → (wo left ds).2 = none
  | [], _, _, _ => rfl
  | d :: ds, left, rest, h => by
    have c : d ∈ left := h.mem_iff.mpr List.mem_cons_self
    rw [wo_in c]
    exact wo_sub ds _ rest ((List.cons_perm_iff_perm_erase.mp h.symm).2.symm)
theorem wo_sl : ∀ (ds left : List Int), (wo left ds).1.Sublist left
  | [], _ => .refl _
  | d :: ds, left => by
    by_cases c : d ∈ left
    · rw [wo_in c]
      exact (wo_sl ds _).trans List.erase_sublist
    · rw [wo_out c]
      exact .refl _
theorem btw_perm_prs (ns : List Int) : (btw ns).Perm (prs ns) := by
  rw [btw_prs]
  exact sortI_perm _
/-! ### distances of two lists side by side -/
def crs (xs ys : List Int) : List Int := xs.flatMap fun x => ys.map fun y => ab (x - y)
theorem prs_app : ∀ xs ys : List Int, (prs (xs ++ ys)).Perm (prs xs ++ (crs xs ys ++ prs ys))
  | [], ys => .refl _
  | x :: xs, ys => by
    have ih := prs_app xs ys
    show (((xs ++ ys).map fun y => ab (x - y)) ++ prs (xs ++ ys)).Perm (((xs.map fun y => ab (x - y)) ++ prs xs) ++ (((ys.map fun y => ab (x - y)) ++ crs xs ys) ++ prs ys))
    rw [List.map_append]
    refine (ih.append_left _).trans ?_
    simp only [List.append_assoc]
    refine List.Perm.append_left _ ?_
    exact List.perm_append_comm_assoc _ _ _
theorem crs_mem {xs ys : List Int} {x y : Int} (hx : x ∈ xs) (hy : y ∈ ys) : ab (x - y) ∈ crs xs ys := List.mem_flatMap.mpr ⟨x, hx, List.mem_map.mpr ⟨y, hy, rfl⟩⟩
theorem crs_of {xs ys : List Int} {d : Int} (h : d ∈ crs xs ys) : ∃ x ∈ xs, ∃ y ∈ ys, d = ab (x - y) := by
  obtain ⟨x, hx, h⟩ := List.mem_flatMap.mp h
  obtain ⟨y, hy, rfl⟩ := List.mem_map.mp h
  exact ⟨x, hx, y, hy, rfl⟩
theorem prs_of : ∀ {xs : List Int} {d : Int}, d ∈ prs xs → ∃ x ∈ xs, ∃ y ∈ xs, d = ab (x - y)
  | [], d, h => by cases h
  | x :: xs, d, h => by
    rcases List.mem_append.mp h with h | h
    · obtain ⟨y, hy, rfl⟩ := List.mem_map.mp h
      exact ⟨x, List.mem_cons_self, y, List.mem_cons_of_mem _ hy, rfl⟩
    · obtain ⟨a, ha, b, hb, e⟩ := prs_of h
      exact ⟨a, List.mem_cons_of_mem _ ha, b, List.mem_cons_of_mem _ hb, e⟩
/-! ### the roads that a forest tells -/
def rf (many : Nat) : Fo → List Int → List (List Int)
  | .nil, _ => []
  | .cons x o s r, places => (if o = none ∧ (places.length + 1) * places.length = 2 * many then [sortI (places ++ [x])] else []) ++ rf many s (places ++ [x]) ++ rf many r places
theorem rf_fo {many : Nat} {f : Int → Option Int × Fo} {places row : List Int} : ∀ {xs : List Int}, row ∈ rf many (fo f xs) places ↔ ∃ x ∈ xs, ((f x).1 = none ∧ (places.length + 1) * places.length = 2 * many ∧ row = sortI (places ++ [x])) ∨ row ∈ rf many (f x).2 (places ++ [x])
  | [] => by simp [fo, rf]
  | x :: xs => by
    rw [fo, rf, List.mem_append, List.mem_append, rf_fo (xs := xs)]
    constructor
    · rintro ((h | h) | ⟨y, hy, h⟩)
      · split at h
        · rename_i c
          exact ⟨x, List.mem_cons_self, .inl ⟨c.1, c.2, List.mem_singleton.mp h⟩⟩
        · cases h
      · exact ⟨x, List.mem_cons_self, .inr h⟩
      · exact ⟨y, List.mem_cons_of_mem _ hy, h⟩
    · rintro ⟨y, hy, h⟩
      rcases List.mem_cons.mp hy with rfl | hy
      · rcases h with ⟨h1, h2, h3⟩ | h
        · left; left
          rw [if_pos ⟨h1, h2⟩, h3]
          exact List.mem_singleton_self _
        · exact .inl (.inr h)
      · exact .inr ⟨y, hy, h⟩
/-- a road with just these distances -/
def Good (gs r : List Int) : Prop := r ≠ [] ∧ gi r 0 = 0 ∧ r.Pairwise (· < ·) ∧ btw r = gs
/-- some places between the ends, none twice -/
structure Spot (gs here : List Int) : Prop where
  nd : here.Nodup
  ge : ∀ x ∈ here, 0 ≤ x ∧ x ≤ topI gs
  z : 0 ∈ here
  t : topI gs ∈ here
theorem Spot.max {gs here : List Int} (S : Spot gs here) : maxD 0 here = topI gs := (maxD_eq S.t fun k hk => (S.ge k hk).2).symm
theorem top_le {gs : List Int} (h : gs.Pairwise (· ≤ ·)) : ∀ d ∈ gs, d ≤ topI gs := fun d hd => by
  obtain ⟨k, hk, rfl⟩ := List.getElem_of_mem hd
  have hl := List.length_pos_of_mem hd
  by_cases c : k = gs.length - 1
  · subst c
    simp [topI, gi, List.getD_eq_getElem?_getD, List.getElem?_eq_getElem hk]
  · have := List.pairwise_iff_getElem.mp h k (gs.length - 1) hk (by omega) (by omega)
    simpa [topI, gi, List.getD_eq_getElem?_getD, List.getElem?_eq_getElem (show gs.length - 1 < gs.length by omega)] using this
theorem left_sl (gs here : List Int) : (leftP gs here).Sublist gs := wo_sl _ _
theorem next_of {gs here : List Int} {x : Int} (hu : gs.Pairwise (· ≤ ·)) (hp : ∀ d ∈ gs, 1 ≤ d) (S : Spot gs here) : x ∈ nextP gs here ↔ leftP gs here ≠ [] ∧ (x = topI (leftP gs here) ∨ x = topI gs - topI (leftP gs here)) ∧ x ∉ here := by
  unfold nextP
  split
  · rename_i h
    simp [h]
  · rename_i h
    rw [List.mem_filter, sortD_mem, S.max]
    simp [h]
theorem Spot.next {gs here : List Int} {x : Int} (hu : gs.Pairwise (· ≤ ·)) (hp : ∀ d ∈ gs, 1 ≤ d) (S : Spot gs here) (h : x ∈ nextP gs here) : Spot gs (here ++ [x]) := by
  obtain ⟨h1, h2, h3⟩ := (next_of hu hp S).mp h
  have hm := (left_sl gs here).subset (topI_mem h1)
  have b1 := hp _ hm
  have b2 := top_le hu _ hm
  refine ⟨List.nodup_append.mpr ⟨S.nd, by simp, fun y hy z hz e => h3 (by rw [List.mem_singleton] at hz; rw [← hz, ← e]; exact hy)⟩, fun y hy => ?_, List.mem_append_left _ S.z, List.mem_append_left _ S.t⟩
  rcases List.mem_append.mp hy with hy | hy
  · exact S.ge y hy
  · rw [List.mem_singleton.mp hy]
    omega
theorem sort_up {ns : List Int} (h : ns.Nodup) : (sortI ns).Pairwise (· < ·) := by
  have h1 := sortI_up ns
  have h2 : (sortI ns).Nodup := (sortI_perm ns).nodup_iff.mpr h
  exact (h1.and h2).imp fun ⟨a, b⟩ => by omega
theorem up_first {r : List Int} (h : r.Pairwise (· < ·)) (h0 : 0 ∈ r) (hp : ∀ x ∈ r, 0 ≤ x) : gi r 0 = 0 := by
  cases r with
  | nil => cases h0
  | cons y ys =>
    show y = 0
    have := hp y List.mem_cons_self
    rcases List.mem_cons.mp h0 with e | e
    · exact e.symm
    · have := (List.pairwise_cons.mp h).1 0 e
      omega
theorem Spot.good {gs here : List Int} (hu : gs.Pairwise (· ≤ ·)) (S : Spot gs here) (h : lackP gs here = none) (hm : here.length * (here.length - 1) = 2 * gs.length) : Good gs (sortI here) := by
  have hz : here ≠ [] := List.ne_nil_of_mem S.z
  have hpos := List.length_pos_iff.mpr hz
  have hw := wo_full _ _ h
  have hl := btw_len2 here
  have e0 : here.length * here.length = here.length * (here.length - 1) + here.length := by
    obtain ⟨k, hk⟩ : ∃ k, here.length = k + 1 := ⟨here.length - 1, by omega⟩
    rw [hk, Nat.add_sub_cancel, Nat.mul_succ]
  have hl0 : (leftP gs here).length = 0 := by
    unfold leftP
    omega
  have hl1 : leftP gs here = [] := List.eq_nil_of_length_eq_zero hl0
  have hperm := wo_perm _ _ h
  have hl1' : (wo gs (btw here)).1 = [] := hl1
  rw [hl1', List.append_nil] at hperm
  refine ⟨fun z => hz (List.eq_nil_of_length_eq_zero (by rw [← sortI_len, z]; rfl)), up_first (sort_up S.nd) ((sortI_perm here).mem_iff.mpr S.z) (fun x hx => (S.ge x ((sortI_perm here).mem_iff.mp hx)).1), sort_up S.nd, ?_⟩
  rw [btw_perm (sortI_perm here)]
  exact (up_unique hperm hu (btw_up here)).symm
/-- what is told fits -/
theorem rf_good {gs : List Int} (hu : gs.Pairwise (· ≤ ·)) (hp : ∀ d ∈ gs, 1 ≤ d) : ∀ (n : Nat) {here row : List Int}, Spot gs here → row ∈ rf gs.length (subs gs n here) here → Good gs row
  | 0, _, _, _, h => by cases h
  | n + 1, here, row, S, h => by
    by_cases c : lackP gs here = none
    · rw [subs_on c, rf_fo] at h
      obtain ⟨x, hx, h⟩ := h
      have S2 := S.next hu hp hx
      rcases h with ⟨h1, h2, rfl⟩ | h
      · refine S2.good hu h1 ?_
        rw [List.length_append]
        exact h2
      · exact rf_good hu hp n S2 h
    · rw [subs_lack c] at h
      cases h
theorem Good.le {gs r : List Int} (h : Good gs r) : ∀ x ∈ r, 0 ≤ x := by
  obtain ⟨h1, h2, h3, _⟩ := h
  cases r with
  | nil => exact absurd rfl h1
  | cons y ys =>
    have h2 : y = 0 := h2
    intro x hx
    rcases List.mem_cons.mp hx with rfl | hx
    · omega
    · have := (List.pairwise_cons.mp h3).1 x hx
      omega
theorem ab_le {x y L : Int} (h1 : 0 ≤ x ∧ x ≤ L) (h2 : 0 ≤ y ∧ y ≤ L) : ab (x - y) ≤ max x (L - x) := by
  unfold ab
  split <;> omega
/-- the places of r that are not yet here -/
theorem split_r {here r : List Int} (hn : here.Nodup) (hr : r.Nodup) (hs : ∀ x ∈ here, x ∈ r) : r.Perm (here ++ r.filter fun x => !decide (x ∈ here)) := by
  refine perm_mem hr (List.nodup_append.mpr ⟨hn, hr.filter _, fun x hx y hy e => ?_⟩) fun z => ?_
  · have := (List.mem_filter.mp hy).2
    simp at this
    exact this (e ▸ hx)
  · rw [List.mem_append, List.mem_filter]
    by_cases c : z ∈ here
    · simp [c, hs z c]
    · simp [c]
theorem good_top {gs r : List Int} (hg : Good gs r) (h : 2 ≤ r.length) : topI gs ∈ r ∧ ∀ x ∈ r, x ≤ topI gs := by
  obtain ⟨h1, h2, h3, h4⟩ := hg
  have hge := Good.le ⟨h1, h2, h3, h4⟩
  have hup : gs.Pairwise (· ≤ ·) := h4 ▸ btw_up r
  have hlast : ∀ x ∈ r, x ≤ gi r (r.length - 1) := fun x hx => top_le (h3.imp fun h => by omega) x hx
  have hm : gi r (r.length - 1) ∈ r := gi_mem (by omega)
  have hperm := btw_perm_prs r
  rw [h4] at hperm
  have e : topI gs = gi r (r.length - 1) := by
    refine Int.le_antisymm ?_ ?_
    · have hne : gs ≠ [] := fun z => by
        have := btw_len2 r
        rw [h4, z] at this
        have hh := Nat.mul_le_mul h (Nat.le_refl r.length)
        simp at this
        omega
      obtain ⟨x, hx, y, hy, e⟩ := prs_of (hperm.mem_iff.mp (topI_mem hne))
      have a1 := hge x hx
      have a2 := hge y hy
      have a3 := hlast x hx
      have a4 := hlast y hy
      rw [e]
      unfold ab
      split <;> omega
    · refine top_le hup _ (hperm.mem_iff.mpr ?_)
      cases r with
      | nil => exact absurd rfl h1
      | cons y ys =>
        have h2 : y = 0 := h2
        subst h2
        refine List.mem_append_left _ (List.mem_map.mpr ⟨gi (0 :: ys) ((0 :: ys).length - 1), ?_, ?_⟩)
        · have hk : ys.length - 1 < ys.length := by
            simp at h
            omega
          have : gi (0 :: ys) ((0 :: ys).length - 1) = gi ys (ys.length - 1) := by
            obtain ⟨k, hk⟩ : ∃ k, ys.length = k + 1 := ⟨ys.length - 1, by omega⟩
            rw [List.length_cons, Nat.add_sub_cancel, hk]
            rfl
          rw [this]
          exact gi_mem hk
        · have := hge _ hm
          unfold ab
          split <;> omega
  exact ⟨e ▸ hm, fun x hx => e ▸ hlast x hx⟩
/-- every road is told -/
theorem good_rf {gs r : List Int} (hp : ∀ d ∈ gs, 1 ≤ d) (hg : Good gs r) (h2 : 2 ≤ r.length) : ∀ (n : Nat) {here : List Int}, Spot gs here → (∀ x ∈ here, x ∈ r) → here.length < r.length → r.length ≤ here.length + n → r ∈ rf gs.length (subs gs n here) here
  | 0, here, S, hs, hl, hn => by omega
  | n + 1, here, S, hs, hl, hn => by
    have hu : gs.Pairwise (· ≤ ·) := hg.2.2.2 ▸ btw_up r
    have hrn := up_nodup hg.2.2.1
    obtain ⟨ht, hle⟩ := good_top hg h2
    have hge := hg.le
    have hsp := split_r S.nd hrn hs
    generalize hrest : (r.filter fun x => !decide (x ∈ here)) = rest at hsp
    have hrm : ∀ x ∈ rest, x ∈ r ∧ x ∉ here := fun x hx => by
      rw [← hrest, List.mem_filter] at hx
      simpa using hx
    have hne : rest ≠ [] := fun z => by
      have := hsp.length_eq
      rw [z, List.append_nil] at this
      omega
    -- the distances that are left
    have hgs : gs.Perm (btw here ++ (crs here rest ++ prs rest)) := by
      have h1 := btw_perm_prs r
      rw [hg.2.2.2] at h1
      exact (h1.trans ((prs_perm hsp).trans (prs_app here rest))).trans ((btw_perm_prs here).symm.append_right _)
    have hlack : lackP gs here = none := wo_sub _ _ _ hgs
    have hleft : (leftP gs here).Perm (crs here rest ++ prs rest) := (List.perm_append_left_iff _).mp ((wo_perm _ _ hlack).symm.trans hgs)
    have hln : leftP gs here ≠ [] := fun z => by
      rw [z] at hleft
      have hx := hleft.symm.eq_nil
      obtain ⟨a, rest', rfl⟩ := List.exists_cons_of_ne_nil hne
      have hm : ab (0 - a) ∈ crs here (a :: rest') := crs_mem S.z List.mem_cons_self
      rw [(List.append_eq_nil_iff.mp hx).1] at hm
      cases hm
    have hlu : (leftP gs here).Pairwise (· ≤ ·) := hu.sublist (left_sl gs here)
    have htop := topI_mem hln
    have hmax := top_le hlu
    generalize hd : topI (leftP gs here) = d at htop hmax
    -- the greatest one is from a place that is wanted to one of the ends
    have hfar : ∀ a ∈ rest, max a (topI gs - a) ≤ d := fun a ha => by
      have ha2 := hrm a ha
      have h1 := hge a ha2.1
      have h2 := hle a ha2.1
      have m1 := hmax _ (hleft.mem_iff.mpr (List.mem_append_left _ (crs_mem S.z ha)))
      have m2 := hmax _ (hleft.mem_iff.mpr (List.mem_append_left _ (crs_mem S.t ha)))
      have e1 : ab (0 - a) = a := by
        unfold ab
        split <;> omega
      have e2 : ab (topI gs - a) = topI gs - a := by
        unfold ab
        split <;> omega
      rw [e1] at m1
      rw [e2] at m2
      omega
    have hex : ∃ a ∈ rest, d = max a (topI gs - a) := by
      rcases List.mem_append.mp (hleft.mem_iff.mp htop) with h | h
      · obtain ⟨x, hx, y, hy, e⟩ := crs_of h
        have hy2 := hrm y hy
        have := ab_le (L := topI gs) ⟨hge y hy2.1, hle y hy2.1⟩ (S.ge x hx)
        rw [ab_swap] at this
        have := hfar y hy
        exact ⟨y, hy, by omega⟩
      · obtain ⟨x, hx, y, hy, e⟩ := prs_of h
        have hx2 := hrm x hx
        have hy2 := hrm y hy
        have := ab_le (L := topI gs) ⟨hge x hx2.1, hle x hx2.1⟩ ⟨hge y hy2.1, hle y hy2.1⟩
        have := hfar x hx
        exact ⟨x, hx, by omega⟩
    obtain ⟨a, ha, hda⟩ := hex
    have ha2 := hrm a ha
    have hnext : a ∈ nextP gs here := by
      refine (next_of hu hp S).mpr ⟨hln, ?_, ha2.2⟩
      rw [hd]
      omega
    have S2 := S.next hu hp hnext
    have hs2 : ∀ x ∈ here ++ [a], x ∈ r := fun x hx => by
      rcases List.mem_append.mp hx with hx | hx
      · exact hs x hx
      · rw [List.mem_singleton.mp hx]
        exact ha2.1
    rw [subs_on hlack, rf_fo]
    refine ⟨a, hnext, ?_⟩
    have hlen : (here ++ [a]).length = here.length + 1 := by rw [List.length_append]; rfl
    by_cases c : here.length + 1 = r.length
    · left
      have hsp2 := split_r S2.nd hrn hs2
      have h0 : (r.filter fun x => !decide (x ∈ here ++ [a])) = [] := by
        have := hsp2.length_eq
        rw [List.length_append] at this
        exact List.eq_nil_of_length_eq_zero (by omega)
      rw [h0, List.append_nil] at hsp2
      refine ⟨?_, ?_, up_unique (hsp2.trans (sortI_perm _).symm) (hg.2.2.1.imp fun h => by omega) (sortI_up _)⟩
      · refine wo_sub _ _ [] ?_
        rw [List.append_nil, ← btw_perm hsp2, hg.2.2.2]
      · have := btw_len2 r
        rw [hg.2.2.2, ← c, Nat.add_mul, Nat.mul_add, Nat.one_mul, Nat.mul_one] at this
        rw [Nat.add_mul, Nat.one_mul]
        omega
    · exact .inr (good_rf hp hg h2 n S2 hs2 (by omega) (by omega))
theorem ends_spot {gs : List Int} (h : gs ≠ []) (hp : ∀ d ∈ gs, 1 ≤ d) : Spot gs (ends gs) := by
  have := hp _ (topI_mem h)
  refine ⟨ends_nodup h hp, fun x hx => ?_, by simp [ends], by simp [ends]⟩
  simp [ends] at hx
  omega
theorem trialsF_subs {gs : List Int} (h : gs ≠ []) (hp : ∀ d ∈ gs, 1 ≤ d) : trialsF gs = subs gs 5 (ends gs) := by
  rw [trialsF, if_neg h, subs_on (ends_lack h hp)]
theorem good_len {gs r : List Int} (h : Good gs r) : r.length * r.length = 2 * gs.length + r.length := by
  have := btw_len2 r
  rw [h.2.2.2] at this
  omega
/-- what the search finds: with two distances or more -/
theorem found_iff {gs r : List Int} (hu : gs.Pairwise (· ≤ ·)) (hp : ∀ d ∈ gs, 1 ≤ d) (h2 : 2 ≤ gs.length) (h21 : gs.length ≤ 21) : r ∈ rf gs.length (trialsF gs) (ends gs) ↔ Good gs r := by
  have hne : gs ≠ [] := fun z => by
    rw [z] at h2
    simp at h2
  rw [trialsF_subs hne hp]
  refine ⟨rf_good hu hp 5 (ends_spot hne hp), fun h => ?_⟩
  have hl := good_len h
  have h7 : r.length ≤ 7 := Nat.le_of_not_lt fun c => by
    have := Nat.mul_le_mul (show 8 ≤ r.length from c) (Nat.le_refl r.length)
    omega
  have h3 : 3 ≤ r.length := Nat.le_of_not_lt fun c => by
    have := Nat.mul_le_mul (show r.length ≤ 2 by omega) (Nat.le_refl r.length)
    omega
  obtain ⟨ht, hle⟩ := good_top h (by omega)
  refine good_rf hp h (by omega) 5 (ends_spot hne hp) (fun x hx => ?_) (by show 2 < _; omega) (by show _ ≤ 2 + 5; omega)
  simp [ends] at hx
  rcases hx with rfl | rfl
  · have := gi_mem (ns := r) (k := 0) (by omega)
    rw [h.2.1] at this
    exact this
  · exact ht
end Rg

set_option Elab.async false
set_option linter.all false
set_option maxRecDepth 100000
set_option maxHeartbeats 1000000
/-! Rg, part L: lists of lists of ints: sorted, none twice; the rule for sorted(). -/
namespace Rg
theorem ll_total (a b : List Int) : a ≤ b ∨ b ≤ a := List.le_total a b
theorem ll_anti {a b : List Int} (h1 : a ≤ b) (h2 : b ≤ a) : a = b := List.le_antisymm h1 h2
theorem ll_trans {a b c : List Int} (h1 : a ≤ b) (h2 : b ≤ c) : a ≤ c := List.le_trans h1 h2
theorem ll_lt {a b : List Int} : a < b ↔ a ≤ b ∧ a ≠ b := by
  constructor
  · intro h
    exact ⟨List.le_of_lt h, fun e => by rw [e] at h; exact List.lt_irrefl b h⟩
  · rintro ⟨h1, h2⟩
    exact Classical.byContradiction fun c => h2 (ll_anti h1 (List.not_lt.mp c))
def sortL (ls : List (List Int)) : List (List Int) := ls.mergeSort fun a b => decide (a ≤ b)
theorem sortL_perm (ls : List (List Int)) : (sortL ls).Perm ls := List.mergeSort_perm ls _
theorem sortL_up (ls : List (List Int)) : (sortL ls).Pairwise (· ≤ ·) := by
  have h := List.pairwise_mergeSort (le := fun a b : List Int => decide (a ≤ b)) (fun a b c h1 h2 => by simp only [decide_eq_true_eq] at *; exact ll_trans h1 h2) (fun a b => by simp only [Bool.or_eq_true, decide_eq_true_eq]; exact ll_total a b) ls
  exact h.imp fun h => by simpa using h
theorem upL_unique {a b : List (List Int)} (h : a.Perm b) (ha : a.Pairwise (· ≤ ·)) (hb : b.Pairwise (· ≤ ·)) : a = b :=
  h.eq_of_pairwise (le := (· ≤ ·)) (fun x y _ _ h1 h2 => ll_anti h1 h2) ha hb
theorem sortL_eq {a ns : List (List Int)} (h : a.Perm ns) (ha : a.Pairwise (· ≤ ·)) : a = sortL ns := upL_unique (h.trans (sortL_perm ns).symm) ha (sortL_up ns)
theorem sortL_id {ls : List (List Int)} (h : ls.Pairwise (· ≤ ·)) : sortL ls = ls := (sortL_eq (.refl _) h).symm
theorem upL_nodup {ls : List (List Int)} (h : ls.Pairwise (· < ·)) : ls.Nodup := h.imp fun h => (ll_lt.mp h).2
theorem upL_le {ls : List (List Int)} (h : ls.Pairwise (· < ·)) : ls.Pairwise (· ≤ ·) := h.imp fun h => (ll_lt.mp h).1
/-- two rising lists of the same rows are one -/
theorem upL_same {a b : List (List Int)} (ha : a.Pairwise (· < ·)) (hb : b.Pairwise (· < ·)) (h : ∀ z, z ∈ a ↔ z ∈ b) : a = b :=
  upL_unique ((List.perm_ext_iff_of_nodup (upL_nodup ha) (upL_nodup hb)).mpr h) (upL_le ha) (upL_le hb)
/-! ### of a sorted list, each row once -/
def newAt (S : List (List Int)) (k : Nat) : Bool := !decide (S.getD k [] ∈ S.take k)
def once (S : List (List Int)) (k : Nat) : List (List Int) := ((List.range k).filter (newAt S)).map fun k => S.getD k []
theorem once_step (S : List (List Int)) (k : Nat) : once S (k + 1) = once S k ++ if newAt S k then [S.getD k []] else [] := by
  unfold once
  rw [List.range_succ, List.filter_append, List.map_append]
  congr 1
  cases h : newAt S k <;> simp [h]
theorem once_mem {S : List (List Int)} {z : List Int} : ∀ {k : Nat}, k ≤ S.length → (z ∈ once S k ↔ z ∈ S.take k)
  | 0, _ => by simp [once]
  | k + 1, h => by
    have hk : S[k]? = some (S.getD k []) := by simp [List.getD_eq_getElem?_getD, List.getElem?_eq_getElem (show k < S.length by omega)]
    rw [once_step, List.mem_append, once_mem (by omega), take_more hk, List.mem_append]
    cases c : newAt S k with
    | true => simp
    | false =>
      have c : S.getD k [] ∈ S.take k := by simpa [newAt] using c
      simp only [Bool.false_eq_true, if_false, List.not_mem_nil, or_false, List.mem_singleton]
      exact ⟨.inl, fun h => h.elim id fun e => e ▸ c⟩
theorem once_up {S : List (List Int)} (hS : S.Pairwise (· ≤ ·)) : ∀ {k : Nat}, k ≤ S.length → (once S k).Pairwise (· < ·)
  | 0, _ => .nil
  | k + 1, h => by
    rw [once_step]
    cases c : newAt S k with
    | false =>
      rw [if_neg Bool.false_ne_true, List.append_nil]
      exact once_up hS (by omega)
    | true =>
      rw [if_pos rfl]
      refine List.pairwise_append.mpr ⟨once_up hS (by omega), List.pairwise_singleton _ _, fun x hx y hy => ?_⟩
      rw [List.mem_singleton.mp hy]
      have hx := (once_mem (by omega)).mp hx
      have c : S.getD k [] ∉ S.take k := by simpa [newAt] using c
      refine ll_lt.mpr ⟨?_, fun e => c (e ▸ hx)⟩
      obtain ⟨j, hj, rfl⟩ := List.getElem_of_mem hx
      rw [List.length_take] at hj
      have := List.pairwise_iff_getElem.mp hS j k (by omega) (by omega) (by omega)
      simpa [List.getD_eq_getElem?_getD, List.getElem?_eq_getElem (show k < S.length by omega)] using this
/-- all roads with these distances, in order -/
def roadsF (gs : List Int) : List (List Int) := if gs = [] then [[0]] else if gs.length = 1 then [[0, gi gs 0]] else
  let S := sortL (rf gs.length (trialsF gs) (ends gs))
  once S S.length
theorem roadsF_up (gs : List Int) : (roadsF gs).Pairwise (· < ·) := by
  unfold roadsF
  split
  · exact List.pairwise_singleton _ _
  · split
    · exact List.pairwise_singleton _ _
    · exact once_up (sortL_up _) (Nat.le_refl _)
theorem roadsF_iff {gs r : List Int} (hu : gs.Pairwise (· ≤ ·)) (hp : ∀ d ∈ gs, 1 ≤ d) (h21 : gs.length ≤ 21) : r ∈ roadsF gs ↔ Good gs r := by
  unfold roadsF
  split
  · rename_i h
    subst h
    constructor
    · intro h
      rw [List.mem_singleton.mp h]
      exact ⟨by simp, rfl, List.pairwise_singleton _ _, by simp [btw, allD, rowD, sortI]⟩
    · intro h
      have hl := good_len h
      obtain ⟨h1, h2, _⟩ := h
      match r, h1, h2, hl with
      | [x], _, h2, _ =>
        have h2 : x = 0 := h2
        rw [h2]
        exact List.mem_singleton_self _
      | x :: y :: t, _, _, hl =>
        simp [Nat.add_mul, Nat.mul_add] at hl
  · rename_i hne
    split
    · rename_i h1
      match gs, h1, hp with
      | [d], _, hp =>
        have hd := hp d List.mem_cons_self
        show r ∈ [[0, d]] ↔ _
        rw [List.mem_singleton]
        constructor
        · rintro rfl
          refine ⟨by simp, rfl, ?_, btw_two d (by omega)⟩
          simp
          omega
        · intro h
          have hl := good_len h
          obtain ⟨h1, h2, h3, h4⟩ := h
          match r, h1, h2, h3, h4, hl with
          | [x], _, h2, _, _, hl => simp at hl
          | [x, y], _, h2, h3, h4, _ =>
            have h2 : x = 0 := h2
            subst h2
            have h3 : 0 < y := by simpa using h3
            rw [btw_two y (by omega)] at h4
            rw [h4]
          | x :: y :: z :: t, _, _, _, _, hl =>
            simp [Nat.add_mul, Nat.mul_add] at hl
            omega
    · rename_i h1
      have h2 : 2 ≤ gs.length := by
        have := List.length_pos_iff.mpr hne
        omega
      show r ∈ once _ _ ↔ _
      rw [once_mem (Nat.le_refl _), List.take_length, (sortL_perm _).mem_iff]
      exact found_iff hu hp h2 h21
/-! ### how many there are at most -/
theorem rf_fo_len {many m : Nat} {f : Int → Option Int × Fo} {places : List Int} : ∀ {xs : List Int}, (∀ x ∈ xs, (rf many (f x).2 (places ++ [x])).length ≤ m) → (rf many (fo f xs) places).length ≤ xs.length * (m + 1)
  | [], _ => Nat.zero_le _
  | x :: xs, h => by
    have h1 := h x List.mem_cons_self
    have h2 := rf_fo_len (xs := xs) fun y hy => h y (List.mem_cons_of_mem _ hy)
    rw [fo, rf, List.length_append, List.length_append, List.length_cons, Nat.succ_mul xs.length]
    have : (if (f x).1 = none ∧ (places.length + 1) * places.length = 2 * many then [sortI (places ++ [x])] else []).length ≤ 1 := by
      split <;> simp
    have h5 : ∀ u : List (List Int), u.length ≤ 1 → u.length + (rf many (f x).2 (places ++ [x])).length + (rf many (fo f xs) places).length ≤ xs.length * (m + 1) + (m + 1) := fun u hu => by omega
    exact h5 _ this
theorem rf_len (many : Nat) (gs : List Int) : ∀ (n : Nat) (here : List Int), (rf many (subs gs n here) here).length + 2 ≤ 2 ^ (n + 1)
  | 0, _ => Nat.le_refl _
  | n + 1, here => by
    by_cases c : lackP gs here = none
    · rw [subs_on c]
      have h1 := rf_fo_len (many := many) (f := trF gs n here) (places := here) (xs := nextP gs here) (m := 2 ^ (n + 1) - 2) fun x _ => by
        have := rf_len many gs n (here ++ [x])
        show (rf many (subs gs n (here ++ [x])) (here ++ [x])).length ≤ _
        omega
      have h2 := Nat.mul_le_mul (nextP_len gs here) (Nat.le_refl (2 ^ (n + 1) - 2 + 1))
      have h3 : 2 ≤ 2 ^ (n + 1) := by
        rw [Nat.pow_succ]
        have := Nat.one_le_two_pow (n := n)
        omega
      have h4 : 2 ^ (n + 1 + 1) = 2 * 2 ^ (n + 1) := by rw [Nat.pow_succ, Nat.mul_comm]
      omega
    · rw [subs_lack c]
      have : 2 ≤ 2 ^ (n + 1 + 1) := by
        rw [Nat.pow_succ]
        have := Nat.one_le_two_pow (n := n + 1)
        omega
      simpa [rf] using this
theorem rf_trials_len {gs : List Int} (h : gs ≠ []) (hp : ∀ d ∈ gs, 1 ≤ d) : (rf gs.length (trialsF gs) (ends gs)).length ≤ 62 := by
  rw [trialsF_subs h hp]
  have := rf_len gs.length gs 5 (ends gs)
  omega
theorem once_len (S : List (List Int)) : (once S S.length).length ≤ S.length := by
  unfold once
  rw [List.length_map]
  have := List.length_filter_le (newAt S) (List.range S.length)
  rw [List.length_range] at this
  exact this
theorem roadsF_len {gs : List Int} (hp : ∀ d ∈ gs, 1 ≤ d) : (roadsF gs).length ≤ 100 := by
  unfold roadsF
  split
  · decide
  · split
    · show (1 : Nat) ≤ 100
      decide
    · rename_i h0 _
      have h1 := once_len (sortL (rf gs.length (trialsF gs) (ends gs)))
      have h2 := rf_trials_len h0 hp
      rw [(sortL_perm _).length_eq] at h1
      show (once _ _).length ≤ 100
      rw [(sortL_perm _).length_eq]
      omega
end Rg

set_option Elab.async false
set_option linter.all false
set_option maxRecDepth 100000
set_option maxHeartbeats 1000000
/-! Rg, part LL: lists of lists of ints in the heap; sorted() of them. -/
namespace Rg
open PySem PySem.Spec PyProof.Rows L2 Evl
theorem hD1_of {k : Nat} {A : Around} (hr : Room k A) : A.units + 65 < cLine := by have := hr.un; omega
section
variable {K : PySem.W.Frag} {H H' : Hp}
theorem ILs.len {vs : List V} {ls : List (List Int)} (h : ILs H vs ls) : vs.length = ls.length := by
  induction h with
  | nil => rfl
  | cons _ _ ih => exact congrArg Nat.succ ih
theorem ILs.at {vs : List V} {ls : List (List Int)} (h : ILs H vs ls) : ∀ {k : Nat} {v : V}, vs[k]? = some v → ∃ a ns, v = .ref a ∧ ls[k]? = some ns ∧ IL H a ns := by
  induction h with
  | nil => exact fun h => by cases h
  | @cons a ns vs ls h1 _ ih =>
    intro k v hk
    cases k with
    | zero => exact ⟨a, ns, (Option.some.inj hk).symm, rfl, h1⟩
    | succ k => exact ih hk
theorem ILs.zip {vs : List V} {ls : List (List Int)} (h : ILs H vs ls) : ∀ b ∈ vs.zip ls, ∃ a, b.1 = .ref a ∧ IL H a b.2 := by
  induction h with
  | nil => exact fun b h => by cases h
  | @cons a ns vs ls h1 _ ih =>
    intro b hb
    rcases List.mem_cons.mp hb with rfl | hb
    · exact ⟨a, rfl, h1⟩
    · exact ih b hb
theorem ILs.of_pairs : ∀ {bs : List (V × List Int)}, (∀ b ∈ bs, ∃ a, b.1 = .ref a ∧ IL H a b.2) → ILs H (bs.map (·.1)) (bs.map (·.2))
  | [], _ => .nil
  | b :: bs, h => by
    obtain ⟨a, e, h1⟩ := h b List.mem_cons_self
    show ILs H (b.1 :: _) _
    rw [e]
    exact .cons h1 (ILs.of_pairs fun c hc => h c (List.mem_cons_of_mem _ hc))
/-- sorted(xs) of lists of ints -/
def rSortedL (K : PySem.W.Frag) : List V → Hp → VK → Prop := fun xs H Q => ∃ (a : Addr) (vs : List V) (ls : List (List Int)), xs = [.ref a] ∧ SqL K H a vs ∧ ILs H vs ls ∧
  ∀ (us : List V) (p : Addr), (∀ u ∈ us, u ∈ vs) → ILs H us (sortL ls) → H p = none → Q (.ref p) (upd H p (.lst us))
end
theorem each_rel {vs : List V} {its : List Value} {ls : List (List Int)} (r : Vals vs its) (hl : vs.length = ls.length) : PySem.W.EachIs (fun (u : Value) (b : V × List Int) => RelV b.1 u) its (vs.zip ls) := by
  induction r generalizing ls with
  | nil => exact .nil
  | cons h _ ih =>
    cases ls with
    | nil => cases hl
    | cons n ls => exact .cons h (ih (Nat.succ.inj hl))
theorem rel_each {bs : List (V × List Int)} {out : List Value} (h : PySem.W.EachIs (fun (u : Value) (b : V × List Int) => RelV b.1 u) out bs) : Vals (bs.map (·.1)) out := by
  induction h with
  | nil => exact .nil
  | cons h _ ih => exact .cons h ih
theorem each_and {R : Value → V × List Int → Prop} {S : V × List Int → Prop} {its : List Value} {bs : List (V × List Int)} (h : PySem.W.EachIs R its bs) (hs : ∀ b ∈ bs, S b) : PySem.W.EachIs (fun u b => R u b ∧ S b) its bs := by
  induction h with
  | nil => exact .nil
  | cons h _ ih => exact .cons ⟨h, hs _ List.mem_cons_self⟩ (ih fun b hb => hs b (List.mem_cons_of_mem _ hb))
theorem each_imp {R S : Value → V × List Int → Prop} {its : List Value} {bs : List (V × List Int)} (h : PySem.W.EachIs R its bs) (hs : ∀ u b, R u b → S u b) : PySem.W.EachIs S its bs := by
  induction h with
  | nil => exact .nil
  | cons h _ ih => exact .cons (hs _ _ h) ih
theorem map_zip1 : ∀ {vs : List V} {ls : List (List Int)}, vs.length = ls.length → (vs.zip ls).map (·.1) = vs ∧ (vs.zip ls).map (·.2) = ls
  | [], [], _ => ⟨rfl, rfl⟩
  | v :: vs, l :: ls, h => by
    obtain ⟨h1, h2⟩ := map_zip1 (vs := vs) (ls := ls) (Nat.succ.inj h)
    exact ⟨congrArg (v :: ·) h1, congrArg (l :: ·) h2⟩
theorem cr_sortedL {X : Cx} (hu : X.A.units + 65 < cLine) : CallR X (.builtin "sorted") (rSortedL X.K) := by
  intro pins s σ H xs us Q I r h
  obtain ⟨a, vs, ls, rfl, hs, hl, q⟩ := h
  obtain ⟨its, rv, pl, hz⟩ := I.list hs
  rw [Vals.ref1 r]
  have hlen := hl.len
  obtain ⟨z1, z2⟩ := map_zip1 hlen
  have hzip := hl.zip
  refine PySem.W.sorted_data (β := V × List Int) (bs := vs.zip ls) (enc := fun b => .list (b.2.map .int)) (R := fun u b => RelV b.1 u) pl.isList (each_rel rv hlen) ?_ ?_ ?_ ?_ ?_ fun out ho eo => ?_
  · refine each_imp (each_and (each_rel rv hlen) hzip) fun u b h => ?_
    obtain ⟨h1, a, e, h2⟩ := h
    have hd : Dp X.K H b.1 (dI b.2) := by
      rw [e]
      exact dp_I h2
    exact Dp.reads I _ _ _ hd h1
  · refine PySem.W.AllAlike.of fun b b' => ?_
    show PySem.W.alike (.list _) (.list _) = true
    rw [PySem.W.alike]
    exact PySem.W.alike_ints _ _
  · exact PySem.W.Sortable.others fun b => ⟨(fun z => by cases z), (fun xs z => by cases z)⟩
  · rw [List.length_zip, ← hlen, Nat.min_self]
    exact hz
  · intro b _
    have : (PyData.list (b.2.map .int)).depth ≤ 1 := by
      simp [PyData.depth, PySem.W.depth_ints]
    omega
  · rw [PySem.W.dataLe_rows] at eo
    have hp : ((vs.zip ls).mergeSort fun p q => decide (p.2 ≤ q.2)).Perm (vs.zip ls) := List.mergeSort_perm _ _
    have hup : ((vs.zip ls).mergeSort fun p q => decide (p.2 ≤ q.2)).Pairwise fun p q => p.2 ≤ q.2 := by
      have h := List.pairwise_mergeSort (le := fun p q : V × List Int => decide (p.2 ≤ q.2)) (fun a b c h1 h2 => by simp only [decide_eq_true_eq] at *; exact ll_trans h1 h2) (fun a b => by simp only [Bool.or_eq_true, decide_eq_true_eq]; exact ll_total a.2 b.2) (vs.zip ls)
      exact h.imp fun h => by simpa using h
    generalize ((vs.zip ls).mergeSort fun p q => decide (p.2 ≤ q.2)) = bs at eo hp hup
    have e2 : bs.map (·.2) = sortL ls := by
      refine sortL_eq ?_ (List.pairwise_map.mpr hup)
      have := hp.map (·.2)
      rw [z2] at this
      exact this
    have hv := rel_each eo
    obtain ⟨ep, he'⟩ := PyProof.Rows.sortedAll_at s.heap its out.toArray
    have hb : ∀ b ∈ bs, ∃ a, b.1 = .ref a ∧ IL H a b.2 := fun b hb => hzip b (hp.mem_iff.mp hb)
    have hlen2 : (bs.map (·.1)).length ≤ sizeLine := by
      rw [List.length_map, hp.length_eq, List.length_zip, ← hlen, Nat.min_self]
      exact hz
    have hIL := ILs.of_pairs hb
    rw [e2] at hIL
    refine ⟨.ref _, upd H (s.heap.objs.size + 1) (.lst (bs.map (·.1))), I.laid (t' := s.toks) (fun _ _ => PyProof.Rows.sortedAll_old) (Nat.le_succ _) ⟨hlen2, out, ep, hv, he'⟩, rfl, q _ _ (fun u hu => ?_) hIL (I.hok.fresh (Nat.le_succ _))⟩
    obtain ⟨b, hb, rfl⟩ := List.mem_map.mp hu
    have := List.mem_map_of_mem (f := Prod.fst) (hp.mem_iff.mp hb)
    rw [show (vs.zip ls).map Prod.fst = vs from z1] at this
    exact this
section
variable {K : PySem.W.Frag} {σ : L2.St} {H H' : Hp} {ta tb te tl : TE} {tt : TT}
/-! ### lists of ints, all new beside B -/
inductive IFs (B H : Hp) : List V → List (List Int) → Prop where
  | nil : IFs B H [] []
  | cons {a : Addr} {ns : List Int} {vs : List V} {ls : List (List Int)} : B a = none → IL H a ns → IFs B H vs ls → IFs B H (.ref a :: vs) (ns :: ls)
theorem IFs.il {B H : Hp} {vs : List V} {ls : List (List Int)} (h : IFs B H vs ls) : ILs H vs ls := by
  induction h with
  | nil => exact .nil
  | cons _ h _ ih => exact .cons h ih
theorem IFs.go {B H B' H' : Hp} {vs : List V} {ls : List (List Int)} (h : IFs B H vs ls) (b : ∀ a, B a = none → B' a = none) (e : ∀ a o, B a = none → H a = some o → H' a = some o) : IFs B' H' vs ls := by
  induction h with
  | nil => exact .nil
  | cons h1 h2 _ ih => exact .cons (b _ h1) (e _ _ h1 h2) ih
theorem IFs.ex {B H H' : Hp} {vs : List V} {ls : List (List Int)} (h : IFs B H vs ls) (e : Ex H H') : IFs B H' vs ls := h.go (fun _ z => z) fun a o _ z => e a o z
theorem IFs.base {B B' H : Hp} {vs : List V} {ls : List (List Int)} (h : IFs B H vs ls) (e : Ex B' B) : IFs B' H vs ls := h.go (fun _ z => fresh_back e z) fun _ _ _ z => z
theorem IFs.app {B H : Hp} {vs ws : List V} {ls ms : List (List Int)} (h : IFs B H vs ls) (h2 : IFs B H ws ms) : IFs B H (vs ++ ws) (ls ++ ms) := by
  induction h with
  | nil => exact h2
  | cons a b _ ih => exact .cons a b ih
theorem IFs.one {B H : Hp} {a : Addr} {ns : List Int} (h1 : B a = none) (h2 : IL H a ns) : IFs B H [.ref a] [ns] := .cons h1 h2 .nil
theorem IFs.len {B H : Hp} {vs : List V} {ls : List (List Int)} (h : IFs B H vs ls) : vs.length = ls.length := h.il.len
theorem IFs.new {B H : Hp} {vs : List V} {ls : List (List Int)} (h : IFs B H vs ls) : ∀ v ∈ vs, ∃ a, v = .ref a ∧ B a = none := by
  induction h with
  | nil => exact fun v h => by cases h
  | @cons a ns vs ls h1 _ _ ih =>
    intro v hv
    rcases List.mem_cons.mp hv with rfl | hv
    · exact ⟨a, rfl, h1⟩
    · exact ih v hv
theorem ILs.new {B H : Hp} {vs : List V} {ls : List (List Int)} (h : ILs H vs ls) (hn : ∀ v ∈ vs, ∃ a, v = .ref a ∧ B a = none) : IFs B H vs ls := by
  induction h with
  | nil => exact .nil
  | @cons a ns vs ls h1 _ ih =>
    obtain ⟨b, e, hb⟩ := hn _ List.mem_cons_self
    cases e
    exact .cons hb h1 (ih fun v hv => hn v (List.mem_cons_of_mem _ hv))
/-- what evaluates to a new list of new lists -/
def EvLL (te : TE) (σ : L2.St) (H : Hp) (ls : List (List Int)) : Prop := ∀ H1, Ex H H1 → ∀ Q : VK, (∀ p vs H2 B, H1 p = none → Ex H1 H2 → H2 p = some (.lst vs) → Ex H1 B → B p ≠ none → IFs B H2 vs ls → Q (.ref p) H2) → te σ H1 Q
/-- .. of lists that stand already -/
def EvLO (te : TE) (σ : L2.St) (H : Hp) (old : List V) (ls : List (List Int)) : Prop := ∀ H1, Ex H H1 → ∀ Q : VK, (∀ p vs H2, H1 p = none → Ex H1 H2 → H2 p = some (.lst vs) → ILs H2 vs ls → (∀ v ∈ vs, v ∈ old) → Q (.ref p) H2) → te σ H1 Q
theorem eo_sorted {a : Addr} {vs : List V} {ls : List (List Int)} (h : Ev ta σ H (.ref a)) (hx : Lst H a vs) (hl : ILs H vs ls) : EvLO (tCB (rSortedL K) (tCons ta tNil)) σ H vs (sortL ls) := fun H1 e Q q =>
  h H1 e _ fun H2 e2 => ⟨a, vs, ls, rfl, sq_of ((e.trans e2) a _ hx), hl.ex (e.trans e2), fun us p hu hi hp => q p us _ (fresh_back e2 hp) (e2.trans (Ex.new hp)) upd_same (hi.ex (Ex.new hp)) hu⟩
theorem mul_ {i j : Int} (ha : Ev ta σ H (.int i)) (hb : Ev tb σ H (.int j)) (hc : CMul i j) : Ev (tOp (rI CMul fun i j => .int (i * j)) ta tb) σ H (.int (i * j)) := ev_op ha hb (rv_I (C := CMul) (g := fun i j => .int (i * j)) hc)
theorem cmul {i j : Int} (h1 : -1000000 ≤ i) (h2 : i ≤ 1000000) : CMul i j := .inl ⟨by omega, by omega⟩
/-- return [[0]] and [[0, d]] -/
theorem s_retLL1 {D : Ends} {t : TA} {ns : List Int} (h : EvA t σ H (Ints ns)) (hz : ns.length ≤ 100000) (k : ∀ p a H1 B, H p = none → Ex H H1 → H1 p = some (.lst [.ref a]) → Ex H B → B p ≠ none → IFs B H1 [.ref a] [ns] → D.rt (.ref p) H1) : tRet (tLst (tCons (tLst t) tNil)) D σ H :=
  (el_lst h (by rw [List.length_map]; exact hz)) H (Ex.refl H) (fun x H1 => [x].length ≤ sizeLine ∧ ∀ p, H1 p = none → D.rt (.ref p) (upd H1 p (.lst [x]))) fun a H1 ha e1 h1 => ⟨(by show (1 : Nat) ≤ sizeLine; decide), fun p hp => by
    have hpa : a ≠ p := ne_of_none h1 hp
    refine k p a _ (upd H p (.lst [])) (fresh_back e1 hp) (e1.trans (Ex.new hp)) upd_same (Ex.new (fresh_back e1 hp)) (by rw [upd_same]; exact fun z => by cases z) (IFs.one ?_ ((Ex.new hp) a _ h1))
    rw [upd_ne hpa]
    exact ha⟩
/-- nothing was lost -/
def Gr (B H : Hp) : Prop := ∀ x, H x = none → B x = none
theorem Gr.of (e : Ex H H') : Gr H H' := fun x h => fresh_back e h
theorem Gr.ex {B : Hp} (g : Gr B H) (e : Ex H H') : Gr B H' := fun x h => g x (fresh_back e h)
theorem Gr.upd {B : Hp} {l : Addr} {o : HO} (g : Gr B H) : Gr B H → B l ≠ none → Gr B (upd H l o) := fun _ hl x h => by
  by_cases c : x = l
  · rw [c, upd_same] at h
    cases h
  · rw [upd_ne c] at h
    exact g x h
theorem IFs.upd {B : Hp} {vs : List V} {ls : List (List Int)} {l : Addr} {o : HO} (h : IFs B H vs ls) (hl : B l ≠ none) : IFs B (upd H l o) vs ls := h.go (fun _ z => z) fun a o' hb h => by
  rw [upd_ne (fun w => hl (by subst w; exact hb))]
  exact h
/-- xs.extend(e), e a new list -/
theorem s_extX {D : Ends} {l : Addr} {xs : List V} (P : Addr → List V → Hp → Prop) (hl : H l = some (.lst xs)) (ha : Ev ta σ H (.ref l)) (h : ∀ H1, Ex H H1 → ∀ Q : VK, (∀ p ys H2, Ex H1 H2 → H2 p = some (.lst ys) → P p ys H2 → Q (.ref p) H2) → te σ H1 Q)
    (k : ∀ p ys H1, Ex H H1 → H1 p = some (.lst ys) → P p ys H1 → xs.length + ys.length ≤ 100000 ∧ D.nx σ (L2.upd H1 l (.lst (xs ++ ys)))) : tDrop (tBM K "list" rExtend ta (tCons te tNil)) D σ H := ha H (Ex.refl H) _ fun H1 e1 =>
  ⟨Or.inl ⟨rfl, xs, sq_of (e1 l _ hl)⟩, h H1 e1 _ fun p ys H2 e2 h2 hP => by
    obtain ⟨k1, k2⟩ := k p ys H2 (e1.trans e2) h2 hP
    exact ⟨l, p, xs, ys, rfl, rfl, e2 l _ (e1 l _ hl), h2, sz_of k1, k2⟩⟩
theorem cut_to (xs : List V) (k : Nat) : cutV xs none (some (k : Int)) = xs.take k := by
  unfold cutV
  rw [HT.sIx_none, HT.sIx_nat, List.drop_zero, Nat.sub_zero, Nat.min_comm]
  by_cases h : k ≤ xs.length
  · rw [Nat.min_eq_right h]
  · rw [Nat.min_eq_left (by omega), List.take_length, List.take_of_length_le (by omega)]
theorem cut_from (xs : List V) (k : Nat) : cutV xs (some (k : Int)) none = xs.drop k := by
  unfold cutV
  rw [HT.sIx_none, HT.sIx_nat]
  by_cases h : k ≤ xs.length
  · rw [Nat.min_eq_left h]
    exact List.take_of_length_le (by rw [List.length_drop]; omega)
  · rw [Nat.min_eq_right (by omega), Nat.sub_self, List.take_zero, List.drop_eq_nil_of_le (by omega)]
theorem ILs.take {vs : List V} {ls : List (List Int)} (h : ILs H vs ls) : ∀ k, ILs H (vs.take k) (ls.take k) := by
  induction h with
  | nil => exact fun k => by simp; exact .nil
  | cons h1 _ ih =>
    intro k
    cases k with
    | zero => exact .nil
    | succ k => exact .cons h1 (ih k)
theorem any_dI (row : List Int) : ∀ ls : List (List Int), ((ls.map dI).any fun z => PyData.eqv z (dI row)) = decide (row ∈ ls)
  | [] => by simp
  | l :: ls => by
    rw [List.map_cons, List.any_cons, any_dI row ls, eqv_I, Bool.eq_iff_iff]
    simp only [Bool.or_eq_true, decide_eq_true_eq, List.mem_cons]
    exact ⟨fun h => h.imp Eq.symm id, fun h => h.imp Eq.symm id⟩
/-- row not in xs[:k], xs new of old rows -/
theorem et_newAt {tx ts tk : TE} {r : Addr} {row : List Int} {old : List V} {S : List (List Int)} {k : Nat} (hx : Ev tx σ H (.ref r)) (hr : IL H r row) (hs : EvLO ts σ H old S) (hk : Ev tk σ H (.int (k : Int))) :
    EvT (tTest (tOp (rNotInD K) tx (L2.tSl (rSlL K) ts tNoPart (tPart tk)))) σ H (!decide (row ∈ S.take k)) := fun H1 e Q q =>
  hx H1 e _ fun H2 e2 => hs H2 (e.trans e2) _ fun p vs H3 hp e3 h3 hi _ => by
    show tk σ H3 _
    refine hk H3 ((e.trans e2).trans e3) _ fun H4 e4 => ⟨_, rfl, p, vs, rfl, sq_of (e4 p _ h3), fun c hc => ?_⟩
    have e5 := e4.trans (Ex.new (o := .lst (cutV vs none (some (k : Int)))) hc)
    refine ⟨dI row, (S.take k).map dI, dp_I (((e.trans e2).trans e3).trans e5 r _ hr), ?_, sh_I _, sh_LL _, _, rfl, ?_⟩
    · have := (hi.ex e5).take k
      rw [← cut_to] at this
      exact dp_LL upd_same this
    · rw [any_dI]
      exact q _ ((e2.trans e3).trans e5)
theorem ILs.pick {vs : List V} {ls : List (List Int)} (h : ILs H vs ls) : ∀ is : List Nat, (∀ i ∈ is, i < vs.length) → ILs H (is.map fun i => vs.getD i .non) (is.map fun i => ls.getD i [])
  | [], _ => .nil
  | i :: is, hs => by
    have hi := hs i List.mem_cons_self
    obtain ⟨a, ns, e1, e2, h1⟩ := h.at (List.getElem?_eq_getElem hi)
    show ILs H (vs.getD i .non :: _) (ls.getD i [] :: _)
    rw [List.getD_eq_getElem?_getD, List.getD_eq_getElem?_getD, e2, List.getElem?_eq_getElem hi, e1]
    exact .cons h1 (ILs.pick h is fun j hj => hs j (List.mem_cons_of_mem _ hj))
/-- [row for k, row in enumerate(xs) if ..], xs new of old rows -/
theorem eo_lcE {tA : TA} {j0 j1 : Nat} {vs : List Nat} {old : List V} {S : List (List Int)} (f : Nat → Bool) (h : ∀ H1, Ex H H1 → ∀ Q : List V → Hp → Prop, (∀ p vs H2, H1 p = none → Ex H1 H2 → H2 p = some (.lst vs) → ILs H2 vs S → (∀ v ∈ vs, v ∈ old) → Q [.ref p] H2) → tA σ H1 Q) (hz : S.length ≤ 40000) (hw : ∀ x y, wipe (((wipe σ vs).set j0 (some x)).set j1 (some y)) vs = wipe σ vs)
    (ht : ∀ (i : Nat) (r : Addr) (row : List Int) H1, Ex H H1 → S[i]? = some row → IL H1 r row → EvT tt (((wipe σ vs).set j0 (some (.int (i : Nat)))).set j1 (some (.ref r))) H1 (f i))
    (he : ∀ (i : Nat) (x : V) H1, Ex H H1 → Ev te (((wipe σ vs).set j0 (some (.int (i : Nat)))).set j1 (some x)) H1 x) :
    EvLO (tLc (iEnum K tA) (gTup K 2 (gCons (gName j0) (gCons (gName j1) gNil))) tt te vs) σ H old (((List.range S.length).filter f).map fun i => S.getD i []) := fun H0 e Q q => h H0 e _ fun a xs H1 ha e1 hx hi hold => ⟨a, xs, rfl, sq_of hx, fun Dl hD => by
  have hlen := hi.len
  refine lc_it (walk_enum (xs := xs)) (Cw H1 f (fun i => xs.getD i .non) Dl) ⟨hD, Ex.new hD, upd_same⟩ (fun i H' _ p => sq_of (p.2.1 a _ hx)) (fun i z H2 H3 hil p y => ?_) (fun H' p => ?_)
  · obtain ⟨T, x, y, rfl, nT, rfl, h1, h2⟩ := y
    cases (Option.some.inj h1)
    have p3 : Cw H1 f (fun i => xs.getD i .non) Dl i (L2.upd H2 T (.tup [.int (i : Nat), y])) := cw_ex p (Ex.new nT)
    obtain ⟨r, row, rfl, h3, h4⟩ := hi.at h2
    refine ⟨T, [.int (i : Nat), .ref r], rfl, st_of upd_same, rfl, _, _, rfl, _, _, rfl, rfl, hw _ _, ?_⟩
    refine cw_turn p3 (by omega) (ht i r row H1 (e.trans e1) h3 h4) (fun hf => ?_)
    have h2 : xs[i]? = some (.ref r) := h2
    have hv : xs.getD i .non = .ref r := by rw [List.getD_eq_getElem?_getD, h2] <;> rfl
    show Ev te _ H1 (xs.getD i .non)
    rw [hv]
    exact he i _ H1 (e.trans e1)
  · obtain ⟨p1, p2, p3⟩ := p
    refine q Dl _ H' (fresh_back e1 p1) (e1.trans p2) p3 ?_ ?_
    · unfold given
      rw [hlen]
      exact (hi.ex p2).pick _ fun i hi => by
        rw [hlen]
        exact List.mem_range.mp (List.mem_filter.mp hi).1
    · intro v hv
      unfold given at hv
      obtain ⟨i, hi2, rfl⟩ := List.mem_map.mp hv
      have hi3 := List.mem_range.mp (List.mem_filter.mp hi2).1
      rw [List.getD_eq_getElem?_getD, List.getElem?_eq_getElem hi3]
      exact hold _ (List.getElem_mem hi3)⟩
theorem EvLO.args {ta : TE} {old : List V} {S : List (List Int)} (h : EvLO ta σ H old S) : ∀ H1, Ex H H1 → ∀ Q : List V → Hp → Prop, (∀ p vs H2, H1 p = none → Ex H1 H2 → H2 p = some (.lst vs) → ILs H2 vs S → (∀ v ∈ vs, v ∈ old) → Q [.ref p] H2) → (tCons ta tNil) σ H1 Q := fun H1 e Q q =>
  h H1 e _ fun p vs H2 hp e2 h2 hi ho => q p vs H2 hp e2 h2 hi ho
theorem s_retLO {D : Ends} {old : List V} {ls : List (List Int)} (h : EvLO te σ H old ls) (k : ∀ p vs H1, H p = none → Ex H H1 → H1 p = some (.lst vs) → ILs H1 vs ls → (∀ v ∈ vs, v ∈ old) → D.rt (.ref p) H1) : tRet te D σ H := h H (Ex.refl H) _ k
/-- what hands back a new list of new lists -/
def RLL (ls : List (List Int)) (H : Hp) (Q : VK) : Prop := ∀ p us H' B, H p = none → Ex H H' → H' p = some (.lst us) → Ex H B → B p ≠ none → IFs B H' us ls → Q (.ref p) H'
/-- old rows in a new list -/
theorem base_new {B : Hp} {old us : List V} {ls ms : List (List Int)} {p : Addr} {H1 H2 : Hp} (hp : H1 p = none) (e : Ex H1 H2) (hB : Ex H B) (e0 : Ex H H1) (h1 : IFs B H1 old ls) (hi : ILs H2 us ms) (ho : ∀ u ∈ us, u ∈ old) : Ex H (L2.upd B p (.lst [])) ∧ L2.upd B p (.lst []) p ≠ none ∧ IFs (L2.upd B p (.lst [])) H2 us ms := by
  refine ⟨fun x o hx => ?_, by rw [upd_same]; exact fun z => (by cases z), ILs.new hi fun v hv => ?_⟩
  · have : x ≠ p := fun w => by
      rw [w, fresh_back e0 hp] at hx
      cases hx
    rw [upd_ne this]
    exact hB x o hx
  · have hv2 := ho v hv
    obtain ⟨k, hk, hkv⟩ := List.getElem_of_mem hv2
    obtain ⟨a, ns, e1, _, h3⟩ := h1.il.at (List.getElem?_eq_getElem hk)
    obtain ⟨a', e2, h4⟩ := h1.new _ hv2
    rw [hkv] at e1
    rw [e1] at e2
    cases e2
    have : a ≠ p := fun w => by
      rw [IL, w, hp] at h3
      cases h3
    exact ⟨a, e1, by rw [upd_ne this]; exact h4⟩
/-- x = f([..], ..) -/
theorem s_setcallLX {D : Ends} {sp : Sp} {dvs vs : List V} {E : XK} {tr : TA} {i : Nat} {ns : List Int} (h : EvL te σ H (Ints ns)) (hr : ∀ p H1, H p = none → Ex H H1 → IL H1 p ns → EvA tr σ H1 vs) (hs : ∀ p H1, Ex H H1 → IL H1 p ns → sp ((.ref p :: vs) ++ dvs) H1 (fun x H2 => D.nx (σ.set i (some x)) H2) E) : tAsg (tCall sp dvs E (tCons te tr)) (gName i) D σ H :=
  h H (Ex.refl H) _ fun p H1 hp e1 h1 => hr p H1 hp e1 h1 H1 (Ex.refl H1) _ fun H2 e2 => hs p H2 (e1.trans e2) (e2 p _ h1)
end
/-! ### a forest from its k-th trial on -/
def Fo.drop : Fo → Nat → Fo
  | t, 0 => t
  | .nil, _ + 1 => .nil
  | .cons _ _ _ r, k + 1 => r.drop k
theorem Fo.drop_at {x : Int} {o : Option Int} {s : Fo} : ∀ {t : Fo} {k : Nat}, t.at k = some (x, o, s) → t.drop k = .cons x o s (t.drop (k + 1))
  | .nil, _, h => by cases h
  | .cons _ _ _ _, 0, h => by
    cases h
    rename_i r
    cases r <;> rfl
  | .cons _ _ _ r, k + 1, h => Fo.drop_at (t := r) h
theorem Fo.drop_len : ∀ t : Fo, t.drop t.len = .nil
  | .nil => rfl
  | .cons _ _ _ r => Fo.drop_len r
end Rg

set_option Elab.async false
set_option linter.all false
set_option maxRecDepth 100000
set_option maxHeartbeats 1000000
/-! Rg, part C: comprehensions that make or pick lists of ints. -/
namespace Rg
open PySem PySem.Spec PyProof.Rows L2 Evl
section
variable {K : PySem.W.Frag} {σ : L2.St} {H H' : Hp} {ta tb te tl : TE} {tt : TT}
/-- so far, the new lists in Dl -/
def Cl (H1 : Hp) (Dl : Addr) (ls : Nat → List (List Int)) (i : Nat) (H' : Hp) : Prop := ∃ us, Ex H1 H' ∧ H' Dl = some (.lst us) ∧ IFs (L2.upd H1 Dl (.lst [])) H' us (ls i)
theorem cl_turn {H1 H' : Hp} {Dl : Addr} {ls : Nat → List (List Int)} {i : Nat} {σ2 : L2.St} {row : List Int} (p : Cl H1 Dl ls i H') (hD : H1 Dl = none) (hi : (ls i).length < 50000) (ht : EvT tt σ2 H' true) (he : EvL te σ2 H1 (Ints row)) (hl : ls (i + 1) = ls i ++ [row]) :
    tt σ2 H' fun b H3 => if b = true then te σ2 H3 fun y H4 => ∃ acc, H4 Dl = some (.lst acc) ∧ acc.length < sizeLine ∧ Cl H1 Dl ls (i + 1) (L2.upd H4 Dl (.lst (acc ++ [y]))) else Cl H1 Dl ls (i + 1) H3 := by
  obtain ⟨us, p1, p2, p3⟩ := p
  refine ht H' (Ex.refl H') _ fun H3 e3 => ?_
  show te σ2 H3 _
  refine he H3 (p1.trans e3) _ fun v H4 hv e4 h4 => ⟨us, e4 Dl _ (e3 Dl _ p2), sz_lt (by rw [p3.len]; omega), us ++ [.ref v], Ex.mut ((p1.trans e3).trans e4) hD, upd_same, ?_⟩
  have hvD : v ≠ Dl := fun w => by
    rw [w, e3 Dl _ p2] at hv
    cases hv
  have hB : L2.upd H1 Dl (.lst []) Dl ≠ none := by rw [upd_same]; exact fun z => by cases z
  rw [hl]
  refine ((p3.ex (e3.trans e4)).app (IFs.one ?_ h4)).upd hB
  rw [upd_ne hvD]
  exact fresh_back (p1.trans e3) hv
/-- [.. for x in range(lo, n)], each a new list -/
theorem el_lcR2L {ta : TA} {j : Nat} {vs : List Nat} {lo n : Int} (row : Nat → List Int) (h : EvA ta σ H [.int lo, .int n]) (hn : 0 ≤ lo ∧ lo ≤ 40000 ∧ -40000 ≤ n ∧ n ≤ 40000) (hw : ∀ x, wipe ((wipe σ vs).set j (some x)) vs = wipe σ vs)
    (ht : ∀ (x : V) H1, EvT tt ((wipe σ vs).set j (some x)) H1 true) (he : ∀ (i : Nat) H1, Ex H H1 → lo + (i : Int) < n → EvL te ((wipe σ vs).set j (some (.int (lo + (i : Int))))) H1 (Ints (row i))) :
    EvLL (tLc (iRng2 ta) (gName j) tt te vs) σ H ((List.range (n - lo).toNat).map row) := fun H0 e Q q => h H0 e _ fun H1 e1 => ⟨lo, n, rfl, ⟨by omega, by omega, by omega, by omega⟩, fun Dl hD =>
  lc_range (lo := lo) (n := (n - lo).toNat) (Cl H1 Dl fun i => (List.range i).map row) ⟨[], Ex.new hD, upd_same, .nil⟩ (fun i H' hi p => ⟨hw _, cl_turn p hD (by rw [List.length_map, List.length_range]; omega) (ht _ _) (he i H1 (e.trans e1) (by omega)) (by rw [List.range_succ, List.map_append] <;> rfl)⟩)
    (fun H' ⟨us, p1, p2, p3⟩ => q Dl us H' _ (fresh_back e1 hD) (e1.trans p1) p2 (e1.trans (Ex.new hD)) (by rw [upd_same]; exact fun z => by cases z) p3)⟩
/-- [.. for row in rows], each a new list -/
theorem el_lcLL {a : Addr} {us : List V} {S : List (List Int)} {j : Nat} {vs : List Nat} (g : List Int → List Int) (h : Ev tl σ H (.ref a)) (hx : Lst H a us) (hS : ILs H us S) (hz : S.length ≤ 40000) (hw : ∀ x, wipe ((wipe σ vs).set j (some x)) vs = wipe σ vs)
    (ht : ∀ (x : V) H1, EvT tt ((wipe σ vs).set j (some x)) H1 true) (he : ∀ (r : Addr) (row : List Int) H1, Ex H H1 → row ∈ S → IL H1 r row → EvL te ((wipe σ vs).set j (some (.ref r))) H1 (Ints (g row))) :
    EvLL (tLc (iList K tl) (gName j) tt te vs) σ H (S.map g) := fun H0 e Q q => h H0 e _ fun H1 e1 => ⟨a, rfl, ⟨us, sq_of ((e.trans e1) a _ hx)⟩, fun Dl hD =>
  lc_list (xs := us) (Cl H1 Dl fun i => (S.take i).map g) ⟨[], Ex.new hD, upd_same, by simp; exact .nil⟩ (fun i H' _ ⟨_, p, _⟩ => sq_of ((e.trans e1).trans p a _ hx)) (fun i x H' hi p => by
    obtain ⟨r, row, rfl, h3, h4⟩ := hS.at hi
    refine ⟨hw _, cl_turn p hD ?_ (ht _ _) (he r row H1 (e.trans e1) (List.mem_of_getElem? h3) ((e.trans e1) r _ h4)) ?_⟩
    · have : (S.take i).length ≤ S.length := List.length_take_le' i S
      rw [List.length_map]
      omega
    · show (S.take (i + 1)).map g = _
      rw [take_more h3, List.map_append] <;> rfl)
    (fun H' ⟨ws, p1, p2, p3⟩ => by
      have hl := hS.len
      simp only [hl, List.take_length] at p3
      exact q Dl ws H' _ (fresh_back e1 hD) (e1.trans p1) p2 (e1.trans (Ex.new hD)) (by rw [upd_same]; exact fun z => by cases z) p3)⟩
/-- what evaluates to a list of rows that satisfies P -/
def EvLP (te : TE) (σ : L2.St) (H : Hp) (S : List (List Int)) (P : Hp → List V → Hp → Prop) : Prop := ∀ H1, Ex H H1 → ∀ Q : VK, (∀ p us H2, H1 p = none → Ex H1 H2 → H2 p = some (.lst us) → ILs H2 us S → P H1 us H2 → Q (.ref p) H2) → te σ H1 Q
theorem given_pick {us : List V} {S : List (List Int)} {f : List Int → Bool} (hS : ILs H us S) : ILs H (given us.length (fun i => f (S.getD i [])) (fun i => us.getD i .non)) (S.filter f) ∧ ∀ v ∈ given us.length (fun i => f (S.getD i [])) (fun i => us.getD i .non), v ∈ us := by
  constructor
  · have h1 := hS.pick ((List.range us.length).filter fun i => f (S.getD i [])) fun i hi => List.mem_range.mp (List.mem_filter.mp hi).1
    have e : (List.range S.length).map (fun i => S.getD i []) = S := by
      refine List.ext_getElem (by simp) fun k h1 h2 => ?_
      simp [List.getD_eq_getElem?_getD, List.getElem?_eq_getElem h2]
    have e2 : ((List.range us.length).filter fun i => f (S.getD i [])).map (fun i => S.getD i []) = S.filter f := by
      rw [hS.len]
      have h := congrArg (List.filter f) e
      rw [List.filter_map] at h
      exact h
    rw [e2] at h1
    exact h1
  · intro v hv
    unfold given at hv
    obtain ⟨i, hi2, rfl⟩ := List.mem_map.mp hv
    have hi3 := List.mem_range.mp (List.mem_filter.mp hi2).1
    rw [List.getD_eq_getElem?_getD, List.getElem?_eq_getElem hi3]
    exact List.getElem_mem hi3
/-- [row for row in rows if f row] -/
theorem eo_lcF {S : List (List Int)} {P : Hp → List V → Hp → Prop} {j : Nat} {vs : List Nat} (f : List Int → Bool) (h : EvLP tl σ H S P) (hz : S.length ≤ 40000) (hw : ∀ x, wipe ((wipe σ vs).set j (some x)) vs = wipe σ vs)
    (ht : ∀ (r : Addr) (row : List Int) H1, Ex H H1 → row ∈ S → IL H1 r row → EvT tt ((wipe σ vs).set j (some (.ref r))) H1 (f row)) (he : ∀ (x : V) H1, Ev te ((wipe σ vs).set j (some x)) H1 x) :
    ∀ H1, Ex H H1 → ∀ Q : VK, (∀ p2 us2 H3 us H2, Ex H1 H2 → Ex H2 H3 → H2 p2 = none → H3 p2 = some (.lst us2) → ILs H3 us2 (S.filter f) → (∀ v ∈ us2, v ∈ us) → ILs H2 us S → P H1 us H2 → Q (.ref p2) H3) → tLc (iList K tl) (gName j) tt te vs σ H1 Q := fun H0 e Q q => h H0 e _ fun a us H1 ha e1 hx hS hP => ⟨a, rfl, ⟨us, sq_of hx⟩, fun Dl hD => by
  have hlen := hS.len
  obtain ⟨g1, g2⟩ := given_pick (f := f) hS
  refine lc_list (xs := us) (Cw H1 (fun i => f (S.getD i [])) (fun i => us.getD i .non) Dl) ⟨hD, Ex.new hD, upd_same⟩ (fun i H' _ p => sq_of (p.2.1 a _ hx)) (fun i x H' hi p => ?_) (fun H' p => ?_)
  · obtain ⟨r, row, rfl, h3, h4⟩ := hS.at hi
    have hf : f (S.getD i []) = f row := by rw [List.getD_eq_getElem?_getD, h3] <;> rfl
    refine ⟨hw _, cw_turn p (by have := (List.getElem?_eq_some_iff.mp hi).1; omega) ?_ fun hf => ?_⟩
    · show EvT tt _ H1 (f (S.getD i []))
      rw [hf]
      exact ht r row H1 (e.trans e1) (List.mem_of_getElem? h3) h4
    · have hv : us.getD i .non = .ref r := by rw [List.getD_eq_getElem?_getD, hi] <;> rfl
      show Ev te _ H1 (us.getD i .non)
      rw [hv]
      exact he _ H1
  · obtain ⟨p1, p2, p3⟩ := p
    exact q Dl _ H' us H1 e1 p2 p1 p3 (g1.ex p2) g2 hS hP⟩
theorem EvLL.lp {S : List (List Int)} (h : EvLL te σ H S) : EvLP te σ H S fun H1 us H2 => ∃ B, Ex H1 B ∧ IFs B H2 us S := fun H1 e Q q => h H1 e _ fun p us H2 B hp e2 h2 eB hB hI => q p us H2 hp e2 h2 hI.il ⟨B, eB, hI⟩
theorem s_asgLL1 {D : Ends} {t : TA} {ns : List Int} {i : Nat} (h : EvA t σ H (Ints ns)) (hz : ns.length ≤ 100000) (k : ∀ p a H1, H p = none → Ex H H1 → H1 p = some (.lst [.ref a]) → ILs H1 [.ref a] [ns] → D.nx (σ.set i (some (.ref p))) H1) : tAsg (tLst (tCons (tLst t) tNil)) (gName i) D σ H :=
  (el_lst h (by rw [List.length_map]; exact hz)) H (Ex.refl H) (fun x H1 => [x].length ≤ sizeLine ∧ ∀ p, H1 p = none → D.nx (σ.set i (some (.ref p))) (L2.upd H1 p (.lst [x]))) fun a H1 ha e1 h1 => ⟨(by show (1 : Nat) ≤ sizeLine; decide), fun p hp =>
    k p a _ (fresh_back e1 hp) (e1.trans (Ex.new hp)) upd_same (.cons ((Ex.new hp) a _ h1) .nil)⟩
theorem s_retXL {D : Ends} {ls : List (List Int)} (h : EvLL te σ H ls) (k : ∀ p us H1 B, H p = none → Ex H H1 → H1 p = some (.lst us) → Ex H B → B p ≠ none → IFs B H1 us ls → D.rt (.ref p) H1) : tRet te D σ H := h H (Ex.refl H) _ k
theorem s_retX {D : Ends} (h : te σ H D.rt) : tRet te D σ H := h
theorem s_asgX {D : Ends} {i : Nat} (h : te σ H fun v H1 => D.nx (σ.set i (some v)) H1) : tAsg te (gName i) D σ H := h
/-- xs == ys, the left one new -/
theorem eqXLL {b : Addr} {us : List V} {S S2 : List (List Int)} (ha : EvLL ta σ H S) (hb : Ev tb σ H (.ref b)) (h2 : Lst H b us) (h3 : ILs H us S2) : Ev (tOp (rEqD K) ta tb) σ H (.bl (decide (S = S2))) := fun H1 e Q q =>
  ha H1 e _ fun p vs H2 B _ e2 hp _ _ hI => hb H2 (e.trans e2) _ fun H3 e3 => ⟨dLL S, dLL S2, dp_LL (e3 p _ hp) (hI.il.ex e3), dp_LL (((e.trans e2).trans e3) b _ h2) (h3.ex ((e.trans e2).trans e3)), sh_LL _, sh_LL _, by
    rw [eqv_LL]
    exact q H3 (e2.trans e3)⟩
theorem eqXI {b : Addr} {r s : List Int} (ha : EvL ta σ H (Ints r)) (hb : Ev tb σ H (.ref b)) (h2 : IL H b s) : Ev (tOp (rEqD K) ta tb) σ H (.bl (decide (r = s))) := fun H1 e Q q =>
  ha H1 e _ fun p H2 _ e2 hp => hb H2 (e.trans e2) _ fun H3 e3 => ⟨dI r, dI s, dp_I (e3 p _ hp), dp_I (((e.trans e2).trans e3) b _ h2), sh_I _, sh_I _, by
    rw [eqv_I]
    exact q H3 (e2.trans e3)⟩
theorem neXI {b : Addr} {r s : List Int} (ha : EvL ta σ H (Ints r)) (hb : Ev tb σ H (.ref b)) (h2 : IL H b s) : Ev (tOp (rNeD K) ta tb) σ H (.bl (!decide (r = s))) := fun H1 e Q q =>
  ha H1 e _ fun p H2 _ e2 hp => hb H2 (e.trans e2) _ fun H3 e3 => ⟨dI r, dI s, dp_I (e3 p _ hp), dp_I (((e.trans e2).trans e3) b _ h2), sh_I _, sh_I _, by
    rw [eqv_I]
    exact q H3 (e2.trans e3)⟩
end
theorem good_short {gs r : List Int} (h : Good gs r) (h21 : gs.length ≤ 21) : r.length ≤ 7 := by
  have hl := good_len h
  exact Nat.le_of_not_lt fun c => by
    have := Nat.mul_le_mul (show 8 ≤ r.length from c) (Nat.le_refl r.length)
    omega
section
variable {K : PySem.W.Frag} {σ : L2.St} {H H' : Hp} {ta tb te tl : TE} {tt : TT}
/-- lists that may be changed: each new beside B, none longer than n -/
def Free (B H : Hp) (us : List V) (n : Nat) : Prop := ∀ v ∈ us, ∃ (a : Addr) (ns : List V), v = .ref a ∧ B a = none ∧ H a = some (.lst ns) ∧ ns.length ≤ n
theorem IFs.free {B : Hp} {us : List V} {ls : List (List Int)} {n : Nat} (h : IFs B H us ls) (hn : ∀ r ∈ ls, r.length ≤ n) : Free B H us n := by
  induction h with
  | nil => exact fun v hv => by cases hv
  | @cons a ns vs ls h1 h2 _ ih =>
    intro v hv
    rcases List.mem_cons.mp hv with rfl | hv
    · exact ⟨a, Ints ns, rfl, h1, h2, by rw [List.length_map]; exact hn ns List.mem_cons_self⟩
    · exact ih (fun r hr => hn r (List.mem_cons_of_mem _ hr)) v hv
theorem Free.ex {B : Hp} {us : List V} {n : Nat} (h : Free B H us n) (e : Ex H H') : Free B H' us n := fun v hv => by
  obtain ⟨a, ns, h1, h2, h3, h4⟩ := h v hv
  exact ⟨a, ns, h1, h2, e a _ h3, h4⟩
theorem Free.put {B : Hp} {us : List V} {n : Nat} {b : Addr} {ms : List V} (h : Free B H us n) (hm : ms.length ≤ n + 1) : Free B (L2.upd H b (.lst ms)) us (n + 1) := fun v hv => by
  obtain ⟨a, ns, h1, h2, h3, h4⟩ := h v hv
  by_cases c : a = b
  · subst c
    exact ⟨a, ms, h1, h2, upd_same, hm⟩
  · exact ⟨a, ns, h1, h2, by rw [upd_ne c]; exact h3, by omega⟩
theorem eqLLN_ {a : Addr} {vs : List V} {ns : List (List Int)} (ha : Ev ta σ H (.ref a)) (h1 : Lst H a vs) (l1 : ILs H vs ns) (hb : EvL tb σ H []) : Ev (tOp (rEqD K) ta tb) σ H (.bl (decide (ns = []))) := fun H1 e Q q =>
  ha H1 e _ fun H2 e2 => hb H2 (e.trans e2) _ fun b H3 _ e3 h2 => ⟨dLL ns, dLL [], dp_LL (((e.trans e2).trans e3) a _ h1) (l1.ex ((e.trans e2).trans e3)), dp_LL h2 .nil, sh_LL _, sh_LL _, by
    rw [eqv_LL]
    exact q H3 (e2.trans e3)⟩
end
end Rg

set_option Elab.async false
set_option linter.all false
set_option maxRecDepth 100000
set_option maxHeartbeats 1000000
/-! Rg, part P: the road seen from its other end; more comparisons. -/
namespace Rg
open PySem PySem.Spec PyProof.Rows L2 Evl
def mirP (r : List Int) : List Int := r.reverse.map fun x => topI r - x
theorem prs_flip (c : Int) : ∀ xs : List Int, prs (xs.map fun x => c - x) = prs xs
  | [] => rfl
  | x :: xs => by
    have e : ∀ y : Int, ab (c - x - (c - y)) = ab (x - y) := fun y => by
      rw [show c - x - (c - y) = y - x by omega, ab_swap]
    show ((xs.map fun x => c - x).map fun y => ab (c - x - y)) ++ prs (xs.map fun x => c - x) = (xs.map fun y => ab (x - y)) ++ prs xs
    rw [prs_flip c xs, List.map_map]
    congr 1
    refine List.map_congr_left fun y _ => ?_
    exact e y
theorem mirP_btw (r : List Int) : btw (mirP r) = btw r := by
  rw [btw_prs, btw_prs, mirP, prs_flip]
  exact sortI_congr (prs_perm (List.reverse_perm r))
theorem mirP_len (r : List Int) : (mirP r).length = r.length := by
  rw [mirP, List.length_map, List.length_reverse]
theorem mirP_up {r : List Int} (h : r.Pairwise (· < ·)) : (mirP r).Pairwise (· < ·) := by
  rw [mirP, List.pairwise_map, List.pairwise_reverse]
  exact h.imp fun h => by omega
theorem mirP_first {r : List Int} (h : r ≠ []) : gi (mirP r) 0 = 0 := by
  have hl := List.length_pos_iff.mpr h
  have : mirP r ≠ [] := fun z => by
    have := mirP_len r
    rw [z] at this
    simp at this
    omega
  unfold mirP topI
  cases hr : r.reverse with
  | nil =>
    have : r.reverse.length = 0 := by rw [hr]; rfl
    rw [List.length_reverse] at this
    omega
  | cons y ys =>
    have e : r = ys.reverse ++ [y] := by
      have := congrArg List.reverse hr
      rw [List.reverse_reverse, List.reverse_cons] at this
      exact this
    show gi r (r.length - 1) - y = 0
    rw [e, List.length_append]
    have := gi_snoc (xs := ys.reverse) (y := y)
    show gi (ys.reverse ++ [y]) (ys.reverse.length + 1 - 1) - y = 0
    rw [Nat.add_sub_cancel, this]
    omega
theorem Good.mir {gs r : List Int} (h : Good gs r) : Good gs (mirP r) := by
  obtain ⟨h1, h2, h3, h4⟩ := h
  refine ⟨fun z => ?_, mirP_first h1, mirP_up h3, by rw [mirP_btw, h4]⟩
  have := mirP_len r
  rw [z] at this
  exact h1 (List.eq_nil_of_length_eq_zero this.symm)
theorem mirP_range (r : List Int) : (List.range r.length).map (fun i => topI r - gi r (r.length - 1 - i)) = mirP r := by
  refine List.ext_getElem (by simp [mirP]) fun k h1 h2 => ?_
  simp at h1
  simp [mirP, gi, List.getD_eq_getElem?_getD, List.getElem?_eq_getElem (show r.length - 1 - k < r.length by omega)]
theorem Good.road {gs r : List Int} (h : Good gs r) (hg : ∀ d ∈ gs, d ≤ 4000) (h21 : gs.length ≤ 21) : roadOk r := by
  have hs := good_short h h21
  refine roadOk_of h.1 (by omega) h.2.1 (fun x hx => ?_) h.2.2.1
  by_cases c : 2 ≤ r.length
  · obtain ⟨t1, t2⟩ := good_top h c
    have hne : gs ≠ [] := fun z => by
      have hl := good_len h
      have := Nat.mul_le_mul c (Nat.le_refl r.length)
      rw [z] at hl
      simp at hl
      omega
    have := t2 x hx
    have := hg _ (topI_mem hne)
    omega
  · obtain ⟨h1, h2, h3, h4⟩ := h
    match r, h1, h2, c, hx with
    | [y], _, h2, _, hx =>
      have h2 : y = 0 := h2
      rw [List.mem_singleton.mp hx]
      omega
    | y :: z :: t, _, _, c, _ => simp at c
section
variable {K : PySem.W.Frag} {σ : L2.St} {H H' : Hp} {ta tb te tl : TE} {tt : TT}
/-- xs != ys, ys new of old rows -/
theorem neLO {a : Addr} {us old : List V} {S S2 : List (List Int)} (ha : Ev ta σ H (.ref a)) (h1 : Lst H a us) (h2 : ILs H us S) (hb : EvLO tb σ H old S2) : Ev (tOp (rNeD K) ta tb) σ H (.bl (!decide (S = S2))) := fun H1 e Q q =>
  ha H1 e _ fun H2 e2 => hb H2 (e.trans e2) _ fun p vs H3 _ e3 hp hI _ => ⟨dLL S, dLL S2, dp_LL (((e.trans e2).trans e3) a _ h1) (h2.ex ((e.trans e2).trans e3)), dp_LL hp hI, sh_LL _, sh_LL _, by
    rw [eqv_LL]
    exact q H3 (e2.trans e3)⟩
theorem neLLN_ {a : Addr} {vs : List V} {ns : List (List Int)} (ha : Ev ta σ H (.ref a)) (h1 : Lst H a vs) (l1 : ILs H vs ns) (hb : EvL tb σ H []) : Ev (tOp (rNeD K) ta tb) σ H (.bl (!decide (ns = []))) := fun H1 e Q q =>
  ha H1 e _ fun H2 e2 => hb H2 (e.trans e2) _ fun b H3 _ e3 h2 => ⟨dLL ns, dLL [], dp_LL (((e.trans e2).trans e3) a _ h1) (l1.ex ((e.trans e2).trans e3)), dp_LL h2 .nil, sh_LL _, sh_LL _, by
    rw [eqv_LL]
    exact q H3 (e2.trans e3)⟩
/-- row not in rows -/
theorem niLL {r a : Addr} {us : List V} {row : List Int} {S : List (List Int)} (hx : Ev ta σ H (.ref r)) (hr : IL H r row) (ha : Ev tb σ H (.ref a)) (h1 : Lst H a us) (h2 : ILs H us S) : Ev (tOp (rNotInD K) ta tb) σ H (.bl (!decide (row ∈ S))) := fun H1 e Q q =>
  hx H1 e _ fun H2 e2 => ha H2 (e.trans e2) _ fun H3 e3 => ⟨dI row, S.map dI, dp_I (((e.trans e2).trans e3) r _ hr), dp_LL (((e.trans e2).trans e3) a _ h1) (h2.ex ((e.trans e2).trans e3)), sh_I _, sh_LL _, by
    rw [any_dI]
    exact q H3 (e2.trans e3)⟩
/-- row not in rows, row new -/
theorem niXL {a : Addr} {us : List V} {row : List Int} {S : List (List Int)} (hx : EvL ta σ H (Ints row)) (ha : Ev tb σ H (.ref a)) (h1 : Lst H a us) (h2 : ILs H us S) : Ev (tOp (rNotInD K) ta tb) σ H (.bl (!decide (row ∈ S))) := fun H1 e Q q =>
  hx H1 e _ fun p H2 _ e2 hp => ha H2 (e.trans e2) _ fun H3 e3 => ⟨dI row, S.map dI, dp_I (e3 p _ hp), dp_LL (((e.trans e2).trans e3) a _ h1) (h2.ex ((e.trans e2).trans e3)), sh_I _, sh_LL _, by
    rw [any_dI]
    exact q H3 (e2.trans e3)⟩
/-- row in [a, b] -/
theorem dp_two {a b : Addr} {r s : List Int} (h1 : IL H a r) (h2 : IL H b s) : DpAll K H [.ref a, .ref b] ([r, s].map dI) := .cons (dp_I h1) (.cons (dp_I h2) .nil)
theorem in2 {r a b : Addr} {row s t : List Int} {tx ty : TE} (hx : Ev ta σ H (.ref r)) (hr : IL H r row) (h1 : Ev tx σ H (.ref a)) (k1 : IL H a s) (h2 : Ev ty σ H (.ref b)) (k2 : IL H b t) : Ev (tOp (rInD K) ta (tLst (tCons tx (tCons ty tNil)))) σ H (.bl (decide (row ∈ [s, t]))) := fun H1 e Q q =>
  hx H1 e _ fun H2 e2 => el_lst (ea_cons h1 (ea_cons h2 ea_nil)) (by show (2 : Nat) ≤ 100000; decide) H2 (e.trans e2) _ fun p H3 _ e3 hp => ⟨dI row, [s, t].map dI, dp_I (((e.trans e2).trans e3) r _ hr), .lst (sq_of hp) (dp_two (((e.trans e2).trans e3) a _ k1) (((e.trans e2).trans e3) b _ k2)), sh_I _, sh_LL _, by
    rw [any_dI]
    exact q H3 (e2.trans e3)⟩
theorem ni2 {r a b : Addr} {row s t : List Int} {tx ty : TE} (hx : Ev ta σ H (.ref r)) (hr : IL H r row) (h1 : Ev tx σ H (.ref a)) (k1 : IL H a s) (h2 : Ev ty σ H (.ref b)) (k2 : IL H b t) : Ev (tOp (rNotInD K) ta (tLst (tCons tx (tCons ty tNil)))) σ H (.bl (!decide (row ∈ [s, t]))) := fun H1 e Q q =>
  hx H1 e _ fun H2 e2 => el_lst (ea_cons h1 (ea_cons h2 ea_nil)) (by show (2 : Nat) ≤ 100000; decide) H2 (e.trans e2) _ fun p H3 _ e3 hp => ⟨dI row, [s, t].map dI, dp_I (((e.trans e2).trans e3) r _ hr), .lst (sq_of hp) (dp_two (((e.trans e2).trans e3) a _ k1) (((e.trans e2).trans e3) b _ k2)), sh_I _, sh_LL _, by
    rw [any_dI]
    exact q H3 (e2.trans e3)⟩
/-- row not in [new, new] -/
theorem niX2 {r : Addr} {row s t : List Int} {tx ty : TE} (hx : Ev ta σ H (.ref r)) (hr : IL H r row) (h1 : EvL tx σ H (Ints s)) (h2 : EvL ty σ H (Ints t)) : Ev (tOp (rNotInD K) ta (tLst (tCons tx (tCons ty tNil)))) σ H (.bl (!decide (row ∈ [s, t]))) := fun H1 e Q q =>
  hx H1 e _ fun H2 e2 => h1 H2 (e.trans e2) _ fun a H3 _ e3 k1 => h2 H3 ((e.trans e2).trans e3) _ fun b H4 _ e4 k2 => ⟨(by show (2 : Nat) ≤ sizeLine; decide), fun p hp => ⟨dI row, [s, t].map dI, dp_I (((e.trans e2).trans (e3.trans e4)).trans (Ex.new hp) r _ hr), .lst (sq_of upd_same) (dp_two ((e4.trans (Ex.new hp)) a _ k1) ((Ex.new hp) b _ k2)), sh_I _, sh_LL _, by
    rw [any_dI]
    exact q _ (((e2.trans e3).trans e4).trans (Ex.new hp))⟩⟩
theorem neXX {r s : List Int} (ha : EvL ta σ H (Ints r)) (hb : EvL tb σ H (Ints s)) : Ev (tOp (rNeD K) ta tb) σ H (.bl (!decide (r = s))) := fun H1 e Q q =>
  ha H1 e _ fun a H2 _ e2 h1 => hb H2 (e.trans e2) _ fun b H3 _ e3 h2 => ⟨dI r, dI s, dp_I (e3 a _ h1), dp_I h2, sh_I _, sh_I _, by
    rw [eqv_I]
    exact q H3 (e2.trans e3)⟩
/-- xs[:1] -/
theorem el_to {a : Addr} {ns : List Int} {k : Nat} (ha : Ev ta σ H (.ref a)) (h : IL H a ns) (hk : Ev tb σ H (.int (k : Int))) : EvL (L2.tSl (rSlL K) ta tNoPart (tPart tb)) σ H (Ints (ns.take k)) := by
  have := el_sl (K := K) ha eo_none (eo_some hk) (sq_of h)
  rw [cut_to, ← List.map_take] at this
  exact this
theorem el_fromI {a : Addr} {ns : List Int} {k : Nat} (ha : Ev ta σ H (.ref a)) (h : IL H a ns) (hk : Ev tb σ H (.int (k : Int))) : EvL (L2.tSl (rSlL K) ta (tPart tb) tNoPart) σ H (Ints (ns.drop k)) := by
  have := el_sl (K := K) ha (eo_some hk) eo_none (sq_of h)
  rw [cut_from, ← List.map_drop] at this
  exact this
/-- [xs[-1] - x for x in reversed(xs)] -/
theorem el_mir {a : Addr} {ns : List Int} {j : Nat} {vs : List Nat} (h : Ev tl σ H (.ref a)) (hx : IL H a ns) (hn : ns ≠ []) (hz : ns.length ≤ 40000) (hw : ∀ x, wipe ((wipe σ vs).set j (some x)) vs = wipe σ vs) (ht : ∀ (x : V) H1, EvT tt ((wipe σ vs).set j (some x)) H1 true)
    (he : ∀ (d : Int) H1, Ex H H1 → Ev te ((wipe σ vs).set j (some (.int d))) H1 (.int (topI ns - d))) : EvL (tLc (iRev K (tCons tl tNil)) (gName j) tt te vs) σ H (Ints (mirP ns)) := by
  have hl : (Ints ns).length = ns.length := List.length_map _
  have e : Ints (mirP ns) = given (Ints ns).length (fun _ => true) fun i => .int (topI ns - gi ns (ns.length - 1 - i)) := by
    rw [given_all, hl, ← mirP_range, Ints, List.map_map]
    rfl
  rw [e]
  refine el_lcRev _ _ (ea_cons h ea_nil) hx (by rw [hl]; exact hz) hw (fun i x H1 e1 _ _ => ht x H1) (fun i x H1 e1 hi hx2 _ => ?_)
  obtain ⟨d, hd, rfl⟩ := ints_at hx2
  rw [hl] at hd
  rw [gi_of hd]
  exact he d H1 e1
/-- d not in [..], d in [..] -/
theorem niN_ {ns : List Int} {d : Int} (hd : Ev ta σ H (.int d)) (hb : EvL tb σ H (Ints ns)) : Ev (tOp (rIn K true) ta tb) σ H (.bl (!decide (d ∈ ns))) := by
  have z := ev_opL hd hb fun p H1 h _ => rv_niL (K := K) (sq_of h) rfl (flats ns)
  rw [dIn] at z
  exact z
/-- sorted(set(xs)), xs stands -/
theorem el_sortSetV {w : World} {a : Addr} {ns : List Int} (h : Ev ta σ H (.ref a)) (hx : IL H a ns) (hz : ns.length < 64) : EvL (tCB (rSortedSet w) (tCons (tCB (rSetI K w) (tCons ta tNil)) tNil)) σ H (Ints (sortD ns)) := fun H1 e Q q =>
  h H1 e _ fun H2 e2 => ⟨a, ns, rfl, sq_of ((e.trans e2) a _ hx), by omega, fun b c hb ⟨ks, nd, hm, hc⟩ => ⟨b, _, c, rfl, upd_same, by
    have := set_many nd hm
    have := sortD_len ns
    omega, fun ms r up mem _ hr => by
    obtain rfl : ms = sortD ns := sortD_eq up (fun z => by rw [mem, decide_eq_true_eq])
    exact q r _ (fresh_back (e2.trans (Ex.new hb)) hr) ((e2.trans (Ex.new hb)).trans (Ex.new hr)) upd_same⟩⟩
/-- xs != ys, ys new -/
theorem neLP {a : Addr} {us : List V} {S S2 : List (List Int)} {P : Hp → List V → Hp → Prop} (ha : Ev ta σ H (.ref a)) (h1 : Lst H a us) (h2 : ILs H us S) (hb : EvLP tb σ H S2 P) : Ev (tOp (rNeD K) ta tb) σ H (.bl (!decide (S = S2))) := fun H1 e Q q =>
  ha H1 e _ fun H2 e2 => hb H2 (e.trans e2) _ fun p vs H3 _ e3 hp hI _ => ⟨dLL S, dLL S2, dp_LL (((e.trans e2).trans e3) a _ h1) (h2.ex ((e.trans e2).trans e3)), dp_LL hp hI, sh_LL _, sh_LL _, by
    rw [eqv_LL]
    exact q H3 (e2.trans e3)⟩
theorem atI_pred {us : List V} {i : Nat} {v : V} (h0 : 0 < i) (h : us[i - 1]? = some v) : atI us ((i : Int) - 1) = some v := by
  rw [show (i : Int) - 1 = ((i - 1 : Nat) : Int) by omega]
  exact atI_nat h
end
end Rg

set_option Elab.async false
set_option linter.all false
set_option maxRecDepth 100000
set_option maxHeartbeats 1000000
/-! Rg, part V: twins. -/
namespace Rg
open PySem PySem.Spec PyProof.Rows L2 Evl
theorem ab_mul {t z : Int} (ht : 0 ≤ t) : ab (t * z) = t * ab z := by
  unfold ab
  by_cases hz : z < 0
  · rw [if_pos hz]
    by_cases h : t * z < 0
    · rw [if_pos h, Int.mul_neg]
    · rw [if_neg h]
      have h1 := Int.mul_nonneg ht (show 0 ≤ -z by omega)
      rw [Int.mul_neg] at h1 ⊢
      omega
  · rw [if_neg hz]
    have h1 := Int.mul_nonneg ht (show 0 ≤ z by omega)
    rw [if_neg (by omega)]
theorem prs_mul {t : Int} (ht : 0 ≤ t) : ∀ xs : List Int, prs (xs.map fun x => t * x) = (prs xs).map fun x => t * x
  | [] => rfl
  | x :: xs => by
    show ((xs.map fun x => t * x).map fun y => ab (t * x - y)) ++ prs (xs.map fun x => t * x) = ((xs.map fun y => ab (x - y)) ++ prs xs).map fun x => t * x
    rw [List.map_append, prs_mul ht xs, List.map_map, List.map_map]
    congr 1
    refine List.map_congr_left fun y _ => ?_
    show ab (t * x - t * y) = t * ab (x - y)
    rw [← Int.mul_sub, ab_mul ht]
def rdT (t : Int) : List Int := [0, 1, 4, 10, 12, 17].map fun x => t * x
def twT (t : Int) : List Int := [0, 1, 8, 11, 13, 17].map fun x => t * x
theorem tw_btw {t : Int} (ht : 0 ≤ t) : btw (twT t) = btw (rdT t) := by
  rw [btw_prs, btw_prs, rdT, twT, prs_mul ht, prs_mul ht]
  exact sortI_congr ((show (prs [0, 1, 8, 11, 13, 17]).Perm (prs [0, 1, 4, 10, 12, 17]) by decide).map _)
theorem rdT_eq (t : Int) : rdT t = [0, t, 4 * t, 10 * t, 12 * t, 17 * t] := by
  simp [rdT, Int.mul_comm]
theorem twT_eq (t : Int) : twT t = [0, t, 8 * t, 11 * t, 13 * t, 17 * t] := by
  simp [twT, Int.mul_comm]
theorem mirT_eq (t : Int) : mirP (rdT t) = [0, 5 * t, 7 * t, 13 * t, 16 * t, 17 * t] := by
  rw [rdT_eq]
  simp [mirP, topI, gi]
  omega
theorem mirT2_eq (t : Int) : mirP (mirP (rdT t)) = rdT t := by
  rw [mirT_eq, rdT_eq]
  simp [mirP, topI, gi]
  omega
theorem up6 {a b c d e : Int} (h : 0 < a ∧ a < b ∧ b < c ∧ c < d ∧ d < e) : ([0, a, b, c, d, e] : List Int).Pairwise (· < ·) := by
  simp
  omega
theorem road6 {a b c d e : Int} (h : 0 < a ∧ a < b ∧ b < c ∧ c < d ∧ d < e ∧ e ≤ 4000) : roadOk [0, a, b, c, d, e] := roadOk_of (by simp) (by simp) rfl (fun x hx => by simp at hx; omega) (up6 (by omega))
/-- the road and its known twin -/
def t7 (ns : List Int) : Int := 1 + cell ns 1 / 6 % 20
def st7 (ns : List Int) : Int := gi [2, 5, 40] (cell ns 0 / 7 % 3).toNat
def lr7 (ns : List Int) : List Int := lroad ns 2 (st7 ns) (cell ns 0 % 7).toNat
def rd7 (ns : List Int) : List Int := if cell ns 1 % 3 = 1 then (if cell ns 1 / 3 % 2 = 1 then mirP (rdT (t7 ns)) else rdT (t7 ns)) else lr7 ns
def tw7 (ns : List Int) : Option (List Int) := if cell ns 1 % 3 = 1 then some (twT (t7 ns)) else none
theorem t7_ok (ns : List Int) : 1 ≤ t7 ns ∧ t7 ns ≤ 20 := by
  unfold t7
  omega
theorem st7_ok (ns : List Int) : 0 < st7 ns ∧ st7 ns ≤ 40 := by
  have := gi3 (x := 2) (y := 5) (z := 40) (i := cell ns 0 / 7 % 3) (by omega) (by omega)
  unfold st7
  omega
theorem lr7_ok (ns : List Int) : roadOk (lr7 ns) ∧ (lr7 ns).length ≤ 7 := by
  obtain ⟨h1, h2⟩ := st7_ok ns
  have hm := Int.mul_le_mul (show (((cell ns 0 % 7).toNat : Nat) : Int) ≤ 6 by omega) h2 (by omega) (by decide)
  refine ⟨lroad_ok ns 2 h1 (by omega) (by omega), ?_⟩
  rw [lr7, lroad_len]
  omega
theorem rdT_ok {t : Int} (h : 1 ≤ t ∧ t ≤ 20) : roadOk (rdT t) ∧ roadOk (mirP (rdT t)) := by
  rw [mirT_eq, rdT_eq]
  exact ⟨road6 (by omega), road6 (by omega)⟩
theorem rd7_ok (ns : List Int) : roadOk (rd7 ns) ∧ (rd7 ns).length ≤ 7 := by
  obtain ⟨h1, h2⟩ := rdT_ok (t7_ok ns)
  unfold rd7
  split
  · split
    · exact ⟨h2, by rw [mirT_eq]; simp⟩
    · exact ⟨h1, by rw [rdT_eq]; simp⟩
  · exact lr7_ok ns
theorem tw7_ok {ns tw : List Int} (h : tw7 ns = some tw) : Good (btw (rd7 ns)) tw ∧ tw ∉ [rd7 ns, mirP (rd7 ns)] := by
  obtain ⟨ht1, ht2⟩ := t7_ok ns
  unfold tw7 at h
  split at h
  · rename_i hc
    cases h
    have hb : btw (twT (t7 ns)) = btw (rd7 ns) := by
      rw [tw_btw (by omega), rd7, if_pos hc]
      split
      · rw [mirP_btw]
      · rfl
    refine ⟨⟨by rw [twT_eq]; simp, by rw [twT_eq]; rfl, by rw [twT_eq]; exact up6 (by omega), hb⟩, ?_⟩
    rw [rd7, if_pos hc]
    split
    · rw [mirT2_eq, mirT_eq, rdT_eq, twT_eq]
      simp
      omega
    · rw [mirT_eq, rdT_eq, twT_eq]
      simp
      omega
  · cases h
theorem road_gaps {r : List Int} (h : roadOk r) (h7 : r.length ≤ 7) : (btw r).length ≤ 21 ∧ gapsOk (btw r) := by
  have hl := btw_len2 r
  have hn := up_nodup h.up
  have hne := h.ne
  refine ⟨?_, gapsOk_of (btw_up r) fun d hd => ?_⟩
  · have hm := Nat.mul_le_mul (show r.length - 1 ≤ 6 by omega) h7
    have e : r.length * r.length = (r.length - 1) * r.length + r.length := by
      have hp := h.1
      obtain ⟨k, hk⟩ : ∃ k, r.length = k + 1 := ⟨r.length - 1, by omega⟩
      rw [hk, Nat.add_sub_cancel, ← Nat.succ_mul]
    omega
  · have h1 : 1 ≤ d := lbw_pos (by rw [lbw_btw hn]; exact hd)
    have h2 : d ≤ 4000 := by
      have hd := (btw_perm_prs r).mem_iff.mp hd
      refine prs_le (fun x hx => ⟨?_, ?_⟩) d hd
      · exact Good.le ⟨hne, h.2.2.1, h.up, rfl⟩ x hx
      · have := top_le (h.up.imp fun h => by omega) x hx
        have := h.2.2.2.1
        unfold topI at *
        omega
    exact ⟨h1, h2⟩
theorem road_good {r : List Int} (h : roadOk r) : Good (btw r) r := ⟨h.ne, h.2.2.1, h.up, rfl⟩
def twins (r : List Int) : List (List Int) := (roadsF (btw r)).filter fun x => !decide (x ∈ [r, mirP r])
theorem twins_mem {r : List Int} (h : roadOk r) (h7 : r.length ≤ 7) {x : List Int} : x ∈ twins r ↔ Good (btw r) x ∧ x ∉ [r, mirP r] := by
  obtain ⟨h1, h2⟩ := road_gaps h h7
  rw [twins, List.mem_filter, roadsF_iff (btw_up r) h2.pos h1]
  simp
/-- all that is told, counted -/
theorem filter_two {S : List (List Int)} {r m : List Int} (hn : S.Nodup) (h1 : r ∈ S) (h2 : m ∈ S) : (S.filter fun x => !decide (x ∈ [r, m])).length + 1 + (if r = m then 0 else 1) = S.length := by
  have hp : S.Perm ((if r = m then [r] else [r, m]) ++ S.filter fun x => !decide (x ∈ [r, m])) := by
    refine (List.perm_ext_iff_of_nodup hn ?_).mpr fun z => ?_
    · refine List.nodup_append.mpr ⟨?_, hn.filter _, fun x hx y hy e => ?_⟩
      · split
        · simp
        · rename_i h
          simp [h]
      · have := (List.mem_filter.mp hy).2
        simp at this
        rw [← e] at this
        split at hx <;> simp at hx <;> rcases hx with rfl | rfl <;> simp at this
    · rw [List.mem_append, List.mem_filter]
      by_cases hz : z ∈ [r, m]
      · have hzS : z ∈ S := by
          simp at hz
          rcases hz with rfl | rfl <;> assumption
        have : z ∈ (if r = m then [r] else [r, m]) := by
          split
          · rename_i h
            simp at hz
            rcases hz with rfl | rfl
            · simp
            · rw [h]; simp
          · exact hz
        simp [hzS, this]
      · have : z ∉ (if r = m then [r] else [r, m]) := by
          simp at hz
          split <;> simp [hz]
        simp only [this, false_or]
        simp [hz]
  have hl := hp.length_eq
  rw [List.length_append] at hl
  split at hl
  · rename_i h
    rw [if_pos h]
    simp at hl ⊢
    omega
  · rename_i h
    rw [if_neg h]
    simp at hl ⊢
    omega
end Rg

set_option Elab.async false
set_option linter.all false
set_option maxRecDepth 100000
set_option maxHeartbeats 1000000
/-! Rg, part Y: roads crossed. -/
namespace Rg
open PySem PySem.Spec PyProof.Rows L2 Evl
def addR (ys : List Int) (x : Int) : List Int := ys.map fun y => x + y
def sumsP (xs ys : List Int) : List Int := sortI (xs.flatMap (addR ys))
def manyP (one other : List Int) : Prop := 50 < one.length * other.length ∨ 4000 < topI one + topI other
def twice (r : List Int) : Prop := (sortD r).length < r.length
def meetP (one other : List Int) : Prop := twice (sumsP one other) ∨ twice (sumsP one (mirP other))
instance (r : List Int) : Decidable (twice r) := by unfold twice; exact inferInstance
instance (a b : List Int) : Decidable (manyP a b) := by unfold manyP; exact inferInstance
instance (a b : List Int) : Decidable (meetP a b) := by unfold meetP; exact inferInstance
open Classical in
noncomputable def refX (one other : List Int) : Option String := if ¬ (roadOk one ∧ roadOk other) then some "NoRoad" else if manyP one other then some "TooMany" else if meetP one other then some "Meets" else none
theorem refX_1 {one other : List Int} (h : ¬ (roadOk one ∧ roadOk other)) : refX one other = some "NoRoad" := if_pos h
theorem refX_2 {one other : List Int} (h1 : roadOk one) (h2 : roadOk other) (h : manyP one other) : refX one other = some "TooMany" := by
  rw [refX, if_neg (fun z => z ⟨h1, h2⟩), if_pos h]
theorem refX_3 {one other : List Int} (h1 : roadOk one) (h2 : roadOk other) (h : ¬ manyP one other) (h3 : meetP one other) : refX one other = some "Meets" := by
  rw [refX, if_neg (fun z => z ⟨h1, h2⟩), if_neg h, if_pos h3]
theorem refX_4 {one other : List Int} (h1 : roadOk one) (h2 : roadOk other) (h : ¬ manyP one other) (h3 : ¬ meetP one other) : refX one other = none := by
  rw [refX, if_neg (fun z => z ⟨h1, h2⟩), if_neg h, if_neg h3]
theorem flat_addR (ys : List Int) : ∀ xs : List Int, (xs.flatMap (addR ys)).length = xs.length * ys.length
  | [] => by simp
  | x :: xs => by
    rw [List.flatMap_cons, List.length_append, flat_addR ys xs, addR, List.length_map, List.length_cons, Nat.succ_mul]
    omega
theorem sumsP_len (xs ys : List Int) : (sumsP xs ys).length = xs.length * ys.length := by
  rw [sumsP, sortI_len, flat_addR]
theorem sumsP_perm {xs ys zs : List Int} (h : ys.Perm zs) : sumsP xs ys = sumsP xs zs := by
  refine sortI_congr ?_
  induction xs with
  | nil => exact .refl _
  | cons x xs ih =>
    rw [List.flatMap_cons, List.flatMap_cons]
    exact (h.map _).append ih
/-- the other road seen from its end, not turned round -/
theorem mir_perm (r : List Int) : (r.map fun x => topI r - x).Perm (mirP r) := by
  unfold mirP
  exact (List.reverse_perm r).symm.map _
section
variable {K : PySem.W.Frag} {σ : L2.St} {H H' : Hp} {ta tb te tl : TE} {tt : TT}
/-- for x in one: row.extend([x + y for y in other]) -/
theorem s_sums {D : Ends} {a b l : Addr} {xs ys : List Int} {v3 v4 : Option V} {H0 : Hp} (ha : IL H a xs) (hb : IL H b ys) (hl : Lst H l []) (h0 : Ex H0 H) (hln : H0 l = none) (hn : xs.length * ys.length ≤ 40000) (hn2 : ys.length ≤ 10000) (hal : a ≠ l) (hbl : b ≠ l)
    (k : ∀ v3 H', Ex H0 H' → IL H' l (xs.flatMap (addR ys)) → IL H' a xs → D.nx [some (.ref a), some (.ref b), some (.ref l), v3, v4] H') :
    tFor (iList K (tVar 0)) (gName 3) (tDrop (tBM K "list" rExtend (tVar 2) (tCons (tLc (iList K (tVar 1)) (gName 4) tYes (tOp (rI0 fun i j => .int (i + j)) (tVar 3) (tVar 4)) [4]) tNil))) D [some (.ref a), some (.ref b), some (.ref l), v3, v4] H := by
  refine s_forL v_ (sq_of ha) (fun i σ H' => ∃ v3, σ = [some (.ref a), some (.ref b), some (.ref l), v3, v4] ∧ Ex H0 H' ∧ IL H' a xs ∧ IL H' b ys ∧ IL H' l ((xs.take i).flatMap (addR ys)))
    (fun H1 e1 => ⟨v3, rfl, h0.trans e1, e1 a _ ha, e1 b _ hb, e1 l _ hl⟩) (fun i σ H' _ ⟨_, _, _, e, _⟩ => sq_of e) ?_ ?_
  · rintro i x σ H1 hi ⟨v3, rfl, e1, h1a, h1b, h1l⟩
    obtain ⟨x, hx, rfl⟩ := ints_at hi
    have hlen : ((xs.take i).flatMap (addR ys)).length + ys.length ≤ 50000 := by
      rw [flat_addR]
      have := Nat.mul_le_mul (List.length_take_le' i xs) (Nat.le_refl ys.length)
      omega
    have hadd : addR ys x = (ys.filter fun _ => true).map fun y => x + y := by rw [List.filter_eq_self.mpr fun _ _ => rfl] <;> rfl
    refine s_extX (fun _ zs _ => zs = Ints (addR ys x)) h1l v_ (fun H2 e2 Q q => (by
      rw [hadd] at q
      exact el_lcI (K := K) (fun _ => true) (fun y => x + y) v_ (e2 b _ h1b) (by omega) (fun _ => rfl) (fun _ _ _ _ => et_yes) (fun y _ _ _ _ => add_ v_ v_) H2 (Ex.refl H2) _ fun p H3 _ e3 h3 => q p _ H3 e3 h3 rfl)) fun p zs H2 e2 h2 hz => ?_
    subst hz
    refine ⟨by simp only [List.length_map, addR] at hlen ⊢; omega, _, rfl, Ex.mut (e1.trans e2) hln, ?_, ?_, ?_⟩
    · show L2.upd H2 l _ a = _
      rw [upd_ne hal]
      exact e2 a _ h1a
    · show L2.upd H2 l _ b = _
      rw [upd_ne hbl]
      exact e2 b _ h1b
    · refine il_upd ?_
      rw [take_more hx, List.flatMap_append, List.flatMap_singleton]
      simp [Ints]
  · rintro σ H1 ⟨v3, rfl, e1, h1a, h1b, h1l⟩
    rw [List.length_map, List.take_length] at h1l
    exact k v3 H1 e1 h1l h1a
/-- x = (new list, new list) -/
theorem s_asgXT {D : Ends} {i : Nat} {xs ys : List V} (h1 : EvL ta σ H xs) (h2 : ∀ H1, Ex H H1 → EvL tb σ H1 ys) (k : ∀ p f g H1, H p = none → H f = none → H g = none → g ≠ f → Ex H H1 → H1 p = some (.tup [.ref f, .ref g]) → Lst H1 f xs → Lst H1 g ys → D.nx (σ.set i (some (.ref p))) H1) :
    tAsg (tTup (tCons ta (tCons tb tNil))) (gName i) D σ H := h1 H (Ex.refl H) _ fun f H1 hf e1 hf1 => h2 H1 e1 H1 (Ex.refl H1) _ fun g H2 hg e2 hg2 => ⟨(by show (2 : Nat) ≤ sizeLine; decide), fun p hp =>
  k p f g _ (fresh_back (e1.trans e2) hp) hf (fresh_back e1 hg) (fun z => by rw [z, hf1] at hg; cases hg) ((e1.trans e2).trans (Ex.new hp)) upd_same ((Ex.new hp) f _ (e2 f _ hf1)) ((Ex.new hp) g _ hg2)⟩
/-- f(x, new list) -/
theorem el_callN2 {sp : Sp} {dvs : List V} {E : XK} {v : V} {ns : List Int} {xs : List V} (h1 : Ev ta σ H v) (h2 : EvL tb σ H (Ints ns)) (hs : ∀ c H1, Ex H H1 → IL H1 c ns → ∀ Q : VK, (∀ p H2, H1 p = none → Ex H1 H2 → H2 p = some (.lst xs) → Q (.ref p) H2) → ∀ E : XK, sp ([v, .ref c] ++ dvs) H1 Q E) :
    EvL (tCall sp dvs E (tCons ta (tCons tb tNil))) σ H xs := fun H1 e Q q => h1 H1 e _ fun H2 e2 => h2 H2 (e.trans e2) _ fun c H3 _ e3 hc => hs c H3 ((e.trans e2).trans e3) hc Q (fun p H4 hp e4 h4 => q p H4 (fresh_back (e2.trans e3) hp) ((e2.trans e3).trans e4) h4) E
/-! ### texts of which class: lists of truth values as data -/
def dB (bs : List Bool) : PyData := .list (bs.map .bool)
abbrev Bools (bs : List Bool) : List V := bs.map V.bl
theorem dp_B {a : Addr} {bs : List Bool} (h : Lst H a (Bools bs)) : Dp K H (.ref a) (dB bs) := .lst (sq_of h) (by
  induction bs generalizing a with
  | nil => exact .nil
  | cons b bs ih =>
    have : ∀ bs : List Bool, DpAll K H (Bools bs) (bs.map .bool) := fun bs => by
      induction bs with
      | nil => exact .nil
      | cons b bs ih => exact .cons (.bl b) ih
    exact this (b :: bs))
theorem lay_Bs (bs : List Bool) : PyData.canLayAll0 (bs.map .bool) = true := by
  induction bs with
  | nil => rfl
  | cons x xs ih => simp [PyData.canLayAll0, PyData.canLay0, ih]
theorem depth_Bs (bs : List Bool) : PyData.depthAll (bs.map .bool) = 0 := by
  induction bs with
  | nil => rfl
  | cons x xs ih => simp [PyData.depthAll, PyData.depth, ih]
theorem sh_B (bs : List Bool) : SeqAt.shaped (dB bs) = true := by
  simp [SeqAt.shaped, dB, PyData.canLay0, PyData.depth, lay_Bs, depth_Bs]
theorem eqvs_B : ∀ bs cs : List Bool, PyData.eqvAll (bs.map .bool) (cs.map .bool) = decide (bs = cs)
  | [], [] => by simp [PyData.eqvAll]
  | [], _ :: _ => by simp [PyData.eqvAll]
  | _ :: _, [] => by simp [PyData.eqvAll]
  | x :: xs, y :: ys => by
    rw [Bool.eq_iff_iff]
    simp [PyData.eqvAll, PyData.eqv, eqvs_B xs ys]
theorem eqv_B (bs cs : List Bool) : PyData.eqv (dB bs) (dB cs) = decide (bs = cs) := by
  simp [dB, PyData.eqv, eqvs_B]
/-- kinds != [], == [..] -/
theorem neBN {a : Addr} {bs cs : List Bool} (ha : Ev ta σ H (.ref a)) (h1 : Lst H a (Bools bs)) (hb : EvL tb σ H (Bools cs)) : Ev (tOp (rNeD K) ta tb) σ H (.bl (!decide (bs = cs))) := fun H1 e Q q =>
  ha H1 e _ fun H2 e2 => hb H2 (e.trans e2) _ fun b H3 _ e3 h2 => ⟨dB bs, dB cs, dp_B (((e.trans e2).trans e3) a _ h1), dp_B h2, sh_B _, sh_B _, by
    rw [eqv_B]
    exact q H3 (e2.trans e3)⟩
theorem eqBB {a b : Addr} {bs cs : List Bool} (ha : Ev ta σ H (.ref a)) (h1 : Lst H a (Bools bs)) (hb : Ev tb σ H (.ref b)) (h2 : Lst H b (Bools cs)) : Ev (tOp (rEqD K) ta tb) σ H (.bl (decide (bs = cs))) := fun H1 e Q q =>
  ha H1 e _ fun H2 e2 => hb H2 (e.trans e2) _ fun H3 e3 => ⟨dB bs, dB cs, dp_B (((e.trans e2).trans e3) a _ h1), dp_B (((e.trans e2).trans e3) b _ h2), sh_B _, sh_B _, by
    rw [eqv_B]
    exact q H3 (e2.trans e3)⟩
def dNB (bs : List Bool) : PyData := .tuple [.none, dB bs]
theorem sh_NB (bs : List Bool) : SeqAt.shaped (dNB bs) = true := by
  simp [SeqAt.shaped, dNB, dB, PyData.canLay0, PyData.canLayAll0, PyData.depth, PyData.depthAll, lay_Bs, depth_Bs]
theorem eqv_NB (bs cs : List Bool) : PyData.eqv (dNB bs) (dNB cs) = decide (bs = cs) := by
  have := eqv_B bs cs
  simp [dNB, PyData.eqv, PyData.eqvAll] at this ⊢
  exact this
theorem dp_NB {p a : Addr} {bs : List Bool} (hp : H p = some (.tup [.non, .ref a])) (h : Lst H a (Bools bs)) : Dp K H (.ref p) (dNB bs) := .tup (st_of hp) (.cons .non (.cons (dp_B h) .nil))
/-- (None, kinds) == (None, kinds) -/
theorem eqNB {p a b : Addr} {bs cs : List Bool} {tc : TE} (ha : Ev ta σ H (.ref p)) (hp : H p = some (.tup [.non, .ref a])) (h1 : Lst H a (Bools bs)) (hb : Ev tb σ H .non) (hc : Ev tc σ H (.ref b)) (h2 : Lst H b (Bools cs)) : Ev (tOp (rEqD K) ta (tTup (tCons tb (tCons tc tNil)))) σ H (.bl (decide (bs = cs))) := fun H1 e Q q =>
  ha H1 e _ fun H2 e2 => eu_tup (ea_cons hb (ea_cons hc ea_nil)) (by show (2 : Nat) ≤ 100000; decide) H2 (e.trans e2) _ fun r H3 hr e3 h3 => ⟨dNB bs, dNB cs, dp_NB (((e.trans e2).trans e3) p _ hp) (((e.trans e2).trans e3) a _ h1), dp_NB h3 (((e.trans e2).trans e3) b _ h2), sh_NB _, sh_NB _, by
    rw [eqv_NB]
    exact q H3 (e2.trans e3)⟩
theorem neNBN {p a : Addr} {bs cs : List Bool} {tc : TE} (ha : Ev ta σ H (.ref p)) (hp : H p = some (.tup [.non, .ref a])) (h1 : Lst H a (Bools bs)) (hb : Ev tb σ H .non) (hc : EvL tc σ H (Bools cs)) : Ev (tOp (rNeD K) ta (tTup (tCons tb (tCons tc tNil)))) σ H (.bl (!decide (bs = cs))) := fun H1 e Q q =>
  ha H1 e _ fun H2 e2 => hb H2 (e.trans e2) _ fun H3 e3 => hc H3 ((e.trans e2).trans e3) _ fun b H4 _ e4 h4 => ⟨(by show (2 : Nat) ≤ sizeLine; decide), fun r hr => by
    have e5 := (((e.trans e2).trans e3).trans e4).trans (Ex.new (o := .tup [.non, .ref b]) hr)
    refine ⟨dNB bs, dNB cs, dp_NB (e5 p _ hp) (e5 a _ h1), dp_NB upd_same ((Ex.new hr) b _ h4), sh_NB _, sh_NB _, ?_⟩
    rw [eqv_NB]
    exact q _ (((e2.trans e3).trans e4).trans (Ex.new hr))⟩
/-- xs + [..], any values -/
theorem el_catV {a : Addr} {xs ys : List V} (h : Ev ta σ H (.ref a)) (hx : Lst H a xs) (hb : EvL tb σ H ys) (hz : xs.length + ys.length ≤ 100000) : EvL (tOp rCat ta tb) σ H (xs ++ ys) := fun H1 e Q q =>
  h H1 e _ fun H2 e2 => hb H2 (e.trans e2) _ fun b H3 hb e3 h3 => ⟨a, b, xs, ys, rfl, rfl, ((e.trans e2).trans e3) a _ hx, h3, sz_of hz, fun p hp =>
    q p _ (fresh_back (e2.trans e3) hp) ((e2.trans e3).trans (Ex.new hp)) upd_same⟩
/-- x = [new list, new list] -/
theorem s_asgXL {D : Ends} {i : Nat} {xs ys : List V} (h1 : EvL ta σ H xs) (h2 : ∀ H1, Ex H H1 → EvL tb σ H1 ys) (k : ∀ p f g H1, H p = none → Ex H H1 → Lst H1 p [.ref f, .ref g] → Lst H1 f xs → Lst H1 g ys → D.nx (σ.set i (some (.ref p))) H1) :
    tAsg (tLst (tCons ta (tCons tb tNil))) (gName i) D σ H := h1 H (Ex.refl H) _ fun f H1 hf e1 hf1 => h2 H1 e1 H1 (Ex.refl H1) _ fun g H2 hg e2 hg2 => ⟨(by show (2 : Nat) ≤ sizeLine; decide), fun p hp =>
  k p f g _ (fresh_back (e1.trans e2) hp) ((e1.trans e2).trans (Ex.new hp)) upd_same ((Ex.new hp) f _ (e2 f _ hf1)) ((Ex.new hp) g _ hg2)⟩
end
/-! ### the law's two roads -/
def kindB (x : Str) : List Bool := [decide (x = "NoRoad"), decide (x = "NoGaps"), decide (x = "TooMany"), decide (x = "Meets"), decide (x = "BadText"), true]
/-- from nought, rising -/
structure Rise (r : List Int) : Prop where
  ne : r ≠ []
  z : gi r 0 = 0
  up : r.Pairwise (· < ·)
theorem Rise.ok {r : List Int} (h : Rise r) (hl : r.length ≤ 50) : roadOk r ↔ topI r ≤ 4000 := by
  constructor
  · intro k
    exact k.2.2.2.1
  · intro k
    exact roadOk_of h.ne hl h.z (fun x hx => by have := top_le (h.up.imp fun h => by omega) x hx; omega) h.up
theorem lroad_rise (ns : List Int) (first : Int) {steps : Int} (hs : 0 < steps) (n : Nat) : Rise (lroad ns first steps n) := by
  obtain ⟨h1, _, h3, _⟩ := lroad_facts ns first hs n
  refine ⟨fun z => ?_, h1, h3⟩
  have := lroad_len ns first steps n
  rw [z] at this
  cases this
theorem Rise.take {r : List Int} (h : Rise r) {n : Nat} (hn : 1 ≤ n) : Rise (r.take n) := by
  obtain ⟨k, rfl⟩ : ∃ k, n = k + 1 := ⟨n - 1, by omega⟩
  obtain ⟨h1, h2, h3⟩ := h
  match r, h1, h2, h3 with
  | x :: xs, _, h2, h3 => exact ⟨by simp, h2, h3.sublist (List.take_sublist _ _)⟩
theorem Rise.mul {r : List Int} (h : Rise r) {c : Int} (hc : 0 < c) : Rise (r.map fun x => x * c) := by
  obtain ⟨h1, h2, h3⟩ := h
  refine ⟨by simpa using h1, ?_, ?_⟩
  · match r, h1, h2 with
    | x :: xs, _, h2 =>
      have h2 : x = 0 := h2
      show x * c = 0
      rw [h2, Int.zero_mul]
  · rw [List.pairwise_map]
    exact h3.imp fun h => Int.mul_lt_mul_of_pos_right h hc
theorem Rise.top0 {r : List Int} (h : Rise r) : 0 ≤ topI r := by
  have := top_le (h.up.imp fun h => by omega) (gi r 0) (gi_mem (List.length_pos_iff.mpr h.ne))
  rw [h.z] at this
  exact this
def st8 (ns : List Int) : Int := gi [9, 9, 9, 400] (cell ns 1 % 4).toNat
def wd8 (ns : List Int) : Int := gi [9, 60, 900] (cell ns 1 / 4 % 3).toNat
def oneA (ns : List Int) : List Int := lroad ns 2 (st8 ns) (cell ns 0 % 9).toNat
def othA (ns : List Int) : List Int := lroad ns 11 (wd8 ns) (cell ns 0 / 9 % 10).toNat
def othB (ns : List Int) : List Int := if cell ns 1 / 12 % 2 = 1 then ((othA ns).take 5).map fun x => x * (topI (oneA ns) + 1) else othA ns
def bad8 (ns : List Int) : Prop := cell ns 1 / 24 % 4 = 1
instance (ns : List Int) : Decidable (bad8 ns) := by unfold bad8; exact inferInstance
def oneC (ns : List Int) : List Int := if bad8 ns then (oneA ns).map fun x => x + 2 else oneA ns
theorem st8_pos (ns : List Int) : 0 < st8 ns := by
  have := gi4 (x := 9) (y := 9) (z := 9) (u := 400) (i := cell ns 1 % 4) (by omega) (by omega)
  unfold st8
  omega
theorem wd8_pos (ns : List Int) : 0 < wd8 ns := by
  have := gi3 (x := 9) (y := 60) (z := 900) (i := cell ns 1 / 4 % 3) (by omega) (by omega)
  unfold wd8
  omega
theorem oneA_ok (ns : List Int) : Rise (oneA ns) ∧ (oneA ns).length ≤ 9 := by
  refine ⟨lroad_rise ns 2 (st8_pos ns) _, ?_⟩
  rw [oneA, lroad_len]
  omega
theorem othB_ok (ns : List Int) : Rise (othB ns) ∧ (othB ns).length ≤ 10 := by
  have h1 := lroad_rise ns 11 (wd8_pos ns) (cell ns 0 / 9 % 10).toNat
  have h2 := (oneA_ok ns).1.top0
  have h3 : (othA ns).length ≤ 10 := by
    rw [othA, lroad_len]
    omega
  unfold othB
  split
  · refine ⟨(h1.take (by decide)).mul (by omega), ?_⟩
    rw [List.length_map, List.length_take]
    omega
  · exact ⟨h1, h3⟩
theorem oneC_len (ns : List Int) : (oneC ns).length ≤ 9 ∧ oneC ns ≠ [] := by
  obtain ⟨h1, h2⟩ := oneA_ok ns
  unfold oneC
  split
  · exact ⟨by rw [List.length_map]; exact h2, by simpa using h1.ne⟩
  · exact ⟨h2, h1.ne⟩
/-- where one of them is none -/
theorem noRoad8 (ns : List Int) : (bad8 ns ∨ 4000 < (if topI (othB ns) > topI (oneC ns) then topI (othB ns) else topI (oneC ns))) ↔ ¬ (roadOk (oneC ns) ∧ roadOk (othB ns)) := by
  obtain ⟨h1, h2⟩ := oneA_ok ns
  obtain ⟨h3, h4⟩ := othB_ok ns
  rw [h3.ok (by omega)]
  by_cases hb : bad8 ns
  · have : ¬ roadOk (oneC ns) := fun z => by
      have hz := z.2.2.1
      obtain ⟨k1, k2, _⟩ := h1
      unfold oneC at hz
      rw [if_pos hb] at hz
      match oneA ns, k1, k2, hz with
      | x :: xs, _, k2, hz =>
        have k2 : x = 0 := k2
        have hz : x + 2 = 0 := hz
        omega
    simp [hb, this]
  · have e : oneC ns = oneA ns := by rw [oneC, if_neg hb]
    rw [e, h1.ok (by omega)]
    simp only [hb, false_or]
    split <;> omega
section
variable {K : PySem.W.Frag} {σ : L2.St} {H H' : Hp} {ta tb te tl : TE} {tt : TT}
end
end Rg

set_option Elab.async false
set_option linter.all false
set_option maxRecDepth 100000
set_option maxHeartbeats 2000000
/-! Rg, part Rev: list(reversed(a list)). -/
namespace RT
open PySem PySem.Spec PyProof.Rows
section
variable {prog : Program} {w : World} {A : Around} {E : Value → Shared → Prop} {s : Shared}
theorem call_list_rev {it l : Addr} {items : Array Value} {Q : Value → Shared → Prop} (hh : A.handled = none) (hit : s.heap.IsRevIter it l ((items.size : Int) - 1)) (hl : s.heap.IsList l items) (hne : l ≠ it) (hn : items.size ≤ sizeLine)
    (hQ : ∀ (h' : Heap) (tk : Nat) (acc : Array Value) (c : Nat), (∀ b o, b ≠ it → s.heap.get? b = some o → h'.get? b = some o) → h'.get? s.heap.objs.size = some { cls := .type "list", dict := none, data := .seq acc c, slots := #[] } → ItemsOf (fun i v => items[items.size - 1 - i]? = some v) acc items.size →
      Q (.ref s.heap.objs.size) { s with heap := h', toks := tk }) :
    wpAny (model prog w) A (call (.type "list") [.ref it]) Q E s := by
  obtain ⟨oi, hoi, _⟩ := id hit
  obtain ⟨ol, hol, _⟩ := id hl
  have hSi : s.heap.objs.size ≠ it := Nat.ne_of_gt (Heap.lt_size hoi)
  have hSl : s.heap.objs.size ≠ l := Nat.ne_of_gt (Heap.lt_size hol)
  have hSf : s.heap.objs.size ∉ [it, l] := by simp only [List.mem_cons, List.not_mem_nil, or_false, not_or]; exact ⟨hSi, hSl⟩
  refine callType_codes (Q₁ := fun obj s₁ => obj = .ref s.heap.objs.size ∧ s₁ = { s with heap := s.heap.push { cls := .type "list", data := .seq #[] } }) F.called_list (F.typeCall_list_1 _) F.entry_list_init
    (code_list_new _ ⟨rfl, rfl⟩) fun obj s₁ h₁ => ?_
  obtain ⟨rfl, rfl⟩ := h₁
  have hS : (s.heap.push { cls := .type "list", data := .seq #[] }).get? s.heap.objs.size = some { cls := .type "list", data := .seq #[] } := Heap.get?_push_size _ rfl
  refine ⟨⟨_, hS, rfl⟩, F.args_list_init_2 _ _, ?_⟩
  have W := (Walks.listRev (prog := prog) (w := w) (A := A.in1.in1) hh it l hne items).toS
  show wpAny _ A.in1.in1 (do let old ← Builtin.List.listItems (.ref s.heap.objs.size); Builtin.List.listUpdate (.ref s.heap.objs.size) (fun _ => #[]); letGo old.toList.reverse; Builtin.List.listExtendWith (.ref s.heap.objs.size) (.ref it) .none) _ _ _
  refine wpAny_bind ?_
  unfold Builtin.List.listItems
  refine wpAny_bind (wpAny_seqItems hS rfl (wpAny_pure ?_))
  show wpAny _ A.in1.in1 (updateSeq s.heap.objs.size (fun _ => #[]) >>= fun _ => letGo (#[] : Array Value).toList.reverse >>= fun _ => Builtin.List.listExtendWith (.ref s.heap.objs.size) (.ref it) .none) _ _ _
  refine wpAny_bind (wpAny_updateSeq hS rfl ?_)
  have hS₂ := Heap.get?_update_self (Obj.mapSeq (fun _ => (#[] : Array Value))) hS rfl
  have oth : ∀ b o, b ≠ s.heap.objs.size → (s.heap.push { cls := .type "list", data := .seq #[] }).get? b = some o → ((s.heap.push { cls := .type "list", data := .seq #[] }).update s.heap.objs.size (Obj.mapSeq (fun _ => (#[] : Array Value)))).get? b = some o :=
    fun b o hb e => (Heap.get?_update_other _ _ (Ne.symm hb)).trans e
  have keep : ∀ b o, s.heap.get? b = some o → ((s.heap.push { cls := .type "list", data := .seq #[] }).update s.heap.objs.size (Obj.mapSeq (fun _ => (#[] : Array Value)))).get? b = some o :=
    fun b o e => oth b o (Nat.ne_of_lt (Heap.lt_size e)) (Heap.get?_push_of_some _ e)
  refine wpAny_bind (wpAny_letGo ?_)
  generalize hg : (s.heap.push { cls := .type "list", data := .seq #[] }).update s.heap.objs.size (Obj.mapSeq (fun _ => (#[] : Array Value))) = g at hS₂ keep
  have hit1 : g.IsRevIter it l ((items.size : Int) - 1) := hit.at fun o e => keep _ _ e
  have hl1 : g.IsList l items := by
    obtain ⟨o, ho, r⟩ := hl
    exact ⟨o, keep _ _ ho, r⟩
  have hT : ({ s with heap := g } : Shared).TypeIs (.ref it) "list_reverseiterator" := Heap.IsRevIter.typeIs (s := { s with heap := g }) hit1
  have h1 : Builtin.List.listSameRef (.ref s.heap.objs.size) (.ref it) = false := by simp [Builtin.List.listSameRef, hSi]
  unfold Builtin.List.listExtendWith
  refine wpAny_bind (wpAny_typeOf hT ?_)
  rw [if_neg (by rw [h1]; decide)]
  refine wpAny_bind (wpAny_pyIter_revIter (s := { s with heap := g }) hit1 ?_)
  refine wpAny_bind (wpAny_holding ?_)
  unfold Builtin.List.listLengthHint
  refine wpAny_bind (wpAny_specialOf hT nolen_lri ?_)
  show wpAny _ A.in1.in1 (specialOf (Value.ref it) (Str.ofString "__length_hint__") >>= _) _ _ _
  refine wpAny_bind (wpAny_specialOf hT hint_lri ?_)
  generalize hid : ("list_reverseiterator.__length_hint__" : String) = id0
  wp_delta
  rw [show splitId id0 = some ("list_reverseiterator", "__length_hint__") from by subst hid; decide +kernel]
  subst hid
  refine wpAny_bind (wpAny_isInstance (b := true) hT (by rw [isSubtype_type]; kernel_rfl) ?_)
  refine wpAny_pure ?_
  rw [if_neg (by decide)]
  have e0 : ((items.size : Nat) : Int) - 1 - ((0 : Nat) : Int) = (items.size : Int) - 1 := by omega
  refine wpAny_pure ⟨plainId_quiet F.plain_extend_loop _, codeAny_extend_loopS W hn _ hSf _ items.size 0 _ _ _ rfl (Nat.zero_le _) ⟨Nat.zero_le _, by rw [e0]; exact hit1, hl1⟩ hS₂ (ItemsOf.nil _) fun s' acc' c' hm hS' hacc => ?_⟩
  have hQ' := hQ s'.heap s'.toks acc' c' (fun b o hb e => hm.heap b o (fun hmem => ?_) (keep _ _ e)) hS' hacc
  · refine ⟨rfl, ?_⟩
    rw [Moved.eq_with hm]
    exact hQ'
  · rcases List.mem_cons.mp hmem with e' | hmem
    · exact absurd (Heap.lt_size e) (by rw [e']; exact Nat.lt_irrefl _)
    · exact hb (List.mem_singleton.mp hmem)
end
end RT
namespace L2
open PySem PySem.Spec PyProof.Rows
/-- list(reversed(x)), x a list: a new list -/
def tListRev (K : PySem.W.Frag) (te : TE) : TE := fun σ H Q => te σ H fun v H1 => ∃ (a : Addr) (xs : List V), v = .ref a ∧ SqL K H1 a xs ∧ ∀ q, H1 q = none → Q (.ref q) (upd H1 q (.lst xs.reverse))
section
variable {X : Cx}
theorem pe_listRev {e : Expr} {te : TE} {p p2 pos pos2 : Pos} (hc : X.calm = true) (hg : Gl X "list") (hm : X.mg "list" = none) (hg2 : Gl X "reversed") (hm2 : X.mg "reversed" = none) (he : PE X e te)
    (hs : starEach [e] X.env = (false, eval e X.env) :: starEach [] X.env := by rfl)
    (hs2 : starEach [.Call (.Name "reversed" p2) [e] [] pos2] X.env = (false, eval (.Call (.Name "reversed" p2) [e] [] pos2) X.env) :: starEach [] X.env := by rfl) :
    PE X (.Call (.Name "list" p) [.Call (.Name "reversed" p2) [e] [] pos2] [] pos) (tListRev X.K te) := by
  refine ⟨fun pins s σ H Q I h => ?_⟩
  refine Call_ (ld_blt I hg hm boot_list (PyProof.Rows.callWith_type1 (args_cons (Call_ (ld_blt I hg2 hm2 PyProof.Rows.boot_reversed (PyProof.Rows.callWith_type1 (args_cons (thn (he.run pins s σ H _ I h) fun u s1 ⟨v, H1, I1, r1, q1⟩ => args_nil ?_) hs) hs rfl))) hs2) hs2 rfl))
  obtain ⟨a, xs, ev, hq, q⟩ := q1
  subst ev
  obtain rfl : u = Value.ref a := r1
  obtain ⟨its, rv, p', hz⟩ := I1.list hq
  refine call_reversed_list p'.isList (args_nil ?_)
  have k0 : ∀ b o, s1.heap.get? b = some o → (s1.heap.push (revObj a ((its.toArray.size : Int) - 1))).get? b = some o := fun b o e => Heap.get?_push_of_some _ e
  have I2 : Inv X pins σ H1 { s1 with heap := s1.heap.push (revObj a ((its.toArray.size : Int) - 1)) } := I1.kept (t' := s1.toks) k0
  obtain ⟨f0, f1, f2, f3, f4, f5⟩ := I1.fpOk (H' := H1) (b := s1.heap.objs.size) (Nat.le_refl _) (I1.hok.fresh (Nat.le_refl _))
  have hl := p'.isList
  obtain ⟨ol, hol, _⟩ := id hl
  have hne : a ≠ s1.heap.objs.size := Nat.ne_of_lt (Heap.lt_size hol)
  have hn : its.toArray.size ≤ sizeLine := by rw [List.size_toArray, ← rv.length]; exact hz
  refine RT.call_list_rev (s := { s1 with heap := s1.heap.push (revObj a ((its.toArray.size : Int) - 1)) }) (I1.ok.hd hc) ⟨_, Heap.get?_push_size _ rfl, rfl, rfl⟩ (hl.push _) hne hn fun h' tk acc c hk hs' hi => ?_
  have hle : s1.heap.objs.size ≤ (s1.heap.push (revObj a ((its.toArray.size : Int) - 1))).objs.size := by
    rw [Heap.size_push]
    exact Nat.le_succ _
  refine ⟨.ref _, upd H1 (s1.heap.push (revObj a ((its.toArray.size : Int) - 1))).objs.size (.lst xs.reverse), I1.laid (t' := tk) (fun b o e => hk b o (Nat.ne_of_lt (Heap.lt_size e)) (Heap.get?_push_of_some _ e)) hle (show ObjOk X.prog X.w _ h' _ (.lst xs.reverse) from ⟨by rw [List.length_reverse]; exact hz, acc.toList, c, RT.vals_rev rv hi, ?_⟩), rfl, q _ (I1.hok.fresh hle)⟩
  rw [Array.toArray_toList]
  exact hs'
end
end L2

set_option Elab.async false
set_option linter.all false
set_option maxRecDepth 100000
set_option maxHeartbeats 1000000
/-! Rg, part Z: the spread of a road; lists of which only the length is told. -/
namespace Rg
open PySem PySem.Spec PyProof.Rows L2 Evl
def tally (m : Nat) (ds : List Int) : List Int := (List.range m).map fun (i : Nat) => ((ds.count (i : Int) : Nat) : Int)
theorem tally_len (m : Nat) (ds : List Int) : (tally m ds).length = m := by simp [tally]
theorem tally_gi {m : Nat} {ds : List Int} {i : Nat} (h : i < m) : gi (tally m ds) i = ((ds.count (i : Int) : Nat) : Int) := by
  simp [gi, tally, List.getD_eq_getElem?_getD, List.getElem?_range h]
theorem tally_perm (m : Nat) {a b : List Int} (h : a.Perm b) : tally m a = tally m b := by
  unfold tally
  exact List.map_congr_left fun i _ => by rw [h.count_eq]
theorem tally_more {m : Nat} {ds : List Int} {d : Int} (h0 : 0 ≤ d) (h1 : d < (m : Int)) : (tally m ds).set d.toNat (gi (tally m ds) d.toNat + 1) = tally m (ds ++ [d]) := by
  refine gi_ext (by rw [List.length_set, tally_len, tally_len]) fun k hk => ?_
  rw [tally_len] at hk
  rw [tally_gi hk, List.count_append]
  by_cases e : k = d.toNat
  · subst e
    have hl : d.toNat < (tally m ds).length := by rw [tally_len]; omega
    have : gi ((tally m ds).set d.toNat (gi (tally m ds) d.toNat + 1)) d.toNat = gi (tally m ds) d.toNat + 1 := by
      rw [gi, List.getD_eq_getElem?_getD, List.getElem?_set_self hl]
      rfl
    rw [this, tally_gi (by omega), show ((d.toNat : Nat) : Int) = d by omega]
    simp
  · have : gi ((tally m ds).set d.toNat (gi (tally m ds) d.toNat + 1)) k = gi (tally m ds) k := by
      rw [gi, List.getD_eq_getElem?_getD, List.getElem?_set_ne (by omega), gi, List.getD_eq_getElem?_getD]
    rw [this, tally_gi hk]
    have hd : ([d] : List Int).count (k : Int) = 0 := by
      rw [List.count_eq_zero]
      simp
      omega
    rw [hd]
    rfl
theorem tally_nil (m : Nat) : tally m [] = List.replicate m 0 := by
  refine List.ext_getElem (by simp [tally]) fun k h1 h2 => ?_
  simp [tally]
theorem tally_zeros {m n : Nat} (h : 0 < m) : (tally m []).set 0 (n : Int) = tally m (List.replicate n 0) := by
  refine gi_ext (by rw [List.length_set, tally_len, tally_len]) fun k hk => ?_
  rw [tally_len] at hk
  rw [tally_gi hk]
  by_cases e : k = 0
  · subst e
    rw [gi, List.getD_eq_getElem?_getD, List.getElem?_set_self (by rw [tally_len]; exact h)]
    simp
  · rw [gi, List.getD_eq_getElem?_getD, List.getElem?_set_ne (by omega), ← List.getD_eq_getElem?_getD]
    have h3 := tally_gi (ds := []) hk
    unfold gi at h3
    rw [h3]
    have : (List.replicate n (0 : Int)).count (k : Int) = 0 := by
      rw [List.count_eq_zero]
      intro hz
      have := (List.mem_replicate.mp hz).2
      omega
    rw [this]
    rfl
def spreadP (r : List Int) : List Int := tally (topI r + 1).toNat (List.replicate r.length 0 ++ btw r)
/-- b - a for each a not above b -/
def geR (xs : List Int) (a : Int) : List Int := (xs.filter fun b => decide (a ≤ b)).map fun b => b - a
theorem geR_more {ns : List Int} {j : Nat} {x y : Int} (h : ns[j]? = some y) : geR (ns.take (j + 1)) x = geR (ns.take j) x ++ if x ≤ y then [y - x] else [] := by
  unfold geR
  rw [take_more h, List.filter_append, List.map_append]
  congr 1
  by_cases c : x ≤ y
  · rw [if_pos c, List.filter_cons_of_pos (by simpa using c)]
    rfl
  · rw [if_neg c, List.filter_cons_of_neg (by simpa using c)]
    rfl
theorem ge_lt {a : Int} : ∀ {xs : List Int}, xs.Nodup → a ∈ xs → (xs.filter fun b => decide (a ≤ b)).Perm (a :: xs.filter fun b => decide (a < b))
  | [], _, h => by cases h
  | x :: xs, hn, h => by
    obtain ⟨h1, h2⟩ := List.nodup_cons.mp hn
    by_cases e : x = a
    · subst e
      have e1 : xs.filter (fun b => decide (x ≤ b)) = xs.filter fun b => decide (x < b) := List.filter_congr fun b hb => by
        have : b ≠ x := fun z => h1 (z ▸ hb)
        by_cases c : x < b
        · rw [decide_eq_true c, decide_eq_true (by omega)]
        · rw [decide_eq_false c, decide_eq_false (by omega)]
      rw [List.filter_cons_of_pos (by simp), List.filter_cons_of_neg (by simp), e1]
    · have ha : a ∈ xs := by
        rcases List.mem_cons.mp h with z | z
        · exact absurd z.symm e
        · exact z
      have ih := ge_lt h2 ha
      by_cases c : a < x
      · rw [List.filter_cons_of_pos (by simp; omega), List.filter_cons_of_pos (by simpa using c)]
        exact (ih.cons x).trans (List.Perm.swap _ _ _)
      · rw [List.filter_cons_of_neg (by simp; omega), List.filter_cons_of_neg (by simpa using c)]
        exact ih
theorem geR_perm {xs : List Int} {a : Int} (hn : xs.Nodup) (ha : a ∈ xs) : (geR xs a).Perm (0 :: lallR xs a) := by
  have := (ge_lt hn ha).map fun b => b - a
  rw [List.map_cons, Int.sub_self] at this
  exact this
theorem flat_ge {ns : List Int} (hn : ns.Nodup) : ∀ {xs : List Int}, (∀ x ∈ xs, x ∈ ns) → (xs.flatMap (geR ns)).Perm (List.replicate xs.length 0 ++ xs.flatMap (lallR ns))
  | [], _ => .refl _
  | x :: xs, h => by
    have ih := flat_ge hn (xs := xs) fun y hy => h y (List.mem_cons_of_mem _ hy)
    rw [List.flatMap_cons, List.flatMap_cons, List.length_cons, List.replicate_succ]
    refine ((geR_perm hn (h x List.mem_cons_self)).append ih).trans ?_
    rw [List.cons_append, List.cons_append]
    refine List.Perm.cons _ ?_
    rw [← List.append_assoc, ← List.append_assoc]
    exact List.perm_append_comm.append_right _
theorem spread_law {ns : List Int} (hn : ns.Nodup) : tally (topI ns + 1).toNat (ns.flatMap (geR ns)) = spreadP ns := by
  refine tally_perm _ ((flat_ge hn fun _ h => h).trans (List.Perm.append_left _ ?_))
  rw [← lbw_btw hn]
  exact (sortI_perm _).symm
theorem mirP_sorted {r : List Int} (h : r.Pairwise (· < ·)) : sortI (r.map fun x => topI r - x) = mirP r :=
  up_unique ((sortI_perm _).trans (mir_perm r)) (sortI_up _) ((mirP_up h).imp fun h => by omega)
def due1 (call : Nat) (r : List Int) : List Int := if call = 0 then btw r else if call = 1 then mirP r else spreadP r
theorem due1_len {call : Nat} {r : List Int} (h : roadOk r) : (due1 call r).length ≤ 10000 := by
  unfold due1
  split
  · have := btw_len2 r
    have h2 := Nat.mul_le_mul h.2.1 h.2.1
    omega
  · split
    · rw [mirP_len]
      have := h.2.1
      omega
    · rw [spreadP, tally_len]
      have : topI r ≤ 4000 := h.2.2.2.1
      omega
section
variable {K : PySem.W.Frag} {σ : L2.St} {H H' : Hp} {ta tb te tl : TE} {tt : TT}
/-- some new list of at most n ints -/
def EvI (te : TE) (σ : L2.St) (H : Hp) (n : Nat) : Prop := ∀ H1, Ex H H1 → ∀ Q : VK, (∀ p ns H2, H1 p = none → Ex H1 H2 → IL H2 p ns → ns.length ≤ n → Q (.ref p) H2) → te σ H1 Q
theorem EvI.of {ns : List Int} {n : Nat} (h : EvL te σ H (Ints ns)) (hn : ns.length ≤ n) : EvI te σ H n := fun H1 e Q q => h H1 e _ fun p H2 hp e2 h2 => q p ns H2 hp e2 h2 hn
theorem cut_ints (ns : List Int) (lo hi : Option Int) : ∃ ms, cutV (Ints ns) lo hi = Ints ms ∧ ms.length ≤ ns.length := by
  unfold cutV
  refine ⟨(ns.drop (HT.sIx (Ints ns).length 0 lo)).take (HT.sIx (Ints ns).length (Ints ns).length hi - HT.sIx (Ints ns).length 0 lo), by rw [Ints, Ints, List.map_take, List.map_drop], ?_⟩
  rw [List.length_take, List.length_drop]
  omega
theorem ei_sl {tl th : TO} {a : Addr} {ns : List Int} {lo hi : Option Int} {n : Nat} (h : Ev te σ H (.ref a)) (hx : IL H a ns) (h1 : EvO tl σ H lo) (h2 : EvO th σ H hi) (hn : ns.length ≤ n) : EvI (L2.tSl (rSlL K) te tl th) σ H n := by
  obtain ⟨ms, e, hl⟩ := cut_ints ns lo hi
  have := el_sl (K := K) h h1 h2 (sq_of hx)
  rw [e] at this
  exact EvI.of this (by omega)
theorem ei_cat {n m : Nat} (h1 : EvI ta σ H n) (h2 : EvI tb σ H m) (hz : n + m ≤ 100000) : EvI (tOp rCat ta tb) σ H (n + m) := fun H1 e Q q =>
  h1 H1 e _ fun a xs H2 _ e2 ha hn => h2 H2 (e.trans e2) _ fun b ys H3 _ e3 hb hm => ⟨a, b, Ints xs, Ints ys, rfl, rfl, e3 a _ ha, hb, sz_of (by rw [List.length_map, List.length_map]; omega), fun p hp =>
    q p (xs ++ ys) _ (fresh_back (e2.trans e3) hp) ((e2.trans e3).trans (Ex.new hp)) (by rw [IL, upd_same]; simp [Ints]) (by rw [List.length_append]; omega)⟩
theorem ei_rev {n : Nat} (h : EvI te σ H n) : EvI (tListRev K te) σ H n := fun H1 e Q q =>
  h H1 e _ fun a xs H2 _ e2 ha hn => ⟨a, Ints xs, rfl, sq_of ha, fun p hp => q p xs.reverse _ (fresh_back e2 hp) (e2.trans (Ex.new hp)) (by rw [IL, upd_same, ← List.map_reverse]) (by rw [List.length_reverse]; exact hn)⟩
theorem ei_var {n : Nat} {a : Addr} {ns : List Int} (h : Ev te σ H (.ref a)) (hx : IL H a ns) (hn : ns.length ≤ n) : ∀ H1, Ex H H1 → ∀ Q : VK, (∀ p ns H2, Ex H1 H2 → IL H2 p ns → ns.length ≤ n → Q (.ref p) H2) → te σ H1 Q := fun H1 e Q q =>
  h H1 e _ fun H2 e2 => q a ns H2 e2 ((e.trans e2) a _ hx) hn
/-- .. whether new or not -/
def EvJ (te : TE) (σ : L2.St) (H : Hp) (n : Nat) : Prop := ∀ H1, Ex H H1 → ∀ Q : VK, (∀ p ns H2, Ex H1 H2 → IL H2 p ns → ns.length ≤ n → Q (.ref p) H2) → te σ H1 Q
theorem EvI.j {n : Nat} (h : EvI te σ H n) : EvJ te σ H n := fun H1 e Q q => h H1 e _ fun p ns H2 _ e2 h2 hn => q p ns H2 e2 h2 hn
theorem EvJ.le {n m : Nat} (h : EvJ te σ H n) (hm : n ≤ m) : EvJ te σ H m := fun H1 e Q q => h H1 e _ fun p ns H2 e2 h2 hn => q p ns H2 e2 h2 (Nat.le_trans hn hm)
theorem ej_cat {n m : Nat} (h1 : EvJ ta σ H n) (h2 : EvJ tb σ H m) (hz : n + m ≤ 100000) : EvI (tOp rCat ta tb) σ H (n + m) := fun H1 e Q q =>
  h1 H1 e _ fun a xs H2 e2 ha hn => h2 H2 (e.trans e2) _ fun b ys H3 e3 hb hm => ⟨a, b, Ints xs, Ints ys, rfl, rfl, e3 a _ ha, hb, sz_of (by rw [List.length_map, List.length_map]; omega), fun p hp =>
    q p (xs ++ ys) _ (fresh_back (e2.trans e3) hp) ((e2.trans e3).trans (Ex.new hp)) (by rw [IL, upd_same]; simp [Ints]) (by rw [List.length_append]; omega)⟩
theorem ej_v {n : Nat} {a : Addr} {ns : List Int} (h : Ev te σ H (.ref a)) (hx : IL H a ns) (hn : ns.length ≤ n) : EvJ te σ H n := ei_var h hx hn
theorem s_retJ {D : Ends} {n : Nat} (h : EvJ te σ H n) (k : ∀ p ns H1, Ex H H1 → IL H1 p ns → ns.length ≤ n → D.rt (.ref p) H1) : tRet te D σ H := h H (Ex.refl H) _ k
theorem s_asgJ {D : Ends} {n i : Nat} (h : EvJ te σ H n) (k : ∀ p ns H1, Ex H H1 → IL H1 p ns → ns.length ≤ n → D.nx (σ.set i (some (.ref p))) H1) : tAsg te (gName i) D σ H := h H (Ex.refl H) _ k
/-- [0] * (n + 1) -/
theorem el_rep0 {n : Int} (h : Ev ta σ H (.int n)) (h0 : 0 ≤ n) (h1 : n ≤ 90000) : EvL (tOp rRep (tLst (tCons (tC (.int 0)) tNil)) (tOp (rI0 fun i j => .int (i + j)) ta (tC (.int 1)))) σ H (Ints (List.replicate (n + 1).toNat 0)) := fun H1 e Q q =>
  el_lst (vs := [.int 0]) (ea_cons ev_c ea_nil) (by show (1 : Nat) ≤ 100000; decide) H1 e _ fun l H2 _ e2 hl => add_ h ev_c H2 (e.trans e2) _ fun H3 e3 => ⟨l, n + 1, [.int 0], rfl, rfl, e3 l _ hl, by omega, by omega, sz_of (by show 1 * (n + 1).toNat ≤ 100000; omega), fun p hp =>
    q p _ (fresh_back (e2.trans e3) hp) ((e2.trans e3).trans (Ex.new hp)) (by
      rw [upd_same, Ints, List.map_replicate]
      congr 2
      induction (n + 1).toNat with
      | zero => rfl
      | succ k ih => rw [List.replicate_succ, List.flatten_cons, ih, List.replicate_succ] <;> rfl)⟩
end
end Rg

set_option Elab.async false
set_option linter.all false
set_option maxRecDepth 100000
set_option maxHeartbeats 1000000
/-! Rg, part Q: differences counted; crossed roads are alike. -/
namespace Rg
open PySem PySem.Spec PyProof.Rows L2 Evl
def sm (xs : List Int) (f : Int → Nat) : Nat := (xs.map f).sum
theorem sm_cons (x : Int) (xs : List Int) (f : Int → Nat) : sm (x :: xs) f = f x + sm xs f := by simp [sm]
theorem sm_app (xs ys : List Int) (f : Int → Nat) : sm (xs ++ ys) f = sm xs f + sm ys f := by simp [sm]
theorem sm_add (f g : Int → Nat) : ∀ xs : List Int, sm xs (fun x => f x + g x) = sm xs f + sm xs g
  | [] => rfl
  | x :: xs => by
    rw [sm_cons, sm_cons, sm_cons, sm_add f g xs]
    omega
theorem sm_zero : ∀ xs : List Int, sm xs (fun _ => 0) = 0
  | [] => rfl
  | x :: xs => by rw [sm_cons, sm_zero xs]
theorem sm_one : ∀ xs : List Int, sm xs (fun _ => 1) = xs.length
  | [] => rfl
  | x :: xs => by
    rw [sm_cons, sm_one xs, List.length_cons]
    omega
theorem sm_congr {xs : List Int} {f g : Int → Nat} (h : ∀ x ∈ xs, f x = g x) : sm xs f = sm xs g := by
  unfold sm
  rw [List.map_congr_left h]
theorem sm_comm (f : Int → Int → Nat) (ys : List Int) : ∀ xs : List Int, sm xs (fun x => sm ys (fun y => f x y)) = sm ys (fun y => sm xs fun x => f x y)
  | [] => (sm_zero ys).symm
  | x :: xs => by
    rw [sm_cons, sm_comm f ys xs, ← sm_add]
    exact sm_congr fun y _ => (sm_cons x xs fun x => f x y).symm
theorem sm_perm {xs ys : List Int} (h : xs.Perm ys) (f : Int → Nat) : sm xs f = sm ys f := (h.map f).sum_nat
theorem sm_flatMap (k : Int → List Int) (f : Int → Nat) : ∀ xs : List Int, sm (xs.flatMap k) f = sm xs (fun x => sm (k x) f)
  | [] => rfl
  | x :: xs => by rw [List.flatMap_cons, sm_app, sm_flatMap k f xs, sm_cons]
theorem sm_map (k : Int → Int) (f : Int → Nat) (xs : List Int) : sm (xs.map k) f = sm xs (fun x => f (k x)) := by
  unfold sm
  rw [List.map_map]
  rfl
theorem sm_mul (f : Int → Nat) (c : Nat) : ∀ xs : List Int, sm xs f * c = sm xs (fun x => f x * c)
  | [] => Nat.zero_mul c
  | x :: xs => by rw [sm_cons, sm_cons, Nat.add_mul, sm_mul f c xs]
/-- how many pairs are e apart -/
def nd (X : List Int) (e : Int) : Nat := sm X fun x => sm X fun y => if y - x = e then 1 else 0
theorem nd_neg (X : List Int) (e : Int) : nd X (-e) = nd X e := by
  unfold nd
  rw [sm_comm]
  refine sm_congr fun x _ => sm_congr fun y _ => ?_
  by_cases h : y - x = e
  · rw [if_pos h, if_pos (by omega)]
  · rw [if_neg h, if_neg (by omega)]
theorem nd_ab (X : List Int) (e : Int) : nd X (ab e) = nd X e := by
  unfold ab
  split
  · exact nd_neg X e
  · rfl
theorem nd_perm {X Y : List Int} (h : X.Perm Y) (e : Int) : nd X e = nd Y e := by
  unfold nd
  rw [sm_perm h]
  exact sm_congr fun x _ => sm_perm h _
theorem nd_flip (t : Int) (X : List Int) (e : Int) : nd (X.map fun x => t - x) e = nd X e := by
  rw [← nd_neg X e]
  unfold nd
  rw [sm_map]
  refine sm_congr fun x _ => ?_
  rw [sm_map]
  refine sm_congr fun y _ => ?_
  by_cases h : y - x = -e
  · rw [if_pos h, if_pos (by omega)]
  · rw [if_neg h, if_neg (by omega)]
theorem nd_mir (X : List Int) (e : Int) : nd (mirP X) e = nd X e := by
  rw [← nd_perm (mir_perm X), nd_flip]
theorem nd_far {X : List Int} {M e : Int} (h : ∀ x ∈ X, 0 ≤ x ∧ x ≤ M) (he : M < ab e) : nd X e = 0 := by
  unfold nd
  refine (sm_congr (g := fun _ => 0) fun x hx => ?_).trans (sm_zero X)
  refine (sm_congr (g := fun _ => 0) fun y hy => if_neg fun z => ?_).trans (sm_zero X)
  have h1 := h x hx
  have h2 := h y hy
  unfold ab at he
  split at he <;> omega
/-- the sums' differences -/
def conv (A B : List Int) (d : Int) : Nat := sm A fun x => sm A fun y => nd B (d - (y - x))
theorem nd_sums (A B : List Int) (d : Int) : nd (sumsP A B) d = conv A B d := by
  unfold sumsP
  rw [nd_perm (sortI_perm _)]
  unfold conv
  have e1 : nd (A.flatMap (addR B)) d = sm A fun x => sm B fun u => sm A fun y => sm B fun v => if y + v - (x + u) = d then 1 else 0 := by
    unfold nd
    rw [sm_flatMap]
    refine sm_congr fun x _ => ?_
    unfold addR
    rw [sm_map]
    refine sm_congr fun u _ => ?_
    rw [sm_flatMap]
    refine sm_congr fun y _ => ?_
    rw [sm_map]
  rw [e1]
  refine sm_congr fun x _ => ?_
  rw [sm_comm]
  refine sm_congr fun y _ => ?_
  unfold nd
  refine sm_congr fun u _ => sm_congr fun v _ => ?_
  by_cases h : y + v - (x + u) = d
  · rw [if_pos h, if_pos (by omega)]
  · rw [if_neg h, if_neg (by omega)]
theorem nd_both (A B : List Int) (d : Int) : nd (sumsP A (mirP B)) d = nd (sumsP A B) d := by
  rw [nd_sums, nd_sums]
  exact sm_congr fun x _ => sm_congr fun y _ => nd_mir B _
/-! ### no sum twice -/
theorem count_sm (z : Int) : ∀ X : List Int, X.count z = sm X fun y => if y - z = 0 then 1 else 0
  | [] => rfl
  | x :: xs => by
    rw [sm_cons, ← count_sm z xs, List.count_cons]
    by_cases h : x = z
    · subst h
      simp
      omega
    · have h2 : ¬ x - z = 0 := by omega
      simp [h, h2]
theorem nd_zero (X : List Int) : nd X 0 = sm X fun x => X.count x := sm_congr fun x _ => (count_sm x X).symm
theorem sm_ge {f : Int → Nat} : ∀ {xs : List Int}, (∀ x ∈ xs, 1 ≤ f x) → xs.length ≤ sm xs f
  | [], _ => Nat.le_refl 0
  | x :: xs, h => by
    have h1 := h x List.mem_cons_self
    have h2 := sm_ge (xs := xs) fun y hy => h y (List.mem_cons_of_mem _ hy)
    rw [sm_cons, List.length_cons]
    omega
theorem sm_ones {f : Int → Nat} : ∀ {xs : List Int}, (∀ x ∈ xs, 1 ≤ f x) → sm xs f = xs.length → ∀ x ∈ xs, f x = 1
  | [], _, _ => fun x hx => by cases hx
  | x :: xs, h, e => by
    have h1 := h x List.mem_cons_self
    have h2 := sm_ge (xs := xs) fun y hy => h y (List.mem_cons_of_mem _ hy)
    rw [sm_cons, List.length_cons] at e
    intro y hy
    rcases List.mem_cons.mp hy with rfl | hy
    · omega
    · exact sm_ones (fun y hy => h y (List.mem_cons_of_mem _ hy)) (by omega) y hy
theorem nd_nodup {X : List Int} : X.Nodup ↔ nd X 0 = X.length := by
  rw [nd_zero]
  constructor
  · intro h
    rw [← sm_one X]
    exact sm_congr fun x hx => Nat.le_antisymm (List.nodup_iff_count.mp h x) (List.count_pos_iff.mpr hx)
  · intro h
    rw [List.nodup_iff_count]
    intro z
    by_cases hz : z ∈ X
    · exact Nat.le_of_eq (sm_ones (fun x hx => List.count_pos_iff.mpr hx) h z hz)
    · rw [List.count_eq_zero.mpr hz]
      exact Nat.zero_le 1
theorem insD_same {x : Int} : ∀ {l : List Int}, l.Pairwise (· < ·) → x ∈ l → insD x l = l
  | [], _, h => by cases h
  | y :: ys, hl, h => by
    obtain ⟨h1, h2⟩ := List.pairwise_cons.mp hl
    unfold insD
    rcases List.mem_cons.mp h with rfl | h
    · rw [if_neg (by omega), if_pos rfl]
    · have := h1 x h
      rw [if_neg (by omega), if_neg (by omega), insD_same h2 h]
theorem sortD_full : ∀ {r : List Int}, (sortD r).length = r.length → r.Nodup
  | [], _ => .nil
  | x :: xs, h => by
    have h2 := sortD_len xs
    rw [sortD, List.length_cons] at h
    have hx : x ∉ xs := fun z => by
      rw [insD_same (sortD_up xs) (sortD_mem.mpr z)] at h
      omega
    have h1 := insD_len x (sortD xs)
    exact List.nodup_cons.mpr ⟨hx, sortD_full (by omega)⟩
theorem twice_iff {r : List Int} : ¬ twice r ↔ r.Nodup := by
  unfold twice
  constructor
  · intro h
    have := sortD_len r
    exact sortD_full (by omega)
  · intro h
    have := (perm_mem (up_nodup (sortD_up r)) h fun z => sortD_mem).length_eq
    omega
theorem twice_both {A B : List Int} : twice (sumsP A (mirP B)) ↔ twice (sumsP A B) := by
  have e : (sumsP A (mirP B)).Nodup ↔ (sumsP A B).Nodup := by
    rw [nd_nodup, nd_nodup, nd_both, sumsP_len, sumsP_len, mirP_len]
  rw [← twice_iff, ← twice_iff] at e
  constructor
  · intro h
    exact Classical.byContradiction fun z => e.mpr z h
  · intro h
    exact Classical.byContradiction fun z => e.mp z h
/-! ### distances of both -/
theorem count_geR {k a : Int} (hk : 0 ≤ k) : ∀ X : List Int, (geR X a).count k = sm X fun y => if y - a = k then 1 else 0
  | [] => rfl
  | x :: xs => by
    have ih := count_geR (a := a) hk xs
    unfold geR at ih ⊢
    rw [sm_cons, ← ih]
    by_cases h : a ≤ x
    · rw [List.filter_cons_of_pos (by simpa using h), List.map_cons, List.count_cons]
      by_cases e : x - a = k
      · simp [e]
        omega
      · simp [e]
    · rw [List.filter_cons_of_neg (by simpa using h), if_neg (by omega)]
      omega
theorem count_flat (k : Int) (f : Int → List Int) : ∀ X : List Int, (X.flatMap f).count k = sm X fun x => (f x).count k
  | [] => rfl
  | x :: xs => by rw [List.flatMap_cons, List.count_append, count_flat k f xs, sm_cons]
theorem count_ge {X : List Int} {k : Int} (hk : 0 ≤ k) : (X.flatMap (geR X)).count k = nd X k := by
  rw [count_flat]
  exact sm_congr fun x _ => count_geR hk X
theorem count_lt {X : List Int} {k : Int} (hk : k < 0) : (X.flatMap (geR X)).count k = 0 := by
  rw [List.count_eq_zero]
  intro h
  obtain ⟨a, _, h⟩ := List.mem_flatMap.mp h
  unfold geR at h
  obtain ⟨b, hb, e⟩ := List.mem_map.mp h
  have := of_decide_eq_true (List.mem_filter.mp hb).2
  omega
theorem ge_perm {X Y : List Int} (h : ∀ e, nd X e = nd Y e) : (X.flatMap (geR X)).Perm (Y.flatMap (geR Y)) := by
  rw [List.perm_iff_count]
  intro k
  by_cases hk : 0 ≤ k
  · rw [count_ge hk, count_ge hk, h]
  · rw [count_lt (by omega), count_lt (by omega)]
theorem btw_alike {X Y : List Int} (hx : X.Nodup) (hy : Y.Nodup) (hl : X.length = Y.length) (h : ∀ e, nd X e = nd Y e) : btw X = btw Y := by
  have e1 := flat_ge hx (xs := X) fun _ z => z
  have e2 := flat_ge hy (xs := Y) fun _ z => z
  have e3 := e1.symm.trans ((ge_perm h).trans e2)
  rw [hl] at e3
  have e4 := (List.perm_append_left_iff _).mp e3
  rw [← lbw_btw hx, ← lbw_btw hy]
  exact sortI_congr e4
theorem spread_gi {X : List Int} (hx : X.Nodup) {k : Nat} (hk : (k : Int) ≤ topI X) : gi (spreadP X) k = (nd X (k : Int) : Nat) := by
  rw [← spread_law hx, tally_gi (by omega), count_ge (by omega)]
/-! ### both are roads -/
theorem rise_of {S : List Int} (hn : S.Nodup) (hu : S.Pairwise (· ≤ ·)) (h0 : 0 ∈ S) (hp : ∀ x ∈ S, 0 ≤ x) : Rise S := by
  have hne : S ≠ [] := fun z => by
    rw [z] at h0
    cases h0
  refine ⟨hne, ?_, (hu.and hn).imp fun ⟨h1, h2⟩ => by omega⟩
  match S, hu, h0, hp with
  | x :: xs, hu, h0, hp =>
    have h1 := hp x List.mem_cons_self
    show x = 0
    rcases List.mem_cons.mp h0 with z | z
    · exact z.symm
    · have := (List.pairwise_cons.mp hu).1 0 z
      omega
theorem Rise.ge {r : List Int} (h : Rise r) : ∀ x ∈ r, 0 ≤ x := by
  obtain ⟨h1, h2, h3⟩ := h
  match r, h1, h2, h3 with
  | y :: ys, _, h2, h3 =>
    have h2 : y = 0 := h2
    intro x hx
    rcases List.mem_cons.mp hx with rfl | hx
    · omega
    · have := (List.pairwise_cons.mp h3).1 x hx
      omega
theorem Rise.top {r : List Int} (h : Rise r) : ∀ x ∈ r, x ≤ topI r := top_le (h.up.imp fun h => by omega)
theorem Rise.z_mem {r : List Int} (h : Rise r) : 0 ∈ r := by
  rw [← h.z]
  exact gi_mem (List.length_pos_iff.mpr h.ne)
theorem Rise.mir {r : List Int} (h : Rise r) : Rise (mirP r) ∧ topI (mirP r) = topI r := by
  have hr : Rise (mirP r) := ⟨fun z => by
    have := mirP_len r
    rw [z] at this
    exact h.ne (List.eq_nil_of_length_eq_zero this.symm), mirP_first h.ne, mirP_up h.up⟩
  refine ⟨hr, Int.le_antisymm ?_ ?_⟩
  · have h1 := topI_mem hr.ne
    rw [← (mir_perm r).mem_iff] at h1
    obtain ⟨b, hb, e⟩ := List.mem_map.mp h1
    have := h.ge b hb
    omega
  · refine hr.top _ ?_
    rw [← (mir_perm r).mem_iff]
    exact List.mem_map.mpr ⟨0, h.z_mem, by omega⟩
theorem mem_sums {A B : List Int} {z : Int} : z ∈ sumsP A B ↔ ∃ x ∈ A, ∃ y ∈ B, x + y = z := by
  unfold sumsP
  rw [(sortI_perm _).mem_iff, List.mem_flatMap]
  constructor
  · rintro ⟨x, hx, h⟩
    obtain ⟨y, hy, e⟩ := List.mem_map.mp h
    exact ⟨x, hx, y, hy, e⟩
  · rintro ⟨x, hx, y, hy, e⟩
    exact ⟨x, hx, List.mem_map.mpr ⟨y, hy, e⟩⟩
theorem cross_rise {A B : List Int} (ha : Rise A) (hb : Rise B) (h : ¬ twice (sumsP A B)) : Rise (sumsP A B) ∧ topI (sumsP A B) = topI A + topI B := by
  have hr : Rise (sumsP A B) := rise_of (twice_iff.mp h) (sortI_up _) (mem_sums.mpr ⟨0, ha.z_mem, 0, hb.z_mem, by omega⟩) fun x hx => by
    obtain ⟨a, h1, b, h2, e⟩ := mem_sums.mp hx
    have := ha.ge a h1
    have := hb.ge b h2
    omega
  refine ⟨hr, Int.le_antisymm ?_ ?_⟩
  · obtain ⟨a, h1, b, h2, e⟩ := mem_sums.mp (topI_mem hr.ne)
    have := ha.top a h1
    have := hb.top b h2
    omega
  · exact hr.top _ (mem_sums.mpr ⟨_, topI_mem ha.ne, _, topI_mem hb.ne, rfl⟩)
theorem spread_alike {X Y : List Int} (hx : X.Nodup) (hy : Y.Nodup) (ht : topI X = topI Y) (h : ∀ e, nd X e = nd Y e) : spreadP X = spreadP Y := by
  rw [← spread_law hx, ← spread_law hy, ht]
  exact tally_perm _ (ge_perm h)
theorem spread_len {X : List Int} : (spreadP X).length = (topI X + 1).toNat := by
  unfold spreadP
  rw [tally_len]
/-! ### folded -/
def termP (l r : List Int) (d e : Int) : Int := if ab (d - e) < (r.length : Int) then gi l (ab e).toNat * gi r (ab (d - e)).toNat else 0
def foldP (l r : List Int) (d : Int) : Nat → Int
  | 0 => 0
  | k + 1 => foldP l r d k + termP l r d (1 - (l.length : Int) + k)
def sumZ (lo : Int) (f : Int → Nat) : Nat → Nat
  | 0 => 0
  | k + 1 => sumZ lo f k + f (lo + k)
theorem sumZ_sm (lo : Int) (xs : List Int) (f : Int → Int → Nat) : ∀ k, sumZ lo (fun e => sm xs fun x => f x e) k = sm xs fun x => sumZ lo (f x) k
  | 0 => (sm_zero xs).symm
  | k + 1 => by
    show sumZ lo (fun e => sm xs fun x => f x e) k + sm xs (fun x => f x (lo + k)) = _
    rw [sumZ_sm lo xs f k, ← sm_add]
    rfl
theorem sumZ_miss {lo c : Int} (g : Int → Nat) : ∀ {k : Nat}, lo + k ≤ c → sumZ lo (fun e => if c = e then g e else 0) k = 0
  | 0, _ => rfl
  | k + 1, h => by
    show sumZ lo _ k + (if c = lo + k then g (lo + k) else 0) = 0
    rw [sumZ_miss g (by omega), if_neg (by omega)]
theorem sumZ_hit {lo c : Int} (g : Int → Nat) (h0 : lo ≤ c) : ∀ {k : Nat}, c < lo + k → sumZ lo (fun e => if c = e then g e else 0) k = g c
  | 0, h => by omega
  | k + 1, h => by
    show sumZ lo _ k + (if c = lo + k then g (lo + k) else 0) = g c
    by_cases e : c = lo + k
    · rw [sumZ_miss g (by omega), if_pos e, e]
      omega
    · rw [if_neg e, sumZ_hit g h0 (by omega)]
      omega
theorem sumZ_congr {lo : Int} {f g : Int → Nat} : ∀ {k : Nat}, (∀ i : Nat, i < k → f (lo + i) = g (lo + i)) → sumZ lo f k = sumZ lo g k
  | 0, _ => rfl
  | k + 1, h => by
    show sumZ lo f k + f (lo + k) = sumZ lo g k + g (lo + k)
    rw [sumZ_congr fun i hi => h i (by omega), h k (by omega)]
theorem conv_sum {A B : List Int} (ha : Rise A) (d : Int) {k : Nat} (hk : (k : Int) = 2 * topI A + 1) : sumZ (-topI A) (fun e => nd A e * nd B (d - e)) k = conv A B d := by
  have e1 : sumZ (-topI A) (fun e => nd A e * nd B (d - e)) k = sumZ (-topI A) (fun e => sm A fun x => sm A fun y => if y - x = e then nd B (d - e) else 0) k := sumZ_congr fun i _ => by
    unfold nd
    rw [sm_mul]
    refine sm_congr fun x _ => ?_
    rw [sm_mul]
    refine sm_congr fun y _ => ?_
    split
    · rw [Nat.one_mul]
    · rw [Nat.zero_mul]
  rw [e1, sumZ_sm (-topI A) A (fun x e => sm A fun y => if y - x = e then nd B (d - e) else 0)]
  unfold conv
  refine sm_congr fun x hx => ?_
  rw [sumZ_sm (-topI A) A (fun y e => if y - x = e then nd B (d - e) else 0)]
  refine sm_congr fun y hy => ?_
  have h1 := ha.ge x hx
  have h2 := ha.ge y hy
  have h3 := ha.top x hx
  have h4 := ha.top y hy
  exact sumZ_hit (fun e => nd B (d - e)) (by omega) (by omega)
theorem ab_cases (e : Int) : (0 ≤ e ∧ ab e = e) ∨ (e < 0 ∧ ab e = -e) := by
  unfold ab
  split <;> omega
theorem term_nd {A B : List Int} (ha : Rise A) (hb : Rise B) {d e : Int} (h1 : -topI A ≤ e) (h2 : e ≤ topI A) : termP (spreadP A) (spreadP B) d e = ((nd A e * nd B (d - e) : Nat) : Int) := by
  unfold termP
  have ta := ha.top0
  have tb := hb.top0
  rw [spread_len]
  split
  · rename_i h
    have c1 := ab_cases e
    have c2 := ab_cases (d - e)
    rw [spread_gi (up_nodup ha.up) (by omega), spread_gi (up_nodup hb.up) (by omega)]
    rw [show (((ab e).toNat : Nat) : Int) = ab e by omega, show (((ab (d - e)).toNat : Nat) : Int) = ab (d - e) by omega, nd_ab, nd_ab]
    rw [Int.natCast_mul]
  · rename_i h
    rw [nd_far (X := B) (M := topI B) (fun x hx => ⟨hb.ge x hx, hb.top x hx⟩) (by omega)]
    rfl
theorem fold_nd {A B : List Int} (ha : Rise A) (hb : Rise B) (d : Int) : ∀ k : Nat, (k : Int) ≤ 2 * topI A + 1 → foldP (spreadP A) (spreadP B) d k = ((sumZ (-topI A) (fun e => nd A e * nd B (d - e)) k : Nat) : Int)
  | 0, _ => rfl
  | k + 1, h => by
    have ta := ha.top0
    show foldP (spreadP A) (spreadP B) d k + termP (spreadP A) (spreadP B) d (1 - ((spreadP A).length : Int) + k) = (((sumZ (-topI A) (fun e => nd A e * nd B (d - e)) k) + nd A (-topI A + k) * nd B (d - (-topI A + k)) : Nat) : Int)
    have e1 : 1 - ((spreadP A).length : Int) = -topI A := by
      rw [spread_len]
      omega
    rw [fold_nd ha hb d k (by omega), e1, term_nd ha hb (by omega) (by omega), Int.natCast_add]
theorem fold_sums {A B : List Int} (ha : Rise A) (hb : Rise B) (h : ¬ twice (sumsP A B)) {d : Nat} (hd : (d : Int) ≤ topI A + topI B) {k : Nat} (hk : (k : Int) = 2 * topI A + 1) : gi (spreadP (sumsP A B)) d = foldP (spreadP A) (spreadP B) d k := by
  obtain ⟨h1, h2⟩ := cross_rise ha hb h
  rw [spread_gi (up_nodup h1.up) (by omega), fold_nd ha hb d k (by omega), conv_sum ha d hk, nd_sums]
/-- len(set(row)) < len(row), the row not sorted -/
theorem twice_raw {xs ys : List Int} : twice (xs.flatMap (addR ys)) ↔ twice (sumsP xs ys) := by
  have e : (xs.flatMap (addR ys)).Nodup ↔ (sumsP xs ys).Nodup := ((sortI_perm _).nodup_iff).symm
  rw [← twice_iff, ← twice_iff] at e
  constructor
  · intro h
    exact Classical.byContradiction fun z => e.mpr z h
  · intro h
    exact Classical.byContradiction fun z => e.mp z h
theorem spread_val {X : List Int} {k : Nat} (hx : X.Nodup) (hl : X.length ≤ 50) (hk : k < (spreadP X).length) : 0 ≤ gi (spreadP X) k ∧ gi (spreadP X) k ≤ 1000000 := by
  rw [spread_len] at hk
  rw [spread_gi hx (by omega), ← count_ge (by omega)]
  have h1 := List.count_le_length (a := (k : Int)) (l := X.flatMap (geR X))
  have h2 : (X.flatMap (geR X)).length ≤ X.length * X.length := by
    have e := (flat_ge hx (xs := X) fun _ z => z)
    have h : ∀ (Y : List Int), (Y.flatMap (geR X)).length ≤ Y.length * X.length := by
      intro Y
      induction Y with
      | nil => exact Nat.zero_le _
      | cons y ys ih =>
        rw [List.flatMap_cons, List.length_append, List.length_cons, Nat.succ_mul]
        have : (geR X y).length ≤ X.length := by
          unfold geR
          rw [List.length_map]
          exact List.length_filter_le _ _
        omega
    exact h X
  have h3 := Nat.mul_le_mul hl hl
  omega
section
variable {K : PySem.W.Frag} {σ : L2.St} {H H' : Hp} {ta tb te tl : TE} {tt : TT}
theorem s_forRZ {D : Ends} {tu : TS} {ta : TA} {j : Nat} {lo n : Int} (h : EvA ta σ H [.int lo, .int n]) (hn : -100000 ≤ lo ∧ lo ≤ 100000 ∧ -100000 ≤ n ∧ n ≤ 100000) (Pv : Nat → L2.St → Hp → Prop) (h0 : ∀ H1, Ex H H1 → Pv 0 σ H1)
    (hs : ∀ (i : Nat) σ' H', lo + (i : Int) < n → Pv i σ' H' → tu { D with nx := Pv (i + 1), ct := Pv (i + 1), bk := D.nx } (σ'.set j (some (.int (lo + (i : Int))))) H') (hd : ∀ σ' H', Pv (n - lo).toNat σ' H' → D.nx σ' H') : tFor (iRng2 ta) (gName j) tu D σ H :=
  h H (Ex.refl H) _ fun H1 e => ⟨lo, n, rfl, ⟨by omega, by omega, by omega, by omega⟩, for_range (lo := lo) (n := (n - lo).toNat) Pv (h0 H1 e) (fun i σ' H' hi p => hs i σ' H' (by omega) p) hd⟩
theorem inLL {r a : Addr} {us : List V} {row : List Int} {S : List (List Int)} (hx : Ev ta σ H (.ref r)) (hr : IL H r row) (ha : Ev tb σ H (.ref a)) (h1 : Lst H a us) (h2 : ILs H us S) : Ev (tOp (rInD K) ta tb) σ H (.bl (decide (row ∈ S))) := fun H1 e Q q =>
  hx H1 e _ fun H2 e2 => ha H2 (e.trans e2) _ fun H3 e3 => ⟨dI row, S.map dI, dp_I (((e.trans e2).trans e3) r _ hr), dp_LL (((e.trans e2).trans e3) a _ h1) (h2.ex ((e.trans e2).trans e3)), sh_I _, sh_LL _, by
    rw [any_dI]
    exact q H3 (e2.trans e3)⟩
end
/-! ### the law's two roads -/
def one9 (ns : List Int) : List Int := lroad ns 2 4 (cell ns 0 % 7).toNat
def othA9 (ns : List Int) : List Int := lroad ns 10 3 (cell ns 0 / 7 % 4).toNat
def oth9 (ns : List Int) : List Int := if cell ns 1 % 2 = 1 then (othA9 ns).map fun x => x * (topI (one9 ns) + 1 + cell ns 1 / 2 % 3) else othA9 ns
theorem one9_ok (ns : List Int) : Rise (one9 ns) ∧ (one9 ns).length ≤ 7 ∧ topI (one9 ns) ≤ 24 := by
  have h := lroad_rise ns 2 (steps := 4) (by decide) (cell ns 0 % 7).toNat
  obtain ⟨_, h2, _⟩ := lroad_facts ns 2 (steps := 4) (by decide) (cell ns 0 % 7).toNat
  refine ⟨h, by rw [one9, lroad_len]; omega, ?_⟩
  have := (h2 _ (topI_mem h.ne)).2
  show topI (lroad ns 2 4 (cell ns 0 % 7).toNat) ≤ 24
  omega
theorem othA9_ok (ns : List Int) : Rise (othA9 ns) ∧ (othA9 ns).length ≤ 4 ∧ topI (othA9 ns) ≤ 9 := by
  have h := lroad_rise ns 10 (steps := 3) (by decide) (cell ns 0 / 7 % 4).toNat
  obtain ⟨_, h2, _⟩ := lroad_facts ns 10 (steps := 3) (by decide) (cell ns 0 / 7 % 4).toNat
  refine ⟨h, by rw [othA9, lroad_len]; omega, ?_⟩
  have := (h2 _ (topI_mem h.ne)).2
  show topI (lroad ns 10 3 (cell ns 0 / 7 % 4).toNat) ≤ 9
  omega
theorem oth9_ok (ns : List Int) : Rise (oth9 ns) ∧ (oth9 ns).length ≤ 4 ∧ topI (oth9 ns) ≤ 400 := by
  obtain ⟨h1, h2, h3⟩ := othA9_ok ns
  obtain ⟨g1, g2, g3⟩ := one9_ok ns
  have g0 := g1.top0
  unfold oth9
  split
  · have hr := h1.mul (c := topI (one9 ns) + 1 + cell ns 1 / 2 % 3) (by omega)
    refine ⟨hr, by rw [List.length_map]; exact h2, ?_⟩
    obtain ⟨x, hx, e⟩ := List.mem_map.mp (topI_mem hr.ne)
    rw [← e]
    have hx9 : x ≤ 9 := Int.le_trans (h1.top x hx) h3
    have := Int.mul_le_mul hx9 (show topI (one9 ns) + 1 + cell ns 1 / 2 % 3 ≤ 27 by omega) (by omega) (by decide)
    omega
  · exact ⟨h1, h2, by omega⟩
end Rg

set_option maxHeartbeats 8000000
namespace Lw
open PySem PySem.Spec PyProof.Rows L2 Evl Rg
def top (i : Nat) : Stmt := PySem.Challenge.pw_roadgaps_k09_whole_crossed_alike.main.body.getD i (.Pass ⟨0, 0, 0, 0⟩)
section
variable {P : Program} {w : World} {K : PySem.W.Frag} {mg : Str → Option Value} {base : Heap}
abbrev s_between : Stmt := top 8
abbrev nm_between : List Str := ["places", "found", "k", "j"]
theorem sc_between : FnScope nm_between ["places"] (defScope s_between) := ⟨rfl, rfl, rfl, by decide +kernel, rfl, by decide +kernel, by decide +kernel⟩
def sp_between : Sp := fun vs H Q _ => ∃ (a : Addr) (ns : List Int), vs = [.ref a] ∧ IL H a ns ∧ ns.length ≤ 100 ∧ RL (Ints (btw ns)) H Q
theorem h_between (D : Df K mg "between" s_between) (T : Bs mg) : Has P w K mg base CX0 1 "between" ["places"] sp_between := by
  refine D.has0 sc_between (fun _ _ _ _ _ _ us hl => match us, hl with | [_], _ => rfl) (fun vs H Q E h => ?_) (fun f cdv A outer s H vs Q E hr h => ?_)
  · obtain ⟨a, ns, rfl, _⟩ := h
    rfl
  obtain ⟨a, ns, rfl, ha, hz, q⟩ := h
  refine ⟨_, (pss_cons (ps_set (i := 1) sc_between.nd rfl (Or.inl rfl) (pe_lst pa_nil))
    (pss_cons (ps_for PassesOwn.never rfl (pi_range1 rfl T.n_range (pa_cons (pe_callB call_len_seq (by rfl) T.n_len (by decide +kernel) (pa_cons (pv 0) pa_nil)) pa_nil)) (pg_name (i := 2) sc_between.nd rfl (Or.inl rfl))
    (pss_one (ps_for PassesOwn.never rfl (pi_range1 rfl T.n_range (pa_cons (pv 2) pa_nil)) (pg_name (i := 3) sc_between.nd rfl (Or.inl rfl))
    (pss_one (ps_expr (pe_bm PySem.F.plainAttrs_list PySem.F.slot_list_append PySem.F.type_list_append mt_append (pv 1) (pa_cons (pe_callB call_abs (by rfl) T.n_abs (by decide +kernel) (pa_cons (pe_op op_sub (pe_ix ix_list (pv 0) (pv 2) (fun _ _ => rfl)) (pe_ix ix_list (pv 0) (pv 3) (fun _ _ => rfl))) pa_nil)) pa_nil)))))))
    (pss_one (ps_ret (pe_callB cr_sortedI (by rfl) T.n_sorted (by decide +kernel) (pa_cons (pv 1) pa_nil)))))), ?_⟩
  refine s_asgL (el_lst ea_nil (by decide)) fun l H1 hl e1 h1 => ?_
  refine s_forR1 (n := (ns.length : Int)) (ea_cons (ev_lenI (ev_var rfl) (e1 a _ ha)) ea_nil) ⟨by omega, by omega⟩
    (fun i σ H' => ∃ v2 v3, σ = [some (.ref a), some (.ref l), v2, v3] ∧ Ex H H' ∧ IL H' l (allD ns i)) (fun H2 e2 => ⟨none, none, rfl, e1.trans e2, e2 l _ h1⟩) ?_ ?_
  · rintro i σ H2 hi ⟨v2, v3, rfl, e2, h2⟩
    refine s_forR1 (n := (i : Int)) (ea_cons (ev_var rfl) ea_nil) ⟨by omega, by omega⟩
      (fun j σ H' => ∃ v3, σ = [some (.ref a), some (.ref l), some (.int (i : Int)), v3] ∧ Ex H H' ∧ IL H' l (allD ns i ++ (List.range j).map fun j => ab (gi ns i - gi ns j)))
      (fun H3 e3 => ⟨v3, rfl, e2.trans e3, by simpa using e3 l _ h2⟩) ?_ ?_
    · rintro j σ H3 hj ⟨v3, rfl, e3, h3⟩
      refine s_app h3 (ev_var rfl) (ev_abs (ev_op (ev_op (ev_var rfl) (ev_var rfl) (rv_ixIN (e3 a _ ha) (by omega))) (ev_op (ev_var rfl) (ev_var rfl) (rv_ixIN (e3 a _ ha) (by omega))) rv_I0)) ?_ fun H4 e4 => ?_
      · have := allD_le ns i 100 (by omega)
        simp only [List.length_map, List.length_append, List.length_range]
        omega
      · refine ⟨_, rfl, Ex.mut (e3.trans e4) hl, ?_⟩
        refine il_upd ?_
        rw [ints_app, List.range_succ, List.map_append, ← List.append_assoc]
        rfl
    · rintro σ H3 ⟨v3, rfl, e3, h3⟩
      exact ⟨_, _, rfl, e3, h3⟩
  · rintro σ H2 ⟨v2, v3, rfl, e2, h2⟩
    exact s_retL (el_sorted (ev_var rfl) h2) fun p H3 hp e3 h3 => q p H3 (fresh_back e2 hp) (e2.trans e3) h3

abbrev s_see_road : Stmt := top 7
abbrev nm_see_road : List Str := ["road", "k"]
theorem sc_see_road : FnScope nm_see_road ["road"] (defScope s_see_road) := ⟨rfl, rfl, rfl, by decide +kernel, rfl, by decide +kernel, by decide +kernel⟩
def sp_see_road (K : PySem.W.Frag) : Sp := fun vs H Q E => ∃ (a : Addr) (ns : List Int), vs = [.ref a] ∧ IL H a ns ∧ Out K (refRoad ns) H E (RVal .non H Q)
theorem h_see_road (D : Df K mg "see_road" s_see_road) (T : Bs mg) (C_NoRoad : Ec K mg "NoRoad") : Has P w K mg base (L2.CX P w) 1 "see_road" ["road"] (sp_see_road K) := by
  refine D.hasX sc_see_road (fun _ _ _ _ _ _ us hl => match us, hl with | [_], _ => rfl) (fun vs H Q E h => ?_) (fun f cdv A outer s H vs Q E hr h => ?_)
  · obtain ⟨a, ns, rfl, _⟩ := h
    rfl
  obtain ⟨a, ns, rfl, ha, q⟩ := h
  refine ⟨_, (pss_cons (ps_if (PW.pt (pw_or (pt_not (pt_chain op_le op_le pe_int (pe_callB call_len_seq (by rfl) T.n_len (by decide +kernel) (pa_cons (pv 0) pa_nil)) pe_int)) (pw_or (pt_cmpR op_ne (pe_ix ix_list (pv 0) pe_int (fun _ _ => rfl)) pe_int (nomark _)) (pw_or1 (pt_cmpR op_gt (pe_ix ix_list (pv 0) (pe_un un_neg pe_int) (fun _ _ => rfl)) pe_int (nomark _))))))
    (pss_one (ps_raiseC C_NoRoad rfl (takes_of rfl rfl rfl rfl) rfl))
    pss_nil)
    (pss_one (ps_for (passes_of rfl) rfl (pi_range2 rfl T.n_range (pa_cons pe_int (pa_cons (pe_callB call_len_seq (by rfl) T.n_len (by decide +kernel) (pa_cons (pv 0) pa_nil)) pa_nil))) (pg_name (i := 1) sc_see_road.nd rfl (Or.inl rfl))
    (pss_one (ps_if (pt_cmpR op_ge (pe_ix ix_list (pv 0) (pe_op op_sub (pv 1) pe_int) (fun _ _ => rfl)) (pe_ix ix_list (pv 0) (pv 1) (fun _ _ => rfl)) (nomark _))
    (pss_one (ps_raiseC C_NoRoad rfl (takes_of rfl rfl rfl rfl) rfl))
    pss_nil))))), ?_⟩
  refine s_if (b := !(decide (1 ≤ (ns.length : Int)) && decide ((ns.length : Int) ≤ 50)) || (!decide (V.int (gi ns 0) = V.int 0) || decide (4000 < gi ns (ns.length - 1))))
    (et_or (et_not (et_test (ev_chain ev_c (ev_lenI v_ ha) rv_I0 (fun _ => ev_c) fun _ => rv_I0))) fun hb => ?_) (fun hb H1 e1 => ?_) (fun hb H1 e1 => ?_)
  · have hp : ns ≠ [] := by
      rintro rfl
      simp at hb
    refine et_or (et_test (ev_op (ixN_ (i := 0) ha v_ ev_c (List.length_pos_iff.mpr hp)) ev_c (rv_ne rfl))) fun _ => et_test (o_ (ixL_ ha v_ hp) ev_c)
  · refine q.bad (refRoad_no fun ok => ?_) e1
    obtain ⟨k1, k2, k3, k4, _⟩ := ok
    rw [k3] at hb
    simp at hb
    omega
  · have h1 : 1 ≤ ns.length ∧ ns.length ≤ 50 ∧ gi ns 0 = 0 ∧ gi ns (ns.length - 1) ≤ 4000 := by
      simp at hb
      refine ⟨by omega, by omega, hb.2.1, by omega⟩
    refine s_forR2 (lo := 1) (n := (ns.length : Int)) (ea_cons ev_c (ea_cons (ev_lenI v_ (e1 a _ ha)) ea_nil)) ⟨by omega, by omega, by omega, by omega⟩
      (fun i σ H' => ∃ v, σ = [some (.ref a), v] ∧ Ex H H' ∧ ∀ k, k < i → gi ns k < gi ns (k + 1)) (fun H2 e2 => ⟨none, rfl, e1.trans e2, fun k hk => by omega⟩) ?_ ?_
    · rintro i σ H2 hi ⟨v, rfl, e2, up⟩
      have j1 : (1 + (i : Int) - 1).toNat = i := by omega
      have j2 : (1 + (i : Int)).toNat = i + 1 := by omega
      refine s_if (et_test (o_ (ixI_ (e2 a _ ha) v_ (o_ v_ ev_c) (by omega) (by omega)) (ixI_ (e2 a _ ha) v_ v_ (by omega) (by omega)))) (fun hb H3 e3 => ?_) (fun hb H3 e3 => ?_)
      · refine q.bad (refRoad_no fun ok => ?_) (e2.trans e3)
        have k5 := ok.2.2.2.2 i (by omega)
        rw [j1, j2] at hb
        simp at hb
        omega
      · refine ⟨_, rfl, e2.trans e3, fun k hk => ?_⟩
        rw [j1, j2] at hb
        simp at hb
        by_cases e : k = i
        · subst e
          omega
        · exact up k (by omega)
    · rintro σ H2 ⟨v, rfl, e2, up⟩
      exact q.get (refRoad_ok ⟨h1.1, h1.2.1, h1.2.2.1, h1.2.2.2, fun k hk => up k (by omega)⟩) H2 e2

abbrev s_see_gaps : Stmt := top 16
abbrev nm_see_gaps : List Str := ["gaps", "k"]
theorem sc_see_gaps : FnScope nm_see_gaps ["gaps"] (defScope s_see_gaps) := ⟨rfl, rfl, rfl, by decide +kernel, rfl, by decide +kernel, by decide +kernel⟩
def sp_see_gaps (K : PySem.W.Frag) : Sp := fun vs H Q E => ∃ (a : Addr) (ns : List Int), vs = [.ref a] ∧ IL H a ns ∧ Out K (refGaps ns) H E (RVal .non H Q)
theorem h_see_gaps (D : Df K mg "see_gaps" s_see_gaps) (T : Bs mg) (C_NoGaps : Ec K mg "NoGaps") (C_TooMany : Ec K mg "TooMany") : Has P w K mg base (L2.CX P w) 1 "see_gaps" ["gaps"] (sp_see_gaps K) := by
  refine D.hasX sc_see_gaps (fun _ _ _ _ _ _ us hl => match us, hl with | [_], _ => rfl) (fun vs H Q E h => ?_) (fun f cdv A outer s H vs Q E hr h => ?_)
  · obtain ⟨a, ns, rfl, _⟩ := h
    rfl
  obtain ⟨a, ns, rfl, ha, q⟩ := h
  refine ⟨_, (pss_cons (ps_if (pt_cmpR op_gt (pe_callB call_len_seq (by rfl) T.n_len (by decide +kernel) (pa_cons (pv 0) pa_nil)) pe_int (nomark _))
    (pss_one (ps_raiseC C_TooMany rfl (takes_of rfl rfl rfl rfl) rfl))
    pss_nil)
    (pss_one (ps_for (passes_of rfl) rfl (pi_range1 rfl T.n_range (pa_cons (pe_callB call_len_seq (by rfl) T.n_len (by decide +kernel) (pa_cons (pv 0) pa_nil)) pa_nil)) (pg_name (i := 1) sc_see_gaps.nd rfl (Or.inl rfl))
    (pss_one (ps_if (PW.pt (pw_or (pt_not (pt_chain op_le op_le pe_int (pe_ix ix_list (pv 0) (pv 1) (fun _ _ => rfl)) pe_int)) (pw_or1 (PW.pt (pw_and (pt_cmpR op_gt (pv 1) pe_int (nomark _)) (pw_and1 (pt_cmpR op_gt (pe_ix ix_list (pv 0) (pe_op op_sub (pv 1) pe_int) (fun _ _ => rfl)) (pe_ix ix_list (pv 0) (pv 1) (fun _ _ => rfl)) (nomark _))))))))
    (pss_one (ps_raiseC C_NoGaps rfl (takes_of rfl rfl rfl rfl) rfl))
    pss_nil))))), ?_⟩
  refine s_if (et_test (o_ (ev_lenI v_ ha) ev_c)) (fun hb H1 e1 => ?_) (fun hb H1 e1 => ?_)
  · simp at hb
    exact q.bad (refGaps_many (by omega)) e1
  · simp at hb
    have h21 : ns.length ≤ 21 := by omega
    refine s_forR1 (n := (ns.length : Int)) (ea_cons (ev_lenI v_ (e1 a _ ha)) ea_nil) ⟨by omega, by omega⟩
      (fun i σ H' => ∃ v, σ = [some (.ref a), v] ∧ Ex H H' ∧ ∀ k, k < i → 1 ≤ gi ns k ∧ gi ns k ≤ 4000 ∧ (0 < k → gi ns (k - 1) ≤ gi ns k)) (fun H2 e2 => ⟨none, rfl, e1.trans e2, fun k hk => by omega⟩) ?_ ?_
    · rintro i σ H2 hi ⟨v, rfl, e2, up⟩
      refine s_if (b := !(decide (1 ≤ gi ns i) && decide (gi ns i ≤ 4000)) || (decide (0 < (i : Int)) && decide (gi ns i < gi ns ((i : Int) - 1).toNat)))
        (et_or (et_not (et_test (ev_chain ev_c (ixN_ (e2 a _ ha) v_ v_ (by omega)) rv_I0 (fun _ => ev_c) fun _ => rv_I0))) fun _ => et_and (et_test (o_ v_ ev_c)) fun hp => ?_) (fun hb H3 e3 => ?_) (fun hb H3 e3 => ?_)
      · have hp : 0 < (i : Int) := of_decide_eq_true hp
        exact et_test (o_ (ixI_ (e2 a _ ha) v_ (o_ v_ ev_c) (by omega) (by omega)) (ixN_ (e2 a _ ha) v_ v_ (by omega)))
      · refine q.bad (refGaps_no h21 fun ok => ?_) (e2.trans e3)
        obtain ⟨k1, k2, k3⟩ := ok i (by omega)
        have j1 : ((i : Int) - 1).toNat = i - 1 := by omega
        rw [j1] at hb
        simp at hb
        rcases hb with hb | hb
        · omega
        · have := k3 (by omega)
          omega
      · refine ⟨_, rfl, e2.trans e3, fun k hk => ?_⟩
        have j1 : ((i : Int) - 1).toNat = i - 1 := by omega
        rw [j1] at hb
        simp at hb
        by_cases e : k = i
        · subst e
          exact ⟨by omega, by omega, fun h0 => by have := hb.2; omega⟩
        · exact up k (by omega)
    · rintro σ H2 ⟨v, rfl, e2, up⟩
      exact q.get (refGaps_ok h21 fun k hk => up k (by omega)) H2 e2

abbrev s_distances : Stmt := top 9
abbrev nm_distances : List Str := ["road"]
theorem sc_distances : FnScope nm_distances ["road"] (defScope s_distances) := ⟨rfl, rfl, rfl, by decide +kernel, rfl, by decide +kernel, by decide +kernel⟩
def sp_distances (K : PySem.W.Frag) : Sp := fun vs H Q E => ∃ (a : Addr) (ns : List Int), vs = [.ref a] ∧ IL H a ns ∧ Out K (refRoad ns) H E (RL (Ints (btw ns)) H Q)
theorem h_distances (D : Df K mg "distances" s_distances) (T : Bs mg) (G_see_road : Has P w K mg base (L2.CX P w) 1 "see_road" ["road"] (sp_see_road K)) (G_between : Has P w K mg base CX0 1 "between" ["places"] sp_between) : Has P w K mg base (L2.CX P w) 2 "distances" ["road"] (sp_distances K) := by
  refine D.hasX sc_distances (fun _ _ _ _ _ _ us hl => match us, hl with | [_], _ => rfl) (fun vs H Q E h => ?_) (fun f cdv A outer s H vs Q E hr h => ?_)
  · obtain ⟨a, ns, rfl, _⟩ := h
    rfl
  obtain ⟨a, ns, rfl, ha, q⟩ := h
  refine ⟨_, (pss_cons (ps_expr (pe_callH G_see_road (by first | exact hr | exact hr.mono (by omega)) (by rfl) (passX (takes_of rfl rfl rfl rfl)) (pa_cons (pv 0) pa_nil)))
    (pss_one (ps_ret (pe_callH G_between (by first | exact hr | exact hr.mono (by omega)) (by rfl) pass0 (pa_cons (pv 0) pa_nil))))), ?_⟩
  refine s_call (ea_cons v_ ea_nil) fun H1 e1 => ⟨a, ns, rfl, e1 a _ ha, q.imp e1 fun r1 q H2 e2 => ?_⟩
  have e12 := e1.trans e2
  exact s_retcall (ea_cons v_ ea_nil) fun H3 e3 => ⟨a, ns, rfl, (e12.trans e3) a _ ha, (refRoad_none r1).small, fun p H4 hp e4 h4 => q p H4 (fresh_back (e12.trans e3) hp) ((e12.trans e3).trans e4) h4⟩

abbrev s_mirrored : Stmt := top 10
abbrev nm_mirrored : List Str := ["road", "place"]
theorem sc_mirrored : FnScope nm_mirrored ["road"] (defScope s_mirrored) := ⟨rfl, rfl, rfl, by decide +kernel, rfl, by decide +kernel, by decide +kernel⟩
def sp_mirrored (K : PySem.W.Frag) : Sp := fun vs H Q E => ∃ (a : Addr) (ns : List Int), vs = [.ref a] ∧ IL H a ns ∧ Out K (refRoad ns) H E (RL (Ints (mirP ns)) H Q)
theorem h_mirrored (D : Df K mg "mirrored" s_mirrored) (T : Bs mg) (G_see_road : Has P w K mg base (L2.CX P w) 1 "see_road" ["road"] (sp_see_road K)) : Has P w K mg base (L2.CX P w) 2 "mirrored" ["road"] (sp_mirrored K) := by
  refine D.hasX sc_mirrored (fun _ _ _ _ _ _ us hl => match us, hl with | [_], _ => rfl) (fun vs H Q E h => ?_) (fun f cdv A outer s H vs Q E hr h => ?_)
  · obtain ⟨a, ns, rfl, _⟩ := h
    rfl
  obtain ⟨a, ns, rfl, ha, q⟩ := h
  refine ⟨_, (pss_cons (ps_expr (pe_callH G_see_road (by first | exact hr | exact hr.mono (by omega)) (by rfl) (passX (takes_of rfl rfl rfl rfl)) (pa_cons (pv 0) pa_nil)))
    (pss_one (ps_ret (pe_lc (own := [("place", 1)]) rfl sc_mirrored.nd (pi_reversed (by rfl) T.n_reversed (pa_cons (pv 0) pa_nil)) (blkOk_by (own := [("place", 1)]) (N := nm_mirrored) (sc := defScope s_mirrored) (by decide +kernel)) (fun _ _ _ _ _ => (pg_name (i := 1) sc_mirrored.nd rfl (Or.inl rfl))) (fun _ _ _ _ _ => pts_nil) (fun _ _ _ _ _ => (pe_op op_sub (pe_ix (r := rIxL K) ix_list (pv 0) (pe_un un_neg pe_int) (fun _ _ => rfl)) (pv 1))))))), ?_⟩
  refine s_call (ea_cons v_ ea_nil) fun H1 e1 => ⟨a, ns, rfl, e1 a _ ha, q.imp e1 fun r1 q H2 e2 => ?_⟩
  have e12 := e1.trans e2
  have hne := (refRoad_none r1).ne
  have h100 := (refRoad_none r1).small
  refine s_retL (el_mir v_ (e12 a _ ha) hne (by omega) (fun _ => rfl) (fun _ _ => et_yes) (fun d H3 e3 => sub_ (ixL_ ((e12.trans e3) a _ ha) v_ hne) v_)) fun p H3 hp e3 h3 => q p H3 (fresh_back e12 hp) (e12.trans e3) h3

abbrev s_without : Stmt := top 17
abbrev nm_without : List Str := ["gaps", "some", "left", "d"]
theorem sc_without : FnScope nm_without ["gaps", "some"] (defScope s_without) := ⟨rfl, rfl, rfl, by decide +kernel, rfl, by decide +kernel, by decide +kernel⟩
def sp_without : Sp := fun vs H Q _ => ∃ (a b : Addr) (gs ds : List Int), vs = [.ref a, .ref b] ∧ IL H a gs ∧ IL H b ds ∧
  ∀ (p l : Addr) (H' : Hp), H p = none → H l = none → Ex H H' → H' p = some (.tup [.ref l, optV (wo gs ds).2]) → IL H' l (wo gs ds).1 → Q (.ref p) H'
theorem h_without (D : Df K mg "without" s_without) (T : Bs mg) : Has P w K mg base CX0 1 "without" ["gaps", "some"] sp_without := by
  refine D.has0 sc_without (fun _ _ _ _ _ _ us hl => match us, hl with | [_, _], _ => rfl) (fun vs H Q E h => ?_) (fun f cdv A outer s H vs Q E hr h => ?_)
  · obtain ⟨a, b, gs, ds, rfl, _⟩ := h
    rfl
  obtain ⟨a, b, gs, ds, rfl, ha, hb, q⟩ := h
  refine ⟨_, (pss_cons (ps_set (i := 2) sc_without.nd rfl (Or.inl rfl) (pe_callTy call_list_of (by rfl) T.n_list (by decide +kernel) (pa_cons (pv 0) pa_nil)))
    (pss_cons (ps_for PassesOwn.never rfl (pi_list (pv 1)) (pg_name (i := 3) sc_without.nd rfl (Or.inl rfl))
    (pss_cons (ps_if (pt_cmpR op_notIn_seq (pv 3) (pv 2) rfl)
    (pss_one (ps_ret (pe_tup (pa_cons (pv 2) (pa_cons (pv 3) pa_nil)))))
    pss_nil)
    (pss_one (ps_expr (pe_bm PySem.F.plainAttrs_list PySem.F.slot_list_remove PySem.F.type_list_remove mt_remove (pv 2) (pa_cons (pv 3) pa_nil))))))
    (pss_one (ps_ret (pe_tup (pa_cons (pv 2) (pa_cons pe_non pa_nil))))))), ?_⟩
  refine s_asgL (el_copy v_ ha) fun l H1 hl e1 h1 => ?_
  refine s_forL v_ (sq_of (e1 b _ hb)) (fun i σ H' => ∃ v left, σ = [some (.ref a), some (.ref b), some (.ref l), v] ∧ Ex H H' ∧ IL H' l left ∧ wo gs ds = wo left (ds.drop i))
    (fun H2 e2 => ⟨none, gs, rfl, e1.trans e2, e2 l _ h1, rfl⟩) (fun i σ H' _ ⟨_, _, _, e, _⟩ => sq_of (e b _ hb)) ?_ ?_
  · rintro i x σ H2 hi ⟨v, left, rfl, e2, h2, hw⟩
    obtain ⟨d, hd, rfl⟩ : ∃ d, ds[i]? = some d ∧ x = V.int d := by
      rw [List.getElem?_map] at hi
      cases e : ds[i]? with
      | none => rw [e] at hi; cases hi
      | some d => rw [e] at hi; exact ⟨d, rfl, (Option.some.inj hi).symm⟩
    rw [drop_at hd] at hw
    refine s_if (et_test (ni_ h2 v_ v_)) (fun hb H3 e3 => ?_) (fun hb H3 e3 => ?_)
    · have hn : d ∉ left := by simpa using hb
      rw [wo_out hn] at hw
      refine s_retU (eu_tup (ea_cons v_ (ea_cons v_ ea_nil)) (by show (2 : Nat) ≤ 100000; decide)) fun p H4 hp e4 h4 => q p l H4 ?_ hl ((e2.trans e3).trans e4) ?_ ?_
      · exact fresh_back (e2.trans e3) hp
      · rw [hw]
        exact h4
      · rw [hw]
        exact e4 l _ (e3 l _ h2)
    · have hn : d ∈ left := by simpa using hb
      rw [wo_in hn] at hw
      exact s_rem (e3 l _ h2) v_ v_ hn fun H4 e4 => ⟨_, _, rfl, Ex.mut ((e2.trans e3).trans e4) hl, upd_same, hw⟩
  · rintro σ H2 ⟨v, left, rfl, e2, h2, hw⟩
    rw [List.length_map, List.drop_length] at hw
    refine s_retU (eu_tup (ea_cons v_ (ea_cons ev_c ea_nil)) (by show (2 : Nat) ≤ 100000; decide)) fun p H4 hp e4 h4 => q p l H4 (fresh_back e2 hp) hl (e2.trans e4) ?_ ?_
    · rw [hw]
      exact h4
    · rw [hw]
      exact e4 l _ h2

/-- without(gaps, between(road))[1] and [0] -/
theorem ev_wo1 {σ : L2.St} {H : Hp} {tx ty : TE} {a b : Addr} {gs ns : List Int} {E1 E2 : XK} (hg : Ev tx σ H (.ref b)) (hn : Ev ty σ H (.ref a)) (h1 : IL H b gs) (h2 : IL H a ns) (hz : ns.length ≤ 100) :
    Ev (tOp (rIxT K) (tCall sp_without [] E1 (tCons tx (tCons (tCall sp_between [] E2 (tCons ty tNil)) tNil))) (tC (.int 1))) σ H (optV (wo gs (btw ns)).2) := fun H1 e Q q =>
  hg H1 e _ fun H2 e2 => hn H2 (e.trans e2) _ fun H3 e3 => ⟨a, ns, rfl, ((e.trans e2).trans e3) a _ h2, hz, fun c H4 hc e4 h4 =>
    ⟨b, c, gs, btw ns, rfl, (((e.trans e2).trans e3).trans e4) b _ h1, h4, fun p l H5 hp hl e5 h5 h6 => ⟨p, _, 1, _, rfl, rfl, st_of h5, rfl, q H5 (((e2.trans e3).trans e4).trans e5)⟩⟩⟩
theorem ev_wo0 {σ : L2.St} {H : Hp} {tx ty : TE} {a b : Addr} {gs ns : List Int} {E1 E2 : XK} (hg : Ev tx σ H (.ref b)) (hn : Ev ty σ H (.ref a)) (h1 : IL H b gs) (h2 : IL H a ns) (hz : ns.length ≤ 100) :
    EvL (tOp (rIxT K) (tCall sp_without [] E1 (tCons tx (tCons (tCall sp_between [] E2 (tCons ty tNil)) tNil))) (tC (.int 0))) σ H (Ints (wo gs (btw ns)).1) := fun H1 e Q q =>
  hg H1 e _ fun H2 e2 => hn H2 (e.trans e2) _ fun H3 e3 => ⟨a, ns, rfl, ((e.trans e2).trans e3) a _ h2, hz, fun c H4 hc e4 h4 =>
    ⟨b, c, gs, btw ns, rfl, (((e.trans e2).trans e3).trans e4) b _ h1, h4, fun p l H5 hp hl e5 h5 h6 => ⟨p, _, 0, _, rfl, rfl, st_of h5, rfl, q l H5 (fresh_back ((e2.trans e3).trans e4) hl) (((e2.trans e3).trans e4).trans e5) h6⟩⟩⟩

abbrev s_next_places : Stmt := top 19
abbrev nm_next_places : List Str := ["places", "gaps", "left", "length", "some", "place"]
theorem sc_next_places : FnScope nm_next_places ["places", "gaps"] (defScope s_next_places) := ⟨rfl, rfl, rfl, by decide +kernel, rfl, by decide +kernel, by decide +kernel⟩
def sp_next_places : Sp := fun vs H Q _ => ∃ (a b : Addr) (ns gs : List Int), vs = [.ref a, .ref b] ∧ IL H a ns ∧ IL H b gs ∧ ns ≠ [] ∧ ns.length ≤ 100 ∧ RL (Ints (nextP gs ns)) H Q
theorem h_next_places (D : Df K mg "next_places" s_next_places) (T : Bs mg) (G_without : Has P w K mg base CX0 1 "without" ["gaps", "some"] sp_without) (G_between : Has P w K mg base CX0 1 "between" ["places"] sp_between) : Has P w K mg base CX0 2 "next_places" ["places", "gaps"] sp_next_places := by
  refine D.has0 sc_next_places (fun _ _ _ _ _ _ us hl => match us, hl with | [_, _], _ => rfl) (fun vs H Q E h => ?_) (fun f cdv A outer s H vs Q E hr h => ?_)
  · obtain ⟨a, b, ns, gs, rfl, _⟩ := h
    rfl
  obtain ⟨a, b, ns, gs, rfl, ha, hb, hn, hz, q⟩ := h
  refine ⟨_, (pss_cons (ps_set (i := 2) sc_next_places.nd rfl (Or.inl rfl) (pe_ix ix_tup (pe_callH G_without (by first | exact hr | exact hr.mono (by omega)) (by rfl) pass0 (pa_cons (pv 1) (pa_cons (pe_callH G_between (by first | exact hr | exact hr.mono (by omega)) (by rfl) pass0 (pa_cons (pv 0) pa_nil)) pa_nil))) pe_int (fun _ _ => rfl)))
    (pss_cons (ps_if (pt_not (pt_truth (pv 2) (by intro _; rfl)))
    (pss_one (ps_ret (pe_lst pa_nil)))
    pss_nil)
    (pss_cons (ps_set (i := 3) sc_next_places.nd rfl (Or.inl rfl) (pe_callB (cr_max rfl) (by rfl) T.n_max (by decide +kernel) (pa_cons (pv 0) pa_nil)))
    (pss_cons (ps_set (i := 4) sc_next_places.nd rfl (Or.inl rfl) (pe_callB (cr_sortedSet rfl) (by rfl) T.n_sorted (by decide +kernel) (pa_cons (pe_callTy (cr_setI rfl) (by rfl) T.n_set (by decide +kernel) (pa_cons (pe_lst (pa_cons (pe_ix ix_list (pv 2) (pe_un un_neg pe_int) (fun _ _ => rfl)) (pa_cons (pe_op op_sub (pv 3) (pe_ix ix_list (pv 2) (pe_un un_neg pe_int) (fun _ _ => rfl))) pa_nil))) pa_nil)) pa_nil)))
    (pss_one (ps_ret (pe_lc (own := [("place", 5)]) rfl sc_next_places.nd (pi_list (pv 4)) (blkOk_by (own := [("place", 5)]) (N := nm_next_places) (sc := defScope s_next_places) (by decide +kernel)) (fun _ _ _ _ _ => (pg_name (i := 5) sc_next_places.nd rfl (Or.inl rfl))) (fun _ _ _ _ _ => (pts_one (pt_cmpR (r := rIn K true) op_notIn_seq (pv 5) (pv 0) rfl))) (fun _ _ _ _ _ => (pv 5))))))))), ?_⟩
  refine s_asgL (ev_wo0 v_ v_ hb ha hz) fun l H1 hl e1 h1 => ?_
  have h1 : IL H1 l (leftP gs ns) := h1
  refine s_if (et_not (et_truL v_ h1)) (fun hb2 H2 e2 => ?_) (fun hb2 H2 e2 => ?_)
  · have h0 : leftP gs ns = [] := by simpa using hb2
    refine s_retL (el_lst ea_nil (by decide)) fun p H3 hp e3 h3 => q p H3 (fresh_back (e1.trans e2) hp) ((e1.trans e2).trans e3) ?_
    rw [nextP, if_pos h0]
    exact h3
  · have h0 : leftP gs ns ≠ [] := by simpa using hb2
    dsimp only [tNext]
    have e12 := e1.trans e2
    refine s_asg (ev_max v_ (e12 a _ ha) hn) fun H3 e3 => ?_
    have h3 : IL H3 l (leftP gs ns) := e3 l _ (e2 l _ h1)
    refine s_asgL (el_sortSet (ns := [topI (leftP gs ns), maxD 0 ns - topI (leftP gs ns)]) (el_lst (ea_cons (ixL_ h3 v_ h0) (ea_cons (sub_ v_ (ixL_ h3 v_ h0)) ea_nil)) (by show (2 : Nat) ≤ 100000; decide)) (by show (2 : Nat) < 64; decide)) fun p H4 hp e4 h4 => ?_
    have e14 := (e12.trans e3).trans e4
    dsimp only
    refine s_retL (xs := Ints (nextP gs ns)) ?_ fun r H5 hr e5 h5 => q r H5 (fresh_back e14 hr) (e14.trans e5) h5
    rw [nextP, if_neg h0]
    have hm := sortD_len [topI (leftP gs ns), maxD 0 ns - topI (leftP gs ns)]
    generalize sortD [topI (leftP gs ns), maxD 0 ns - topI (leftP gs ns)] = ps at h4 hm ⊢
    have hf : Ints (ps.filter fun x => !decide (x ∈ ns)) = Ints ((ps.filter fun x => !decide (x ∈ ns)).map id) := by rw [List.map_id]
    rw [hf]
    exact el_lcI _ _ v_ h4 (by simp at hm; omega) (fun x => rfl) (fun x _ H5 e5 => et_test (ni_ ((e14.trans e5) a _ ha) v_ v_)) (fun x _ H5 e5 _ => v_)

abbrev s_trial : Stmt := top 20
abbrev nm_trial : List Str := ["places", "place", "gaps", "here", "lack", "far"]
theorem sc_trial : FnScope nm_trial ["places", "place", "gaps"] (defScope s_trial) := ⟨rfl, rfl, rfl, by decide +kernel, rfl, by decide +kernel, by decide +kernel⟩
/-- the trial of a place, n calls allowed: a new tuple -/
def sp_trial (n : Nat) : Sp := fun vs H Q _ => ∃ (a b : Addr) (ns gs : List Int) (x : Int) (m : Nat), vs = [.ref a, .int x, .ref b] ∧ IL H a ns ∧ IL H b gs ∧ gs.length ≤ 21 ∧ n = m + 1 ∧ ns.length + n = 7 ∧
  ∀ v H', Ex H H' → FoAt H H' [v] (.cons x (trF gs m ns x).1 (trF gs m ns x).2 .nil) → Q v H'
theorem FoAt.one {B H : Hp} {p l : Addr} {x : Int} {o : Option Int} {vs : List V} {s : Fo} (h1 : B p = none) (h2 : B l = none) (h3 : H p = some (.tup [.int x, optV o, .ref l])) (h4 : H l = some (.lst vs)) (h5 : FoAt B H vs s) : FoAt B H [.ref p] (.cons x o s .nil) := .cons h1 h2 h3 h4 h5 .nil
theorem optV_non (o : Option Int) : (!decide (optV o = .non)) = o.isSome := by
  cases o <;> rfl
theorem h_trial0 (D : Df K mg "trial" s_trial) : Has P w K mg base CX0 2 "trial" ["places", "place", "gaps"] (sp_trial 0) :=
  D.none (fun _ _ _ _ _ _ us hl => match us, hl with | [_, _, _], _ => rfl) fun vs H Q E h => by
    obtain ⟨_, _, _, _, _, m, _, _, _, _, h, _⟩ := h
    omega
theorem h_trial1 {n k : Nat} (D : Df K mg "trial" s_trial) (T : Bs mg) (hk : 2 ≤ k) (G_without : Has P w K mg base CX0 1 "without" ["gaps", "some"] sp_without) (G_between : Has P w K mg base CX0 1 "between" ["places"] sp_between)
    (G_next_places : Has P w K mg base CX0 2 "next_places" ["places", "gaps"] sp_next_places) (G_trial : Has P w K mg base CX0 k "trial" ["places", "place", "gaps"] (sp_trial n)) : Has P w K mg base CX0 (k + 1) "trial" ["places", "place", "gaps"] (sp_trial (n + 1)) := by
  refine D.has0 sc_trial (fun _ _ _ _ _ _ us hl => match us, hl with | [_, _, _], _ => rfl) (fun vs H Q E h => ?_) (fun f cdv A outer s H vs Q E hr h => ?_)
  · obtain ⟨a, b, ns, gs, x, m, rfl, _⟩ := h
    rfl
  obtain ⟨a, b, ns, gs, x, m, rfl, ha, hb, hg, hm, hl, q⟩ := h
  obtain rfl : m = n := by omega
  refine ⟨_, (pss_cons (ps_set (i := 3) sc_trial.nd rfl (Or.inr rfl) (pe_op op_cat (pv 0) (pe_lst (pa_cons (pv 1) pa_nil))))
    (pss_cons (ps_set (i := 4) sc_trial.nd rfl (Or.inl rfl) (pe_ix ix_tup (pe_callH G_without (by first | exact hr | exact hr.mono (by omega)) (by rfl) pass0 (pa_cons (pv 2) (pa_cons (pe_callH G_between (by first | exact hr | exact hr.mono (by omega)) (by rfl) pass0 (pa_cons (pv 3) pa_nil)) pa_nil))) pe_int (fun _ _ => rfl)))
    (pss_cons (ps_if (pt_cmpR op_notN (pv 4) pe_non (nomark _))
    (pss_one (ps_ret (pe_tup (pa_cons (pv 1) (pa_cons (pv 4) (pa_cons (pe_lst pa_nil) pa_nil))))))
    pss_nil)
    (pss_one (ps_ret (pe_tup (pa_cons (pv 1) (pa_cons pe_non (pa_cons (pe_lc (own := [("far", 5)]) rfl sc_trial.nd (pi_list (pe_callH G_next_places (by first | exact hr | exact hr.mono (by omega)) (by rfl) pass0 (pa_cons (pv 3) (pa_cons (pv 2) pa_nil)))) (blkOk_by (own := [("far", 5)]) (N := nm_trial) (sc := defScope s_trial) (by decide +kernel)) (fun _ _ _ _ _ => (pg_name (i := 5) sc_trial.nd rfl (Or.inl rfl))) (fun _ _ _ _ _ => pts_nil) (fun _ _ _ _ _ => (pe_callH G_trial (by first | exact hr | exact hr.mono (by omega)) (by rfl) pass0 (pa_cons (pv 3) (pa_cons (pv 5) (pa_cons (pv 2) pa_nil)))))) pa_nil))))))))), ?_⟩
  refine s_asgL (el_cat (ys := [x]) v_ ha (el_lst (ea_cons v_ ea_nil) (by show (1 : Nat) ≤ 100000; decide)) (by show ns.length + 1 ≤ 100000; omega)) fun c H1 hc e1 h1 => ?_
  have hlen : (ns ++ [x]).length + m = 7 := by
    rw [List.length_append]
    show ns.length + 1 + m = 7
    omega
  refine s_asg (ev_wo1 v_ v_ (e1 b _ hb) h1 (by omega)) fun H2 e2 => ?_
  have e12 := e1.trans e2
  unfold trF at q
  have ew : (wo gs (btw (ns ++ [x]))).2 = lackP gs (ns ++ [x]) := rfl
  rw [ew]
  refine s_if (et_is (et_test (notN_ v_)) (optV_non _)) (fun hb2 H3 e3 => ?_) (fun hb2 H3 e3 => ?_)
  · have h0 : lackP gs (ns ++ [x]) ≠ none := fun z => by
      rw [z] at hb2
      cases hb2
    refine s_retUL v_ v_ (el_lst ea_nil (by decide)) fun p l H4 hp hl4 e4 h4 h5 => q (.ref p) H4 ((e12.trans e3).trans e4) (FoAt.one (fresh_back (e12.trans e3) hp) (fresh_back (e12.trans e3) hl4) h4 h5 ?_)
    rw [subs_lack h0]
    exact .nil
  · have h0 : lackP gs (ns ++ [x]) = none := by
      cases e : lackP gs (ns ++ [x]) with
      | none => rfl
      | some d =>
        rw [e] at hb2
        cases hb2
    dsimp only [tNext]
    rw [h0] at q
    have e13 := e12.trans e3
    have h3 : IL H3 c (ns ++ [x]) := e3 c _ (e2 c _ h1)
    have hb3 : IL H3 b gs := e13 b _ hb
    refine s_retUF (t := subs gs m (ns ++ [x])) v_ ev_c ?_ fun p l vs H4 hp hl4 e4 h4 h5 h6 => q (.ref p) H4 (e13.trans e4) (FoAt.one (fresh_back e13 hp) (fresh_back e13 hl4) h4 h5 (h6.base e13))
    by_cases hne : nextP gs (ns ++ [x]) = []
    · rw [subs_end hne]
      have z := el_lcFo (K := K) (σ := [some (.ref a), some (.int x), some (.ref b), some (.ref c), some (optV (lackP gs (ns ++ [x]))), none]) (H := H3) (j := 5) (vs := [5]) (ps := nextP gs (ns ++ [x])) (tt := tYes)
        (tl := tCall sp_next_places [] (fun _ _ _ => False) (tCons (tVar 3) (tCons (tVar 2) tNil))) (trF gs m (ns ++ [x])) (el_call (ea_cons v_ (ea_cons v_ ea_nil)) fun H5 e5 Q q E => ⟨c, b, _, gs, rfl, e5 c _ h3, e5 b _ hb3, by simp, by omega, q⟩) (by have := nextP_len gs (ns ++ [x]); omega) (fun _ => rfl) (fun _ _ _ => et_yes)
        (te := tCall (sp_trial m) [] (fun _ _ _ => False) (tCons (tVar 3) (tCons (tVar 5) (tCons (tVar 2) tNil)))) (fun y hy => by rw [hne] at hy; cases hy)
      rw [hne] at z
      exact z
    · have h6 := next_few hg (by omega) h0 hne
      obtain ⟨r, rfl⟩ : ∃ r, m = r + 1 := ⟨m - 1, by omega⟩
      rw [subs_on h0]
      exact el_lcFo _ (el_call (ea_cons v_ (ea_cons v_ ea_nil)) fun H5 e5 Q q E => ⟨c, b, _, gs, rfl, e5 c _ h3, e5 b _ hb3, by simp, by omega, q⟩) (by have := nextP_len gs (ns ++ [x]); omega) (fun _ => rfl) (fun _ _ _ => et_yes)
        (fun y hy H5 e5 Q q => t_call (ea_cons v_ (ea_cons v_ (ea_cons v_ ea_nil))) fun H6 e6 =>
          ⟨c, b, _, gs, y, r, rfl, (e5.trans e6) c _ h3, (e5.trans e6) b _ hb3, hg, rfl, by omega, fun v H9 e9 h9 => q v H9 (e6.trans e9) (h9.base e6)⟩)
theorem h_trial (D : Df K mg "trial" s_trial) (T : Bs mg) (G_without : Has P w K mg base CX0 1 "without" ["gaps", "some"] sp_without) (G_between : Has P w K mg base CX0 1 "between" ["places"] sp_between)
    (G_next_places : Has P w K mg base CX0 2 "next_places" ["places", "gaps"] sp_next_places) : ∀ n : Nat, Has P w K mg base CX0 (n + 2) "trial" ["places", "place", "gaps"] (sp_trial n)
  | 0 => h_trial0 D
  | n + 1 => h_trial1 D T (by omega) G_without G_between G_next_places (h_trial D T G_without G_between G_next_places n)

abbrev s_trials : Stmt := top 21
abbrev nm_trials : List Str := ["gaps", "ends", "place"]
theorem sc_trials : FnScope nm_trials ["gaps"] (defScope s_trials) := ⟨rfl, rfl, rfl, by decide +kernel, rfl, by decide +kernel, by decide +kernel⟩
/-- the trials of a list of distances -/
def sp_trials (K : PySem.W.Frag) : Sp := fun vs H Q E => ∃ (b : Addr) (gs : List Int), vs = [.ref b] ∧ IL H b gs ∧ Out K (refGaps gs) H E
  (∀ p ws H' B, H p = none → Ex H H' → H' p = some (.lst ws) → Ex H B → B p ≠ none → FoAt B H' ws (trialsF gs) → Q (.ref p) H')
theorem h_trials (D : Df K mg "trials" s_trials) (T : Bs mg) (G_see_gaps : Has P w K mg base (L2.CX P w) 1 "see_gaps" ["gaps"] (sp_see_gaps K))
    (G_next_places : Has P w K mg base CX0 2 "next_places" ["places", "gaps"] sp_next_places) (G_trial : Has P w K mg base CX0 7 "trial" ["places", "place", "gaps"] (sp_trial 5)) : Has P w K mg base (L2.CX P w) 8 "trials" ["gaps"] (sp_trials K) := by
  refine D.hasX sc_trials (fun _ _ _ _ _ _ us hl => match us, hl with | [_], _ => rfl) (fun vs H Q E h => ?_) (fun f cdv A outer s H vs Q E hr h => ?_)
  · obtain ⟨b, gs, rfl, _⟩ := h
    rfl
  obtain ⟨b, gs, rfl, hb, q⟩ := h
  refine ⟨_, (pss_cons (ps_expr (pe_callH G_see_gaps (by first | exact hr | exact hr.mono (by omega)) (by rfl) (passX (takes_of rfl rfl rfl rfl)) (pa_cons (pv 0) pa_nil)))
    (pss_cons (ps_if (pt_not (pt_truth (pv 0) (by intro _; rfl)))
    (pss_one (ps_ret (pe_lst pa_nil)))
    pss_nil)
    (pss_cons (ps_set (i := 1) sc_trials.nd rfl (Or.inr rfl) (pe_lst (pa_cons pe_int (pa_cons (pe_ix ix_list (pv 0) (pe_un un_neg pe_int) (fun _ _ => rfl)) pa_nil))))
    (pss_one (ps_ret (pe_lc (own := [("place", 2)]) rfl sc_trials.nd (pi_list (pe_callH G_next_places (by first | exact hr | exact hr.mono (by omega)) (by rfl) pass0 (pa_cons (pv 1) (pa_cons (pv 0) pa_nil)))) (blkOk_by (own := [("place", 2)]) (N := nm_trials) (sc := defScope s_trials) (by decide +kernel)) (fun _ _ _ _ _ => (pg_name (i := 2) sc_trials.nd rfl (Or.inl rfl))) (fun _ _ _ _ _ => pts_nil) (fun _ _ _ _ _ => (pe_callH G_trial (by first | exact hr | exact hr.mono (by omega)) (by rfl) pass0 (pa_cons (pv 1) (pa_cons (pv 2) (pa_cons (pv 0) pa_nil))))))))))), ?_⟩
  refine s_call (ea_cons v_ ea_nil) fun H1 e1 => ⟨b, gs, rfl, e1 b _ hb, q.imp e1 fun r1 q H2 e2 => ?_⟩
  have e12 := e1.trans e2
  refine s_if (et_not (et_truL v_ (e12 b _ hb))) (fun hb2 H3 e3 => ?_) (fun hb2 H3 e3 => ?_)
  · have h0 : gs = [] := by simpa using hb2
    refine s_retL (el_lst ea_nil (by decide)) fun p H4 hp e4 h4 => q p [] H4 H4 (fresh_back (e12.trans e3) hp) ((e12.trans e3).trans e4) h4 ((e12.trans e3).trans e4) (by rw [h4]; exact fun z => by cases z) ?_
    rw [trialsF, if_pos h0]
    exact .nil
  · have h0 : gs ≠ [] := by simpa using hb2
    dsimp only [tNext]
    have e13 := e12.trans e3
    refine s_asgL (el_lst (vs := [.int 0, .int (topI gs)]) (ea_cons ev_c (ea_cons (ixL_ (e13 b _ hb) v_ h0) ea_nil)) (by show (2 : Nat) ≤ 100000; decide)) fun c H4 hc e4 h4 => ?_
    have h4 : IL H4 c (ends gs) := h4
    have e14 := e13.trans e4
    have hb4 : IL H4 b gs := e14 b _ hb
    dsimp only
    refine s_retF (t := trialsF gs) ?_ fun p ws H5 B hp e5 h5 eB hB hF => q p ws H5 B (fresh_back e14 hp) (e14.trans e5) h5 (e14.trans eB) hB hF
    rw [trialsF, if_neg h0]
    exact el_lcFo _ (el_call (ea_cons v_ (ea_cons v_ ea_nil)) fun H5 e5 Q q E => ⟨c, b, _, gs, rfl, e5 c _ h4, e5 b _ hb4, by simp [ends], by show (2 : Nat) ≤ 100; decide, q⟩) (by have := nextP_len gs (ends gs); omega) (fun _ => rfl) (fun _ _ _ => et_yes)
        (fun y hy H5 e5 Q q => t_call (ea_cons v_ (ea_cons v_ (ea_cons v_ ea_nil))) fun H6 e6 =>
          ⟨c, b, _, gs, y, 4, rfl, (e5.trans e6) c _ h4, (e5.trans e6) b _ hb4, (refGaps_none r1).1, rfl, rfl, fun v H9 e9 h9 => q v H9 (e6.trans e9) (h9.base e6)⟩)

abbrev s_roads_from : Stmt := top 22
abbrev nm_roads_from : List Str := ["places", "some", "many", "found", "place", "lack", "further", "here"]
theorem sc_roads_from : FnScope nm_roads_from ["places", "some", "many"] (defScope s_roads_from) := ⟨rfl, rfl, rfl, by decide +kernel, rfl, by decide +kernel, by decide +kernel⟩
/-- the roads of trials behind some places, n calls allowed -/
def sp_roads_from (n : Nat) : Sp := fun vs H Q _ => ∃ (a b : Addr) (ns : List Int) (ws : List V) (B0 : Hp) (t : Fo) (many : Nat), vs = [.ref a, .ref b, .int (many : Int)] ∧ IL H a ns ∧ Lst H b ws ∧ FoAt B0 H ws t ∧ t.dep < n ∧ ns.length + n ≤ 1000 ∧ many ≤ 1000 ∧ (rf many t ns).length ≤ 1000 ∧
  ∀ p us H' B, H p = none → Ex H H' → H' p = some (.lst us) → Ex H B → B p ≠ none → IFs B H' us (rf many t ns) → Q (.ref p) H'
theorem h_roads_from0 (D : Df K mg "roads_from" s_roads_from) : Has P w K mg base CX0 1 "roads_from" ["places", "some", "many"] (sp_roads_from 0) :=
  D.none (fun _ _ _ _ _ _ us hl => match us, hl with | [_, _, _], _ => rfl) fun vs H Q E h => by
    obtain ⟨_, _, _, _, _, _, _, _, _, _, _, h, _⟩ := h
    omega
theorem h_roads_from1 {n k : Nat} (D : Df K mg "roads_from" s_roads_from) (T : Bs mg) (hk : 1 ≤ k) (G_roads_from : Has P w K mg base CX0 k "roads_from" ["places", "some", "many"] (sp_roads_from n)) : Has P w K mg base CX0 (k + 1) "roads_from" ["places", "some", "many"] (sp_roads_from (n + 1)) := by
  refine D.has0 sc_roads_from (fun _ _ _ _ _ _ us hl => match us, hl with | [_, _, _], _ => rfl) (fun vs H Q E h => ?_) (fun f cdv A outer s H vs Q E hr h => ?_)
  · obtain ⟨a, b, ns, ws, B0, t, many, rfl, _⟩ := h
    rfl
  obtain ⟨a, b, ns, ws, B0, t, many, rfl, ha, hb, hF, hd, hz, hm, hl, q⟩ := h
  refine ⟨_, (pss_cons (ps_set (i := 3) sc_roads_from.nd rfl (Or.inl rfl) (pe_lst pa_nil))
    (pss_cons (ps_for PassesOwn.never rfl (pi_list (pv 1)) (pg_tup (by rfl) (pgs_cons (pg_name (i := 4) sc_roads_from.nd rfl (Or.inl rfl)) (pgs_cons (pg_name (i := 5) sc_roads_from.nd rfl (Or.inl rfl)) (pgs_cons (pg_name (i := 6) sc_roads_from.nd rfl (Or.inl rfl)) pgs_nil))))
    (pss_cons (ps_set (i := 7) sc_roads_from.nd rfl (Or.inl rfl) (pe_op op_cat (pv 0) (pe_lst (pa_cons (pv 4) pa_nil))))
    (pss_cut (ps_if (PW.pt (pw_and (pt_cmpR op_isN (pv 5) pe_non (nomark _)) (pw_and1 (pt_cmpR op_eq (pe_op op_mul (pe_callB call_len_seq (by rfl) T.n_len (by decide +kernel) (pa_cons (pv 7) pa_nil)) (pe_op op_sub (pe_callB call_len_seq (by rfl) T.n_len (by decide +kernel) (pa_cons (pv 7) pa_nil)) pe_int)) (pe_op op_mul pe_int (pv 2)) (nomark _)))))
    (pss_one (ps_expr (pe_bm PySem.F.plainAttrs_list PySem.F.slot_list_append PySem.F.type_list_append mt_append (pv 3) (pa_cons (pe_callB cr_sortedI (by rfl) T.n_sorted (by decide +kernel) (pa_cons (pv 7) pa_nil)) pa_nil))))
    pss_nil)
    (pss_one (ps_expr (pe_bm PySem.F.plainAttrs_list PySem.F.slot_list_extend PySem.F.type_list_extend mt_extend (pv 3) (pa_cons (pe_callH G_roads_from (by first | exact hr | exact hr.mono (by omega)) (by rfl) pass0 (pa_cons (pv 7) (pa_cons (pv 6) (pa_cons (pv 2) pa_nil)))) pa_nil)))))))
    (pss_one (ps_ret (pv 3))))), ?_⟩
  refine s_asgL (el_lst ea_nil (by decide)) fun l H1 hl1 e1 h1 => ?_
  have hlH1 : H1 l ≠ none := by rw [h1]; exact fun z => by cases z
  have hH1 : H1 l ≠ none := by rw [h1]; exact fun z => by cases z
  refine s_forL v_ (sq_of (e1 b _ hb)) (fun i σ H' => ∃ (v4 v5 v6 v7 : Option V) (us : List V) (ls : List (List Int)), σ = [some (.ref a), some (.ref b), some (.int (many : Int)), some (.ref l), v4, v5, v6, v7] ∧ Ex H H' ∧ Gr H1 H' ∧ Lst H' l us ∧ IFs H1 H' us ls ∧ ls ++ rf many (t.drop i) ns = rf many t ns)
    (fun H2 e2 => ⟨none, none, none, none, [], [], rfl, e1.trans e2, Gr.of e2, e2 l _ h1, .nil, by cases t <;> rfl⟩) (fun i σ H' _ ⟨_, _, _, _, _, _, _, e, _⟩ => sq_of (e b _ hb)) ?_ ?_
  · rintro i x σ H2 hi ⟨v4, v5, v6, v7, us, ls, rfl, e2, g2, h2, hI, hacc⟩
    have hi' := (List.getElem?_eq_some_iff.mp hi).1
    obtain ⟨p, r, y, o, xs, s1, a1, a2, a3, _, _, a4, a5, a6⟩ := hF.nth (k := i) (by rw [← hF.many]; exact hi')
    rw [hi] at a3
    cases a3
    rw [Fo.drop_at a1, rf] at hacc
    refine ⟨p, _, rfl, st_of (e2 p _ a4), rfl, _, _, rfl, _, _, rfl, _, _, rfl, rfl, ?_⟩
    show tSeq _ _ _ [some (.ref a), some (.ref b), some (.int (many : Int)), some (.ref l), some (.int y), some (optV o), some (.ref r), v7] H2
    refine s_asgL (el_cat (ys := [y]) v_ (e2 a _ ha) (el_lst (ea_cons v_ ea_nil) (by show (1 : Nat) ≤ 100000; decide)) (by show ns.length + 1 ≤ 100000; omega)) fun c H3 hc e3 h3 => ?_
    have hlen : (ns ++ [y]).length = ns.length + 1 := by rw [List.length_append]; rfl
    have hcl : c ≠ l := fun w => by
      rw [w, h2] at hc
      cases hc
    refine s_cutif (b := decide (o = none ∧ (ns.length + 1) * ns.length = 2 * many)) (fun σ H' => ∃ (us : List V), σ = [some (.ref a), some (.ref b), some (.int (many : Int)), some (.ref l), some (.int y), some (optV o), some (.ref r), some (.ref c)] ∧ Ex H H' ∧ Gr H1 H' ∧ Lst H' l us ∧ IL H' c (ns ++ [y]) ∧
        IFs H1 H' us (ls ++ if o = none ∧ (ns.length + 1) * ns.length = 2 * many then [sortI (ns ++ [y])] else [])) ?_ (fun hb2 H4 e4 => ?_) (fun hb2 H4 e4 => ?_) ?_
    · cases o with
      | some d => exact et_is (et_and (a := false) (b := false) (et_test (isN_ (x := .int d) v_)) fun z => by cases z) (by simp)
      | none =>
        refine et_is (et_and (a := true) (et_test (isN_ (x := .non) v_)) fun _ => et_test (ev_op (mul_ (ev_lenI v_ h3) (sub_ (ev_lenI v_ h3) ev_c) (cmul (by omega) (by omega))) (mul_ ev_c v_ (cmul (by omega) (by omega))) (rv_eq rfl))) ?_
        rw [hlen, Bool.true_and]
        have e : (((ns.length + 1 : Nat) : Int)) * (((ns.length + 1 : Nat) : Int) - 1) = (((ns.length + 1) * ns.length : Nat) : Int) := by
          rw [Int.natCast_mul]
          congr 1
          omega
        rw [e]
        simp only [true_and, V.int.injEq]
        congr 1
        apply propext
        omega
    · have hc2 : o = none ∧ (ns.length + 1) * ns.length = 2 * many := of_decide_eq_true hb2
      rw [if_pos hc2]
      have h4 : Lst H4 l us := e4 l _ (e3 l _ h2)
      have hlus : us.length ≤ 1000 := by
        have := congrArg List.length hacc
        rw [List.length_append] at this
        rw [hI.len]
        omega
      refine s_appL h4 v_ (el_sorted v_ (e4 c _ h3)) (by omega) fun z H5 hz5 e5 h5 => ?_
      have e25 := ((e2.trans e3).trans e4).trans e5
      have g5 : Gr H1 H5 := ((g2.ex e3).ex e4).ex e5
      refine ⟨us ++ [.ref z], rfl, Ex.mut e25 hl1, g5.upd g5 hH1, upd_same, ?_, ?_⟩
      · show upd H5 l _ c = _
        rw [upd_ne hcl]
        exact e5 c _ (e4 c _ h3)
      · exact (((hI.ex ((e3.trans e4).trans e5)).app (IFs.one (((g2.ex e3).ex e4) z hz5) h5))).upd hH1
    · have hc2 : ¬ (o = none ∧ (ns.length + 1) * ns.length = 2 * many) := of_decide_eq_false hb2
      rw [if_neg hc2]
      refine ⟨us, rfl, (e2.trans e3).trans e4, (g2.ex e3).ex e4, e4 l _ (e3 l _ h2), e4 c _ h3, ?_⟩
      rw [List.append_nil]
      exact hI.ex (e3.trans e4)
    rintro σ' H4 ⟨us2, rfl, e4, g4, h4, h4c, hI4⟩
    generalize hone : (if o = none ∧ (ns.length + 1) * ns.length = 2 * many then [sortI (ns ++ [y])] else []) = one at hI4 hacc
    rw [← List.append_assoc, ← List.append_assoc] at hacc
    have hlen2 := congrArg List.length hacc
    rw [List.length_append, List.length_append] at hlen2
    refine s_extX (fun _ ys H' => IFs H1 H' ys (rf many s1 (ns ++ [y]))) h4 v_ (fun H5 e5 Q q => t_call (ea_cons v_ (ea_cons v_ (ea_cons v_ ea_nil))) fun H6 e6 => ⟨c, r, _, xs, B0, s1, many, rfl, (e5.trans e6) c _ h4c, ((e4.trans e5).trans e6) r _ a5, a6.ex ((e4.trans e5).trans e6), by omega, by omega, hm, by omega, fun p vs H7 B hp e7 h7 eB hB hI7 => q p vs H7 (e6.trans e7) h7 (hI7.go (fun x hx => ((g4.ex e5).ex e6) x (fresh_back eB hx)) fun _ _ _ z => z)⟩) fun p ys H5 e5 h5 hI5 => ?_
    have hu2 := hI4.len
    have hy2 := hI5.len
    refine ⟨by omega, _, _, _, _, us2 ++ ys, _, rfl, Ex.mut (e4.trans e5) hl1, (g4.ex e5).upd (g4.ex e5) hH1, upd_same, ((hI4.ex e5).app hI5).upd hH1, hacc⟩
  · rintro σ H2 ⟨v4, v5, v6, v7, us, ls, rfl, e2, g2, h2, hI, hacc⟩
    rw [hF.many, Fo.drop_len, rf, List.append_nil] at hacc
    dsimp only
    refine s_ret v_ fun H3 e3 => q l us H3 H1 hl1 (e2.trans e3) (e3 l _ h2) e1 hH1 ?_
    rw [← hacc]
    exact hI.ex e3
theorem h_roads_from (D : Df K mg "roads_from" s_roads_from) (T : Bs mg) : ∀ n : Nat, Has P w K mg base CX0 (n + 1) "roads_from" ["places", "some", "many"] (sp_roads_from n)
  | 0 => h_roads_from0 D
  | n + 1 => h_roads_from1 D T (by omega) (h_roads_from D T n)

abbrev s_roads : Stmt := top 23
abbrev nm_roads : List Str := ["gaps", "some", "found", "k", "road"]
theorem sc_roads : FnScope nm_roads ["gaps"] (defScope s_roads) := ⟨rfl, rfl, rfl, by decide +kernel, rfl, by decide +kernel, by decide +kernel⟩
def sp_roads (K : PySem.W.Frag) : Sp := fun vs H Q E => ∃ (b : Addr) (gs : List Int), vs = [.ref b] ∧ IL H b gs ∧ Out K (refGaps gs) H E (RLL (roadsF gs) H Q)
theorem h_roads (D : Df K mg "roads" s_roads) (T : Bs mg) (G_trials : Has P w K mg base (L2.CX P w) 8 "trials" ["gaps"] (sp_trials K)) (G_roads_from : Has P w K mg base CX0 7 "roads_from" ["places", "some", "many"] (sp_roads_from 6)) : Has P w K mg base (L2.CX P w) 9 "roads" ["gaps"] (sp_roads K) := by
  refine D.hasX sc_roads (fun _ _ _ _ _ _ us hl => match us, hl with | [_], _ => rfl) (fun vs H Q E h => ?_) (fun f cdv A outer s H vs Q E hr h => ?_)
  · obtain ⟨b, gs, rfl, _⟩ := h
    rfl
  obtain ⟨b, gs, rfl, hb, q⟩ := h
  refine ⟨_, (pss_cons (ps_set (i := 1) sc_roads.nd rfl (Or.inl rfl) (pe_callH G_trials (by first | exact hr | exact hr.mono (by omega)) (by rfl) (passX (takes_of rfl rfl rfl rfl)) (pa_cons (pv 0) pa_nil)))
    (pss_cons (ps_if (pt_not (pt_truth (pv 0) (by intro _; rfl)))
    (pss_one (ps_ret (pe_lst (pa_cons (pe_lst (pa_cons pe_int pa_nil)) pa_nil))))
    pss_nil)
    (pss_cons (ps_if (pt_cmpR op_eq (pe_callB call_len_seq (by rfl) T.n_len (by decide +kernel) (pa_cons (pv 0) pa_nil)) pe_int (nomark _))
    (pss_one (ps_ret (pe_lst (pa_cons (pe_lst (pa_cons pe_int (pa_cons (pe_ix ix_list (pv 0) pe_int (fun _ _ => rfl)) pa_nil))) pa_nil))))
    pss_nil)
    (pss_cons (ps_set (i := 2) sc_roads.nd rfl (Or.inr rfl) (pe_callH G_roads_from (by first | exact hr | exact hr.mono (by omega)) (by rfl) pass0 (pa_cons (pe_lst (pa_cons pe_int (pa_cons (pe_ix ix_list (pv 0) (pe_un un_neg pe_int) (fun _ _ => rfl)) pa_nil))) (pa_cons (pv 1) (pa_cons (pe_callB call_len_seq (by rfl) T.n_len (by decide +kernel) (pa_cons (pv 0) pa_nil)) pa_nil)))))
    (pss_one (ps_ret (pe_lc (own := [("k", 3), ("road", 4)]) (g := gTup K 2 (gCons (gName 3) (gCons (gName 4) gNil))) rfl sc_roads.nd (pi_enum (by rfl) T.n_enumerate (pa_cons (pe_callB (cr_sortedL (hD1_of hr)) (by rfl) T.n_sorted (by decide +kernel) (pa_cons (pv 2) pa_nil)) pa_nil)) (blkOk_by (own := [("k", 3), ("road", 4)]) (N := nm_roads) (sc := defScope s_roads) (by decide +kernel)) (fun _ _ _ _ _ => (pg_tup (by rfl) (pgs_cons (pg_name (i := 3) sc_roads.nd rfl (Or.inl rfl)) (pgs_cons (pg_name (i := 4) sc_roads.nd rfl (Or.inl rfl)) pgs_nil)))) (fun _ _ _ _ _ => (pts_one (pt_cmpR (r := rNotInD K) (op_notInD (hD1_of hr)) (pv 4) (pe_slice (r := rSlL K) sl_list (pe_callB (r := rSortedL K) (cr_sortedL (hD1_of hr)) (by rfl) T.n_sorted (by decide +kernel) (pa_cons (pv 2) pa_nil)) po_none (po_some (pv 3))) rfl))) (fun _ _ _ _ _ => (pv 4))))))))), ?_⟩
  refine s_setcall (ea_cons v_ ea_nil) fun H1 e1 => ⟨b, gs, rfl, e1 b _ hb, q.imp e1 fun r1 q p ws H2 B0 hp e2 h2 _ _ hF => ?_⟩
  obtain ⟨h21, hok⟩ := refGaps_none r1
  have hpos := hok.pos
  have e12 := e1.trans e2
  dsimp only
  refine s_if (et_not (et_truL v_ (e12 b _ hb))) (fun hb2 H3 e3 => ?_) (fun hb2 H3 e3 => ?_)
  · have h0 : gs = [] := by simpa using hb2
    refine s_retLL1 (ns := [0]) (ea_cons ev_c ea_nil) (by decide) fun p a H4 B hp e4 h4 eB hB hI => q p _ H4 B (fresh_back (e12.trans e3) hp) ((e12.trans e3).trans e4) h4 ((e12.trans e3).trans eB) hB ?_
    rw [roadsF, if_pos h0]
    exact hI
  have h0 : gs ≠ [] := by simpa using hb2
  dsimp only [tNext]
  have e13 := e12.trans e3
  refine s_if (et_test (ev_op (ev_lenI v_ (e13 b _ hb)) ev_c (rv_eq rfl))) (fun hb3 H4 e4 => ?_) (fun hb3 H4 e4 => ?_)
  · have h1 : gs.length = 1 := by
      simp at hb3
      omega
    refine s_retLL1 (ns := [0, gi gs 0]) (ea_cons ev_c (ea_cons (ixN_ (i := 0) (e4 b _ (e13 b _ hb)) v_ ev_c (by omega)) ea_nil)) (by show (2 : Nat) ≤ 100000; decide) fun p a H5 B hp e5 h5 eB hB hI => q p _ H5 B (fresh_back (e13.trans e4) hp) ((e13.trans e4).trans e5) h5 ((e13.trans e4).trans eB) hB ?_
    rw [roadsF, if_neg h0, if_pos h1]
    exact hI
  have h1 : gs.length ≠ 1 := by
    simp at hb3
    omega
  dsimp only [tNext]
  have e14 := e13.trans e4
  have hb4 := e14 b _ hb
  have h24 : Lst H4 p ws := e4 p _ (e3 p _ h2)
  have hlen := rf_trials_len h0 hpos
  refine s_setcallLX (ns := ends gs) (el_lst (vs := [.int 0, .int (topI gs)]) (ea_cons ev_c (ea_cons (ixL_ hb4 v_ h0) ea_nil)) (by show (2 : Nat) ≤ 100000; decide)) (fun c H5 hc5 e5 h5 => ea_cons v_ (ea_cons (ev_lenI v_ (e5 b _ hb4)) ea_nil)) fun c H5 e5 h5 => ?_
  refine ⟨c, p, ends gs, ws, B0, trialsF gs, gs.length, rfl, h5, e5 p _ h24, hF.ex ((e3.trans e4).trans e5), by have := trialsF_dep gs; omega, by show 2 + 6 ≤ 1000; decide, by omega, by omega, fun f us H6 B hf e6 h6 eB hB hI => ?_⟩
  dsimp only
  have e16 := (e14.trans e5).trans e6
  refine s_retLO (eo_lcE (newAt (sortL (rf gs.length (trialsF gs) (ends gs)))) (eo_sorted v_ h6 hI.il).args (by rw [(sortL_perm _).length_eq]; omega) (fun _ _ => rfl) (fun i r row H7 e7 hi h7 => ?_) (fun i x H7 e7 => v_)) fun p2 vs H7 hp2 e7 h7 hi ho => ?_
  · refine et_is (et_newAt (row := row) v_ h7 (eo_sorted v_ (e7 f _ h6) (hI.il.ex e7)) v_) ?_
    rw [newAt, List.getD_eq_getElem?_getD, hi]
    rfl
  · obtain ⟨b1, b2, b3⟩ := base_new hp2 e7 ((e14.trans e5).trans eB) e16 hI hi ho
    refine q p2 vs H7 _ (fresh_back e16 hp2) (e16.trans e7) h7 b1 b2 ?_
    rw [roadsF, if_neg h0, if_neg h1]
    exact b3

theorem el_roadsN {σ : L2.St} {H : Hp} {tx : TE} {gs : List Int} {E : XK} (h : EvL tx σ H (Ints gs)) (hr : refGaps gs = none) : EvLL (tCall (sp_roads K) [] E (tCons tx tNil)) σ H (roadsF gs) := fun H1 e Q q =>
  h H1 e _ fun b H2 _ e2 hb => ⟨b, gs, rfl, hb, Out.ok hr fun p us H3 B hp e3 h3 eB hB hI => q p us H3 B (fresh_back e2 hp) (e2.trans e3) h3 (e2.trans eB) hB hI⟩

theorem el_distN {σ : L2.St} {H : Hp} {tx : TE} {r : List Int} {E : XK} (h : EvL tx σ H (Ints r)) (hr : refRoad r = none) : EvL (tCall (sp_distances K) [] E (tCons tx tNil)) σ H (Ints (btw r)) := fun H1 e Q q =>
  h H1 e _ fun b H2 _ e2 hb => ⟨b, r, rfl, hb, Out.ok hr fun p H3 hp e3 h3 => q p H3 (fresh_back e2 hp) (e2.trans e3) h3⟩
theorem el_dist {σ : L2.St} {H : Hp} {tx : TE} {b : Addr} {r : List Int} {E : XK} (h : Ev tx σ H (.ref b)) (hb : IL H b r) (hr : refRoad r = none) : EvL (tCall (sp_distances K) [] E (tCons tx tNil)) σ H (Ints (btw r)) := fun H1 e Q q =>
  h H1 e _ fun H2 e2 => ⟨b, r, rfl, (e.trans e2) b _ hb, Out.ok hr fun p H3 hp e3 h3 => q p H3 (fresh_back e2 hp) (e2.trans e3) h3⟩

theorem el_mirN {σ : L2.St} {H : Hp} {tx : TE} {r : List Int} {E : XK} (h : EvL tx σ H (Ints r)) (hr : refRoad r = none) : EvL (tCall (sp_mirrored K) [] E (tCons tx tNil)) σ H (Ints (mirP r)) := fun H1 e Q q =>
  h H1 e _ fun b H2 _ e2 hb => ⟨b, r, rfl, hb, Out.ok hr fun p H3 hp e3 h3 => q p H3 (fresh_back e2 hp) (e2.trans e3) h3⟩
theorem el_mirV {σ : L2.St} {H : Hp} {tx : TE} {b : Addr} {r : List Int} {E : XK} (h : Ev tx σ H (.ref b)) (hb : IL H b r) (hr : refRoad r = none) : EvL (tCall (sp_mirrored K) [] E (tCons tx tNil)) σ H (Ints (mirP r)) := fun H1 e Q q =>
  h H1 e _ fun H2 e2 => ⟨b, r, rfl, (e.trans e2) b _ hb, Out.ok hr fun p H3 hp e3 h3 => q p H3 (fresh_back e2 hp) (e2.trans e3) h3⟩

abbrev s_spread : Stmt := top 11
abbrev nm_spread : List Str := ["road", "d", "found"]
theorem sc_spread : FnScope nm_spread ["road"] (defScope s_spread) := ⟨rfl, rfl, rfl, by decide +kernel, rfl, by decide +kernel, by decide +kernel⟩
def sp_spread (K : PySem.W.Frag) : Sp := fun vs H Q E => ∃ (a : Addr) (ns : List Int), vs = [.ref a] ∧ IL H a ns ∧ Out K (refRoad ns) H E (RL (Ints (spreadP ns)) H Q)
theorem h_spread (D : Df K mg "spread" s_spread) (T : Bs mg) (G_see_road : Has P w K mg base (L2.CX P w) 1 "see_road" ["road"] (sp_see_road K)) (G_between : Has P w K mg base CX0 1 "between" ["places"] sp_between) : Has P w K mg base (L2.CX P w) 2 "spread" ["road"] (sp_spread K) := by
  refine D.hasX sc_spread (fun _ _ _ _ _ _ us hl => match us, hl with | [_], _ => rfl) (fun vs H Q E h => ?_) (fun f cdv A outer s H vs Q E hr h => ?_)
  · obtain ⟨a, ns, rfl, _⟩ := h
    rfl
  obtain ⟨a, ns, rfl, ha, q⟩ := h
  refine ⟨_, (pss_cons (ps_expr (pe_callH G_see_road (by first | exact hr | exact hr.mono (by omega)) (by rfl) (passX (takes_of rfl rfl rfl rfl)) (pa_cons (pv 0) pa_nil)))
    (pss_cons (ps_setLc (i := 2) (own := [("d", 1)]) rfl sc_spread.nd rfl rfl (sw_true rfl rfl rfl (by decide +kernel)) (pi_range1 rfl T.n_range (pa_cons (pe_op op_add (pe_ix ix_list (pv 0) (pe_un un_neg pe_int) (fun _ _ => rfl)) pe_int) pa_nil)) (blkOk_by (own := [("d", 1)]) (N := nm_spread) (sc := defScope s_spread) (by decide +kernel)) (fun _ _ _ _ _ => (pg_name (i := 1) sc_spread.nd rfl (Or.inl rfl))) (fun _ _ _ _ _ => pts_nil) (fun _ _ _ _ _ => pe_int))
    (pss_cons (ps_asg (pe_callB call_len_seq (by rfl) T.n_len (by decide +kernel) (pa_cons (pv 0) pa_nil)) (pg_sub (pv 2) pe_int set_list))
    (pss_cons (ps_for (passes_of rfl) rfl (pi_list (pe_callH G_between (by first | exact hr | exact hr.mono (by omega)) (by rfl) pass0 (pa_cons (pv 0) pa_nil))) (pg_name (i := 1) sc_spread.nd rfl (Or.inl rfl))
    (pss_one (ps_asg (pe_op op_add (pe_ix ix_list (pv 2) (pv 1) (fun _ _ => rfl)) pe_int) (pg_sub (pv 2) (pv 1) set_list))))
    (pss_one (ps_ret (pv 2))))))), ?_⟩
  refine s_call (ea_cons v_ ea_nil) fun H1 e1 => ⟨a, ns, rfl, e1 a _ ha, q.imp e1 fun r1 q H2 e2 => ?_⟩
  have rok := refRoad_none r1
  have e12 := e1.trans e2
  have ha2 := e12 a _ ha
  have hge := (road_good rok).le
  have htop : ∀ x ∈ ns, x ≤ topI ns := fun x hx => top_le (rok.up.imp fun h => by omega) x hx
  have ht0 : 0 ≤ topI ns := hge _ (topI_mem rok.ne)
  have ht4 : topI ns ≤ 4000 := rok.2.2.2.1
  dsimp only
  have hz : Ints (tally (topI ns + 1).toNat []) = given (topI ns + 1).toNat (fun _ => true) fun _ => .int 0 := by
    rw [given_all, tally_nil, Ints, List.map_replicate]
    refine List.ext_getElem (by simp) fun k h1 h2 => ?_
    simp
  refine s_asgL (xs := Ints (tally (topI ns + 1).toNat [])) ?_ fun l H3 hl e3 h3 => ?_
  · rw [hz]
    exact el_lcR1 (fun _ => true) (fun _ => .int 0) (ea_cons (add_ (ixL_ ha2 v_ rok.ne) ev_c) ea_nil) ⟨by show 0 ≤ topI ns + 1; omega, by show topI ns + 1 ≤ 40000; omega⟩ (fun _ => rfl) (fun _ _ _ _ => et_yes) (fun _ _ _ _ _ => ev_c)
  have h3 : IL H3 l (tally (topI ns + 1).toNat []) := h3
  have e13 := e12.trans e3
  have hl0 : H l = none := fresh_back e12 hl
  dsimp only
  refine s_setI h3 (ev_lenI v_ (e3 a _ ha2)) v_ ev_c (by decide) (by rw [tally_len]; omega) fun H4 e4 => ?_
  have e14 := Ex.mut (o := .lst (Ints ((tally (topI ns + 1).toNat []).set (0 : Int).toNat (ns.length : Int)))) (e13.trans e4) hl0
  have h4 : IL (upd H4 l (.lst (Ints ((tally (topI ns + 1).toNat []).set (0 : Int).toNat (ns.length : Int))))) l (tally (topI ns + 1).toNat (List.replicate ns.length 0)) := by
    rw [IL, upd_same]
    have := tally_zeros (m := (topI ns + 1).toNat) (n := ns.length) (by omega)
    rw [show (0 : Int).toNat = 0 from rfl, this]
  generalize upd H4 l (.lst (Ints ((tally (topI ns + 1).toNat []).set (0 : Int).toNat (ns.length : Int)))) = HB at e14 h4
  have haB := e14 a _ ha
  have hdist : ∀ d ∈ btw ns, 0 ≤ d ∧ d ≤ topI ns := fun d hd => by
    have hd := (btw_perm_prs ns).mem_iff.mp hd
    refine ⟨?_, prs_le (fun x hx => ⟨hge x hx, htop x hx⟩) d hd⟩
    obtain ⟨x, _, y, _, rfl⟩ := prs_of hd
    exact ab_nonneg _
  dsimp only
  refine s_forNL (el_call (ea_cons v_ ea_nil) fun H5 e5 Q q E => ⟨a, ns, rfl, e5 a _ haB, rok.small, q⟩)
    (fun c i σ H' => ∃ v1, σ = [some (.ref a), v1, some (.ref l)] ∧ Ex H H' ∧ IL H' l (tally (topI ns + 1).toNat (List.replicate ns.length 0 ++ (btw ns).take i)) ∧ H' c = some (.lst (Ints (btw ns))) ∧ c ≠ l)
    (fun c H5 hc e5 h5 => ⟨none, rfl, e14.trans e5, by rw [List.take_zero, List.append_nil]; exact e5 l _ h4, h5, fun z => by rw [z, h4] at hc; cases hc⟩) (fun c i σ H' _ ⟨_, _, _, _, e, _⟩ => sq_of e) ?_ ?_
  · rintro c i x σ H5 hi ⟨v1, rfl, e5, h5l, h5c, hcl⟩
    obtain ⟨d, hd, rfl⟩ := ints_at hi
    obtain ⟨d0, d1⟩ := hdist d (List.mem_of_getElem? hd)
    refine s_setI h5l (add_ (ixI_ h5l v_ v_ d0 (by rw [tally_len]; omega)) ev_c) v_ v_ d0 (by rw [tally_len]; omega) fun H6 e6 => ⟨_, rfl, Ex.mut (e5.trans e6) hl0, ?_, ?_, hcl⟩
    · rw [IL, upd_same, tally_more d0 (by omega), take_more hd, List.append_assoc]
    · rw [upd_ne hcl]
      exact e6 c _ h5c
  · rintro c σ H5 ⟨v1, rfl, e5, h5l, _, _⟩
    rw [List.length_map, List.take_length] at h5l
    exact s_ret (v := .ref l) v_ fun H6 e6 => q l H6 hl0 (e5.trans e6) (e6 l _ h5l)

abbrev s_sums : Stmt := top 13
abbrev nm_sums : List Str := ["one", "other", "found", "here", "there"]
theorem sc_sums : FnScope nm_sums ["one", "other"] (defScope s_sums) := ⟨rfl, rfl, rfl, by decide +kernel, rfl, by decide +kernel, by decide +kernel⟩
def sp_sums : Sp := fun vs H Q _ => ∃ (a b : Addr) (xs ys : List Int), vs = [.ref a, .ref b] ∧ IL H a xs ∧ IL H b ys ∧ xs.length ≤ 100 ∧ ys.length ≤ 100 ∧ RL (Ints (sumsP xs ys)) H Q
theorem h_sums (D : Df K mg "sums" s_sums) (T : Bs mg) : Has P w K mg base CX0 1 "sums" ["one", "other"] sp_sums := by
  refine D.has0 sc_sums (fun _ _ _ _ _ _ us hl => match us, hl with | [_, _], _ => rfl) (fun vs H Q E h => ?_) (fun f cdv A outer s H vs Q E hr h => ?_)
  · obtain ⟨a, b, xs, ys, rfl, _⟩ := h
    rfl
  obtain ⟨a, b, xs, ys, rfl, ha, hb, hx, hy, q⟩ := h
  refine ⟨_, (pss_cons (ps_set (i := 2) sc_sums.nd rfl (Or.inl rfl) (pe_lst pa_nil))
    (pss_cons (ps_for PassesOwn.never rfl (pi_list (pv 0)) (pg_name (i := 3) sc_sums.nd rfl (Or.inr rfl))
    (pss_one (ps_expr (pe_bm PySem.F.plainAttrs_list PySem.F.slot_list_extend PySem.F.type_list_extend mt_extend (pv 2) (pa_cons (pe_lc (own := [("there", 4)]) rfl sc_sums.nd (pi_list (pv 1)) (blkOk_by (own := [("there", 4)]) (N := nm_sums) (sc := defScope s_sums) (by decide +kernel)) (fun _ _ _ _ _ => (pg_name (i := 4) sc_sums.nd rfl (Or.inl rfl))) (fun _ _ _ _ _ => pts_nil) (fun _ _ _ _ _ => (pe_op op_add (pv 3) (pv 4)))) pa_nil)))))
    (pss_one (ps_ret (pe_callB cr_sortedI (by rfl) T.n_sorted (by decide +kernel) (pa_cons (pv 2) pa_nil)))))), ?_⟩
  have hm := Nat.mul_le_mul hx hy
  refine s_asgL (el_lst ea_nil (by decide)) fun l H1 hl e1 h1 => ?_
  refine Rg.s_sums (e1 a _ ha) (e1 b _ hb) h1 e1 hl (by omega) (by omega) (ne_of_none ha hl) (ne_of_none hb hl) fun v3 H2 e2 h2 _ => ?_
  exact s_retL (el_sorted v_ h2) fun p H3 hp e3 h3 => q p H3 (fresh_back e2 hp) (e2.trans e3) h3

abbrev s_crossed : Stmt := top 14
abbrev nm_crossed : List Str := ["one", "other", "pair", "row"]
theorem sc_crossed : FnScope nm_crossed ["one", "other"] (defScope s_crossed) := ⟨rfl, rfl, rfl, by decide +kernel, rfl, by decide +kernel, by decide +kernel⟩
def sp_crossed (K : PySem.W.Frag) : Sp := fun vs H Q E => ∃ (a b : Addr) (xs ys : List Int), vs = [.ref a, .ref b] ∧ IL H a xs ∧ IL H b ys ∧ Out K (refX xs ys) H E
  (∀ p f g H', H p = none → H f = none → H g = none → g ≠ f → Ex H H' → H' p = some (.tup [.ref f, .ref g]) → IL H' f (sumsP xs ys) → IL H' g (sumsP xs (mirP ys)) → Q (.ref p) H')
theorem h_crossed (D : Df K mg "crossed" s_crossed) (T : Bs mg) (C_TooMany : Ec K mg "TooMany") (C_Meets : Ec K mg "Meets") (G_see_road : Has P w K mg base (L2.CX P w) 1 "see_road" ["road"] (sp_see_road K))
    (G_sums : Has P w K mg base CX0 1 "sums" ["one", "other"] sp_sums) (G_mirrored : Has P w K mg base (L2.CX P w) 2 "mirrored" ["road"] (sp_mirrored K)) : Has P w K mg base (L2.CX P w) 3 "crossed" ["one", "other"] (sp_crossed K) := by
  refine D.hasX sc_crossed (fun _ _ _ _ _ _ us hl => match us, hl with | [_, _], _ => rfl) (fun vs H Q E h => ?_) (fun f cdv A outer s H vs Q E hr h => ?_)
  · obtain ⟨a, b, xs, ys, rfl, _⟩ := h
    rfl
  obtain ⟨a, b, xs, ys, rfl, ha, hb, q⟩ := h
  refine ⟨_, (pss_cons (ps_expr (pe_callH G_see_road (by first | exact hr | exact hr.mono (by omega)) (by rfl) (passX (takes_of rfl rfl rfl rfl)) (pa_cons (pv 0) pa_nil)))
    (pss_cons (ps_expr (pe_callH G_see_road (by first | exact hr | exact hr.mono (by omega)) (by rfl) (passX (takes_of rfl rfl rfl rfl)) (pa_cons (pv 1) pa_nil)))
    (pss_cons (ps_if (PW.pt (pw_or (pt_cmpR op_gt (pe_op op_mul (pe_callB call_len_seq (by rfl) T.n_len (by decide +kernel) (pa_cons (pv 0) pa_nil)) (pe_callB call_len_seq (by rfl) T.n_len (by decide +kernel) (pa_cons (pv 1) pa_nil))) pe_int (nomark _)) (pw_or1 (pt_cmpR op_gt (pe_op op_add (pe_ix ix_list (pv 0) (pe_un un_neg pe_int) (fun _ _ => rfl)) (pe_ix ix_list (pv 1) (pe_un un_neg pe_int) (fun _ _ => rfl))) pe_int (nomark _)))))
    (pss_one (ps_raiseC C_TooMany rfl (takes_of rfl rfl rfl rfl) rfl))
    pss_nil)
    (pss_cons (ps_set (i := 2) sc_crossed.nd rfl (Or.inl rfl) (pe_tup (pa_cons (pe_callH G_sums (by first | exact hr | exact hr.mono (by omega)) (by rfl) pass0 (pa_cons (pv 0) (pa_cons (pv 1) pa_nil))) (pa_cons (pe_callH G_sums (by first | exact hr | exact hr.mono (by omega)) (by rfl) pass0 (pa_cons (pv 0) (pa_cons (pe_callH G_mirrored (by first | exact hr | exact hr.mono (by omega)) (by rfl) (passX (takes_of rfl rfl rfl rfl)) (pa_cons (pv 1) pa_nil)) pa_nil))) pa_nil))))
    (pss_cons (ps_for (passes_of rfl) rfl (pi_tup (pv 2)) (pg_name (i := 3) sc_crossed.nd rfl (Or.inl rfl))
    (pss_one (ps_if (pt_cmpR op_lt (pe_callB cr_lenSet (by rfl) T.n_len (by decide +kernel) (pa_cons (pe_callTy (cr_setI rfl) (by rfl) T.n_set (by decide +kernel) (pa_cons (pv 3) pa_nil)) pa_nil)) (pe_callB call_len_seq (by rfl) T.n_len (by decide +kernel) (pa_cons (pv 3) pa_nil)) (nomark _))
    (pss_one (ps_raiseC C_Meets rfl (takes_of rfl rfl rfl rfl) rfl))
    pss_nil)))
    (pss_one (ps_ret (pv 2)))))))), ?_⟩
  by_cases r1 : roadOk xs
  rotate_left
  · exact s_call (ea_cons v_ ea_nil) fun H1 e1 => ⟨a, xs, rfl, e1 a _ ha, by
      rw [refRoad_no r1]
      exact fun H' e' => q.bad (refX_1 fun z => r1 z.1) (e1.trans e')⟩
  refine s_call (ea_cons v_ ea_nil) fun H1 e1 => ⟨a, xs, rfl, e1 a _ ha, Out.ok (refRoad_ok r1) fun H2 e2 => ?_⟩
  have e12 := e1.trans e2
  by_cases r2 : roadOk ys
  rotate_left
  · exact s_call (ea_cons v_ ea_nil) fun H3 e3 => ⟨b, ys, rfl, (e12.trans e3) b _ hb, by
      rw [refRoad_no r2]
      exact fun H' e' => q.bad (refX_1 fun z => r2 z.2) ((e12.trans e3).trans e')⟩
  refine s_call (ea_cons v_ ea_nil) fun H3 e3 => ⟨b, ys, rfl, (e12.trans e3) b _ hb, Out.ok (refRoad_ok r2) fun H4 e4 => ?_⟩
  have e14 := (e12.trans e3).trans e4
  have ha4 := e14 a _ ha
  have hb4 := e14 b _ hb
  have hx50 := r1.2.1
  have hy50 := r2.2.1
  dsimp only
  have hmany : (decide (50 < ((xs.length : Int) * (ys.length : Int))) || decide (4000 < topI xs + topI ys)) = true ↔ manyP xs ys := by
    rw [Bool.or_eq_true, decide_eq_true_eq, decide_eq_true_eq, ← Int.natCast_mul]
    unfold manyP
    constructor <;> rintro (h | h) <;> first | exact .inr h | (left; omega)
  refine s_if (et_or (et_test (o_ (mul_ (ev_lenI v_ ha4) (ev_lenI v_ hb4) (cmul (by omega) (by omega))) ev_c)) fun _ => et_test (o_ (add_ (ixL_ ha4 v_ r1.ne) (ixL_ hb4 v_ r2.ne)) ev_c)) (fun hb5 H5 e5 => ?_) (fun hb5 H5 e5 => ?_)
  · exact q.bad (refX_2 r1 r2 (hmany.mp hb5)) (e14.trans e5)
  have r3 : ¬ manyP xs ys := fun z => by
    have h1 := hmany.mpr z
    have h2 : (decide (50 < ((xs.length : Int) * (ys.length : Int))) || decide (4000 < topI xs + topI ys)) = false := hb5
    rw [h2] at h1
    cases h1
  dsimp only [tNext]
  have e15 := e14.trans e5
  have ha5 := e5 a _ ha4
  have hb5' := e5 b _ hb4
  have hlen : xs.length * ys.length ≤ 50 := Nat.le_of_not_lt fun z => r3 (.inl z)
  have l1 := sumsP_len xs ys
  have l2 := sumsP_len xs (mirP ys)
  rw [mirP_len] at l2
  refine s_asgXT (el_call (xs := Ints (sumsP xs ys)) (ea_cons v_ (ea_cons v_ ea_nil)) fun H6 e6 Q q E => ⟨a, b, xs, ys, rfl, e6 a _ ha5, e6 b _ hb5', by omega, by omega, q⟩)
    (fun H6 e6 => el_callN2 v_ (el_mirV v_ (e6 b _ hb5') (refRoad_ok r2)) fun c H7 e7 hc Q q E => ⟨a, c, xs, mirP ys, rfl, (e6.trans e7) a _ ha5, hc, by omega, by rw [mirP_len]; omega, q⟩) fun p f g H6 hp hf hg hgf e6 h6 h6f h6g => ?_
  have h6f : IL H6 f (sumsP xs ys) := h6f
  have h6g : IL H6 g (sumsP xs (mirP ys)) := h6g
  have e16 := e15.trans e6
  dsimp only
  refine s_forT v_ (st_of h6) (fun i σ H' => ∃ v3, σ = [some (.ref a), some (.ref b), some (.ref p), v3] ∧ Ex H6 H' ∧ (0 < i → ¬ Rg.twice (sumsP xs ys)) ∧ (1 < i → ¬ Rg.twice (sumsP xs (mirP ys)))) (fun H7 e7 => ⟨none, rfl, e7, fun z => absurd z (Nat.lt_irrefl 0), fun z => absurd z (by omega)⟩) (fun i σ H' _ ⟨_, _, e, _⟩ => st_of (e p _ h6)) ?_ ?_
  · rintro i x σ H7 hi ⟨v3, rfl, e7, n1, n2⟩
    have h7f := e7 f _ h6f
    have h7g := e7 g _ h6g
    match i, hi with
    | 0, hi =>
      cases hi
      refine s_if (et_test (o_ (ev_lenSet v_ h7f (by omega)) (ev_lenI v_ h7f))) (fun hb8 H8 e8 => ?_) (fun hb8 H8 e8 => ?_)
      · have : Rg.twice (sumsP xs ys) := by
          simp at hb8
          exact hb8
        exact q.bad (refX_3 r1 r2 r3 (.inl this)) ((e16.trans e7).trans e8)
      · have : ¬ Rg.twice (sumsP xs ys) := by
          simp at hb8
          unfold Rg.twice
          omega
        exact ⟨_, rfl, e7.trans e8, fun _ => this, fun z => absurd z (by omega)⟩
    | 1, hi =>
      cases hi
      refine s_if (et_test (o_ (ev_lenSet v_ h7g (by omega)) (ev_lenI v_ h7g))) (fun hb8 H8 e8 => ?_) (fun hb8 H8 e8 => ?_)
      · have : Rg.twice (sumsP xs (mirP ys)) := by
          simp at hb8
          exact hb8
        exact q.bad (refX_3 r1 r2 r3 (.inr this)) ((e16.trans e7).trans e8)
      · have : ¬ Rg.twice (sumsP xs (mirP ys)) := by
          simp at hb8
          unfold Rg.twice
          omega
        exact ⟨_, rfl, e7.trans e8, fun _ => n1 (by omega), fun _ => this⟩
    | i + 2, hi => cases hi
  · rintro σ H7 ⟨v3, rfl, e7, n1, n2⟩
    have r4 : ¬ meetP xs ys := fun z => z.elim (n1 (by show 0 < 2; decide)) (n2 (by show 1 < 2; decide))
    exact s_ret (v := .ref p) v_ fun H8 e8 => q.get (refX_4 r1 r2 r3 r4) p f g H8 (fresh_back e15 hp) (fresh_back e15 hf) (fresh_back e15 hg) hgf ((e16.trans e7).trans e8) ((e7.trans e8) p _ h6) ((e7.trans e8) f _ h6f) ((e7.trans e8) g _ h6g)

abbrev s_law_cell_at : Stmt := top 25
abbrev nm_law_cell_at : List Str := ["script", "k"]
theorem sc_law_cell_at : FnScope nm_law_cell_at ["script", "k"] (defScope s_law_cell_at) := ⟨rfl, rfl, rfl, by decide +kernel, rfl, by decide +kernel, by decide +kernel⟩
def sp_law_cell_at (K : PySem.W.Frag) : Sp := fun vs H Q _ => ∃ (a : Addr) (ns : List Int) (k : Int), vs = [.ref a, .int k] ∧ SqL K H a (Ints ns) ∧ 0 ≤ k ∧ RVal (.int (cell ns k)) H Q
theorem h_law_cell_at (D : Df K mg "_law_cell_at" s_law_cell_at) (T : Bs mg) : Has P w K mg base CX0 1 "_law_cell_at" ["script", "k"] (sp_law_cell_at K) := by
  refine D.has0 sc_law_cell_at (fun _ _ _ _ _ _ us hl => match us, hl with | [_, _], _ => rfl) (fun vs H Q E h => ?_) (fun f cdv A outer s H vs Q E hr h => ?_)
  · obtain ⟨a, ns, k, rfl, _⟩ := h
    rfl
  obtain ⟨a, ns, k, rfl, ha, hk, q⟩ := h
  refine ⟨_, (pss_cons (ps_if (pt_cmpR op_lt (pv 1) (pe_callB call_len_seq (by rfl) T.n_len (by decide +kernel) (pa_cons (pv 0) pa_nil)) (nomark _))
    (pss_one (ps_ret (pe_ix ix_list (pv 0) (pv 1) (fun _ _ => rfl))))
    pss_nil)
    (pss_one (ps_ret pe_int))), ?_⟩
  refine s_if (et_test (o_ v_ (ev_len v_ ha))) (fun hb H1 e1 => ?_) (fun hb H1 e1 => ?_)
  · rw [List.length_map] at hb
    have hb : k < (ns.length : Int) := of_decide_eq_true hb
    exact s_ret (ev_op v_ v_ (rv_ixL (ex_l e1 ha) (atI_ints hk hb))) fun H2 e2 => q H2 (e1.trans e2)
  · rw [List.length_map] at hb
    have hb : ¬ k < (ns.length : Int) := of_decide_eq_false hb
    have e : cell ns k = 0 := by
      unfold cell gi
      rw [List.getD_eq_getElem?_getD, List.getElem?_eq_none (by omega)]
      rfl
    rw [e] at q
    dsimp only [tNext]
    exact s_ret ev_c fun H2 e2 => q H2 (e1.trans e2)

theorem ev_cell {σ : L2.St} {H : Hp} {a : Addr} {ns : List Int} {k : Int} {ta tb : TE} {E : XK} (ha : Ev ta σ H (.ref a)) (hk : Ev tb σ H (.int k)) (h : SqL K H a (Ints ns)) (h0 : 0 ≤ k) :
    Ev (tCall (sp_law_cell_at K) [] E (tCons ta (tCons tb tNil))) σ H (.int (cell ns k)) := ev_call (ea_cons ha (ea_cons hk ea_nil)) fun H3 e3 Q q E => ⟨a, ns, k, rfl, ex_l e3 h, h0, q⟩

abbrev s_law_between : Stmt := top 28
abbrev nm_law_between : List Str := ["places", "found", "a", "b"]
theorem sc_law_between : FnScope nm_law_between ["places"] (defScope s_law_between) := ⟨rfl, rfl, rfl, by decide +kernel, rfl, by decide +kernel, by decide +kernel⟩
def sp_law_between : Sp := fun vs H Q _ => ∃ (a : Addr) (ns : List Int), vs = [.ref a] ∧ IL H a ns ∧ ns.length ≤ 100 ∧ RL (Ints (lbw ns)) H Q
theorem h_law_between (D : Df K mg "_law_between" s_law_between) (T : Bs mg) : Has P w K mg base CX0 1 "_law_between" ["places"] sp_law_between := by
  refine D.has0 sc_law_between (fun _ _ _ _ _ _ us hl => match us, hl with | [_], _ => rfl) (fun vs H Q E h => ?_) (fun f cdv A outer s H vs Q E hr h => ?_)
  · obtain ⟨a, ns, rfl, _⟩ := h
    rfl
  obtain ⟨a, ns, rfl, ha, hz, q⟩ := h
  refine ⟨_, (pss_cons (ps_set (i := 1) sc_law_between.nd rfl (Or.inl rfl) (pe_lst pa_nil))
    (pss_cons (ps_for PassesOwn.never rfl (pi_list (pv 0)) (pg_name (i := 2) sc_law_between.nd rfl (Or.inl rfl))
    (pss_one (ps_for PassesOwn.never rfl (pi_list (pv 0)) (pg_name (i := 3) sc_law_between.nd rfl (Or.inl rfl))
    (pss_one (ps_if (pt_cmpR op_lt (pv 2) (pv 3) (nomark _))
    (pss_one (ps_expr (pe_bm PySem.F.plainAttrs_list PySem.F.slot_list_append PySem.F.type_list_append mt_append (pv 1) (pa_cons (pe_op op_sub (pv 3) (pv 2)) pa_nil))))
    pss_nil)))))
    (pss_one (ps_ret (pe_callB cr_sortedI (by rfl) T.n_sorted (by decide +kernel) (pa_cons (pv 1) pa_nil)))))), ?_⟩
  refine s_asgL (el_lst ea_nil (by decide)) fun l H1 hl e1 h1 => ?_
  refine s_forL v_ (sq_of (e1 a _ ha)) (fun i σ H' => ∃ v2 v3, σ = [some (.ref a), some (.ref l), v2, v3] ∧ Ex H H' ∧ IL H' l ((ns.take i).flatMap (lallR ns)))
    (fun H2 e2 => ⟨none, none, rfl, e1.trans e2, e2 l _ h1⟩) (fun i σ H' _ ⟨_, _, _, e, _⟩ => sq_of (e a _ ha)) ?_ ?_
  · rintro i x σ H2 hi ⟨v2, v3, rfl, e2, h2⟩
    obtain ⟨x, hx, rfl⟩ := ints_at hi
    refine s_forL v_ (sq_of (e2 a _ ha)) (fun j σ H' => ∃ v3, σ = [some (.ref a), some (.ref l), some (.int x), v3] ∧ Ex H H' ∧ IL H' l ((ns.take i).flatMap (lallR ns) ++ lallR (ns.take j) x))
      (fun H3 e3 => ⟨v3, rfl, e2.trans e3, by simpa [lallR] using e3 l _ h2⟩) (fun i σ H' _ ⟨_, _, e, _⟩ => sq_of (e a _ ha)) ?_ ?_
    · rintro j y σ H3 hj ⟨v3, rfl, e3, h3⟩
      obtain ⟨y, hy, rfl⟩ := ints_at hj
      refine s_if (et_test (o_ v_ v_)) (fun hb H4 e4 => ?_) (fun hb H4 e4 => ?_)
      · have hb : x < y := of_decide_eq_true hb
        refine s_app (e4 l _ h3) v_ (o_ v_ v_) ?_ fun H5 e5 => ⟨_, rfl, Ex.mut ((e3.trans e4).trans e5) hl, ?_⟩
        · have := lall_part ns i j x
          rw [List.length_map]
          have h2 : ns.length * ns.length ≤ 100 * 100 := Nat.mul_le_mul hz hz
          omega
        · refine il_upd ?_
          rw [ints_app, List.append_assoc, lallR_more hy, if_pos hb]
      · have hb : ¬ x < y := of_decide_eq_false hb
        refine ⟨_, rfl, e3.trans e4, ?_⟩
        rw [lallR_more hy, if_neg hb, List.append_nil]
        exact e4 l _ h3
    · rintro σ H3 ⟨v3, rfl, e3, h3⟩
      rw [List.length_map, List.take_length] at h3
      refine ⟨_, _, rfl, e3, ?_⟩
      rw [take_more hx, List.flatMap_append, List.flatMap_singleton]
      exact h3
  · rintro σ H2 ⟨v2, v3, rfl, e2, h2⟩
    rw [List.length_map, List.take_length] at h2
    exact s_retL (el_sorted v_ h2) fun p H3 hp e3 h3 => q p H3 (fresh_back e2 hp) (e2.trans e3) h3

abbrev s_law_road : Stmt := top 29
abbrev nm_law_road : List Str := ["script", "first", "many", "steps", "road", "k"]
theorem sc_law_road : FnScope nm_law_road ["script", "first", "many", "steps"] (defScope s_law_road) := ⟨rfl, rfl, rfl, by decide +kernel, rfl, by decide +kernel, by decide +kernel⟩
def sp_law_road (K : PySem.W.Frag) : Sp := fun vs H Q _ => ∃ (a : Addr) (ns : List Int) (first steps : Int) (n : Nat), vs = [.ref a, .int first, .int (1 + (n : Int)), .int steps] ∧ SqL K H a (Ints ns) ∧ 0 ≤ first ∧ 0 < steps ∧ n ≤ 1000 ∧ RL (Ints (lroad ns first steps n)) H Q
theorem h_law_road (D : Df K mg "_law_road" s_law_road) (T : Bs mg) (G_law_cell_at : Has P w K mg base CX0 1 "_law_cell_at" ["script", "k"] (sp_law_cell_at K)) : Has P w K mg base CX0 2 "_law_road" ["script", "first", "many", "steps"] (sp_law_road K) := by
  refine D.has0 sc_law_road (fun _ _ _ _ _ _ us hl => match us, hl with | [_, _, _, _], _ => rfl) (fun vs H Q E h => ?_) (fun f cdv A outer s H vs Q E hr h => ?_)
  · obtain ⟨a, ns, first, steps, n, rfl, _⟩ := h
    rfl
  obtain ⟨a, ns, first, steps, n, rfl, ha, hf, hst, hn, q⟩ := h
  refine ⟨_, (pss_cons (ps_set (i := 4) sc_law_road.nd rfl (Or.inl rfl) (pe_lst (pa_cons pe_int pa_nil)))
    (pss_cons (ps_for PassesOwn.never rfl (pi_range1 rfl T.n_range (pa_cons (pe_op op_sub (pv 2) pe_int) pa_nil)) (pg_name (i := 5) sc_law_road.nd rfl (Or.inl rfl))
    (pss_one (ps_expr (pe_bm PySem.F.plainAttrs_list PySem.F.slot_list_append PySem.F.type_list_append mt_append (pv 4) (pa_cons (pe_op op_add (pe_op op_add (pe_ix ix_list (pv 4) (pe_un un_neg pe_int) (fun _ _ => rfl)) pe_int) (pe_op op_mod (pe_callH G_law_cell_at (by first | exact hr | exact hr.mono (by omega)) (by rfl) pass0 (pa_cons (pv 0) (pa_cons (pe_op op_add (pv 1) (pv 5)) pa_nil))) (pv 3))) pa_nil)))))
    (pss_one (ps_ret (pv 4))))), ?_⟩
  refine s_asgL (el_lst (ea_cons ev_c ea_nil) (by show (1 : Nat) ≤ 100000; decide)) fun l H1 hl e1 h1 => ?_
  refine s_forR1 (n := 1 + (n : Int) - 1) (ea_cons (sub_ v_ ev_c) ea_nil) ⟨by omega, by omega⟩
    (fun i σ H' => ∃ v, σ = [some (.ref a), some (.int first), some (.int (1 + (n : Int))), some (.int steps), some (.ref l), v] ∧ Ex H H' ∧ IL H' l (lroad ns first steps i)) (fun H2 e2 => ⟨none, rfl, e1.trans e2, e2 l _ h1⟩) ?_ ?_
  · rintro i σ H2 hi ⟨v, rfl, e2, h2⟩
    have hne : lroad ns first steps i ≠ [] := fun z => by
      have := lroad_len ns first steps i
      rw [z] at this
      cases this
    refine s_app h2 v_ (add_ (add_ (ixL_ h2 v_ hne) ev_c) (mod_ (ev_call (z := .int (cell ns (first + i))) (ea_cons v_ (ea_cons (add_ v_ v_) ea_nil)) fun H3 e3 Q q E => ⟨a, ns, first + i, rfl, ex_l (e2.trans e3) ha, by omega, q⟩) v_ hst)) ?_ fun H3 e3 => ⟨_, rfl, Ex.mut (e2.trans e3) hl, ?_⟩
    · rw [List.length_map, lroad_len]
      omega
    · refine il_upd ?_
      rw [ints_app, lroad, lroad_len, Nat.add_sub_cancel]
  · rintro σ H2 ⟨v, rfl, e2, h2⟩
    have j : (1 + (n : Int) - 1).toNat = n := by omega
    rw [j] at h2
    exact s_ret v_ fun H3 e3 => q l H3 hl (e2.trans e3) (e3 l _ h2)

abbrev s_law_meet : Stmt := top 30
abbrev nm_law_meet : List Str := ["one", "other", "row", "a", "b"]
theorem sc_law_meet : FnScope nm_law_meet ["one", "other"] (defScope s_law_meet) := ⟨rfl, rfl, rfl, by decide +kernel, rfl, by decide +kernel, by decide +kernel⟩
def sp_law_meet : Sp := fun vs H Q _ => ∃ (a b : Addr) (xs ys : List Int), vs = [.ref a, .ref b] ∧ IL H a xs ∧ IL H b ys ∧ xs.length ≤ 50 ∧ ys.length ≤ 50 ∧ RVal (.bl (decide (Rg.twice (sumsP xs ys)))) H Q
theorem h_law_meet (D : Df K mg "_law_meet" s_law_meet) (T : Bs mg) : Has P w K mg base CX0 1 "_law_meet" ["one", "other"] sp_law_meet := by
  refine D.has0 sc_law_meet (fun _ _ _ _ _ _ us hl => match us, hl with | [_, _], _ => rfl) (fun vs H Q E h => ?_) (fun f cdv A outer s H vs Q E hr h => ?_)
  · obtain ⟨a, b, xs, ys, rfl, _⟩ := h
    rfl
  obtain ⟨a, b, xs, ys, rfl, ha, hb, hx, hy, q⟩ := h
  refine ⟨_, (pss_cons (ps_set (i := 2) sc_law_meet.nd rfl (Or.inl rfl) (pe_lst pa_nil))
    (pss_cons (ps_for PassesOwn.never rfl (pi_list (pv 0)) (pg_name (i := 3) sc_law_meet.nd rfl (Or.inr rfl))
    (pss_one (ps_expr (pe_bm PySem.F.plainAttrs_list PySem.F.slot_list_extend PySem.F.type_list_extend mt_extend (pv 2) (pa_cons (pe_lc (own := [("b", 4)]) rfl sc_law_meet.nd (pi_list (pv 1)) (blkOk_by (own := [("b", 4)]) (N := nm_law_meet) (sc := defScope s_law_meet) (by decide +kernel)) (fun _ _ _ _ _ => (pg_name (i := 4) sc_law_meet.nd rfl (Or.inl rfl))) (fun _ _ _ _ _ => pts_nil) (fun _ _ _ _ _ => (pe_op op_add (pv 3) (pv 4)))) pa_nil)))))
    (pss_one (ps_ret (pe_cmpR op_lt (pe_callB cr_lenSet (by rfl) T.n_len (by decide +kernel) (pa_cons (pe_callTy (cr_setI rfl) (by rfl) T.n_set (by decide +kernel) (pa_cons (pv 2) pa_nil)) pa_nil)) (pe_callB call_len_seq (by rfl) T.n_len (by decide +kernel) (pa_cons (pv 2) pa_nil)) (nomark _)))))), ?_⟩
  have hm := Nat.mul_le_mul hx hy
  refine s_asgL (el_lst ea_nil (by decide)) fun l H1 hl e1 h1 => ?_
  refine Rg.s_sums (e1 a _ ha) (e1 b _ hb) h1 e1 hl (by omega) (by omega) (ne_of_none ha hl) (ne_of_none hb hl) fun v3 H2 e2 h2 _ => ?_
  have hlen := flat_addR ys xs
  have e : decide (((sortD (xs.flatMap (addR ys))).length : Int) < ((xs.flatMap (addR ys)).length : Int)) = decide (Rg.twice (sumsP xs ys)) := decide_eq_decide.mpr (by
    rw [← twice_raw]
    unfold Rg.twice
    omega)
  exact s_ret (v := .bl (decide (Rg.twice (sumsP xs ys)))) (ev_is (o_ (ev_lenSet v_ h2 (by omega)) (ev_lenI v_ h2)) (by rw [e])) fun H3 e3 => q H3 (e2.trans e3)

abbrev s_law_folded : Stmt := top 31
abbrev nm_law_folded : List Str := ["left", "right", "d", "total", "e"]
theorem sc_law_folded : FnScope nm_law_folded ["left", "right", "d"] (defScope s_law_folded) := ⟨rfl, rfl, rfl, by decide +kernel, rfl, by decide +kernel, by decide +kernel⟩
def sp_law_folded : Sp := fun vs H Q _ => ∃ (a b : Addr) (l r : List Int) (d : Int), vs = [.ref a, .ref b, .int d] ∧ IL H a l ∧ IL H b r ∧ l ≠ [] ∧ l.length ≤ 5000 ∧ r.length ≤ 5000 ∧ (∀ k, k < l.length → 0 ≤ gi l k ∧ gi l k ≤ 1000000) ∧ RVal (.int (foldP l r d (2 * l.length - 1))) H Q
theorem h_law_folded (D : Df K mg "_law_folded" s_law_folded) (T : Bs mg) : Has P w K mg base CX0 1 "_law_folded" ["left", "right", "d"] sp_law_folded := by
  refine D.has0 sc_law_folded (fun _ _ _ _ _ _ us hl => match us, hl with | [_, _, _], _ => rfl) (fun vs H Q E h => ?_) (fun f cdv A outer s H vs Q E hr h => ?_)
  · obtain ⟨a, b, l, r, d, rfl, _⟩ := h
    rfl
  obtain ⟨a, b, l, r, d, rfl, ha, hb, hl0, hl, hr5, hv, q⟩ := h
  refine ⟨_, (pss_cons (ps_set (i := 3) sc_law_folded.nd rfl (Or.inl rfl) pe_int)
    (pss_cons (ps_for PassesOwn.never rfl (pi_range2 rfl T.n_range (pa_cons (pe_op op_sub pe_int (pe_callB call_len_seq (by rfl) T.n_len (by decide +kernel) (pa_cons (pv 0) pa_nil))) (pa_cons (pe_callB call_len_seq (by rfl) T.n_len (by decide +kernel) (pa_cons (pv 0) pa_nil)) pa_nil))) (pg_name (i := 4) sc_law_folded.nd rfl (Or.inl rfl))
    (pss_one (ps_if (pt_cmpR op_lt (pe_callB call_abs (by rfl) T.n_abs (by decide +kernel) (pa_cons (pe_op op_sub (pv 2) (pv 4)) pa_nil)) (pe_callB call_len_seq (by rfl) T.n_len (by decide +kernel) (pa_cons (pv 1) pa_nil)) (nomark _))
    (pss_one (ps_set (i := 3) sc_law_folded.nd rfl (Or.inl rfl) (pe_op op_add (pv 3) (pe_op op_mul (pe_ix ix_list (pv 0) (pe_callB call_abs (by rfl) T.n_abs (by decide +kernel) (pa_cons (pv 4) pa_nil)) (fun _ _ => rfl)) (pe_ix ix_list (pv 1) (pe_callB call_abs (by rfl) T.n_abs (by decide +kernel) (pa_cons (pe_op op_sub (pv 2) (pv 4)) pa_nil)) (fun _ _ => rfl))))))
    pss_nil)))
    (pss_one (ps_ret (pv 3))))), ?_⟩
  have hp := List.length_pos_iff.mpr hl0
  refine s_asg ev_c fun H1 e1 => ?_
  dsimp only
  refine s_forRZ (lo := 1 - (l.length : Int)) (n := (l.length : Int)) (ea_cons (o_ ev_c (ev_lenI v_ (e1 a _ ha))) (ea_cons (ev_lenI v_ (e1 a _ ha)) ea_nil)) ⟨by omega, by omega, by omega, by omega⟩
    (fun i σ H' => ∃ v4, σ = [some (.ref a), some (.ref b), some (.int d), some (.int (foldP l r d i)), v4] ∧ Ex H H') (fun H2 e2 => ⟨none, rfl, e1.trans e2⟩) ?_ ?_
  · rintro i σ H2 hi ⟨v4, rfl, e2⟩
    have h2a := e2 a _ ha
    have h2b := e2 b _ hb
    have c1 := ab_cases (1 - (l.length : Int) + i)
    have c2 := ab_cases (d - (1 - (l.length : Int) + i))
    refine s_if (b := decide (ab (d - (1 - (l.length : Int) + i)) < (r.length : Int))) (et_test (o_ (ev_abs (o_ v_ v_)) (ev_lenI v_ h2b))) (fun hc H3 e3 => ?_) (fun hc H3 e3 => ?_)
    · have hc := of_decide_eq_true hc
      have h3 : foldP l r d (i + 1) = foldP l r d i + gi l (ab (1 - (l.length : Int) + i)).toNat * gi r (ab (d - (1 - (l.length : Int) + i))).toNat := by
        show foldP l r d i + termP l r d _ = _
        rw [termP, if_pos hc]
      have h4 := hv (ab (1 - (l.length : Int) + i)).toNat (by omega)
      refine s_asg (v := .int (foldP l r d (i + 1))) (by
        rw [h3]
        exact add_ v_ (mul_ (ixI_ (e3 a _ h2a) v_ (ev_abs v_) (by omega) (by omega)) (ixI_ (e3 b _ h2b) v_ (ev_abs (o_ v_ v_)) (by omega) hc) (cmul (by omega) (by omega)))) fun H4 e4 => ⟨_, rfl, (e2.trans e3).trans e4⟩
    · have hc : ¬ ab (d - (1 - (l.length : Int) + i)) < (r.length : Int) := of_decide_eq_false hc
      have h3 : foldP l r d (i + 1) = foldP l r d i := by
        show foldP l r d i + termP l r d _ = _
        rw [termP, if_neg hc]
        omega
      refine ⟨some (.int (1 - (l.length : Int) + i)), ?_, e2.trans e3⟩
      rw [h3]
      rfl
  · rintro σ H2 ⟨v4, rfl, e2⟩
    rw [show ((l.length : Int) - (1 - (l.length : Int))).toNat = 2 * l.length - 1 by omega]
    exact s_ret v_ fun H3 e3 => q H3 (e2.trans e3)

abbrev s_law : Stmt := top 32
abbrev nm_law : List Str := ["script", "one", "other", "found", "due", "left", "right", "both", "d", "told", "place"]
theorem sc_law : FnScope nm_law ["script"] (defScope s_law) := ⟨rfl, rfl, rfl, by decide +kernel, rfl, by decide +kernel, by decide +kernel⟩
theorem s_asgELL {σ : L2.St} {H : Hp} {D : Ends} {te : TE} {i : Nat} {ls : List (List Int)} (h : EvLL te σ H ls) (k : ∀ p us H1 B, H p = none → Ex H H1 → H1 p = some (.lst us) → Ex H B → B p ≠ none → IFs B H1 us ls → D.nx (σ.set i (some (.ref p))) H1) : tAsg te (gName i) D σ H := h H (Ex.refl H) _ k
theorem s_callNN {σ : L2.St} {H : Hp} {D : Ends} {sp : Sp} {E : XK} {i : Nat} {ta tb : TE} {xs ys : List Int} (h1 : EvL ta σ H (Ints xs)) (h2 : EvL tb σ H (Ints ys)) (hs : ∀ c1 c2 H1, Ex H H1 → IL H1 c1 xs → IL H1 c2 ys → sp ([.ref c1, .ref c2] ++ []) H1 (fun x H2 => D.nx (σ.set i (some x)) H2) E) :
    tAsg (tCall sp [] E (tCons ta (tCons tb tNil))) (gName i) D σ H := h1 H (Ex.refl H) _ fun c1 H1 _ e1 k1 => h2 H1 e1 _ fun c2 H2 _ e2 k2 => hs c1 c2 H2 (e1.trans e2) (e2 c1 _ k1) k2
theorem el_spreadN {σ : L2.St} {H : Hp} {tx : TE} {r : List Int} {E : XK} (h : EvL tx σ H (Ints r)) (hr : refRoad r = none) : EvL (tCall (sp_spread K) [] E (tCons tx tNil)) σ H (Ints (spreadP r)) := fun H1 e Q q =>
  h H1 e _ fun b H2 _ e2 hb => ⟨b, r, rfl, hb, Out.ok hr fun p H3 hp e3 h3 => q p H3 (fresh_back e2 hp) (e2.trans e3) h3⟩
def sp_law (K : PySem.W.Frag) : Sp := fun vs H Q _ => ∃ (a : Addr) (ns : List Int), vs = [.ref a] ∧ SqL K H a (Ints ns) ∧ ns.length ≤ 63 ∧ ∀ H', Q (.bl true) H'
theorem h_law (D : Df K mg "law" s_law) (T : Bs mg) (G_law_cell_at : Has P w K mg base CX0 1 "_law_cell_at" ["script", "k"] (sp_law_cell_at K)) (G_law_road : Has P w K mg base CX0 2 "_law_road" ["script", "first", "many", "steps"] (sp_law_road K))
    (G_law_between : Has P w K mg base CX0 1 "_law_between" ["places"] sp_law_between) (G_law_meet : Has P w K mg base CX0 1 "_law_meet" ["one", "other"] sp_law_meet) (G_law_folded : Has P w K mg base CX0 1 "_law_folded" ["left", "right", "d"] sp_law_folded)
    (G_crossed : Has P w K mg base (L2.CX P w) 3 "crossed" ["one", "other"] (sp_crossed K)) (G_distances : Has P w K mg base (L2.CX P w) 2 "distances" ["road"] (sp_distances K)) (G_spread : Has P w K mg base (L2.CX P w) 2 "spread" ["road"] (sp_spread K))
    (G_roads : Has P w K mg base (L2.CX P w) 9 "roads" ["gaps"] (sp_roads K)) : Has P w K mg base CX0 10 "law" ["script"] (sp_law K) := by
  refine D.has0 sc_law (fun _ _ _ _ _ _ us hl => match us, hl with | [_], _ => rfl) (fun vs H Q E h => ?_) (fun f cdv A outer s H vs Q E hr h => ?_)
  · obtain ⟨a, ns, rfl, _⟩ := h
    rfl
  obtain ⟨a, ns, rfl, ha, _, q⟩ := h
  refine ⟨_, (pss_cons (ps_set (i := 1) sc_law.nd rfl (Or.inr rfl) (pe_callH G_law_road (by first | exact hr | exact hr.mono (by omega)) (by rfl) pass0 (pa_cons (pv 0) (pa_cons pe_int (pa_cons (pe_op op_add pe_int (pe_op op_mod (pe_callH G_law_cell_at (by first | exact hr | exact hr.mono (by omega)) (by rfl) pass0 (pa_cons (pv 0) (pa_cons pe_int pa_nil))) pe_int)) (pa_cons pe_int pa_nil))))))
    (pss_cons (ps_set (i := 2) sc_law.nd rfl (Or.inl rfl) (pe_callH G_law_road (by first | exact hr | exact hr.mono (by omega)) (by rfl) pass0 (pa_cons (pv 0) (pa_cons pe_int (pa_cons (pe_op op_add pe_int (pe_op op_mod (pe_op op_fdiv (pe_callH G_law_cell_at (by first | exact hr | exact hr.mono (by omega)) (by rfl) pass0 (pa_cons (pv 0) (pa_cons pe_int pa_nil))) pe_int) pe_int)) (pa_cons pe_int pa_nil))))))
    (pss_cut (ps_if (pt_cmpR op_eq (pe_op op_mod (pe_callH G_law_cell_at (by first | exact hr | exact hr.mono (by omega)) (by rfl) pass0 (pa_cons (pv 0) (pa_cons pe_int pa_nil))) pe_int) pe_int (nomark _))
    (pss_one (ps_setLc (i := 2) (own := [("place", 10)]) rfl sc_law.nd rfl rfl (sw_true rfl rfl rfl (by decide +kernel)) (pi_list (pv 2)) (blkOk_by (own := [("place", 10)]) (N := nm_law) (sc := defScope s_law) (by decide +kernel)) (fun _ _ _ _ _ => (pg_name (i := 10) sc_law.nd rfl (Or.inl rfl))) (fun _ _ _ _ _ => pts_nil) (fun _ _ _ _ _ => (pe_op op_mul (pv 10) (pe_op op_add (pe_op op_add (pe_ix (r := rIxL K) ix_list (pv 1) (pe_un un_neg pe_int) (fun _ _ => rfl)) pe_int) (pe_op op_mod (pe_op op_fdiv (pe_callH G_law_cell_at (by first | exact hr | exact hr.mono (by omega)) (by rfl) pass0 (pa_cons (pv 0) (pa_cons pe_int pa_nil))) pe_int) pe_int))))))
    pss_nil)
    (pss_cons (ps_if (pt_val (pe_callH G_law_meet (by first | exact hr | exact hr.mono (by omega)) (by rfl) pass0 (pa_cons (pv 1) (pa_cons (pv 2) pa_nil))))
    (pss_one (ps_ret pe_bl))
    pss_nil)
    (pss_cons (ps_set (i := 3) sc_law.nd rfl (Or.inl rfl) (pe_callH G_crossed (by first | exact hr | exact hr.mono (by omega)) (by rfl) passE0 (pa_cons (pe_callTy call_list_of (by rfl) T.n_list (by decide +kernel) (pa_cons (pv 1) pa_nil)) (pa_cons (pe_callTy call_list_of (by rfl) T.n_list (by decide +kernel) (pa_cons (pv 2) pa_nil)) pa_nil))))
    (pss_cons (ps_set (i := 4) sc_law.nd rfl (Or.inl rfl) (pe_callH G_law_between (by first | exact hr | exact hr.mono (by omega)) (by rfl) pass0 (pa_cons (pe_ix ix_tup (pv 3) pe_int (fun _ _ => rfl)) pa_nil)))
    (pss_cons (ps_if (PW.pt (pw_or (pt_cmpR (op_neD (hD_of hr)) (pe_callH G_law_between (by first | exact hr | exact hr.mono (by omega)) (by rfl) pass0 (pa_cons (pe_ix ix_tup (pv 3) pe_int (fun _ _ => rfl)) pa_nil)) (pv 4) (nomark _)) (pw_or (pt_cmpR (op_neD (hD_of hr)) (pe_callH G_distances (by first | exact hr | exact hr.mono (by omega)) (by rfl) passE0 (pa_cons (pe_callTy call_list_of (by rfl) T.n_list (by decide +kernel) (pa_cons (pe_ix ix_tup (pv 3) pe_int (fun _ _ => rfl)) pa_nil)) pa_nil)) (pv 4) (nomark _)) (pw_or1 (pt_cmpR (op_neD (hD_of hr)) (pe_callH G_distances (by first | exact hr | exact hr.mono (by omega)) (by rfl) passE0 (pa_cons (pe_callTy call_list_of (by rfl) T.n_list (by decide +kernel) (pa_cons (pe_ix ix_tup (pv 3) pe_int (fun _ _ => rfl)) pa_nil)) pa_nil)) (pv 4) (nomark _))))))
    (pss_one (ps_ret pe_bl))
    pss_nil)
    (pss_cons (ps_set (i := 5) sc_law.nd rfl (Or.inl rfl) (pe_callH G_spread (by first | exact hr | exact hr.mono (by omega)) (by rfl) passE0 (pa_cons (pe_callTy call_list_of (by rfl) T.n_list (by decide +kernel) (pa_cons (pv 1) pa_nil)) pa_nil)))
    (pss_cons (ps_set (i := 6) sc_law.nd rfl (Or.inl rfl) (pe_callH G_spread (by first | exact hr | exact hr.mono (by omega)) (by rfl) passE0 (pa_cons (pe_callTy call_list_of (by rfl) T.n_list (by decide +kernel) (pa_cons (pv 2) pa_nil)) pa_nil)))
    (pss_cons (ps_set (i := 7) sc_law.nd rfl (Or.inl rfl) (pe_callH G_spread (by first | exact hr | exact hr.mono (by omega)) (by rfl) passE0 (pa_cons (pe_callTy call_list_of (by rfl) T.n_list (by decide +kernel) (pa_cons (pe_ix ix_tup (pv 3) pe_int (fun _ _ => rfl)) pa_nil)) pa_nil)))
    (pss_cons (ps_if (PW.pt (pw_or (pt_cmpR (op_neD (hD_of hr)) (pv 7) (pe_callH G_spread (by first | exact hr | exact hr.mono (by omega)) (by rfl) passE0 (pa_cons (pe_callTy call_list_of (by rfl) T.n_list (by decide +kernel) (pa_cons (pe_ix ix_tup (pv 3) pe_int (fun _ _ => rfl)) pa_nil)) pa_nil)) (nomark _)) (pw_or1 (pt_cmpR op_ne (pe_callB call_len_seq (by rfl) T.n_len (by decide +kernel) (pa_cons (pv 7) pa_nil)) (pe_op op_add (pe_op op_add (pe_ix ix_list (pv 1) (pe_un un_neg pe_int) (fun _ _ => rfl)) (pe_ix ix_list (pv 2) (pe_un un_neg pe_int) (fun _ _ => rfl))) pe_int) (nomark _)))))
    (pss_one (ps_ret pe_bl))
    pss_nil)
    (pss_cons (ps_for PassesOwn.never rfl (pi_range1 rfl T.n_range (pa_cons (pe_callB call_len_seq (by rfl) T.n_len (by decide +kernel) (pa_cons (pv 7) pa_nil)) pa_nil)) (pg_name (i := 8) sc_law.nd rfl (Or.inl rfl))
    (pss_one (ps_if (pt_cmpR op_ne (pe_ix ix_list (pv 7) (pv 8) (fun _ _ => rfl)) (pe_callH G_law_folded (by first | exact hr | exact hr.mono (by omega)) (by rfl) pass0 (pa_cons (pv 5) (pa_cons (pv 6) (pa_cons (pv 8) pa_nil)))) (nomark _))
    (pss_one (ps_ret pe_bl))
    pss_nil)))
    (pss_cons (ps_if (pt_cmpR op_gt (pe_callB call_len_seq (by rfl) T.n_len (by decide +kernel) (pa_cons (pe_ix ix_tup (pv 3) pe_int (fun _ _ => rfl)) pa_nil)) pe_int (nomark _))
    (pss_one (ps_ret pe_bl))
    pss_nil)
    (pss_cons (ps_set (i := 9) sc_law.nd rfl (Or.inl rfl) (pe_callH G_roads (by first | exact hr | exact hr.mono (by omega)) (by rfl) passE0 (pa_cons (pe_callTy call_list_of (by rfl) T.n_list (by decide +kernel) (pa_cons (pv 4) pa_nil)) pa_nil)))
    (pss_one (ps_ret (pe_and (pe_cmpR (op_inD (hD1_of hr)) (pe_ix ix_tup (pv 3) pe_int (fun _ _ => rfl)) (pv 9) rfl) (pe_one (pe_cmpR (op_inD (hD1_of hr)) (pe_ix ix_tup (pv 3) pe_int (fun _ _ => rfl)) (pv 9) rfl))))))))))))))))))), ?_⟩
  refine s_asgL (el_call (ea_cons v_ (ea_cons ev_c (ea_cons (add_ ev_c (mod_ (ev_cell v_ ev_c ha (by decide)) ev_c (by decide))) (ea_cons ev_c ea_nil)))) fun H2 e2 Q q E =>
    ⟨a, ns, 2, 4, (cell ns 0 % 7).toNat, by rw [show (((cell ns 0 % 7).toNat : Nat) : Int) = cell ns 0 % 7 by omega]; rfl, ex_l e2 ha, by decide, by decide, by omega, q⟩) fun o H1 ho e1 h1 => ?_
  have h1 : IL H1 o (one9 ns) := h1
  dsimp only
  refine s_asgL (el_call (ea_cons v_ (ea_cons ev_c (ea_cons (add_ ev_c (mod_ (div_ (ev_cell v_ ev_c (ex_l e1 ha) (by decide)) ev_c ⟨by decide, by decide⟩) ev_c (by decide))) (ea_cons ev_c ea_nil)))) fun H2 e2 Q q E =>
    ⟨a, ns, 10, 3, (cell ns 0 / 7 % 4).toNat, by rw [show (((cell ns 0 / 7 % 4).toNat : Nat) : Int) = cell ns 0 / 7 % 4 by omega]; rfl, ex_l (e1.trans e2) ha, by decide, by decide, by omega, q⟩) fun t H2 ht e2 h2 => ?_
  have h2 : IL H2 t (othA9 ns) := h2
  have e12 := e1.trans e2
  have h12 := e2 o _ h1
  obtain ⟨rA, lA, tA⟩ := one9_ok ns
  obtain ⟨rO, lO, tO⟩ := othA9_ok ns
  obtain ⟨rB, lB, tB⟩ := oth9_ok ns
  dsimp only
  refine s_cutif (fun σ H' => ∃ t : Addr, σ = [some (.ref a), some (.ref o), some (.ref t), none, none, none, none, none, none, none, none] ∧ Ex H2 H' ∧ IL H' t (oth9 ns))
    (et_test (ev_op (mod_ (ev_cell v_ ev_c (ex_l e12 ha) (by decide)) ev_c (by decide)) ev_c (rv_eq rfl))) (fun hb H3 e3 => ?_) (fun hb H3 e3 => ?_) ?_
  · have hc : cell ns 1 % 2 = 1 := by simpa using hb
    have h3 := e3 t _ h2
    have h13 := e3 o _ h12
    have ht0 := rA.top0
    refine s_asgL (xs := Ints (((othA9 ns).filter fun _ => true).map fun x => x * (topI (one9 ns) + 1 + cell ns 1 / 2 % 3))) (el_lcI (fun _ => true) (fun x => x * (topI (one9 ns) + 1 + cell ns 1 / 2 % 3)) v_ h3 (by omega) (fun _ => rfl) (fun _ _ _ _ => et_yes) (fun x hx H6 e6 _ => mul_ v_ (add_ (add_ (ixL_ (e6 o _ h13) v_ rA.ne) ev_c) (mod_ (div_ (ev_cell v_ ev_c (ex_l ((e12.trans e3).trans e6) ha) (by decide)) ev_c ⟨by decide, by decide⟩) ev_c (by decide))) (by
      have := rO.ge x hx
      have := rO.top x hx
      exact cmul (by omega) (by omega)))) fun t2 H6 ht2 e6 h6 => ?_
    rw [List.filter_eq_self.mpr fun _ _ => rfl] at h6
    refine ⟨t2, rfl, e3.trans e6, ?_⟩
    rw [oth9, if_pos hc]
    exact h6
  · have hc : ¬ cell ns 1 % 2 = 1 := by simpa using hb
    refine ⟨t, rfl, e3, ?_⟩
    rw [oth9, if_neg hc]
    exact e3 t _ h2
  rintro σ' H3 ⟨t, rfl, e3, h3⟩
  have h13 := e3 o _ h12
  generalize one9 ns = A9 at *
  generalize oth9 ns = B9 at *
  have tA0 := rA.top0
  have tB0 := rB.top0
  refine s_if (b := decide (Rg.twice (sumsP A9 B9))) (et_B (ev_call (ea_cons v_ (ea_cons v_ ea_nil)) fun H4 e4 Q q E => ⟨o, t, A9, B9, rfl, e4 o _ h13, e4 t _ h3, by omega, by omega, q⟩)) (fun hb H4 e4 => ?_) (fun hb H4 e4 => ?_)
  · exact s_ret ev_c fun H5 _ => q H5
  have hm : ¬ Rg.twice (sumsP A9 B9) := of_decide_eq_false hb
  have hm2 : ¬ Rg.twice (sumsP A9 (mirP B9)) := fun z => hm (twice_both.mp z)
  obtain ⟨rM, tM⟩ := rB.mir
  obtain ⟨r1, t1⟩ := cross_rise rA rB hm
  obtain ⟨r2, t2⟩ := cross_rise rA rM hm2
  have l1 := sumsP_len A9 B9
  have l2 := sumsP_len A9 (mirP B9)
  rw [mirP_len] at l2
  have hlen : A9.length * B9.length ≤ 7 * 4 := Nat.mul_le_mul lA lB
  have okA : roadOk A9 := (rA.ok (by omega)).mpr (by omega)
  have okB : roadOk B9 := (rB.ok (by omega)).mpr (by omega)
  have ok1 : roadOk (sumsP A9 B9) := (r1.ok (by omega)).mpr (by omega)
  have ok2 : roadOk (sumsP A9 (mirP B9)) := (r2.ok (by omega)).mpr (by omega)
  have nd1 := up_nodup r1.up
  have nd2 := up_nodup r2.up
  have hnd : ∀ e, nd (sumsP A9 (mirP B9)) e = nd (sumsP A9 B9) e := fun e => nd_both A9 B9 e
  have hbtw : btw (sumsP A9 (mirP B9)) = btw (sumsP A9 B9) := btw_alike nd2 nd1 (by omega) hnd
  have hspr : spreadP (sumsP A9 (mirP B9)) = spreadP (sumsP A9 B9) := spread_alike nd2 nd1 (by omega) hnd
  have hfold : ∀ d : Nat, (d : Int) ≤ topI A9 + topI B9 → gi (spreadP (sumsP A9 B9)) d = foldP (spreadP A9) (spreadP B9) d (2 * (spreadP A9).length - 1) := fun d hd => fold_sums rA rB hm hd (by rw [spread_len]; omega)
  have hrx : refX A9 B9 = none := refX_4 okA okB (fun z => by
    rcases z with z | z <;> omega) (fun z => z.elim hm hm2)
  have hlw1 : lbw (sumsP A9 B9) = btw (sumsP A9 B9) := lbw_btw nd1
  have hlw2 : lbw (sumsP A9 (mirP B9)) = btw (sumsP A9 B9) := by rw [lbw_btw nd2, hbtw]
  have hslA : (spreadP A9).length = (topI A9 + 1).toNat := spread_len
  have hslB : (spreadP B9).length = (topI B9 + 1).toNat := spread_len
  have hsl1 : (spreadP (sumsP A9 B9)).length = (topI (sumsP A9 B9) + 1).toNat := spread_len
  have hvA : ∀ k, k < (spreadP A9).length → 0 ≤ gi (spreadP A9) k ∧ gi (spreadP A9) k ≤ 1000000 := fun k hk => spread_val (up_nodup rA.up) (by omega) hk
  have hgood1 : Good (btw (sumsP A9 B9)) (sumsP A9 B9) := road_good ok1
  have hgood2 : Good (btw (sumsP A9 B9)) (sumsP A9 (mirP B9)) := by
    have := road_good ok2
    rw [hbtw] at this
    exact this
  have h14 := e4 o _ h13
  have h34 := e4 t _ h3
  generalize hS1 : sumsP A9 B9 = S1 at *
  generalize hS2 : sumsP A9 (mirP B9) = S2 at *
  dsimp only [tNext]
  refine s_callNN (el_copy v_ h14) (el_copy v_ h34) fun c1 c2 H6 e6 k1 k2 => ⟨c1, c2, A9, B9, rfl, k1, k2, Out.ok hrx fun p f g H7 hp hf hg hgf e7 h7 h7f h7g => ?_⟩
  rw [hS1] at h7f
  rw [hS2] at h7g
  have e47 := e6.trans e7
  have h17 := e47 o _ h14
  have h37 := e47 t _ h34
  dsimp only
  refine s_asgL (xs := Ints (btw S1)) (el_call (xs := Ints (btw S1)) (ea_cons (ixT_ h7 v_ ev_c rfl) ea_nil) fun H8 e8 Q q E => ⟨f, S1, rfl, e8 f _ h7f, by omega, by rw [hlw1]; exact q⟩) fun u H8 hu e8 h8 => ?_
  have h8 : IL H8 u (btw S1) := h8
  have k7 := e8 p _ h7
  have kf := e8 f _ h7f
  have kg := e8 g _ h7g
  have n1 : refRoad S1 = none := refRoad_ok ok1
  have n2 : refRoad S2 = none := refRoad_ok ok2
  dsimp only
  refine s_if (b := !decide (btw S1 = btw S1) || (!decide (btw S1 = btw S1) || !decide (btw S2 = btw S1))) (et_or (et_test (neXI (el_call (xs := Ints (btw S1)) (ea_cons (ixT_ k7 v_ ev_c rfl) ea_nil) fun H9 e9 Q q E => ⟨g, S2, rfl, e9 g _ kg, by omega, by rw [hlw2]; exact q⟩) v_ h8)) fun _ =>
    et_or (et_test (neXI (el_distN (el_copy (ixT_ k7 v_ ev_c rfl) kf) n1) v_ h8)) fun _ => et_test (neXI (el_distN (el_copy (ixT_ k7 v_ ev_c rfl) kg) n2) v_ h8)) (fun hb H9 e9 => ?_) (fun hb H9 e9 => ?_)
  · simp [hbtw] at hb
  have e79 := e8.trans e9
  dsimp only [tNext]
  refine s_asgL (el_spreadN (el_copy v_ (e79 o _ h17)) (refRoad_ok okA)) fun lf H10 hlf e10 h10 => ?_
  have h10 : IL H10 lf (spreadP A9) := h10
  have e710 := e79.trans e10
  dsimp only
  refine s_asgL (el_spreadN (el_copy v_ (e710 t _ h37)) (refRoad_ok okB)) fun rg H11 hrg e11 h11 => ?_
  have h11 : IL H11 rg (spreadP B9) := h11
  have e711 := e710.trans e11
  dsimp only
  refine s_asgL (el_spreadN (el_copy (ixT_ (e711 p _ h7) v_ ev_c rfl) (e711 f _ h7f)) n1) fun bo H12 hbo e12' h12' => ?_
  have h12' : IL H12 bo (spreadP S1) := h12'
  have e712 := e711.trans e12'
  have hne1 : (decide (V.int ((spreadP S1).length : Int) = V.int (topI A9 + topI B9 + 1))) = true := decide_eq_true (by
    rw [hsl1, show (((topI S1 + 1).toNat : Nat) : Int) = topI A9 + topI B9 + 1 by omega])
  dsimp only
  refine s_if (b := !decide (spreadP S1 = spreadP S2) || !decide (V.int ((spreadP S1).length : Int) = V.int (topI A9 + topI B9 + 1))) (et_or (et_test (neIN_ v_ h12' (el_spreadN (el_copy (ixT_ (e712 p _ h7) v_ ev_c rfl) (e712 g _ h7g)) n2))) fun _ =>
    et_test (ev_op (ev_lenI v_ h12') (add_ (add_ (ixL_ (e712 o _ h17) v_ rA.ne) (ixL_ (e712 t _ h37) v_ rB.ne)) ev_c) (rv_ne rfl))) (fun hb H13 e13 => ?_) (fun hb H13 e13 => ?_)
  · rw [hne1, hspr] at hb
    simp at hb
  have e713 := e712.trans e13
  have k12 := e13 bo _ h12'
  have k10 := (e12'.trans e13) rg _ h11
  have k11 := ((e11.trans e12').trans e13) lf _ h10
  dsimp only [tNext]
  refine s_forR1 (n := ((spreadP S1).length : Int)) (ea_cons (ev_lenI v_ k12) ea_nil) ⟨by omega, by omega⟩
    (fun i σ H' => ∃ v8, σ = [some (.ref a), some (.ref o), some (.ref t), some (.ref p), some (.ref u), some (.ref lf), some (.ref rg), some (.ref bo), v8, none, none] ∧ Ex H13 H') (fun H14 e14 => ⟨none, rfl, e14⟩) ?_ ?_
  · rintro i σ H14 hi ⟨v8, rfl, e14⟩
    have hi2 : i < (spreadP S1).length := by omega
    have hf := hfold i (by omega)
    refine s_if (b := !decide (V.int (gi (spreadP S1) i) = V.int (foldP (spreadP A9) (spreadP B9) (i : Int) (2 * (spreadP A9).length - 1)))) (et_test (ev_op (ixN_ (e14 bo _ k12) v_ v_ hi2) (ev_call (ea_cons v_ (ea_cons v_ (ea_cons v_ ea_nil))) fun H15 e15 Q q E =>
      ⟨lf, rg, spreadP A9, spreadP B9, (i : Int), rfl, (e14.trans e15) lf _ k11, (e14.trans e15) rg _ k10, (fun z => by
        rw [z] at hslA
        have : 0 = (topI A9 + 1).toNat := hslA
        omega), by omega, by omega, hvA, q⟩) (rv_ne rfl))) (fun hb H15 e15 => ?_) (fun hb H15 e15 => ⟨_, rfl, e14.trans e15⟩)
    rw [hf] at hb
    simp at hb
  rintro σ' H14 ⟨v8, rfl, e14⟩
  have e714 := e713.trans e14
  have j7 := e714 p _ h7
  have jf := e714 f _ h7f
  have jg := e714 g _ h7g
  have ju := (((((e9.trans e10).trans e11).trans e12').trans e13).trans e14) u _ h8
  dsimp only
  refine s_if (et_test (o_ (ev_lenI (ixT_ j7 v_ ev_c rfl) jf) ev_c)) (fun hb H15 e15 => ?_) (fun hb H15 e15 => ?_)
  · exact s_ret ev_c fun H16 _ => q H16
  have h7 : S1.length ≤ 7 := by
    simp at hb
    omega
  obtain ⟨g21, gok⟩ := road_gaps ok1 h7
  dsimp only [tNext]
  refine s_asgELL (el_roadsN (el_copy v_ (e15 u _ ju)) (refGaps_ok g21 gok)) fun to us H16 B hto e16 h16 eB hB hI => ?_
  have hin1 : S1 ∈ roadsF (btw S1) := (roadsF_iff (btw_up S1) gok.pos g21).mpr hgood1
  have hin2 : S2 ∈ roadsF (btw S1) := (roadsF_iff (btw_up S1) gok.pos g21).mpr hgood2
  have e1516 := e15.trans e16
  dsimp only
  refine s_ret (v := .bl true) (ev_is (ev_andV (inLL (ixT_ (e1516 p _ j7) v_ ev_c rfl) (e1516 f _ jf) v_ h16 hI.il) fun _ => inLL (ixT_ (e1516 p _ j7) v_ ev_c rfl) (e1516 g _ jg) v_ h16 hI.il) (by
    rw [decide_eq_true hin1, decide_eq_true hin2]
    rfl)) fun H17 _ => q H17

end
def fn : List He.DefD := [⟨("between", none), "between", "between", defArgs s_between, defBody s_between, defScope s_between, [], []⟩,
  ⟨("see_road", none), "see_road", "see_road", defArgs s_see_road, defBody s_see_road, defScope s_see_road, [], []⟩,
  ⟨("see_gaps", none), "see_gaps", "see_gaps", defArgs s_see_gaps, defBody s_see_gaps, defScope s_see_gaps, [], []⟩,
  ⟨("distances", none), "distances", "distances", defArgs s_distances, defBody s_distances, defScope s_distances, [], []⟩,
  ⟨("mirrored", none), "mirrored", "mirrored", defArgs s_mirrored, defBody s_mirrored, defScope s_mirrored, [], []⟩,
  ⟨("without", none), "without", "without", defArgs s_without, defBody s_without, defScope s_without, [], []⟩,
  ⟨("next_places", none), "next_places", "next_places", defArgs s_next_places, defBody s_next_places, defScope s_next_places, [], []⟩,
  ⟨("trial", none), "trial", "trial", defArgs s_trial, defBody s_trial, defScope s_trial, [], []⟩,
  ⟨("trials", none), "trials", "trials", defArgs s_trials, defBody s_trials, defScope s_trials, [], []⟩,
  ⟨("roads_from", none), "roads_from", "roads_from", defArgs s_roads_from, defBody s_roads_from, defScope s_roads_from, [], []⟩,
  ⟨("roads", none), "roads", "roads", defArgs s_roads, defBody s_roads, defScope s_roads, [], []⟩,
  ⟨("spread", none), "spread", "spread", defArgs s_spread, defBody s_spread, defScope s_spread, [], []⟩,
  ⟨("sums", none), "sums", "sums", defArgs s_sums, defBody s_sums, defScope s_sums, [], []⟩,
  ⟨("crossed", none), "crossed", "crossed", defArgs s_crossed, defBody s_crossed, defScope s_crossed, [], []⟩,
  ⟨("_law_cell_at", none), "_law_cell_at", "_law_cell_at", defArgs s_law_cell_at, defBody s_law_cell_at, defScope s_law_cell_at, [], []⟩,
  ⟨("_law_between", none), "_law_between", "_law_between", defArgs s_law_between, defBody s_law_between, defScope s_law_between, [], []⟩,
  ⟨("_law_road", none), "_law_road", "_law_road", defArgs s_law_road, defBody s_law_road, defScope s_law_road, [], []⟩,
  ⟨("_law_meet", none), "_law_meet", "_law_meet", defArgs s_law_meet, defBody s_law_meet, defScope s_law_meet, [], []⟩,
  ⟨("_law_folded", none), "_law_folded", "_law_folded", defArgs s_law_folded, defBody s_law_folded, defScope s_law_folded, [], []⟩,
  ⟨("law", none), "law", "law", defArgs s_law, defBody s_law, defScope s_law, [], []⟩]
def fa : List He.Fa := [.glo "between", .glo "see_road", .glo "see_gaps", .glo "distances", .glo "mirrored", .glo "without", .glo "next_places", .glo "trial", .glo "trials", .glo "roads_from", .glo "roads", .glo "spread", .glo "sums", .glo "crossed", .glo "_law_cell_at", .glo "_law_between", .glo "_law_road", .glo "_law_meet", .glo "_law_folded", .glo "law", .free "len", .free "range", .free "sorted", .free "list", .free "set", .free "abs", .free "max", .free "min", .free "isinstance", .free "int", .free "bool", .free "enumerate", .free "reversed", .free "str", .free "tuple", .free "ValueError", .glo "RoadError", .exc "RoadError", .glo "NoRoad", .exc "NoRoad", .glo "NoGaps", .exc "NoGaps", .glo "TooMany", .exc "TooMany", .glo "Meets", .exc "Meets"]
abbrev R : PySem.W.OpenRow := PySem.W.OpenLaw.row PySem.Challenge.rw_roadgaps_k09_whole_crossed_alike
abbrev hk : PySem.W.Hook := He.hookD 4 fa fn
def ob (s : PySem.W.SharedT) : He.AlD := He.obsDG 4 fa fn (HandSHeadRun.getT s)
theorem ob_eq (s : PySem.W.SharedT) : ob s = hk.obs s.abs := He.obsDG_eq (HandSHeadRun.getT_eq s)
theorem run (w : World) : HandSHeadRun.RunEq R (PySem.W.view R.prog [32]) hk ob 4000 [("Meets" : PySem.Str), ("NoGaps" : PySem.Str), ("NoRoad" : PySem.Str), ("RoadError" : PySem.Str), ("TooMany" : PySem.Str), ("__name__" : PySem.Str), ("_law_between" : PySem.Str), ("_law_cell_at" : PySem.Str), ("_law_folded" : PySem.Str), ("_law_list" : PySem.Str), ("_law_meet" : PySem.Str), ("_law_road" : PySem.Str), ("_law_whole" : PySem.Str), ("between" : PySem.Str), ("crossed" : PySem.Str), ("distances" : PySem.Str), ("mirrored" : PySem.Str), ("next_places" : PySem.Str), ("roads" : PySem.Str), ("roads_from" : PySem.Str), ("see_gaps" : PySem.Str), ("see_road" : PySem.Str), ("spread" : PySem.Str), ("sums" : PySem.Str), ("trial" : PySem.Str), ("trials" : PySem.Str), ("without" : PySem.Str)] w := by
  intro os
  kernel_rfl
theorem facts {P : Program} {w : World} {K : PySem.W.Frag} {h : Heap} {mg : Str → Option Value} {f : Addr} (X : K.In h) (G : h.Ns mainGlobals mg) (hfa : mg ("law" : Str) = some (.ref f)) (c : He.SaysD fa fn K) :
    ∃ fd : FuncData, (∀ (s : Shared) (v : Value), BindsTo s fd ⟨[v], []⟩ [("script", v)]) ∧ ∀ base : Heap, K.In base → base.Ns mainGlobals mg → FnOk P w K mg base CX0 10 f fd ["script"] (sp_law K) := by
  have D_between : Df K mg "between" s_between := by
    obtain ⟨fd, F⟩ := c.def_ 0 rfl
    exact ⟨_, fd, F, He.glo_ok X G (c.fact 0 (f := .glo "between") rfl)⟩
  have D_see_road : Df K mg "see_road" s_see_road := by
    obtain ⟨fd, F⟩ := c.def_ 1 rfl
    exact ⟨_, fd, F, He.glo_ok X G (c.fact 1 (f := .glo "see_road") rfl)⟩
  have D_see_gaps : Df K mg "see_gaps" s_see_gaps := by
    obtain ⟨fd, F⟩ := c.def_ 2 rfl
    exact ⟨_, fd, F, He.glo_ok X G (c.fact 2 (f := .glo "see_gaps") rfl)⟩
  have D_distances : Df K mg "distances" s_distances := by
    obtain ⟨fd, F⟩ := c.def_ 3 rfl
    exact ⟨_, fd, F, He.glo_ok X G (c.fact 3 (f := .glo "distances") rfl)⟩
  have D_mirrored : Df K mg "mirrored" s_mirrored := by
    obtain ⟨fd, F⟩ := c.def_ 4 rfl
    exact ⟨_, fd, F, He.glo_ok X G (c.fact 4 (f := .glo "mirrored") rfl)⟩
  have D_without : Df K mg "without" s_without := by
    obtain ⟨fd, F⟩ := c.def_ 5 rfl
    exact ⟨_, fd, F, He.glo_ok X G (c.fact 5 (f := .glo "without") rfl)⟩
  have D_next_places : Df K mg "next_places" s_next_places := by
    obtain ⟨fd, F⟩ := c.def_ 6 rfl
    exact ⟨_, fd, F, He.glo_ok X G (c.fact 6 (f := .glo "next_places") rfl)⟩
  have D_trial : Df K mg "trial" s_trial := by
    obtain ⟨fd, F⟩ := c.def_ 7 rfl
    exact ⟨_, fd, F, He.glo_ok X G (c.fact 7 (f := .glo "trial") rfl)⟩
  have D_trials : Df K mg "trials" s_trials := by
    obtain ⟨fd, F⟩ := c.def_ 8 rfl
    exact ⟨_, fd, F, He.glo_ok X G (c.fact 8 (f := .glo "trials") rfl)⟩
  have D_roads_from : Df K mg "roads_from" s_roads_from := by
    obtain ⟨fd, F⟩ := c.def_ 9 rfl
    exact ⟨_, fd, F, He.glo_ok X G (c.fact 9 (f := .glo "roads_from") rfl)⟩
  have D_roads : Df K mg "roads" s_roads := by
    obtain ⟨fd, F⟩ := c.def_ 10 rfl
    exact ⟨_, fd, F, He.glo_ok X G (c.fact 10 (f := .glo "roads") rfl)⟩
  have D_spread : Df K mg "spread" s_spread := by
    obtain ⟨fd, F⟩ := c.def_ 11 rfl
    exact ⟨_, fd, F, He.glo_ok X G (c.fact 11 (f := .glo "spread") rfl)⟩
  have D_sums : Df K mg "sums" s_sums := by
    obtain ⟨fd, F⟩ := c.def_ 12 rfl
    exact ⟨_, fd, F, He.glo_ok X G (c.fact 12 (f := .glo "sums") rfl)⟩
  have D_crossed : Df K mg "crossed" s_crossed := by
    obtain ⟨fd, F⟩ := c.def_ 13 rfl
    exact ⟨_, fd, F, He.glo_ok X G (c.fact 13 (f := .glo "crossed") rfl)⟩
  have D_law_cell_at : Df K mg "_law_cell_at" s_law_cell_at := by
    obtain ⟨fd, F⟩ := c.def_ 14 rfl
    exact ⟨_, fd, F, He.glo_ok X G (c.fact 14 (f := .glo "_law_cell_at") rfl)⟩
  have D_law_between : Df K mg "_law_between" s_law_between := by
    obtain ⟨fd, F⟩ := c.def_ 15 rfl
    exact ⟨_, fd, F, He.glo_ok X G (c.fact 15 (f := .glo "_law_between") rfl)⟩
  have D_law_road : Df K mg "_law_road" s_law_road := by
    obtain ⟨fd, F⟩ := c.def_ 16 rfl
    exact ⟨_, fd, F, He.glo_ok X G (c.fact 16 (f := .glo "_law_road") rfl)⟩
  have D_law_meet : Df K mg "_law_meet" s_law_meet := by
    obtain ⟨fd, F⟩ := c.def_ 17 rfl
    exact ⟨_, fd, F, He.glo_ok X G (c.fact 17 (f := .glo "_law_meet") rfl)⟩
  have D_law_folded : Df K mg "_law_folded" s_law_folded := by
    obtain ⟨fd, F⟩ := c.def_ 18 rfl
    exact ⟨_, fd, F, He.glo_ok X G (c.fact 18 (f := .glo "_law_folded") rfl)⟩
  have D_law : Df K mg "law" s_law := by
    obtain ⟨fd, F⟩ := c.def_ 19 rfl
    exact ⟨_, fd, F, He.glo_ok X G (c.fact 19 (f := .glo "law") rfl)⟩
  have T : Bs mg := ⟨He.free_ok X G (c.fact 20 (f := .free "len") rfl), He.free_ok X G (c.fact 21 (f := .free "range") rfl), He.free_ok X G (c.fact 22 (f := .free "sorted") rfl), He.free_ok X G (c.fact 23 (f := .free "list") rfl), He.free_ok X G (c.fact 24 (f := .free "set") rfl), He.free_ok X G (c.fact 25 (f := .free "abs") rfl), He.free_ok X G (c.fact 26 (f := .free "max") rfl), He.free_ok X G (c.fact 27 (f := .free "min") rfl), He.free_ok X G (c.fact 28 (f := .free "isinstance") rfl), He.free_ok X G (c.fact 29 (f := .free "int") rfl), He.free_ok X G (c.fact 30 (f := .free "bool") rfl), He.free_ok X G (c.fact 31 (f := .free "enumerate") rfl), He.free_ok X G (c.fact 32 (f := .free "reversed") rfl), He.free_ok X G (c.fact 33 (f := .free "str") rfl), He.free_ok X G (c.fact 34 (f := .free "tuple") rfl), He.free_ok X G (c.fact 35 (f := .free "ValueError") rfl)⟩
  have C_RoadError : Ec K mg "RoadError" := ec_mk X G (c.fact 36 (f := .glo "RoadError") rfl) (c.fact 37 (f := .exc "RoadError") rfl)
  have C_NoRoad : Ec K mg "NoRoad" := ec_mk X G (c.fact 38 (f := .glo "NoRoad") rfl) (c.fact 39 (f := .exc "NoRoad") rfl)
  have C_NoGaps : Ec K mg "NoGaps" := ec_mk X G (c.fact 40 (f := .glo "NoGaps") rfl) (c.fact 41 (f := .exc "NoGaps") rfl)
  have C_TooMany : Ec K mg "TooMany" := ec_mk X G (c.fact 42 (f := .glo "TooMany") rfl) (c.fact 43 (f := .exc "TooMany") rfl)
  have C_Meets : Ec K mg "Meets" := ec_mk X G (c.fact 44 (f := .glo "Meets") rfl) (c.fact 45 (f := .exc "Meets") rfl)
  -- level 10
  refine D_law.end_ (fun _ _ _ _ _ _ us hl => match us, hl with | [_], _ => rfl) hfa fun base hK hG => ?_
  have G_between := h_between (P := P) (w := w) (base := base) D_between T
  have G_see_road := h_see_road (P := P) (w := w) (base := base) D_see_road T C_NoRoad
  have G_see_gaps := h_see_gaps (P := P) (w := w) (base := base) D_see_gaps T C_NoGaps C_TooMany
  have G_distances := h_distances D_distances T G_see_road G_between
  have G_mirrored := h_mirrored D_mirrored T G_see_road
  have G_without := h_without (P := P) (w := w) (base := base) D_without T
  have G_next_places := h_next_places D_next_places T G_without G_between
  have G_trial := h_trial D_trial T G_without G_between G_next_places 5
  have G_trials := h_trials D_trials T G_see_gaps G_next_places G_trial
  have G_roads_from := h_roads_from (P := P) (w := w) (base := base) D_roads_from T 6
  have G_roads := h_roads D_roads T G_trials G_roads_from
  have G_spread := h_spread D_spread T G_see_road G_between
  have G_sums := h_sums (P := P) (w := w) (base := base) D_sums T
  have G_crossed := h_crossed D_crossed T C_TooMany C_Meets G_see_road G_sums G_mirrored
  have G_law_cell_at := h_law_cell_at (P := P) (w := w) (base := base) D_law_cell_at T
  have G_law_between := h_law_between (P := P) (w := w) (base := base) D_law_between T
  have G_law_road := h_law_road D_law_road T G_law_cell_at
  have G_law_meet := h_law_meet (P := P) (w := w) (base := base) D_law_meet T
  have G_law_folded := h_law_folded (P := P) (w := w) (base := base) D_law_folded T
  exact h_law D_law T G_law_cell_at G_law_road G_law_between G_law_meet G_law_folded G_crossed G_distances G_spread G_roads
end Lw
open PySem PySem.W PySem.Calls PyProof.Rows
theorem PySem.Challenge.cw_roadgaps_k09_whole_crossed_alike_holds : PySem.Challenge.rw_roadgaps_k09_whole_crossed_alike.Holds := by
  w_on; o_law
  refine HandSHeadRun.head_any (r := OpenLaw.row PySem.Challenge.rw_roadgaps_k09_whole_crossed_alike) (q := view (OpenLaw.row PySem.Challenge.rw_roadgaps_k09_whole_crossed_alike).prog [32]) (H := Lw.hk) (ob := Lw.ob) (M := 4000) (loose := [("Meets" : PySem.Str), ("NoGaps" : PySem.Str), ("NoRoad" : PySem.Str), ("RoadError" : PySem.Str), ("TooMany" : PySem.Str), ("__name__" : PySem.Str), ("_law_between" : PySem.Str), ("_law_cell_at" : PySem.Str), ("_law_folded" : PySem.Str), ("_law_list" : PySem.Str), ("_law_meet" : PySem.Str), ("_law_road" : PySem.Str), ("_law_whole" : PySem.Str), ("between" : PySem.Str), ("crossed" : PySem.Str), ("distances" : PySem.Str), ("mirrored" : PySem.Str), ("next_places" : PySem.Str), ("roads" : PySem.Str), ("roads_from" : PySem.Str), ("see_gaps" : PySem.Str), ("see_road" : PySem.Str), ("spread" : PySem.Str), ("sums" : PySem.Str), ("trial" : PySem.Str), ("trials" : PySem.Str), ("without" : PySem.Str)]) (d := HandSHeadRun.topDef (OpenLaw.row PySem.Challenge.rw_roadgaps_k09_whole_crossed_alike).prog 32) (kwd := []) Lw.ob_eq
    (by kernel_rfl) (fun s => by kernel_rfl) Lw.run (by kernel_rfl) (by kernel_rfl) (by kernel_rfl) (by rfl) (by first | assumption | decide +kernel) (by decide +kernel) ⟨rfl, rfl, rfl, rfl, rfl, by decide +kernel⟩ ?hw ?hc
  case hw => w_witness2
  case hc =>
    refine L2.walk_ofE (l := PySem.Challenge.rw_roadgaps_k09_whole_crossed_alike) (n := 63) (k := 10) (x := "script") (CX := L2.CX0) rfl (by decide) (by kernel_rfl) ⟨rfl, by decide, by decide⟩ ?F (fun _ _ _ _ z => z)
    intro w mg fa h Y G hmg0
    obtain ⟨K, KX, c⟩ := Y
    have hmg : mg ("law" : PySem.Str) = some (.ref fa) := by
      have e : (HandSHeadRun.topDef (OpenLaw.row PySem.Challenge.rw_roadgaps_k09_whole_crossed_alike).prog 32).name = ("law" : PySem.Str) := by kernel_rfl
      rw [← e]
      exact hmg0
    obtain ⟨fd, hb, hF⟩ := Lw.facts (P := (PySem.Challenge.rw_roadgaps_k09_whole_crossed_alike).prog) (w := w) KX G hmg c
    exact ⟨K, fd, Lw.sp_law K, KX, hb, fun H a ns hl _ hS => ⟨a, ns, rfl, hS, hl, fun _ => rfl⟩, hF⟩
