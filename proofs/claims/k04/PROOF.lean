import PyProof.Rows.All
import Wide.All
import OpenK.AllK
import Wide.FinOn
import HandS.ForMost
import HandS.SortKw
import KE.KMinKey
import KE.KStateDown
import HandS.Exc
import HandS.TryOnly
import HandS.ExcOwn
import HandS.WordsExc
import HandS.Defaults
import HandS.Sort
import HandS.SortInts
import HandS.SetFor
import HandS.Strs
import HandS.Deep
import HandS.Evl
import HandS.IsInst
import HandS.Conv
import HandS.Walk
import HandS.Head0
import HandS.Head1
import HandS.Head2
import HandS.HeadEnd
import HandS.HeadHook1
import HandS.HeadHook2
import PySem.Challenge.RW_roadgaps_k04_whole_what_was_tried
set_option Elab.async false
set_option linter.all false
set_option Elab.async false
set_option linter.all false
set_option maxHeartbeats 4000000
/-! Rg, part M: the mathematics, in plain Lean: what the program's functions compute. -/
namespace Rg

/-! ### sorting -/
def sortI (ns : List Int) : List Int := ns.mergeSort fun a b => decide (a ≤ b)
theorem sortI_perm (ns : List Int) : (sortI ns).Perm ns := List.mergeSort_perm ns _
theorem sortI_up (ns : List Int) : (sortI ns).Pairwise (· ≤ ·) := by
  have h := List.pairwise_mergeSort (le := fun a b : Int => decide (a ≤ b)) (fun a b c h1 h2 => by simp at *; omega) (fun a b => by simp; omega) ns
  exact h.imp fun h => by simpa using h
theorem up_unique {a b : List Int} (h : a.Perm b) (ha : a.Pairwise (· ≤ ·)) (hb : b.Pairwise (· ≤ ·)) : a = b :=
  h.eq_of_pairwise (le := (· ≤ ·)) (fun x y _ _ h1 h2 => by omega) ha hb
theorem sortI_eq {a ns : List Int} (h : a.Perm ns) (ha : a.Pairwise (· ≤ ·)) : a = sortI ns := up_unique (h.trans (sortI_perm ns).symm) ha (sortI_up ns)
theorem sortI_congr {a b : List Int} (h : a.Perm b) : sortI a = sortI b := up_unique ((sortI_perm a).trans (h.trans (sortI_perm b).symm)) (sortI_up a) (sortI_up b)
theorem sortI_len (ns : List Int) : (sortI ns).length = ns.length := (sortI_perm ns).length_eq
theorem sortI_id {ns : List Int} (h : ns.Pairwise (· ≤ ·)) : sortI ns = ns := (sortI_eq (List.Perm.refl _) h).symm

/-! ### distances: |x_k - x_j|, j below k -/
def ab (i : Int) : Int := if i < 0 then -i else i
def gi (ns : List Int) (k : Nat) : Int := ns.getD k 0
def rowD (ns : List Int) (k : Nat) : List Int := (List.range k).map fun j => ab (gi ns k - gi ns j)
def allD (ns : List Int) : Nat → List Int
  | 0 => []
  | k + 1 => allD ns k ++ rowD ns k
def btw (ns : List Int) : List Int := sortI (allD ns ns.length)
theorem rowD_len (ns : List Int) (k : Nat) : (rowD ns k).length = k := by simp [rowD]
theorem allD_len2 (ns : List Int) : ∀ k : Nat, 2 * (allD ns k).length + k = k * k
  | 0 => rfl
  | k + 1 => by
    have h := allD_len2 ns k
    have e : (k + 1) * (k + 1) = k * k + 2 * k + 1 := by rw [Nat.add_mul, Nat.mul_add]; omega
    rw [allD, List.length_append, rowD_len, e]
    omega
theorem allD_le (ns : List Int) (k m : Nat) (h : k ≤ m) : (allD ns k).length ≤ m * m := by
  have h1 := allD_len2 ns k
  have h2 : k * k ≤ m * m := Nat.mul_le_mul h h
  omega
theorem btw_len2 (ns : List Int) : 2 * (btw ns).length + ns.length = ns.length * ns.length := by
  rw [btw, sortI_len]
  exact allD_len2 ns ns.length

/-! ### a road, a list of distances: what is refused -/
def roadOk (ns : List Int) : Prop := 1 ≤ ns.length ∧ ns.length ≤ 50 ∧ gi ns 0 = 0 ∧ gi ns (ns.length - 1) ≤ 4000 ∧ ∀ k, k + 1 < ns.length → gi ns k < gi ns (k + 1)
def gapsOk (ns : List Int) : Prop := ∀ k, k < ns.length → 1 ≤ gi ns k ∧ gi ns k ≤ 4000 ∧ (0 < k → gi ns (k - 1) ≤ gi ns k)
open Classical in
noncomputable def refRoad (ns : List Int) : Option String := if roadOk ns then none else some "NoRoad"
open Classical in
noncomputable def refGaps (ns : List Int) : Option String := if 21 < ns.length then some "TooMany" else if gapsOk ns then none else some "NoGaps"
theorem refRoad_ok {ns : List Int} (h : roadOk ns) : refRoad ns = none := if_pos h
theorem refRoad_no {ns : List Int} (h : ¬ roadOk ns) : refRoad ns = some "NoRoad" := if_neg h
theorem refRoad_none {ns : List Int} (h : refRoad ns = none) : roadOk ns := by
  unfold refRoad at h
  split at h
  · assumption
  · cases h
theorem refGaps_ok {ns : List Int} (h1 : ns.length ≤ 21) (h : gapsOk ns) : refGaps ns = none := by
  unfold refGaps
  rw [if_neg (by omega), if_pos h]
theorem refGaps_many {ns : List Int} (h1 : 21 < ns.length) : refGaps ns = some "TooMany" := if_pos h1
theorem refGaps_no {ns : List Int} (h1 : ns.length ≤ 21) (h : ¬ gapsOk ns) : refGaps ns = some "NoGaps" := by
  unfold refGaps
  rw [if_neg (by omega), if_neg h]
theorem refGaps_none {ns : List Int} (h : refGaps ns = none) : ns.length ≤ 21 ∧ gapsOk ns := by
  unfold refGaps at h
  split at h
  · cases h
  · split at h
    · exact ⟨by omega, by assumption⟩
    · cases h

/-! ### a list without some of it -/
def wo : List Int → List Int → List Int × Option Int
  | left, [] => (left, none)
  | left, d :: ds => if d ∈ left then wo (left.erase d) ds else (left, some d)
theorem wo_in {left ds : List Int} {d : Int} (h : d ∈ left) : wo left (d :: ds) = wo (left.erase d) ds := if_pos h
theorem wo_out {left ds : List Int} {d : Int} (h : d ∉ left) : wo left (d :: ds) = (left, some d) := if_neg h
theorem wo_len : ∀ (ds left : List Int), (wo left ds).1.length ≤ left.length
  | [], _ => Nat.le_refl _
  | d :: ds, left => by
    by_cases h : d ∈ left
    · rw [wo_in h]
      have h1 := wo_len ds (left.erase d)
      have h2 := List.length_erase_le (a := d) (l := left)
      omega
    · rw [wo_out h]
      exact Nat.le_refl _
/-- the place of the first d, and the list without it -/
theorem erase_at : ∀ {xs : List Int} {d : Int}, d ∈ xs → ∃ j, xs[j]? = some d ∧ (∀ m, m < j → xs[m]? ≠ some d) ∧ xs.eraseIdx j = xs.erase d
  | [], d, h => by cases h
  | x :: xs, d, h => by
    by_cases e : x = d
    · subst e
      exact ⟨0, rfl, fun m hm => by omega, by simp⟩
    · have hm : d ∈ xs := by
        rcases List.mem_cons.mp h with z | z
        · exact absurd z.symm e
        · exact z
      obtain ⟨j, h1, h2, h3⟩ := erase_at hm
      refine ⟨j + 1, by simpa using h1, fun m hm => ?_, ?_⟩
      · cases m with
        | zero => simpa using e
        | succ m => simpa using h2 m (by omega)
      · rw [List.erase_cons_tail (by simpa using e), ← h3]
        rfl
theorem drop_at {α : Type} {xs : List α} {i : Nat} {x : α} (h : xs[i]? = some x) : xs.drop i = x :: xs.drop (i + 1) := by
  obtain ⟨hi, e⟩ := List.getElem?_eq_some_iff.mp h
  rw [← e]
  exact List.drop_eq_getElem_cons hi

/-! ### the law's own: cells, roads -/
def cell (ns : List Int) (k : Int) : Int := gi ns k.toNat
def lroad (ns : List Int) (first steps : Int) : Nat → List Int
  | 0 => [0]
  | n + 1 => lroad ns first steps n ++ [gi (lroad ns first steps n) n + 1 + cell ns (first + n) % steps]
theorem lroad_len (ns : List Int) (first steps : Int) : ∀ n, (lroad ns first steps n).length = n + 1
  | 0 => rfl
  | n + 1 => by rw [lroad, List.length_append, lroad_len ns first steps n]; rfl
/-- b - a for each a below b -/
def lallR (xs : List Int) (a : Int) : List Int := (xs.filter fun b => decide (a < b)).map fun b => b - a
def lall (ns : List Int) : List Int := ns.flatMap (lallR ns)
theorem take_more {α : Type} {l : List α} {i : Nat} {x : α} (h : l[i]? = some x) : l.take (i + 1) = l.take i ++ [x] := by
  rw [List.take_add_one, h]
  rfl
theorem lallR_more {ns : List Int} {j : Nat} {x y : Int} (h : ns[j]? = some y) : lallR (ns.take (j + 1)) x = lallR (ns.take j) x ++ if x < y then [y - x] else [] := by
  unfold lallR
  rw [take_more h, List.filter_append, List.map_append]
  congr 1
  by_cases c : x < y
  · rw [if_pos c, List.filter_cons_of_pos (by simpa using c)]
    rfl
  · rw [if_neg c, List.filter_cons_of_neg (by simpa using c)]
    rfl
theorem lallR_len (ns : List Int) (a : Int) : (lallR ns a).length ≤ ns.length := by
  unfold lallR
  rw [List.length_map]
  exact List.length_filter_le _ _
theorem lall_len (ns xs : List Int) : (xs.flatMap (lallR ns)).length ≤ xs.length * ns.length := by
  induction xs with
  | nil => simp
  | cons x xs ih =>
    have := lallR_len ns x
    rw [List.flatMap_cons, List.length_append, List.length_cons, Nat.succ_mul]
    omega
theorem lall_part (ns : List Int) (i j : Nat) (x : Int) : ((ns.take i).flatMap (lallR ns) ++ lallR (ns.take j) x).length ≤ ns.length * ns.length + ns.length := by
  have h1 := lall_len ns (ns.take i)
  have h2 := lallR_len (ns.take j) x
  have h3 : (ns.take i).length ≤ ns.length := List.length_take_le' i ns
  have h4 : (ns.take j).length ≤ ns.length := List.length_take_le' j ns
  have h5 := Nat.mul_le_mul h3 (Nat.le_refl ns.length)
  rw [List.length_append]
  omega
theorem gi_ext {ns ms : List Int} (hl : ns.length = ms.length) (h : ∀ k, k < ms.length → gi ns k = gi ms k) : ns = ms := by
  refine List.ext_getElem hl fun k h1 h2 => ?_
  have := h k h2
  simpa [gi, List.getD_eq_getElem?_getD, List.getElem?_eq_getElem h1, List.getElem?_eq_getElem h2] using this
theorem roadOk.small {ns : List Int} (h : roadOk ns) : ns.length ≤ 100 := by
  have := h.2.1
  omega
def lbw (ns : List Int) : List Int := sortI (lall ns)
theorem lbw_len (ns : List Int) : (lbw ns).length ≤ ns.length * ns.length := by
  rw [lbw, sortI_len]
  exact lall_len ns ns
theorem lbw_pos {ns : List Int} {d : Int} (h : d ∈ lbw ns) : 1 ≤ d := by
  have h := (sortI_perm (lall ns)).mem_iff.mp h
  obtain ⟨a, _, h⟩ := List.mem_flatMap.mp h
  unfold lallR at h
  obtain ⟨b, hb, rfl⟩ := List.mem_map.mp h
  have := (List.mem_filter.mp hb).2
  simp at this
  omega
theorem gi_mem {ns : List Int} {k : Nat} (h : k < ns.length) : gi ns k ∈ ns := by
  simp [gi, List.getD_eq_getElem?_getD, List.getElem?_eq_getElem h]
theorem gi_get {ns : List Int} {k : Nat} (h : k < ns.length) : ns[k]? = some (gi ns k) := by
  simp [gi, List.getD_eq_getElem?_getD, List.getElem?_eq_getElem h]
theorem gi_of {ns : List Int} {k : Nat} {x : Int} (h : ns[k]? = some x) : gi ns k = x := by
  simp [gi, List.getD_eq_getElem?_getD, h]

/-! ### the greatest, the least -/
def maxD (d : Int) : List Int → Int
  | [] => d
  | [x] => x
  | x :: y :: r => max x (maxD d (y :: r))
def minD (d : Int) : List Int → Int
  | [] => d
  | [x] => x
  | x :: y :: r => min x (minD d (y :: r))
theorem maxD_spec (d : Int) : ∀ ns : List Int, ns ≠ [] → maxD d ns ∈ ns ∧ ∀ k ∈ ns, k ≤ maxD d ns
  | [], h => absurd rfl h
  | [x], _ => by simp [maxD]
  | x :: y :: r, _ => by
    obtain ⟨h1, h2⟩ := maxD_spec d (y :: r) (List.cons_ne_nil _ _)
    have e : maxD d (x :: y :: r) = max x (maxD d (y :: r)) := rfl
    rw [e]
    refine ⟨?_, fun k hk => ?_⟩
    · by_cases c : x ≤ maxD d (y :: r)
      · rw [Int.max_eq_right c]
        exact List.mem_cons_of_mem _ h1
      · rw [Int.max_eq_left (by omega)]
        exact List.mem_cons_self
    · rcases List.mem_cons.mp hk with rfl | hk
      · omega
      · have := h2 k hk
        omega
theorem minD_spec (d : Int) : ∀ ns : List Int, ns ≠ [] → minD d ns ∈ ns ∧ ∀ k ∈ ns, minD d ns ≤ k
  | [], h => absurd rfl h
  | [x], _ => by simp [minD]
  | x :: y :: r, _ => by
    obtain ⟨h1, h2⟩ := minD_spec d (y :: r) (List.cons_ne_nil _ _)
    have e : minD d (x :: y :: r) = min x (minD d (y :: r)) := rfl
    rw [e]
    refine ⟨?_, fun k hk => ?_⟩
    · by_cases c : x ≤ minD d (y :: r)
      · rw [Int.min_eq_left c]
        exact List.mem_cons_self
      · rw [Int.min_eq_right (by omega)]
        exact List.mem_cons_of_mem _ h1
    · rcases List.mem_cons.mp hk with rfl | hk
      · omega
      · have := h2 k hk
        omega
theorem maxD_eq {d m : Int} {ns : List Int} (h1 : m ∈ ns) (h2 : ∀ k ∈ ns, k ≤ m) : m = maxD d ns := by
  obtain ⟨k1, k2⟩ := maxD_spec d ns (List.ne_nil_of_mem h1)
  have := k2 m h1
  have := h2 _ k1
  omega
theorem minD_eq {d m : Int} {ns : List Int} (h1 : m ∈ ns) (h2 : ∀ k ∈ ns, m ≤ k) : m = minD d ns := by
  obtain ⟨k1, k2⟩ := minD_spec d ns (List.ne_nil_of_mem h1)
  have := k2 m h1
  have := h2 _ k1
  omega

/-! ### the law's list of distances -/
def steps4 (c : Int) : Int := gi [3, 9, 60, 600] (c / 7 % 4).toNat
theorem gi4 {x y z u : Int} {i : Int} (h0 : 0 ≤ i) (h4 : i < 4) : gi [x, y, z, u] i.toNat = x ∨ gi [x, y, z, u] i.toNat = y ∨ gi [x, y, z, u] i.toNat = z ∨ gi [x, y, z, u] i.toNat = u := by
  have : i.toNat = 0 ∨ i.toNat = 1 ∨ i.toNat = 2 ∨ i.toNat = 3 := by omega
  rcases this with e | e | e | e <;> rw [e] <;> simp [gi]
theorem gi3 {x y z : Int} {i : Int} (h0 : 0 ≤ i) (h4 : i < 3) : gi [x, y, z] i.toNat = x ∨ gi [x, y, z] i.toNat = y ∨ gi [x, y, z] i.toNat = z := by
  have : i.toNat = 0 ∨ i.toNat = 1 ∨ i.toNat = 2 := by omega
  rcases this with e | e | e <;> rw [e] <;> simp [gi]
theorem steps4_pos (c : Int) : 0 < steps4 c ∧ steps4 c ≤ 600 := by
  have := gi4 (x := 3) (y := 9) (z := 60) (u := 600) (i := c / 7 % 4) (by omega) (by omega)
  unfold steps4
  omega
def lmade (ns : List Int) (first : Int) : List Int := lroad ns (first + 1) (steps4 (cell ns first)) (cell ns first % 7).toNat
def lg1 (m c : Int) (g : List Int) : List Int := if m = 1 ∧ g ≠ [] then g.eraseIdx (c % g.length).toNat else g
def lg2 (m c : Int) (g : List Int) : List Int := if m = 2 ∧ g ≠ [] then g.set (c % g.length).toNat (1 + c / 21 % (gi g (g.length - 1) + 2)) else g
def lg3 (m c : Int) (g : List Int) : List Int := if m = 3 ∧ g.length < 21 then g ++ [1 + c / 21 % (maxD 0 g + 2)] else g
def lgaps (ns : List Int) (first : Int) : List Int := sortI (lg3 (cell ns first / 28 % 6) (cell ns (first + 7)) (lg2 (cell ns first / 28 % 6) (cell ns (first + 7)) (lg1 (cell ns first / 28 % 6) (cell ns (first + 7)) (lbw (lmade ns first)))))
theorem lg1_len (m c : Int) (g : List Int) : (lg1 m c g).length ≤ g.length := by
  unfold lg1
  split
  · exact List.length_eraseIdx_le _ _
  · exact Nat.le_refl _
theorem lg2_len (m c : Int) (g : List Int) : (lg2 m c g).length = g.length := by
  unfold lg2
  split
  · exact List.length_set
  · rfl
theorem lg1_pos {m c : Int} {g : List Int} (h : ∀ d ∈ g, 1 ≤ d) : ∀ d ∈ lg1 m c g, 1 ≤ d := by
  unfold lg1
  split
  · exact fun d hd => h d (List.mem_of_mem_eraseIdx hd)
  · exact h
theorem top_pos {g : List Int} (h : ∀ d ∈ g, 1 ≤ d) (hn : g ≠ []) : 1 ≤ gi g (g.length - 1) := by
  have hp : 0 < g.length := List.length_pos_iff.mpr hn
  exact h _ (gi_mem (by omega))
theorem maxD_pos {g : List Int} (h : ∀ d ∈ g, 1 ≤ d) : 0 ≤ maxD 0 g := by
  by_cases hn : g = []
  · subst hn
    exact Int.le_refl 0
  · have := h _ (maxD_spec 0 g hn).1
    omega
theorem lg2_pos {m c : Int} {g : List Int} (h : ∀ d ∈ g, 1 ≤ d) : ∀ d ∈ lg2 m c g, 1 ≤ d := by
  unfold lg2
  split
  · rename_i hc
    intro d hd
    rcases List.mem_or_eq_of_mem_set hd with z | z
    · exact h d z
    · have h1 := top_pos h hc.2
      have h2 := Int.emod_nonneg (c / 21) (b := gi g (g.length - 1) + 2) (by omega)
      omega
  · exact h

/-! ### all distances, each pair once -/
def prs : List Int → List Int
  | [] => []
  | x :: xs => xs.map (fun y => ab (x - y)) ++ prs xs
theorem ab_swap (x y : Int) : ab (x - y) = ab (y - x) := by
  unfold ab
  split <;> split <;> omega
theorem ab_nonneg (x : Int) : 0 ≤ ab x := by
  unfold ab
  split <;> omega
theorem prs_perm {a b : List Int} (h : a.Perm b) : (prs a).Perm (prs b) := by
  induction h with
  | nil => exact .refl _
  | cons x h ih => exact (h.map _).append ih
  | swap x y l =>
    show ((ab (y - x) :: l.map fun z => ab (y - z)) ++ (l.map (fun z => ab (x - z)) ++ prs l)).Perm ((ab (x - y) :: l.map fun z => ab (x - z)) ++ (l.map (fun z => ab (y - z)) ++ prs l))
    rw [ab_swap y x, List.cons_append, List.cons_append]
    refine List.Perm.cons _ ?_
    rw [← List.append_assoc, ← List.append_assoc]
    exact List.perm_append_comm.append_right _
  | trans _ _ ih1 ih2 => exact ih1.trans ih2
theorem prs_len2 : ∀ ns : List Int, 2 * (prs ns).length + ns.length = ns.length * ns.length
  | [] => rfl
  | x :: xs => by
    have h := prs_len2 xs
    have e : (xs.length + 1) * (xs.length + 1) = xs.length * xs.length + 2 * xs.length + 1 := by rw [Nat.add_mul, Nat.mul_add]; omega
    rw [prs, List.length_append, List.length_map, List.length_cons, e]
    omega
theorem prs_snoc (l : List Int) (x : Int) : (prs (l ++ [x])).Perm (prs l ++ l.map fun y => ab (x - y)) := by
  have h : (prs (l ++ [x])).Perm (prs (x :: l)) := prs_perm (List.perm_append_comm (l₁ := l) (l₂ := [x]))
  exact h.trans List.perm_append_comm
theorem rowD_take (ns : List Int) {k : Nat} (hk : k ≤ ns.length) (x : Int) : ((List.range k).map fun j => ab (x - gi ns j)) = (ns.take k).map fun y => ab (x - y) := by
  refine List.ext_getElem (by simp; omega) fun i h1 h2 => ?_
  simp at h1
  have hi : i < ns.length := by omega
  simp [gi, List.getD_eq_getElem?_getD, List.getElem?_eq_getElem hi]
theorem allD_prs (ns : List Int) : ∀ k, k ≤ ns.length → (allD ns k).Perm (prs (ns.take k))
  | 0, _ => by simp [allD, prs]
  | k + 1, h => by
    have ih := allD_prs ns k (by omega)
    rw [allD, take_more (gi_get (by omega : k < ns.length)), rowD, rowD_take ns (by omega)]
    exact (ih.append_right _).trans (prs_snoc _ _).symm
theorem btw_prs (ns : List Int) : btw ns = sortI (prs ns) := by
  have h := allD_prs ns ns.length (Nat.le_refl _)
  rw [List.take_length] at h
  exact sortI_congr h
theorem btw_perm {a b : List Int} (h : a.Perm b) : btw a = btw b := by
  rw [btw_prs, btw_prs]
  exact sortI_congr (prs_perm h)
theorem flat_split {α : Type} (f g : α → List Int) : ∀ l : List α, (l.flatMap fun a => f a ++ g a).Perm (l.flatMap f ++ l.flatMap g)
  | [] => .refl _
  | x :: l => by
    have h := flat_split f g l
    rw [List.flatMap_cons, List.flatMap_cons, List.flatMap_cons]
    refine ((List.Perm.append_left _ h).trans ?_)
    rw [List.append_assoc, List.append_assoc]
    refine List.Perm.append_left _ ?_
    rw [← List.append_assoc, ← List.append_assoc]
    exact List.perm_append_comm.append_right _
theorem lall_one (x : Int) : ∀ xs : List Int, x ∉ xs → (lallR xs x ++ xs.flatMap fun a => if a < x then [x - a] else []).Perm (xs.map fun y => ab (x - y))
  | [], _ => .refl _
  | y :: ys, h => by
    have h1 : x ≠ y := fun e => h (by rw [e]; exact List.mem_cons_self)
    have ih := lall_one x ys fun z => h (List.mem_cons_of_mem _ z)
    rw [List.flatMap_cons, List.map_cons]
    by_cases c : x < y
    · have e1 : lallR (y :: ys) x = (y - x) :: lallR ys x := by
        unfold lallR
        rw [List.filter_cons_of_pos (by simpa using c)]
        rfl
      have e2 : ab (x - y) = y - x := by
        unfold ab
        split <;> omega
      rw [e1, e2, if_neg (by omega)]
      exact ih.cons _
    · have e1 : lallR (y :: ys) x = lallR ys x := by
        unfold lallR
        rw [List.filter_cons_of_neg (by simpa using c)]
      have e2 : ab (x - y) = x - y := by
        unfold ab
        split <;> omega
      rw [e1, e2, if_pos (by omega)]
      refine List.Perm.trans ?_ (ih.cons _)
      rw [List.singleton_append]
      exact List.perm_middle
theorem lall_prs : ∀ ns : List Int, ns.Nodup → (lall ns).Perm (prs ns)
  | [], _ => .refl _
  | x :: xs, h => by
    have hn := List.nodup_cons.mp h
    have ih := lall_prs xs hn.2
    have e1 : lallR (x :: xs) x = lallR xs x := by
      unfold lallR
      rw [List.filter_cons_of_neg (by simp)]
    have e2 : lallR (x :: xs) = fun a => (if a < x then [x - a] else []) ++ lallR xs a := by
      funext a
      unfold lallR
      by_cases c : a < x
      · rw [List.filter_cons_of_pos (by simpa using c), if_pos c]
        rfl
      · rw [List.filter_cons_of_neg (by simpa using c), if_neg c]
        rfl
    unfold lall
    rw [List.flatMap_cons, e1, e2]
    refine (List.Perm.append_left _ (flat_split _ _ xs)).trans ?_
    rw [← List.append_assoc]
    exact (lall_one x xs hn.1).append ih
theorem lbw_btw {ns : List Int} (h : ns.Nodup) : lbw ns = btw ns := by
  rw [btw_prs]
  exact sortI_congr (lall_prs ns h)
theorem up_nodup {ns : List Int} (h : ns.Pairwise (· < ·)) : ns.Nodup := h.imp fun h e => by omega
theorem btw_up (ns : List Int) : (btw ns).Pairwise (· ≤ ·) := sortI_up _

/-! ### roads by what they hold -/
theorem gi_pair {ns : List Int} (h : ns.Pairwise (· < ·)) {i j : Nat} (hij : i < j) (hj : j < ns.length) : gi ns i < gi ns j := by
  have := List.pairwise_iff_getElem.mp h i j (by omega) hj hij
  simpa [gi, List.getD_eq_getElem?_getD, List.getElem?_eq_getElem hj, List.getElem?_eq_getElem (show i < ns.length by omega)] using this
theorem up_of_step {ns : List Int} (h : ∀ k, k + 1 < ns.length → gi ns k < gi ns (k + 1)) : ns.Pairwise (· < ·) := by
  have far : ∀ d i, i + d + 1 < ns.length → gi ns i < gi ns (i + d + 1) := by
    intro d
    induction d with
    | zero => exact fun i hi => h i hi
    | succ d ih => exact fun i hi => Int.lt_trans (ih i (by omega)) (h (i + d + 1) hi)
  refine List.pairwise_iff_getElem.mpr fun i j hi hj hij => ?_
  have := far (j - i - 1) i (by omega)
  rw [show i + (j - i - 1) + 1 = j by omega] at this
  simpa [gi, List.getD_eq_getElem?_getD, List.getElem?_eq_getElem hj, List.getElem?_eq_getElem hi] using this
theorem roadOk_of {ns : List Int} (h0 : ns ≠ []) (h1 : ns.length ≤ 50) (h2 : gi ns 0 = 0) (h3 : ∀ x ∈ ns, x ≤ 4000) (h4 : ns.Pairwise (· < ·)) : roadOk ns := by
  have hp := List.length_pos_iff.mpr h0
  exact ⟨hp, h1, h2, h3 _ (gi_mem (by omega)), fun k hk => gi_pair h4 (Nat.lt_succ_self k) hk⟩
theorem roadOk.up {ns : List Int} (h : roadOk ns) : ns.Pairwise (· < ·) := up_of_step h.2.2.2.2
theorem roadOk.ne {ns : List Int} (h : roadOk ns) : ns ≠ [] := List.length_pos_iff.mp h.1
theorem gi_snoc_lt {xs : List Int} {y : Int} {k : Nat} (h : k < xs.length) : gi (xs ++ [y]) k = gi xs k := by
  simp [gi, List.getD_eq_getElem?_getD, List.getElem?_append_left h]
theorem gi_snoc {xs : List Int} {y : Int} : gi (xs ++ [y]) xs.length = y := by
  simp [gi, List.getD_eq_getElem?_getD]
theorem lroad_facts (ns : List Int) (first : Int) {steps : Int} (hs : 0 < steps) : ∀ n, gi (lroad ns first steps n) 0 = 0 ∧ (∀ x ∈ lroad ns first steps n, 0 ≤ x ∧ x ≤ n * steps) ∧ (lroad ns first steps n).Pairwise (· < ·) ∧ (∀ x ∈ lroad ns first steps n, x ≤ gi (lroad ns first steps n) n)
  | 0 => by simp [lroad, gi]
  | n + 1 => by
    obtain ⟨h1, h2, h3, h4⟩ := lroad_facts ns first hs n
    have hl := lroad_len ns first steps n
    have hm1 := Int.emod_nonneg (cell ns (first + n)) (b := steps) (by omega)
    have hm2 := Int.emod_lt_of_pos (cell ns (first + n)) hs
    have hg : gi (lroad ns first steps n) n ∈ lroad ns first steps n := gi_mem (by omega)
    have hgb := h2 _ hg
    have he : ((n + 1 : Nat) : Int) * steps = n * steps + steps := by rw [Int.natCast_add, Int.add_mul]; omega
    have hlast : gi (lroad ns first steps (n + 1)) (n + 1) = gi (lroad ns first steps n) n + 1 + cell ns (first + n) % steps := by
      rw [lroad]
      have := gi_snoc (xs := lroad ns first steps n) (y := gi (lroad ns first steps n) n + 1 + cell ns (first + n) % steps)
      rw [hl] at this
      exact this
    refine ⟨?_, fun x hx => ?_, ?_, fun x hx => ?_⟩
    · rw [lroad, gi_snoc_lt (by omega), h1]
    · rw [lroad] at hx
      rcases List.mem_append.mp hx with hx | hx
      · have := h2 x hx
        omega
      · rw [List.mem_singleton.mp hx]
        omega
    · rw [lroad]
      refine List.pairwise_append.mpr ⟨h3, List.pairwise_singleton _ _, fun x hx y hy => ?_⟩
      rw [List.mem_singleton.mp hy]
      have := h4 x hx
      omega
    · rw [hlast]
      rw [lroad] at hx
      rcases List.mem_append.mp hx with hx | hx
      · have := h4 x hx
        omega
      · rw [List.mem_singleton.mp hx]
        omega
theorem lroad_ok (ns : List Int) (first : Int) {steps : Int} {n : Nat} (hs : 0 < steps) (h1 : n ≤ 49) (h2 : n * steps ≤ 4000) : roadOk (lroad ns first steps n) := by
  obtain ⟨k1, k2, k3, _⟩ := lroad_facts ns first hs n
  have hl := lroad_len ns first steps n
  refine roadOk_of (fun z => by rw [z] at hl; cases hl) (by omega) k1 (fun x hx => ?_) k3
  have := k2 x hx
  omega
/-! ### the law's list of distances is one -/
theorem gapsOk_of {ns : List Int} (h1 : ns.Pairwise (· ≤ ·)) (h2 : ∀ d ∈ ns, 1 ≤ d ∧ d ≤ 4000) : gapsOk ns := fun k hk => by
  have hm := h2 _ (gi_mem hk)
  refine ⟨hm.1, hm.2, fun h0 => ?_⟩
  have := List.pairwise_iff_getElem.mp h1 (k - 1) k (by omega) hk (by omega)
  simpa [gi, List.getD_eq_getElem?_getD, List.getElem?_eq_getElem hk, List.getElem?_eq_getElem (show k - 1 < ns.length by omega)] using this
theorem prs_le {M : Int} : ∀ {ns : List Int}, (∀ x ∈ ns, 0 ≤ x ∧ x ≤ M) → ∀ d ∈ prs ns, d ≤ M
  | [], _, d, hd => by cases hd
  | x :: xs, h, d, hd => by
    rcases List.mem_append.mp hd with hd | hd
    · obtain ⟨y, hy, rfl⟩ := List.mem_map.mp hd
      have h1 := h x List.mem_cons_self
      have h2 := h y (List.mem_cons_of_mem _ hy)
      unfold ab
      split <;> omega
    · exact prs_le (fun y hy => h y (List.mem_cons_of_mem _ hy)) d hd
theorem lbw_le {M : Int} {ns : List Int} (hn : ns.Nodup) (h : ∀ x ∈ ns, 0 ≤ x ∧ x ≤ M) : ∀ d ∈ lbw ns, d ≤ M := fun d hd => by
  rw [lbw_btw hn, btw_prs] at hd
  exact prs_le h d ((sortI_perm _).mem_iff.mp hd)
theorem lg1_le {M m c : Int} {g : List Int} (h : ∀ d ∈ g, d ≤ M) : ∀ d ∈ lg1 m c g, d ≤ M := by
  unfold lg1
  split
  · exact fun d hd => h d (List.mem_of_mem_eraseIdx hd)
  · exact h
theorem lg2_le {M m c : Int} {g : List Int} (hp : ∀ d ∈ g, 1 ≤ d) (h : ∀ d ∈ g, d ≤ M) : ∀ d ∈ lg2 m c g, d ≤ M + 2 := by
  unfold lg2
  split
  · rename_i hc
    intro d hd
    rcases List.mem_or_eq_of_mem_set hd with z | z
    · have := h d z
      omega
    · have h1 := top_pos hp hc.2
      have h3 : 0 < g.length := List.length_pos_iff.mpr hc.2
      have h4 := h _ (gi_mem (ns := g) (k := g.length - 1) (by omega))
      have h2 := Int.emod_lt_of_pos (c / 21) (b := gi g (g.length - 1) + 2) (by omega)
      omega
  · intro d hd
    have := h d hd
    omega
theorem lmade_ok (ns : List Int) (first : Int) : roadOk (lmade ns first) ∧ (lmade ns first).length ≤ 7 ∧ ∀ x ∈ lmade ns first, 0 ≤ x ∧ x ≤ 3600 := by
  have hs := steps4_pos (cell ns first)
  have hn : (cell ns first % 7).toNat ≤ 6 := by omega
  have hmul : (((cell ns first % 7).toNat : Nat) : Int) * steps4 (cell ns first) ≤ 3600 := by
    have := Int.mul_le_mul (show (((cell ns first % 7).toNat : Nat) : Int) ≤ 6 by omega) hs.2 (by omega) (by decide)
    omega
  refine ⟨lroad_ok ns (first + 1) hs.1 (by omega) (by omega), ?_, fun x hx => ?_⟩
  · rw [lmade, lroad_len]
    omega
  · have := (lroad_facts ns (first + 1) hs.1 (cell ns first % 7).toNat).2.1 x hx
    omega
theorem lgaps_ok (ns : List Int) (first : Int) : (lgaps ns first).length ≤ 21 ∧ gapsOk (lgaps ns first) := by
  obtain ⟨h1, h2, h3⟩ := lmade_ok ns first
  have hn := up_nodup h1.up
  have hlen : (lbw (lmade ns first)).length ≤ 21 := by
    have := btw_len2 (lmade ns first)
    have hm := Nat.mul_le_mul (show (lmade ns first).length - 1 ≤ 6 by omega) h2
    have e : (lmade ns first).length * (lmade ns first).length = ((lmade ns first).length - 1) * (lmade ns first).length + (lmade ns first).length := by
      have hp := h1.1
      obtain ⟨k, hk⟩ : ∃ k, (lmade ns first).length = k + 1 := ⟨(lmade ns first).length - 1, by omega⟩
      rw [hk, Nat.add_sub_cancel, ← Nat.succ_mul]
    rw [lbw_btw hn]
    omega
  have hp0 : ∀ d ∈ lbw (lmade ns first), 1 ≤ d := fun d hd => lbw_pos hd
  have hm0 := lbw_le hn h3
  unfold lgaps
  generalize lbw (lmade ns first) = g0 at *
  generalize cell ns first / 28 % 6 = m
  generalize cell ns (first + 7) = c
  have l1 := lg1_len m c g0
  have l2 := lg2_len m c (lg1 m c g0)
  have p2 := lg2_pos (m := m) (c := c) (lg1_pos (m := m) (c := c) hp0)
  have m2 : ∀ d ∈ lg2 m c (lg1 m c g0), d ≤ 3602 := lg2_le (m := m) (c := c) (lg1_pos (m := m) (c := c) hp0) (lg1_le (m := m) (c := c) hm0)
  generalize lg2 m c (lg1 m c g0) = g2 at *
  have hM : 0 ≤ maxD 0 g2 ∧ maxD 0 g2 ≤ 3602 := by
    refine ⟨maxD_pos p2, ?_⟩
    by_cases hz : g2 = []
    · subst hz
      decide
    · exact m2 _ (maxD_spec 0 g2 hz).1
  have h2 := Int.emod_lt_of_pos (c / 21) (b := maxD 0 g2 + 2) (by omega)
  have h4 := Int.emod_nonneg (c / 21) (b := maxD 0 g2 + 2) (by omega)
  refine ⟨?_, gapsOk_of (sortI_up _) fun d hd => ?_⟩
  · rw [sortI_len, lg3]
    split
    · rw [List.length_append, List.length_singleton]
      omega
    · omega
  · have hd := (sortI_perm _).mem_iff.mp hd
    rw [lg3] at hd
    split at hd
    · rcases List.mem_append.mp hd with hd | hd
      · have a1 := p2 d hd
        have a2 := m2 d hd
        omega
      · rw [List.mem_singleton.mp hd]
        omega
    · have a1 := p2 d hd
      have a2 := m2 d hd
      omega
end Rg

set_option Elab.async false
set_option linter.all false
set_option maxRecDepth 100000
set_option maxHeartbeats 400000
/-! Rg, part MM: max(xs, default=i), min(xs, default=i) of a list of ints, empty or not. -/
namespace PySem

/-! ### max(xs, default=d) -/
section
variable {prog : Program} {w : World} {A : Around} {R : Result → Shared → Prop} {I S : Addr} {fp wr : List Addr} {n : Nat} {P : Nat → Value → Prop} {St : Nat → Heap → Prop} {bt : Nat → Nat → Bool} {kd : Str} {d : Value}
/-- what stands in the best one's list ahead of turn i -/
def maxBest (P : Nat → Value → Prop) (bt : Nat → Nat → Bool) (i : Nat) (o : List Value) : Prop := (i = 0 ∧ o = []) ∨ (0 < i ∧ ∃ v, o = [v, v] ∧ P (argBest bt (i - 1)) v)
theorem max_turns (W : Walks prog w A.in1 I fp wr n P St) (hcmp : CmpOf prog w A.in1 .Gt P bt) (hS : S ∉ fp) : ∀ (k i : Nat) (s : Shared) (o : List Value) (c : Nat), i + k = n → St i s.heap → maxBest P bt i o →
    s.heap.get? S = some { cls := .type "list", dict := none, data := .seq o.toArray c, slots := #[] } →
    (∀ v h' tk, (n = 0 → v = d) → (0 < n → P (argBest bt (n - 1)) v) → (∀ b u, b ∉ wr → b ≠ S → s.heap.get? b = some u → h'.get? b = some u) → R (.ok (.ret v)) { s with heap := h', toks := tk }) →
    codeAny (model prog w) A (.builtin "max.loop" ⟨[.ref I, .none, .ref S], [(kd, d)]⟩) R s := by
  have nm : (toString "max" ++ toString ".loop" : String) = "max.loop" := by decide
  have hw : S ∉ wr := fun h => hS (W.sub _ h)
  intro k
  induction k with
  | zero =>
    intro i s o c hk hst hb ho hR
    refine codeAny_builtin F.entry_max_loop ?_
    rw [Around.under_plainId F.plain_max_loop _]
    refine wpAny_bind (wpAny_seqItems ho rfl ?_)
    have hin : n = i := by omega
    refine wpAny_bind (wpAny_tryCatch (W.done s _ _ (hin ▸ hst) fun h1 tk1 k1 => ?_))
    have ho1 := k1 S _ hw ho
    rcases hb with ⟨i0, rfl⟩ | ⟨i0, v, rfl, hp⟩
    · refine wpAny_bind (wpAny_rule (wpAny_pure (hR d h1 tk1 (fun _ => rfl) (fun z => by omega) fun b u hbw _ e => k1 b u hbw e)))
    · refine wpAny_bind ?_
      refine wpAny_updateSeq ho1 rfl (wpAny_bind (wpAny_letGo (wpAny_pure ?_)))
      refine hR v _ tk1 (fun z => by omega) (fun _ => by rw [hin]; exact hp) fun b u hbw hbS e => ?_
      exact (Heap.get?_update_other _ _ (Ne.symm hbS)).trans (k1 b u hbw e)
  | succ k ih =>
    intro i s o c hk hst hb ho hR
    refine codeAny_builtin F.entry_max_loop ?_
    rw [Around.under_plainId F.plain_max_loop _]
    refine wpAny_bind (wpAny_seqItems ho rfl ?_)
    refine wpAny_bind (wpAny_tryCatch (W.item i s _ _ (by omega) hst fun x h1 tk1 hx st1 k1 => ?_))
    have ho1 := k1 S _ hw ho
    have still : ∀ {h2 : Heap}, (∀ b u, b ≠ S → h1.get? b = some u → h2.get? b = some u) → St (i + 1) h2 := fun e => W.frame _ _ _ st1 fun b hbf u q => e b u (fun z => hS (z ▸ hbf)) q
    have next : ∀ (h2 : Heap) (o2 : List Value) (c2 : Nat), (∀ b u, b ≠ S → h1.get? b = some u → h2.get? b = some u) → maxBest P bt (i + 1) o2 → h2.get? S = some { cls := .type "list", dict := none, data := .seq o2.toArray c2, slots := #[] } →
        codeAny (model prog w) A (.builtin "max.loop" ⟨[.ref I, .none, .ref S], [(kd, d)]⟩) R { s with heap := h2, toks := tk1 } := fun h2 o2 c2 e b2 q => by
      refine ih (i + 1) _ o2 c2 (by omega) (still e) b2 q fun v h3 tk3 z1 z2 k3 => hR v h3 tk3 z1 z2 fun b u hbw hbS q2 => ?_
      exact k3 b u hbw hbS (e b u hbS (k1 b u hbw q2))
    rcases hb with ⟨i0, rfl⟩ | ⟨i0, v, rfl, hp⟩
    · subst i0
      refine wpAny_bind (wpAny_pure ?_)
      refine wpAny_bind ?_
      refine wpAny_updateSeq ho1 rfl ?_
      rw [nm]
      refine wpAny_pure ⟨plainId_quiet F.plain_max_loop _, next _ [x, x] _ (fun b u hbS e => (Heap.get?_update_other _ _ (Ne.symm hbS)).trans e) (.inr ⟨Nat.succ_pos _, x, rfl, hx⟩) (Heap.get?_update_self _ ho1 rfl)⟩
    · obtain ⟨j, rfl⟩ : ∃ j, i = j + 1 := ⟨i - 1, by omega⟩
      refine wpAny_bind (wpAny_pure ?_)
      refine wpAny_bind (wpAny_tryCatch (wpAny_holding (wpAny_bind (hcmp (j + 1) (argBest bt j) x v _ _ _ hx hp ?_))))
      refine wpAny_bind (wpAny_holding (wpAny_truthy_bool ?_))
      refine wpAny_bind (wpAny_letGo (wpAny_pure ?_))
      cases hc : bt (j + 1) (argBest bt j) with
      | true =>
        rw [if_pos rfl]
        refine wpAny_bind ?_
        refine wpAny_updateSeq ho1 rfl (wpAny_bind (wpAny_letGo ?_))
        rw [nm]
        refine wpAny_pure ⟨plainId_quiet F.plain_max_loop _, next _ [x, x] _ (fun b u hbS e => (Heap.get?_update_other _ _ (Ne.symm hbS)).trans e) (.inr ⟨Nat.succ_pos _, x, rfl, ?_⟩) (Heap.get?_update_self _ ho1 rfl)⟩
        show P (argBest bt (j + 1)) x
        simpa only [argBest, hc, if_true] using hx
      | false =>
        rw [if_neg Bool.false_ne_true]
        refine wpAny_bind (wpAny_letGo ?_)
        rw [nm]
        refine wpAny_pure ⟨plainId_quiet F.plain_max_loop _, next _ [v, v] _ (fun b u _ e => e) (.inr ⟨Nat.succ_pos _, v, rfl, ?_⟩) ho1⟩
        show P (argBest bt (j + 1)) v
        have e : argBest bt (j + 1) = argBest bt j := by simp only [argBest, hc, Bool.false_eq_true, if_false]
        rw [e]
        exact hp
end
theorem args_max_dflt (a v : Value) : argsOk "max" ⟨[a], [(Str.ofString "default", v)]⟩ := by unfold argsOk; kernel_rfl
section
variable {prog : Program} {w : World} {A : Around} {E : Value → Shared → Prop} {s : Shared} {l : Addr} {its : List Value} {ns : List Int} {Q : Value → Shared → Prop} {d : Value}
theorem max_dflt_items {xs : Array (Int × Tok)} (hh : A.handled = none) (hl : s.heap.IsList l (intItems xs))
    (h : ∀ v h' tk, (xs.size = 0 → v = d) → (0 < xs.size → (intItems xs)[argBest (fun i j => decide (numAt xs i > numAt xs j)) (xs.size - 1)]? = some v) → (∀ b o, s.heap.get? b = some o → h'.get? b = some o) → Q v { s with heap := h', toks := tk }) :
    wpAny (model prog w) A (call (.builtin "max") [.ref l] [(Str.ofString "default", d)]) Q E s := by
  have nm : (toString "max" ++ toString ".loop" : String) = "max.loop" := by decide
  refine PyProof.Rows.kmk_tree F.kind_max F.plain_max F.entry_max (args_max_dflt _ _) ?_
  show wpAny _ A.in1 (Builtin.Builtins.bindParams "max" ["key", "default"] 0 ⟨[], [(Str.ofString "default", d)]⟩ >>= _) _ _ s
  refine wpAny_bind (wpAny_of_eq (show Builtin.Builtins.bindParams "max" ["key", "default"] 0 ⟨[], [(Str.ofString "default", d)]⟩ = pure [none, some d] from rfl) ?_)
  refine wpAny_bind (wpAny_pure (wpAny_bind (iter_intList hl fun s2 e st hfp hne => ?_)))
  subst e
  refine wpAny_bind (wpAny_newObj_type ?_)
  rw [nm]
  have hsz : (intItems xs).size = xs.size := by simp [intItems]
  have W := Walks.list (prog := prog) (w := w) (A := A.in1) hh s.heap.objs.size l hne (intItems xs)
  rw [hsz] at W
  refine wpAny_pure ⟨plainId_quiet F.plain_max_loop _, max_turns W (CmpOf.ints_gt (numAt xs) fun _ _ => intItems_at) (fun hm => Nat.lt_irrefl _ (hfp _ hm)) xs.size 0 _ [] _ (Nat.zero_add _)
    (W.frame _ _ _ st fun b _ o e => Heap.get?_push_of_some _ e) (.inl ⟨rfl, rfl⟩) (Heap.get?_push_size _ rfl) fun v h' tk z1 z2 k => ?_⟩
  exact h v h' tk z1 z2 (old_kept fun b o hb e => k b o hb (Nat.ne_of_lt (Heap.lt_size e)) (Heap.get?_push_of_some _ e))
end

/-! ### min(xs, default=d) -/
section
variable {prog : Program} {w : World} {A : Around} {R : Result → Shared → Prop} {I S : Addr} {fp wr : List Addr} {n : Nat} {P : Nat → Value → Prop} {St : Nat → Heap → Prop} {bt : Nat → Nat → Bool} {kd : Str} {d : Value}
/-- what stands in the best one's list ahead of turn i -/
def minBest (P : Nat → Value → Prop) (bt : Nat → Nat → Bool) (i : Nat) (o : List Value) : Prop := (i = 0 ∧ o = []) ∨ (0 < i ∧ ∃ v, o = [v, v] ∧ P (argBest bt (i - 1)) v)
theorem min_turns (W : Walks prog w A.in1 I fp wr n P St) (hcmp : CmpOf prog w A.in1 .Lt P bt) (hS : S ∉ fp) : ∀ (k i : Nat) (s : Shared) (o : List Value) (c : Nat), i + k = n → St i s.heap → minBest P bt i o →
    s.heap.get? S = some { cls := .type "list", dict := none, data := .seq o.toArray c, slots := #[] } →
    (∀ v h' tk, (n = 0 → v = d) → (0 < n → P (argBest bt (n - 1)) v) → (∀ b u, b ∉ wr → b ≠ S → s.heap.get? b = some u → h'.get? b = some u) → R (.ok (.ret v)) { s with heap := h', toks := tk }) →
    codeAny (model prog w) A (.builtin "min.loop" ⟨[.ref I, .none, .ref S], [(kd, d)]⟩) R s := by
  have nm : (toString "min" ++ toString ".loop" : String) = "min.loop" := by decide
  have hw : S ∉ wr := fun h => hS (W.sub _ h)
  intro k
  induction k with
  | zero =>
    intro i s o c hk hst hb ho hR
    refine codeAny_builtin F.entry_min_loop ?_
    rw [Around.under_plainId F.plain_min_loop _]
    refine wpAny_bind (wpAny_seqItems ho rfl ?_)
    have hin : n = i := by omega
    refine wpAny_bind (wpAny_tryCatch (W.done s _ _ (hin ▸ hst) fun h1 tk1 k1 => ?_))
    have ho1 := k1 S _ hw ho
    rcases hb with ⟨i0, rfl⟩ | ⟨i0, v, rfl, hp⟩
    · refine wpAny_bind (wpAny_rule (wpAny_pure (hR d h1 tk1 (fun _ => rfl) (fun z => by omega) fun b u hbw _ e => k1 b u hbw e)))
    · refine wpAny_bind ?_
      refine wpAny_updateSeq ho1 rfl (wpAny_bind (wpAny_letGo (wpAny_pure ?_)))
      refine hR v _ tk1 (fun z => by omega) (fun _ => by rw [hin]; exact hp) fun b u hbw hbS e => ?_
      exact (Heap.get?_update_other _ _ (Ne.symm hbS)).trans (k1 b u hbw e)
  | succ k ih =>
    intro i s o c hk hst hb ho hR
    refine codeAny_builtin F.entry_min_loop ?_
    rw [Around.under_plainId F.plain_min_loop _]
    refine wpAny_bind (wpAny_seqItems ho rfl ?_)
    refine wpAny_bind (wpAny_tryCatch (W.item i s _ _ (by omega) hst fun x h1 tk1 hx st1 k1 => ?_))
    have ho1 := k1 S _ hw ho
    have still : ∀ {h2 : Heap}, (∀ b u, b ≠ S → h1.get? b = some u → h2.get? b = some u) → St (i + 1) h2 := fun e => W.frame _ _ _ st1 fun b hbf u q => e b u (fun z => hS (z ▸ hbf)) q
    have next : ∀ (h2 : Heap) (o2 : List Value) (c2 : Nat), (∀ b u, b ≠ S → h1.get? b = some u → h2.get? b = some u) → minBest P bt (i + 1) o2 → h2.get? S = some { cls := .type "list", dict := none, data := .seq o2.toArray c2, slots := #[] } →
        codeAny (model prog w) A (.builtin "min.loop" ⟨[.ref I, .none, .ref S], [(kd, d)]⟩) R { s with heap := h2, toks := tk1 } := fun h2 o2 c2 e b2 q => by
      refine ih (i + 1) _ o2 c2 (by omega) (still e) b2 q fun v h3 tk3 z1 z2 k3 => hR v h3 tk3 z1 z2 fun b u hbw hbS q2 => ?_
      exact k3 b u hbw hbS (e b u hbS (k1 b u hbw q2))
    rcases hb with ⟨i0, rfl⟩ | ⟨i0, v, rfl, hp⟩
    · subst i0
      refine wpAny_bind (wpAny_pure ?_)
      refine wpAny_bind ?_
      refine wpAny_updateSeq ho1 rfl ?_
      rw [nm]
      refine wpAny_pure ⟨plainId_quiet F.plain_min_loop _, next _ [x, x] _ (fun b u hbS e => (Heap.get?_update_other _ _ (Ne.symm hbS)).trans e) (.inr ⟨Nat.succ_pos _, x, rfl, hx⟩) (Heap.get?_update_self _ ho1 rfl)⟩
    · obtain ⟨j, rfl⟩ : ∃ j, i = j + 1 := ⟨i - 1, by omega⟩
      refine wpAny_bind (wpAny_pure ?_)
      refine wpAny_bind (wpAny_tryCatch (wpAny_holding (wpAny_bind (hcmp (j + 1) (argBest bt j) x v _ _ _ hx hp ?_))))
      refine wpAny_bind (wpAny_holding (wpAny_truthy_bool ?_))
      refine wpAny_bind (wpAny_letGo (wpAny_pure ?_))
      cases hc : bt (j + 1) (argBest bt j) with
      | true =>
        rw [if_pos rfl]
        refine wpAny_bind ?_
        refine wpAny_updateSeq ho1 rfl (wpAny_bind (wpAny_letGo ?_))
        rw [nm]
        refine wpAny_pure ⟨plainId_quiet F.plain_min_loop _, next _ [x, x] _ (fun b u hbS e => (Heap.get?_update_other _ _ (Ne.symm hbS)).trans e) (.inr ⟨Nat.succ_pos _, x, rfl, ?_⟩) (Heap.get?_update_self _ ho1 rfl)⟩
        show P (argBest bt (j + 1)) x
        simpa only [argBest, hc, if_true] using hx
      | false =>
        rw [if_neg Bool.false_ne_true]
        refine wpAny_bind (wpAny_letGo ?_)
        rw [nm]
        refine wpAny_pure ⟨plainId_quiet F.plain_min_loop _, next _ [v, v] _ (fun b u _ e => e) (.inr ⟨Nat.succ_pos _, v, rfl, ?_⟩) ho1⟩
        show P (argBest bt (j + 1)) v
        have e : argBest bt (j + 1) = argBest bt j := by simp only [argBest, hc, Bool.false_eq_true, if_false]
        rw [e]
        exact hp
end
theorem args_min_dflt (a v : Value) : argsOk "min" ⟨[a], [(Str.ofString "default", v)]⟩ := by unfold argsOk; kernel_rfl
section
variable {prog : Program} {w : World} {A : Around} {E : Value → Shared → Prop} {s : Shared} {l : Addr} {its : List Value} {ns : List Int} {Q : Value → Shared → Prop} {d : Value}
theorem min_dflt_items {xs : Array (Int × Tok)} (hh : A.handled = none) (hl : s.heap.IsList l (intItems xs))
    (h : ∀ v h' tk, (xs.size = 0 → v = d) → (0 < xs.size → (intItems xs)[argBest (fun i j => decide (numAt xs i < numAt xs j)) (xs.size - 1)]? = some v) → (∀ b o, s.heap.get? b = some o → h'.get? b = some o) → Q v { s with heap := h', toks := tk }) :
    wpAny (model prog w) A (call (.builtin "min") [.ref l] [(Str.ofString "default", d)]) Q E s := by
  have nm : (toString "min" ++ toString ".loop" : String) = "min.loop" := by decide
  refine PyProof.Rows.kmk_tree F.kind_min F.plain_min F.entry_min (args_min_dflt _ _) ?_
  show wpAny _ A.in1 (Builtin.Builtins.bindParams "min" ["key", "default"] 0 ⟨[], [(Str.ofString "default", d)]⟩ >>= _) _ _ s
  refine wpAny_bind (wpAny_of_eq (show Builtin.Builtins.bindParams "min" ["key", "default"] 0 ⟨[], [(Str.ofString "default", d)]⟩ = pure [none, some d] from rfl) ?_)
  refine wpAny_bind (wpAny_pure (wpAny_bind (iter_intList hl fun s2 e st hfp hne => ?_)))
  subst e
  refine wpAny_bind (wpAny_newObj_type ?_)
  rw [nm]
  have hsz : (intItems xs).size = xs.size := by simp [intItems]
  have W := Walks.list (prog := prog) (w := w) (A := A.in1) hh s.heap.objs.size l hne (intItems xs)
  rw [hsz] at W
  refine wpAny_pure ⟨plainId_quiet F.plain_min_loop _, min_turns W (CmpOf.ints_lt (numAt xs) fun _ _ => intItems_at) (fun hm => Nat.lt_irrefl _ (hfp _ hm)) xs.size 0 _ [] _ (Nat.zero_add _)
    (W.frame _ _ _ st fun b _ o e => Heap.get?_push_of_some _ e) (.inl ⟨rfl, rfl⟩) (Heap.get?_push_size _ rfl) fun v h' tk z1 z2 k => ?_⟩
  exact h v h' tk z1 z2 (old_kept fun b o hb e => k b o hb (Nat.ne_of_lt (Heap.lt_size e)) (Heap.get?_push_of_some _ e))
end
end PySem

namespace L2
open PySem PySem.Spec PyProof.Rows
/-- max(xs, default=i) -/
def rmaxDf (K : PySem.W.Frag) : List V → List V → Hp → VK → Prop := fun vs zs H Q => ∃ (a : Addr) (ns : List Int) (i : Int), vs = [V.ref a] ∧ zs = [V.int i] ∧ SqL K H a (ns.map V.int) ∧ (ns = [] → Q (.int i) H) ∧ (∀ m, m ∈ ns → (∀ k ∈ ns, k ≤ m) → Q (.int m) H)
theorem cr_maxDf {X : Cx} (hc : X.calm = true) : CallRK X (.builtin "max") [Str.ofString "default"] (rmaxDf X.K) := by
  intro pins s σ H vs zs us ws Q I r rz h
  obtain ⟨a, ns, i, rfl, rfl, hs, q0, q1⟩ := h
  obtain ⟨its, rv, hl, _⟩ := I.list hs
  rw [Vals.ref1 r]
  obtain ⟨w1, rfl, t, rfl⟩ := vals1 rz
  obtain ⟨xs, e⟩ := rv.ints.allInts.items
  have hn : numsOf (intItems xs).toList = ns := by rw [← e]; exact rv.ints.numsOf
  rw [nums_intItems] at hn
  have hl2 := hl.isList
  rw [e] at hl2
  have hlen : ns.length = xs.size := by rw [← hn, List.length_map, Array.length_toList]
  refine PySem.max_dflt_items (I.ok.hd hc) hl2 fun v h' tk z1 z2 hk => ?_
  by_cases hz : xs.size = 0
  · rw [z1 hz]
    exact ⟨.int i, H, I.kept hk, ⟨_, rfl⟩, q0 (List.eq_nil_of_length_eq_zero (by omega))⟩
  · obtain ⟨t2, rfl⟩ := intItems_at (z2 (by omega))
    obtain ⟨h1, h2⟩ := argBest_gt (numAt xs) (xs.size - 1)
    refine ⟨.int _, H, I.kept hk, ⟨_, rfl⟩, q1 _ ?_ fun k hkm => ?_⟩
    · rw [← hn, numAt_eq]
      exact PySem.getD_mem (by rw [List.length_map, Array.length_toList]; omega)
    · rw [← hn] at hkm
      obtain ⟨j, hj, rfl⟩ := mem_getD hkm
      rw [List.length_map, Array.length_toList] at hj
      rw [← numAt_eq]
      exact h2 j (by omega)
end L2

namespace L2
open PySem PySem.Spec PyProof.Rows
/-- min(xs, default=i) -/
def rminDf (K : PySem.W.Frag) : List V → List V → Hp → VK → Prop := fun vs zs H Q => ∃ (a : Addr) (ns : List Int) (i : Int), vs = [V.ref a] ∧ zs = [V.int i] ∧ SqL K H a (ns.map V.int) ∧ (ns = [] → Q (.int i) H) ∧ (∀ m, m ∈ ns → (∀ k ∈ ns, m ≤ k) → Q (.int m) H)
theorem cr_minDf {X : Cx} (hc : X.calm = true) : CallRK X (.builtin "min") [Str.ofString "default"] (rminDf X.K) := by
  intro pins s σ H vs zs us ws Q I r rz h
  obtain ⟨a, ns, i, rfl, rfl, hs, q0, q1⟩ := h
  obtain ⟨its, rv, hl, _⟩ := I.list hs
  rw [Vals.ref1 r]
  obtain ⟨w1, rfl, t, rfl⟩ := vals1 rz
  obtain ⟨xs, e⟩ := rv.ints.allInts.items
  have hn : numsOf (intItems xs).toList = ns := by rw [← e]; exact rv.ints.numsOf
  rw [nums_intItems] at hn
  have hl2 := hl.isList
  rw [e] at hl2
  have hlen : ns.length = xs.size := by rw [← hn, List.length_map, Array.length_toList]
  refine PySem.min_dflt_items (I.ok.hd hc) hl2 fun v h' tk z1 z2 hk => ?_
  by_cases hz : xs.size = 0
  · rw [z1 hz]
    exact ⟨.int i, H, I.kept hk, ⟨_, rfl⟩, q0 (List.eq_nil_of_length_eq_zero (by omega))⟩
  · obtain ⟨t2, rfl⟩ := intItems_at (z2 (by omega))
    obtain ⟨h1, h2⟩ := argBest_lt (numAt xs) (xs.size - 1)
    refine ⟨.int _, H, I.kept hk, ⟨_, rfl⟩, q1 _ ?_ fun k hkm => ?_⟩
    · rw [← hn, numAt_eq]
      exact PySem.getD_mem (by rw [List.length_map, Array.length_toList]; omega)
    · rw [← hn] at hkm
      obtain ⟨j, hj, rfl⟩ := mem_getD hkm
      rw [List.length_map, Array.length_toList] at hj
      rw [← numAt_eq]
      exact h2 j (by omega)
end L2

set_option Elab.async false
set_option linter.all false
set_option maxRecDepth 100000
set_option maxHeartbeats 1000000
/-! Rg, part A: what all laws of this program share: a def's promise by its name, lists of ints, what a call hands back. -/
namespace Rg
open PySem PySem.Spec PyProof.Rows L2 Evl

/-! ### lists of ints -/
abbrev Ints (ns : List Int) : List V := ns.map V.int
abbrev Lst (H : Hp) (a : Addr) (xs : List V) : Prop := H a = some (.lst xs)
abbrev IL (H : Hp) (a : Addr) (ns : List Int) : Prop := H a = some (.lst (Ints ns))
/-! ### what a call hands back -/
/-- a new list | a value, the heap grown -/
def RL (xs : List V) (H : Hp) (Q : VK) : Prop := ∀ p H', H p = none → Ex H H' → H' p = some (.lst xs) → Q (.ref p) H'
def RVal (v : V) (H : Hp) (Q : VK) : Prop := ∀ H', Ex H H' → Q v H'

/-- what is refused: the class x is let out, the heap grown; else k -/
def Out (K : PySem.W.Frag) (r : Option String) (H : Hp) (E : XK) (k : Prop) : Prop := match r with
  | some x => ∀ H', Ex H H' → E (.ref (He.ga K (Str.ofString x))) none H'
  | none => k
theorem Out.imp {K : PySem.W.Frag} {r : Option String} {H H1 : Hp} {E : XK} {k k' : Prop} (h : Out K r H E k) (e : Ex H H1) (f : r = none → k → k') : Out K r H1 E k' := by
  cases r with
  | some x => exact fun H' e' => h H' (e.trans e')
  | none => exact f rfl h
theorem Out.ok {K : PySem.W.Frag} {r : Option String} {H : Hp} {E : XK} {k : Prop} (hr : r = none) (h : k) : Out K r H E k := by
  subst hr
  exact h
theorem Out.get {K : PySem.W.Frag} {r : Option String} {H : Hp} {E : XK} {k : Prop} (h : Out K r H E k) (hr : r = none) : k := by
  subst hr
  exact h
theorem Out.bad {K : PySem.W.Frag} {r : Option String} {x : String} {H : Hp} {E : XK} {k : Prop} (h : Out K r H E k) (hr : r = some x) {H' : Hp} (e : Ex H H') : E (.ref (He.ga K (Str.ofString x))) none H' := by
  subst hr
  exact h H' e
def optV : Option Int → V
  | none => .non
  | some d => .int d
/-! ### a def of the top, by its name -/
section
variable {P : Program} {w : World} {K : PySem.W.Frag} {mg : Str → Option Value} {base : Heap}
structure Has (P : Program) (w : World) (K : PySem.W.Frag) (mg : Str → Option Value) (base : Heap) (CX : CXT) (k : Nat) (x : Str) (ps : List Str) (sp : Sp) : Prop where
  ex : ∃ f fd, FnOk P w K mg base CX k f fd ps sp ∧ mg x = some (.ref f) ∧ PySem.W.keepIn K (.ref f) = true ∧ Binds K fd ps [] ∧ ∃ oc od osl, K.lookup f = some ⟨oc, od, .func fd, osl⟩
theorem Has.mono {CX : CXT} {j k : Nat} {x : Str} {ps : List Str} {sp : Sp} (h : Has P w K mg base CX j x ps sp) (le : j ≤ k) : Has P w K mg base CX k x ps sp := by
  obtain ⟨f, fd, F, r⟩ := h.ex
  exact ⟨f, fd, F.mono le, r⟩
theorem _root_.L2.FunD.look {x qual : Str} {params : Arguments} {body : List Stmt} {scope : Scope} {dvs : List V} {kws : List (Str × V)} {f : Addr} {fd : FuncData} (F : FunD K x qual params body scope dvs kws f fd) : ∃ oc od osl, K.lookup f = some ⟨oc, od, .func fd, osl⟩ := by
  obtain ⟨oc, od, dV, kV, doc, pm, an, cdv, ct, osl, _, lk, _⟩ := F.ex
  exact ⟨oc, od, osl, lk⟩
structure Df (K : PySem.W.Frag) (mg : Str → Option Value) (x : Str) (st : Stmt) : Prop where
  ex : ∃ f fd, FunD K x x (defArgs st) (defBody st) (defScope st) [] [] f fd ∧ mg x = some (.ref f)
abbrev BindOk (x : Str) (st : Stmt) (ps : List Str) : Prop := ∀ (kV doc pm : Value) (an : Option Addr) (cdv ct : Value) (us : List Value), us.length = ps.length → bindArgs (PySem.W.fnOf x x (defArgs st) (defBody st) (defScope st) .none kV doc pm an cdv ct) ⟨us, []⟩ = pure (ps.zip us)
/-- THE RULE: a def that lets no exception out -/
theorem Df.has0 {x : Str} {st : Stmt} {N ps : List Str} {k : Nat} {sp : Sp} (D : Df K mg x st) (S : FnScope N ps (defScope st)) (hb : BindOk x st ps) (len : ∀ vs H Q E, sp vs H Q E → vs.length = ps.length)
    (hbody : ∀ (f : Addr) (cdv : Value) (A : Around) (outer : List Env) (s : Shared) (H : Hp) (vs : List V) (Q : VK) (E : XK), Room k (A.deeper (envOfC x (defScope st) s.heap.objs.size f cdv)) → sp vs H Q E →
      ∃ t, PSs (cxOf CX0 P w K mg base N x (defScope st) f cdv A outer s H E).nox (defBody st) t ∧ t { nx := fun _ H' => Q .non H', rt := Q } (start N vs) H) : Has P w K mg base CX0 (k + 1) x ps sp := by
  obtain ⟨f, fd, F, g⟩ := D.ex
  refine ⟨f, fd, F.ok S len (fun cdv A outer s H vs Q E hr h => ?_), g, F.kp, F.bindsN hb, F.look⟩
  obtain ⟨t, h1, h2⟩ := hbody f cdv A outer s H vs Q E hr h
  exact ⟨t, h1.nox, h2⟩
/-- a def that may raise -/
theorem Df.hasX {x : Str} {st : Stmt} {N ps : List Str} {k : Nat} {sp : Sp} (D : Df K mg x st) (S : FnScope N ps (defScope st)) (hb : BindOk x st ps) (len : ∀ vs H Q E, sp vs H Q E → vs.length = ps.length)
    (hbody : ∀ (f : Addr) (cdv : Value) (A : Around) (outer : List Env) (s : Shared) (H : Hp) (vs : List V) (Q : VK) (E : XK), Room k (A.deeper (envOfC x (defScope st) s.heap.objs.size f cdv)) → sp vs H Q E →
      ∃ t, PSs (cxOf (L2.CX P w) P w K mg base N x (defScope st) f cdv A outer s H E) (defBody st) t ∧ t { nx := fun _ H' => Q .non H', rt := Q } (start N vs) H) : Has P w K mg base (L2.CX P w) (k + 1) x ps sp := by
  obtain ⟨f, fd, F, g⟩ := D.ex
  exact ⟨f, fd, F.ok S len (hbody f), g, F.kp, F.bindsN hb, F.look⟩
/-- the law's own def, at the end -/
theorem Df.end_ {x p : Str} {st : Stmt} {k : Nat} {sp : Sp} {f : Addr} (D : Df K mg x st) (hb : BindOk x st [p]) (hfa : mg x = some (.ref f)) (h : ∀ base : Heap, K.In base → base.Ns mainGlobals mg → Has P w K mg base CX0 k x [p] sp) :
    ∃ fd : FuncData, (∀ (s : Shared) (v : Value), BindsTo s fd ⟨[v], []⟩ [(p, v)]) ∧ ∀ base : Heap, K.In base → base.Ns mainGlobals mg → FnOk P w K mg base CX0 k f fd [p] sp := by
  obtain ⟨f1, fd, F, g⟩ := D.ex
  rw [g] at hfa
  cases hfa
  obtain ⟨oc, od, osl, lk⟩ := F.look
  refine ⟨fd, fun s v => F.bindsA hb s [v] rfl, fun base a b => ?_⟩
  obtain ⟨f2, fd2, F2, g2, _, _, oc2, od2, osl2, lk2⟩ := (h base a b).ex
  rw [g] at g2
  cases g2
  rw [lk] at lk2
  cases lk2
  exact F2
end
section
variable {X : Cx}
theorem pe_callH {CX : CXT} {k : Nat} {x : Str} {ps : List Str} {sp : Sp} {E : XK} {p pos : Pos} {e : Expr} {es : List Expr} {t : TA} (F : Has X.prog X.w X.K X.mg X.base CX k x ps sp) (hr : Room k X.A) (hg : Gl X x) (hx : Passes CX X E)
    (ha : PA X (e :: es) t) (hdb : (x == ("__debug__" : Str)) = false := by decide) (he : starEach (e :: es) X.env = (false, eval e X.env) :: starEach es X.env := by rfl) (hpl : (backTo pos (starEach es X.env)).any (·.1) = false := by rfl) :
    PE X (.Call (.Name x p) (e :: es) [] pos) (tCall sp [] E t) := by
  obtain ⟨f, fd, F, hm, hk, hb, _⟩ := F.ex
  exact pe_call F hr hg hm hk hb .nil hx ha hdb he hpl
end
theorem passE0 {X : Cx} : Passes (L2.CX X.prog X.w) X E0 := fun _ _ _ _ _ _ _ ⟨_, _, _, _, _, _, _, _, _, _, _, _, h⟩ => h.elim
theorem passX {X : Cx} {E : XK} (tk : Takes X (fun cls d _ H => E cls d H)) : Passes (L2.CX X.prog X.w) X E := passes_call tk fun _ _ _ _ h => h
/-- an own exception class of the top, without __init__ -/
structure Ec (K : PySem.W.Frag) (mg : Str → Option Value) (x : Str) : Prop where
  g : mg x = some (.ref (He.ga K x))
  ex : PySem.W.excIn K (He.ga K x) He.veBase "ValueError.__new__" = true
  k : PySem.W.keepIn K (.ref (He.ga K x)) = true
  b : PySem.W.subIn K (.ref (He.ga K x)) (.type "BaseException") = some true
  t : PySem.W.typeIn K (.ref (He.ga K x)) = some (.type "type")
theorem ec_mk {K : PySem.W.Frag} {h : Heap} {mg : Str → Option Value} {x : Str} (X : K.In h) (G : h.Ns mainGlobals mg) (c1 : (He.Fa.glo x).ok K = true) (c2 : (He.Fa.exc x).ok K = true) : Ec K mg x := by
  obtain ⟨e1, e2⟩ := He.ba c2
  obtain ⟨e2, e3⟩ := He.ba e2
  obtain ⟨e3, e4⟩ := He.ba e3
  exact ⟨He.glo_ok X G c1, e1, e2, of_decide_eq_true e3, of_decide_eq_true e4⟩
/-- raise X('..') -/
def tRz (cls : Value) (W : WX) : TS := fun _ σ H => W cls none σ H
theorem ps_raiseC {X : Cx} {W : WX} {x m : Str} {j : Nat} {p p2 pos pos2 : Pos} (C : Ec X.K X.mg x) (hc : X.calm = true) (tk : Takes X W) (hg : Gl X x) (hdb : (x == ("__debug__" : Str)) = false := by decide) :
    PS X (.Raise (some (.Call (.Name x p) [.Constant (.str m) j p2] [] pos)) none pos2) (tRz (.ref (He.ga X.K x)) W) :=
  ps_raise hc tk (pmk_own PySem.F.excBase_ValueError C.ex C.g C.k (raises_own C.b C.t) hg hdb)
theorem hD_of {k : Nat} {A : Around} (hr : Room k A) : A.units + 64 < cLine := by have := hr.units; omega

/-! ### builtins that the top leaves alone -/
structure Bs (mg : Str → Option Value) : Prop where
  n_len : mg "len" = none
  n_range : mg "range" = none
  n_sorted : mg "sorted" = none
  n_list : mg "list" = none
  n_set : mg "set" = none
  n_abs : mg "abs" = none
  n_max : mg "max" = none
  n_min : mg "min" = none
  n_isinstance : mg "isinstance" = none
  n_int : mg "int" = none
  n_bool : mg "bool" = none
  n_enumerate : mg "enumerate" = none
  n_reversed : mg "reversed" = none
  n_str : mg "str" = none
  n_tuple : mg "tuple" = none
  n_ValueError : mg "ValueError" = none

/-! ### calls of built-ins by what they evaluate to -/
section
variable {K : PySem.W.Frag} {σ : L2.St} {H H' : Hp} {ta tb te : TE}
theorem il_upd {l : Addr} {ys : List V} {zs : List Int} (h : ys = Ints zs) : IL (upd H l (.lst ys)) l zs := by
  show upd H l (.lst ys) l = _
  rw [upd_same, h]
theorem ints_app (xs : List Int) (v : Int) : Ints xs ++ [V.int v] = Ints (xs ++ [v]) := by simp [Ints]
theorem ix_nat {n j : Nat} (h : j < n) : ixN n (j : Int) = some j := ixN_nat h
theorem ix_at {n : Nat} {i : Int} (h0 : 0 ≤ i) (h : i < (n : Int)) : ixN n i = some i.toNat := by
  have e : i = ((i.toNat : Nat) : Int) := by omega
  rw [e, ixN_nat (by omega)]
  congr 1
theorem atI_ints {ns : List Int} {i : Int} (h0 : 0 ≤ i) (h : i < (ns.length : Int)) : atI (Ints ns) i = some (.int (gi ns i.toNat)) := by
  unfold atI
  rw [List.length_map, ix_at h0 h]
  show (Ints ns)[i.toNat]? = _
  have hk : i.toNat < ns.length := by omega
  rw [List.getElem?_map, List.getElem?_eq_getElem hk]
  simp [gi, List.getD_eq_getElem?_getD, List.getElem?_eq_getElem hk]
theorem atI_intsN {ns : List Int} {i : Nat} (h : i < ns.length) : atI (Ints ns) (i : Int) = some (.int (gi ns i)) := atI_ints (by omega) (by omega)
theorem atI_neg1 {ns : List Int} (h : ns ≠ []) : atI (Ints ns) (-1) = some (.int (gi ns (ns.length - 1))) := by
  have hp : 0 < ns.length := List.length_pos_iff.mpr h
  have hk : ns.length - 1 < ns.length := by omega
  have e := atI_last (xs := (Ints ns).dropLast) (v := .int (gi ns (ns.length - 1)))
  have e2 : (Ints ns).dropLast ++ [V.int (gi ns (ns.length - 1))] = Ints ns := by
    rw [show V.int (gi ns (ns.length - 1)) = (Ints ns).getLast (by simpa using h) by
      rw [List.getLast_eq_getElem]
      simp [gi, List.getD_eq_getElem?_getD, List.getElem?_eq_getElem hk]]
    exact List.dropLast_concat_getLast _
  rw [e2] at e
  exact e
theorem rv_ixI {a : Addr} {ns : List Int} {i : Int} (h : IL H a ns) (h0 : 0 ≤ i) (h1 : i < (ns.length : Int)) : RV (rIxL K) (.ref a) (.int i) H (.int (gi ns i.toNat)) := rv_ixL (sq_of h) (atI_ints h0 h1)
theorem rv_ixIN {a : Addr} {ns : List Int} {i : Nat} (h : IL H a ns) (h1 : i < ns.length) : RV (rIxL K) (.ref a) (.int (i : Int)) H (.int (gi ns i)) := rv_ixL (sq_of h) (atI_intsN h1)
theorem ev_lenI {a : Addr} {ns : List Int} (ha : Ev ta σ H (.ref a)) (h : IL H a ns) : Ev (tCB (rLenS K) (tCons ta tNil)) σ H (.int (ns.length : Int)) := by
  have z := ev_len (K := K) ha (sq_of h)
  rw [List.length_map] at z
  exact z
theorem v_ {i : Nat} {v : V} (h : σ[i]? = some (some v) := by rfl) : Ev (tVar i) σ H v := ev_var h
theorem o_ {f : Int → Int → V} {i j : Int} (ha : Ev ta σ H (.int i)) (hb : Ev tb σ H (.int j)) : Ev (tOp (rI0 f) ta tb) σ H (f i j) := ev_op ha hb rv_I0
theorem oc_ {C : Int → Int → Prop} {f : Int → Int → V} {i j : Int} (ha : Ev ta σ H (.int i)) (hb : Ev tb σ H (.int j)) (hc : C i j) : Ev (tOp (rI C f) ta tb) σ H (f i j) := ev_op ha hb (rv_I hc)
theorem add_ {i j : Int} (ha : Ev ta σ H (.int i)) (hb : Ev tb σ H (.int j)) : Ev (tOp (rI0 fun i j => .int (i + j)) ta tb) σ H (.int (i + j)) := ev_op ha hb (rv_I0 (g := fun i j => .int (i + j)))
theorem sub_ {i j : Int} (ha : Ev ta σ H (.int i)) (hb : Ev tb σ H (.int j)) : Ev (tOp (rI0 fun i j => .int (i - j)) ta tb) σ H (.int (i - j)) := ev_op ha hb (rv_I0 (g := fun i j => .int (i - j)))
theorem mod_ {i j : Int} (ha : Ev ta σ H (.int i)) (hb : Ev tb σ H (.int j)) (hc : 0 < j) : Ev (tOp (rI (fun _ j => 0 < j) fun i j => .int (i % j)) ta tb) σ H (.int (i % j)) := ev_op ha hb (rv_I (C := fun _ j => 0 < j) (g := fun i j => .int (i % j)) hc)
theorem div_ {i j : Int} (ha : Ev ta σ H (.int i)) (hb : Ev tb σ H (.int j)) (hc : CDiv i j) : Ev (tOp (rI CDiv fun i j => .int (i / j)) ta tb) σ H (.int (i / j)) := ev_op ha hb (rv_I (C := CDiv) (g := fun i j => .int (i / j)) hc)
theorem ng_ {i : Int} (ha : Ev ta σ H (.int i)) : Ev (tUn (rU fun i => .int (-i)) ta) σ H (.int (-i)) := ev_un ha ru_neg
/-- xs[i] of a list of ints -/
theorem ixI_ {a : Addr} {ns : List Int} {i : Int} (h : IL H a ns) (ha : Ev ta σ H (.ref a)) (hi : Ev tb σ H (.int i)) (h0 : 0 ≤ i) (h1 : i < (ns.length : Int)) : Ev (tOp (rIxL K) ta tb) σ H (.int (gi ns i.toNat)) := ev_op ha hi (rv_ixI h h0 h1)
theorem ixN_ {a : Addr} {ns : List Int} {i : Nat} (h : IL H a ns) (ha : Ev ta σ H (.ref a)) (hi : Ev tb σ H (.int (i : Int))) (h1 : i < ns.length) : Ev (tOp (rIxL K) ta tb) σ H (.int (gi ns i)) := ev_op ha hi (rv_ixIN h h1)
/-- xs[-1] -/
theorem ixL_ {a : Addr} {ns : List Int} (h : IL H a ns) (ha : Ev ta σ H (.ref a)) (h1 : ns ≠ []) : Ev (tOp (rIxL K) ta (tUn (rU fun i => .int (-i)) (tC (.int 1)))) σ H (.int (gi ns (ns.length - 1))) :=
  ev_op ha (ng_ ev_c) (rv_ixL (sq_of h) (atI_neg1 h1))
theorem ev_chain {tc : TE} {r r' : R2} {x y z : V} {k1 k2 : Bool} (ha : Ev ta σ H x) (hb : Ev tb σ H y) (hr : RV r x y H (.bl k1)) (hc : k1 = true → Ev tc σ H z) (hr' : k1 = true → RV r' y z H (.bl k2)) : Ev (tChain r r' ta tb tc) σ H (.bl (k1 && k2)) := fun H1 e Q q =>
  ha H1 e _ fun H2 e2 => hb H2 (e.trans e2) _ fun H3 e3 => hr H3 ((e.trans e2).trans e3) _ fun H4 e4 => ⟨k1, rfl, by
    have e5 := ((e.trans e2).trans e3).trans e4
    cases k1 with
    | true =>
      show tc σ H4 _
      exact hc rfl H4 e5 _ fun H5 e6 => hr' rfl H5 (e5.trans e6) Q fun H6 e7 => q H6 ((((e2.trans e3).trans e4).trans e6).trans e7)
    | false =>
      show Q (.bl false) H4
      exact q H4 ((e2.trans e3).trans e4)⟩
theorem dIn (d : Int) (ns : List Int) : inV (.int d) (Ints ns) = decide (d ∈ ns) := by
  unfold inV
  induction ns with
  | nil => simp
  | cons x xs ih =>
    show ((V.int x :: Ints xs).any fun y => eqV y (V.int d)) = _
    rw [List.any_cons, ih]
    have e : eqV (.int x) (.int d) = (x == d) := rfl
    rw [e, Bool.eq_iff_iff, Bool.or_eq_true, beq_iff_eq, decide_eq_true_eq, decide_eq_true_eq, List.mem_cons]
    exact or_congr_left ⟨fun h => h.symm, fun h => h.symm⟩
theorem flats (ns : List Int) : (Ints ns).all flatV = true := by
  simp [Ints, flatV]
/-- d in xs, d not in xs -/
theorem in_ {a : Addr} {ns : List Int} {d : Int} (h : IL H a ns) (hd : Ev ta σ H (.int d)) (ha : Ev tb σ H (.ref a)) : Ev (tOp (rIn K false) ta tb) σ H (.bl (decide (d ∈ ns))) := by
  have z := ev_op hd ha (rv_isL (K := K) (sq_of h) rfl (flats ns))
  rw [dIn] at z
  exact z
theorem ni_ {a : Addr} {ns : List Int} {d : Int} (h : IL H a ns) (hd : Ev ta σ H (.int d)) (ha : Ev tb σ H (.ref a)) : Ev (tOp (rIn K true) ta tb) σ H (.bl (!decide (d ∈ ns))) := by
  have z := ev_op hd ha (rv_niL (K := K) (sq_of h) rfl (flats ns))
  rw [dIn] at z
  exact z
/-- xs.remove(d) -/
theorem s_rem {D : Ends} {l : Addr} {ns : List Int} {d : Int} (hl : IL H l ns) (ha : Ev ta σ H (.ref l)) (h : Ev te σ H (.int d)) (hd : d ∈ ns) (k : ∀ H1, Ex H H1 → D.nx σ (upd H1 l (.lst (Ints (ns.erase d))))) :
    tDrop (tBM K "list" rRemI ta (tCons te tNil)) D σ H := ha H (Ex.refl H) _ fun H1 e1 =>
  ⟨Or.inl ⟨rfl, Ints ns, sq_of (e1 l _ hl)⟩, h H1 e1 _ fun H2 e2 => by
    obtain ⟨j, h1, h2, h3⟩ := erase_at hd
    refine ⟨l, ns, d, j, rfl, rfl, e2 l _ (e1 l _ hl), h1, h2, ?_⟩
    rw [h3]
    exact k H2 (e1.trans e2)⟩
/-- list(xs) -/
theorem el_copy {a : Addr} {xs : List V} (ha : Ev ta σ H (.ref a)) (h : Lst H a xs) : EvL (tCB (rListS K) (tCons ta tNil)) σ H xs := el_list ha (sq_of h)
/-- isinstance(n, int), isinstance(n, bool) -/
theorem isi_ {x : V} {n : String} {t : Value} {b : Bool} (ha : Ev ta σ H x) (hc : Ev tb σ H (.ty n)) (ty : ∀ H1, Ex H H1 → TyX K H1 x t) (hk : PySem.W.kitOne K t (.type n) = some b) : Ev (tCB (rIsi K) (tCons ta (tCons tb tNil))) σ H (.bl b) := fun H1 e Q q =>
  ha H1 e _ fun H2 e2 => hc H2 (e.trans e2) _ fun H3 e3 => ⟨x, .ty n, t, .type n, b, rfl, .ty n, ty H3 ((e.trans e2).trans e3), hk, q H3 (e2.trans e3)⟩
theorem ints_at {ns : List Int} {i : Nat} {x : V} (h : (Ints ns)[i]? = some x) : ∃ d, ns[i]? = some d ∧ x = V.int d := by
  rw [List.getElem?_map] at h
  cases e : ns[i]? with
  | none =>
    rw [e] at h
    cases h
  | some d =>
    rw [e] at h
    exact ⟨d, rfl, (Option.some.inj h).symm⟩
/-- f(..) as a statement -/
theorem s_call {D : Ends} {sp : Sp} {dvs vs : List V} {E : XK} {t : TA} (h : EvA t σ H vs) (hs : ∀ H1, Ex H H1 → sp (vs ++ dvs) H1 (fun _ H2 => D.nx σ H2) E) : tDrop (tCall sp dvs E t) D σ H := h H (Ex.refl H) _ fun H1 e1 => hs H1 e1
/-- return f(..) op e -/
theorem s_retop {D : Ends} {sp : Sp} {dvs vs : List V} {E : XK} {t : TA} {r : R2} (h : EvA t σ H vs) (hs : ∀ H1, Ex H H1 → sp (vs ++ dvs) H1 (fun x H2 => tb σ H2 fun y H3 => r x y H3 D.rt) E) : tRet (tOp r (tCall sp dvs E t) tb) D σ H := h H (Ex.refl H) _ fun H1 e1 => hs H1 e1
/-- return f(..) -/
theorem s_retcall {D : Ends} {sp : Sp} {dvs vs : List V} {E : XK} {t : TA} (h : EvA t σ H vs) (hs : ∀ H1, Ex H H1 → sp (vs ++ dvs) H1 D.rt E) : tRet (tCall sp dvs E t) D σ H := h H (Ex.refl H) _ fun H1 e1 => hs H1 e1
/-- x = f(..) -/
theorem s_setcall {D : Ends} {sp : Sp} {dvs vs : List V} {E : XK} {t : TA} {i : Nat} (h : EvA t σ H vs) (hs : ∀ H1, Ex H H1 → sp (vs ++ dvs) H1 (fun x H2 => D.nx (σ.set i (some x)) H2) E) : tAsg (tCall sp dvs E t) (gName i) D σ H := h H (Ex.refl H) _ fun H1 e1 => hs H1 e1
/-- if not f(..): u; else: w -/
theorem s_ifnotcall {D : Ends} {sp : Sp} {dvs vs : List V} {E : XK} {t : TA} {u w : TS} (h : EvA t σ H vs) (hs : ∀ H1, Ex H H1 → sp (vs ++ dvs) H1 (fun x H2 => ∃ k, x = .bl k ∧ (if (!k) = true then u D σ H2 else w D σ H2)) E) : tIfS (tNot (tB (tCall sp dvs E t))) u w D σ H := h H (Ex.refl H) _ fun H1 e1 => hs H1 e1
/-! ### lists of ints as data -/
def dI (ns : List Int) : PyData := .list (ns.map .int)
theorem dpAll_I (ns : List Int) : DpAll K H (Ints ns) (ns.map .int) := by
  induction ns with
  | nil => exact .nil
  | cons x xs ih => exact .cons (.int x) ih
theorem dp_I {a : Addr} {ns : List Int} (h : IL H a ns) : Dp K H (.ref a) (dI ns) := .lst (sq_of h) (dpAll_I ns)
theorem lay_Is (ns : List Int) : PyData.canLayAll0 (ns.map .int) = true := by
  induction ns with
  | nil => rfl
  | cons x xs ih => simp [PyData.canLayAll0, PyData.canLay0, ih]
theorem depth_Is (ns : List Int) : PyData.depthAll (ns.map .int) = 0 := by
  induction ns with
  | nil => rfl
  | cons x xs ih => simp [PyData.depthAll, PyData.depth, ih]
theorem sh_I (ns : List Int) : SeqAt.shaped (dI ns) = true := by
  simp [SeqAt.shaped, dI, PyData.canLay0, PyData.depth, lay_Is, depth_Is]
theorem eqvs_I : ∀ ns ms : List Int, PyData.eqvAll (ns.map .int) (ms.map .int) = decide (ns = ms)
  | [], [] => by simp [PyData.eqvAll]
  | [], _ :: _ => by simp [PyData.eqvAll]
  | _ :: _, [] => by simp [PyData.eqvAll]
  | x :: xs, y :: ys => by
    rw [Bool.eq_iff_iff]
    simp [PyData.eqvAll, PyData.eqv, eqvs_I xs ys]
theorem eqv_I (ns ms : List Int) : PyData.eqv (dI ns) (dI ms) = decide (ns = ms) := by
  simp [dI, PyData.eqv, eqvs_I]
theorem eqv_NI (ms : List Int) : PyData.eqv .none (dI ms) = false := by
  simp [dI, PyData.eqv]
/-- xs == ys, != -/
theorem eqI_ {a b : Addr} {ns ms : List Int} (ha : Ev ta σ H (.ref a)) (h1 : IL H a ns) (hb : Ev tb σ H (.ref b)) (h2 : IL H b ms) : Ev (tOp (rEqD K) ta tb) σ H (.bl (decide (ns = ms))) := fun H1 e Q q =>
  ha H1 e _ fun H2 e2 => hb H2 (e.trans e2) _ fun H3 e3 => ⟨dI ns, dI ms, dp_I (((e.trans e2).trans e3) a _ h1), dp_I (((e.trans e2).trans e3) b _ h2), sh_I _, sh_I _, by
    rw [eqv_I]
    exact q H3 (e2.trans e3)⟩
theorem neI_ {a b : Addr} {ns ms : List Int} (ha : Ev ta σ H (.ref a)) (h1 : IL H a ns) (hb : Ev tb σ H (.ref b)) (h2 : IL H b ms) : Ev (tOp (rNeD K) ta tb) σ H (.bl (!decide (ns = ms))) := fun H1 e Q q =>
  ha H1 e _ fun H2 e2 => hb H2 (e.trans e2) _ fun H3 e3 => ⟨dI ns, dI ms, dp_I (((e.trans e2).trans e3) a _ h1), dp_I (((e.trans e2).trans e3) b _ h2), sh_I _, sh_I _, by
    rw [eqv_I]
    exact q H3 (e2.trans e3)⟩
theorem neIN_ {a : Addr} {ns ms : List Int} (ha : Ev ta σ H (.ref a)) (h1 : IL H a ns) (hb : EvL tb σ H (Ints ms)) : Ev (tOp (rNeD K) ta tb) σ H (.bl (!decide (ns = ms))) := fun H1 e Q q =>
  ha H1 e _ fun H2 e2 => hb H2 (e.trans e2) _ fun b H3 _ e3 h2 => ⟨dI ns, dI ms, dp_I (((e.trans e2).trans e3) a _ h1), dp_I h2, sh_I _, sh_I _, by
    rw [eqv_I]
    exact q H3 (e2.trans e3)⟩
theorem eqIN_ {a : Addr} {ns ms : List Int} (ha : Ev ta σ H (.ref a)) (h1 : IL H a ns) (hb : EvL tb σ H (Ints ms)) : Ev (tOp (rEqD K) ta tb) σ H (.bl (decide (ns = ms))) := fun H1 e Q q =>
  ha H1 e _ fun H2 e2 => hb H2 (e.trans e2) _ fun b H3 _ e3 h2 => ⟨dI ns, dI ms, dp_I (((e.trans e2).trans e3) a _ h1), dp_I h2, sh_I _, sh_I _, by
    rw [eqv_I]
    exact q H3 (e2.trans e3)⟩
/-- [3, 9, ..][i] -/
theorem menu_ {ns : List Int} {i : Int} (h : EvL ta σ H (Ints ns)) (hi : ∀ H1, Ex H H1 → Ev tb σ H1 (.int i)) (h0 : 0 ≤ i) (h1 : i < (ns.length : Int)) : Ev (tOp (rIxL K) ta tb) σ H (.int (gi ns i.toNat)) :=
  ev_opL1 h hi fun p H1 hp _ => rv_ixI hp h0 h1
theorem ints_erase : ∀ (ns : List Int) (k : Nat), (Ints ns).eraseIdx k = Ints (ns.eraseIdx k)
  | [], k => rfl
  | x :: xs, 0 => rfl
  | x :: xs, k + 1 => congrArg (V.int x :: ·) (ints_erase xs k)
theorem ints_set : ∀ (ns : List Int) (k : Nat) (v : Int), (Ints ns).set k (.int v) = Ints (ns.set k v)
  | [], k, v => rfl
  | x :: xs, 0, v => rfl
  | x :: xs, k + 1, v => congrArg (V.int x :: ·) (ints_set xs k v)
/-- xs.pop(i) as a statement -/
theorem s_popAt {D : Ends} {l : Addr} {ns : List Int} {i : Int} (hl : IL H l ns) (ha : Ev ta σ H (.ref l)) (h : Ev te σ H (.int i)) (h0 : 0 ≤ i) (h1 : i < (ns.length : Int)) (hz : ns.length < 1000000) (k : ∀ H1, Ex H H1 → D.nx σ (upd H1 l (.lst (Ints (ns.eraseIdx i.toNat))))) :
    tDrop (tBM K "list" rPopAt ta (tCons te tNil)) D σ H := ha H (Ex.refl H) _ fun H1 e1 =>
  ⟨Or.inl ⟨rfl, Ints ns, sq_of (e1 l _ hl)⟩, h H1 e1 _ fun H2 e2 => by
    refine ⟨l, Ints ns, i, i.toNat, .int (gi ns i.toNat), rfl, rfl, e2 l _ (e1 l _ hl), by omega, by omega, ?_, ?_, ?_⟩
    · rw [List.length_map]
      exact (ixN_seq (ix_at h0 h1)).1
    · have hk : i.toNat < ns.length := by omega
      rw [List.getElem?_map, gi_get hk]
      rfl
    · rw [ints_erase]
      exact k H2 (e1.trans e2)⟩
/-- xs[i] = n -/
theorem s_setI {D : Ends} {l : Addr} {ns : List Int} {i v : Int} (hl : IL H l ns) (h : Ev te σ H (.int v)) (ho : Ev ta σ H (.ref l)) (hi : Ev tb σ H (.int i)) (h0 : 0 ≤ i) (h1 : i < (ns.length : Int)) (k : ∀ H1, Ex H H1 → D.nx σ (upd H1 l (.lst (Ints (ns.set i.toNat v))))) :
    tAsg te (gSub ta tb rSetL) D σ H := h H (Ex.refl H) _ fun H1 e1 => ho H1 e1 _ fun H2 e2 => hi H2 (e1.trans e2) _ fun H3 e3 => by
  refine ⟨l, Ints ns, i, i.toNat, rfl, rfl, ((e1.trans e2).trans e3) l _ hl, ?_, ?_⟩
  · rw [List.length_map]
    exact ix_at h0 h1
  · show D.nx σ (upd H3 l (.lst ((Ints ns).set i.toNat (.int v))))
    rw [ints_set]
    exact k H3 ((e1.trans e2).trans e3)
/-- max(xs, default=d), min(xs, default=d) -/
theorem ev_maxD {a : Addr} {ns : List Int} {d : Int} (ha : Ev ta σ H (.ref a)) (h : IL H a ns) : Ev (tCKw (rmaxDf K) (tCons ta tNil) (tCons (tC (.int d)) tNil)) σ H (.int (maxD d ns)) := fun H1 e Q q =>
  ha H1 e _ fun H2 e2 => ⟨a, ns, d, rfl, rfl, sq_of ((e.trans e2) a _ h), fun z => by
    subst z
    exact q H2 e2, fun m h1 h2 => by
    rw [maxD_eq h1 h2 (d := d)]
    exact q H2 e2⟩
theorem ev_minD {a : Addr} {ns : List Int} {d : Int} (ha : Ev ta σ H (.ref a)) (h : IL H a ns) : Ev (tCKw (rminDf K) (tCons ta tNil) (tCons (tC (.int d)) tNil)) σ H (.int (minD d ns)) := fun H1 e Q q =>
  ha H1 e _ fun H2 e2 => ⟨a, ns, d, rfl, rfl, sq_of ((e.trans e2) a _ h), fun z => by
    subst z
    exact q H2 e2, fun m h1 h2 => by
    rw [minD_eq h1 h2 (d := d)]
    exact q H2 e2⟩
/-- if t: a, between other statements: M holds behind it either way -/
theorem s_cutif {D : Ends} {t : TT} {u w rest : TS} {b : Bool} (M : L2.St → Hp → Prop) (h : EvT t σ H b) (h1 : b = true → ∀ H1, Ex H H1 → u { D with nx := M } σ H1) (h2 : b = false → ∀ H1, Ex H H1 → w { D with nx := M } σ H1)
    (k : ∀ σ' H', M σ' H' → rest D σ' H') : tCut (tIfS t u w) rest D σ H := ⟨M, s_if h h1 h2, k⟩
theorem cw_ex {H H1 H2 : Hp} {f : Nat → Bool} {v : Nat → V} {Dl : Addr} {i : Nat} (p : Cw H f v Dl i H1) (e : Ex H1 H2) : Cw H f v Dl i H2 := ⟨p.1, p.2.1.trans e, e Dl _ p.2.2⟩
/-- a comprehension over enumerate(xs): two names -/
theorem el_lcE {a : Addr} {xs : List V} {tA : TA} {tt : TT} {j0 j1 : Nat} {vs : List Nat} (f : Nat → Bool) (v : Nat → V) (h : EvA tA σ H [.ref a]) (hx : Lst H a xs) (hz : xs.length ≤ 40000) (hw : ∀ x y, wipe (((wipe σ vs).set j0 (some x)).set j1 (some y)) vs = wipe σ vs)
    (ht : ∀ (i : Nat) (x : V) H1, Ex H H1 → xs[i]? = some x → EvT tt (((wipe σ vs).set j0 (some (.int (i : Nat)))).set j1 (some x)) H1 (f i))
    (he : ∀ (i : Nat) (x : V) H1, Ex H H1 → xs[i]? = some x → f i = true → Ev te (((wipe σ vs).set j0 (some (.int (i : Nat)))).set j1 (some x)) H1 (v i)) :
    EvL (tLc (iEnum K tA) (gTup K 2 (gCons (gName j0) (gCons (gName j1) gNil))) tt te vs) σ H (given xs.length f v) := fun H0 e Q q => h H0 e _ fun H1 e1 => ⟨a, xs, rfl, sq_of ((e.trans e1) a _ hx), fun Dl hD =>
  lc_it (walk_enum (xs := xs)) (Cw H1 f v Dl) ⟨hD, Ex.new hD, upd_same⟩ (fun i H' _ p => sq_of (((e.trans e1).trans p.2.1) a _ hx)) (fun i z H2 H3 hi p y => by
    obtain ⟨T, x, y, rfl, nT, rfl, h1, h2⟩ := y
    cases (Option.some.inj h1)
    have p3 : Cw H1 f v Dl i (upd H2 T (.tup [.int (i : Nat), y])) := cw_ex p (Ex.new nT)
    refine ⟨T, [.int (i : Nat), y], rfl, st_of upd_same, rfl, _, _, rfl, _, _, rfl, rfl, hw _ _, ?_⟩
    exact cw_turn p3 (by omega) (ht i y H1 (e.trans e1) h2) (fun hf => he i y H1 (e.trans e1) h2 hf)) (fun H' p => q Dl H' (fresh_back e1 p.1) (e1.trans p.2.1) p.2.2)⟩
/-- a comprehension over reversed(xs) -/
theorem el_lcRev {a : Addr} {xs : List V} {tA : TA} {tt : TT} {j : Nat} {vs : List Nat} (f : Nat → Bool) (v : Nat → V) (h : EvA tA σ H [.ref a]) (hx : Lst H a xs) (hz : xs.length ≤ 40000) (hw : ∀ x, wipe ((wipe σ vs).set j (some x)) vs = wipe σ vs)
    (ht : ∀ (i : Nat) (x : V) H1, Ex H H1 → i < xs.length → xs[xs.length - 1 - i]? = some x → EvT tt ((wipe σ vs).set j (some x)) H1 (f i))
    (he : ∀ (i : Nat) (x : V) H1, Ex H H1 → i < xs.length → xs[xs.length - 1 - i]? = some x → f i = true → Ev te ((wipe σ vs).set j (some x)) H1 (v i)) :
    EvL (tLc (iRev K tA) (gName j) tt te vs) σ H (given xs.length f v) := fun H0 e Q q => h H0 e _ fun H1 e1 => ⟨a, xs, rfl, sq_of ((e.trans e1) a _ hx), fun Dl hD =>
  lc_it (walk_rev (xs := xs)) (Cw H1 f v Dl) ⟨hD, Ex.new hD, upd_same⟩ (fun i H' _ p => sq_of (((e.trans e1).trans p.2.1) a _ hx)) (fun i z H2 H3 hi p y => by
    obtain ⟨rfl, h2⟩ := y
    exact ⟨hw _, cw_turn p (by omega) (ht i z H1 (e.trans e1) hi h2) (fun hf => he i z H1 (e.trans e1) hi h2 hf)⟩) (fun H' p => q Dl H' (fresh_back e1 p.1) (e1.trans p.2.1) p.2.2)⟩
theorem given_ints (n : Nat) (f : Nat → Bool) (g : Nat → Int) : given n f (fun i => .int (g i)) = Ints (((List.range n).filter f).map g) := by
  simp [given, Ints]
theorem given_all (n : Nat) (v : Nat → V) : given n (fun _ => true) v = (List.range n).map v := by
  unfold given
  rw [List.filter_eq_self.mpr (fun _ _ => rfl)]
/-- t[i] of a tuple, xs[i] of any list -/
theorem ixT_ {p : Addr} {xs : List V} {i : Int} {v : V} (h : H p = some (.tup xs)) (ha : Ev ta σ H (.ref p)) (hi : Ev tb σ H (.int i)) (hv : atI xs i = some v) : Ev (tOp (rIxT K) ta tb) σ H v := ev_op ha hi (rv_ixT (st_of h) hv)
theorem ixV_ {p : Addr} {xs : List V} {i : Int} {v : V} (h : Lst H p xs) (ha : Ev ta σ H (.ref p)) (hi : Ev tb σ H (.int i)) (hv : atI xs i = some v) : Ev (tOp (rIxL K) ta tb) σ H v := ev_op ha hi (rv_ixL (sq_of h) hv)
theorem isN_ {x : V} (ha : Ev ta σ H x) : Ev (tOp (fun x y H Q => y = .non ∧ Q (.bl (decide (x = .non))) H) ta (tC .non)) σ H (.bl (decide (x = .non))) := fun H1 e Q q => ha H1 e _ fun H2 e2 => ⟨rfl, q H2 e2⟩
theorem notN_ {x : V} (ha : Ev ta σ H x) : Ev (tOp (fun x y H Q => y = .non ∧ Q (.bl (!decide (x = .non))) H) ta (tC .non)) σ H (.bl (!decide (x = .non))) := fun H1 e Q q => ha H1 e _ fun H2 e2 => ⟨rfl, q H2 e2⟩
/-! ### lists of lists of ints as data -/
def dLL (ls : List (List Int)) : PyData := .list (ls.map dI)
theorem lay_LL : ∀ ls : List (List Int), PyData.canLayAll0 (ls.map dI) = true
  | [] => rfl
  | x :: xs => by simp [PyData.canLayAll0, PyData.canLay0, dI, lay_Is, lay_LL xs]
theorem depth_LL : ∀ ls : List (List Int), PyData.depthAll (ls.map dI) ≤ 1
  | [] => Nat.zero_le _
  | x :: xs => by
    have h := depth_LL xs
    simp [PyData.depthAll, PyData.depth, dI, depth_Is]
    omega
theorem sh_LL (ls : List (List Int)) : SeqAt.shaped (dLL ls) = true := by
  have h := depth_LL ls
  simp [SeqAt.shaped, dLL, PyData.canLay0, PyData.depth, lay_LL]
  omega
theorem eqvs_LL : ∀ ns ms : List (List Int), PyData.eqvAll (ns.map dI) (ms.map dI) = decide (ns = ms)
  | [], [] => by simp [PyData.eqvAll]
  | [], _ :: _ => by simp [PyData.eqvAll]
  | _ :: _, [] => by simp [PyData.eqvAll]
  | x :: xs, y :: ys => by
    rw [Bool.eq_iff_iff]
    simp [PyData.eqvAll, eqv_I, eqvs_LL xs ys]
theorem eqv_LL (ns ms : List (List Int)) : PyData.eqv (dLL ns) (dLL ms) = decide (ns = ms) := by
  simp [dLL, PyData.eqv, eqvs_LL]
/-- lists of ints at these addresses -/
inductive ILs (H : Hp) : List V → List (List Int) → Prop where
  | nil : ILs H [] []
  | cons {a : Addr} {ns : List Int} {vs : List V} {ls : List (List Int)} : IL H a ns → ILs H vs ls → ILs H (.ref a :: vs) (ns :: ls)
theorem ILs.dp {vs : List V} {ls : List (List Int)} (h : ILs H vs ls) : DpAll K H vs (ls.map dI) := by
  induction h with
  | nil => exact .nil
  | cons h _ ih => exact .cons (dp_I h) ih
theorem ILs.ex {vs : List V} {ls : List (List Int)} (h : ILs H vs ls) (e : Ex H H') : ILs H' vs ls := by
  induction h with
  | nil => exact .nil
  | cons h _ ih => exact .cons (e _ _ h) ih
theorem dp_LL {p : Addr} {vs : List V} {ls : List (List Int)} (h : Lst H p vs) (hl : ILs H vs ls) : Dp K H (.ref p) (dLL ls) := .lst (sq_of h) hl.dp
theorem neLL_ {a : Addr} {vs ws : List V} {ns ms : List (List Int)} (ha : Ev ta σ H (.ref a)) (h1 : Lst H a vs) (l1 : ILs H vs ns) (hb : EvL tb σ H ws) (l2 : ILs H ws ms) : Ev (tOp (rNeD K) ta tb) σ H (.bl (!decide (ns = ms))) := fun H1 e Q q =>
  ha H1 e _ fun H2 e2 => hb H2 (e.trans e2) _ fun b H3 _ e3 h2 => ⟨dLL ns, dLL ms, dp_LL (((e.trans e2).trans e3) a _ h1) (l1.ex ((e.trans e2).trans e3)), dp_LL h2 (l2.ex ((e.trans e2).trans e3)), sh_LL _, sh_LL _, by
    rw [eqv_LL]
    exact q H3 (e2.trans e3)⟩
theorem eqLL_ {a : Addr} {vs ws : List V} {ns ms : List (List Int)} (ha : Ev ta σ H (.ref a)) (h1 : Lst H a vs) (l1 : ILs H vs ns) (hb : EvL tb σ H ws) (l2 : ILs H ws ms) : Ev (tOp (rEqD K) ta tb) σ H (.bl (decide (ns = ms))) := fun H1 e Q q =>
  ha H1 e _ fun H2 e2 => hb H2 (e.trans e2) _ fun b H3 _ e3 h2 => ⟨dLL ns, dLL ms, dp_LL (((e.trans e2).trans e3) a _ h1) (l1.ex ((e.trans e2).trans e3)), dp_LL h2 (l2.ex ((e.trans e2).trans e3)), sh_LL _, sh_LL _, by
    rw [eqv_LL]
    exact q H3 (e2.trans e3)⟩
theorem Ex.at {a : Addr} {o : HO} (e : Ex H H') (h : H a = some o) : H' a = some o := e a o h
theorem ev_abs {i : Int} (ha : Ev ta σ H (.int i)) : Ev (tCB (fun xs H Q => ∃ i, xs = [.int i] ∧ Q (.int (if i < 0 then -i else i)) H) (tCons ta tNil)) σ H (.int (ab i)) := fun H1 e Q q =>
  ha H1 e _ fun H2 e2 => ⟨i, rfl, q H2 e2⟩
theorem el_sorted {a : Addr} {ns : List Int} (ha : Ev ta σ H (.ref a)) (h : IL H a ns) : EvL (tCB (rSortedI K) (tCons ta tNil)) σ H (Ints (sortI ns)) := fun H1 e Q q =>
  ha H1 e _ fun H2 e2 => ⟨a, ns, rfl, sq_of ((e.trans e2) a _ h), fun ns' p hp hu hn => by
    rw [sortI_eq hp hu]
    exact q p _ (fresh_back e2 hn) (e2.trans (Ex.new hn)) upd_same⟩
theorem el_sortedN {ns : List Int} (ha : EvL ta σ H (Ints ns)) : EvL (tCB (rSortedI K) (tCons ta tNil)) σ H (Ints (sortI ns)) := fun H1 e Q q =>
  ha H1 e _ fun a H2 _ e2 h2 => ⟨a, ns, rfl, sq_of h2, fun ns' p hp hu hn => by
    rw [sortI_eq hp hu]
    exact q p _ (fresh_back e2 hn) (e2.trans (Ex.new hn)) upd_same⟩
end
end Rg

set_option Elab.async false
set_option linter.all false
set_option maxRecDepth 100000
set_option maxHeartbeats 1000000
/-! Rg, part Set: set(xs) of a list of ints, its length, its sorted list. -/
namespace L2
open PySem PySem.Spec PyProof.Rows
/-- the empty set that a call of set begins with -/
abbrev newS (w : World) : Obj := { cls := .type "set", dict := none, data := .set #[] 0 (.fresh 0 0 (!w.params.followText "set-order")) }
section
variable {P : Program} {w : World} {A : Around} {E : Value → Shared → Prop} {s : Shared}
set_option maxHeartbeats 3200000 in
theorem set_of_list {l : Addr} {items : Array Value} (ns : List Int) {Q : Value → Shared → Prop} (free : A.handled = none) (isL : s.heap.IsList l items) (allI : IntsAre items.toList ns) (room : ns.length + 1 < scanBound)
    (then_ : ∀ (g : Heap) (tk c : Nat), SetR w g s.heap.objs.size (fun j => decide (j ∈ ns)) c → (∀ b o, s.heap.get? b = some o → g.get? b = some o) → Q (.ref s.heap.objs.size) { s with heap := g, toks := tk }) :
    wpAny (model P w) A (call (.type "set") [.ref l]) Q E s := by
  have size : items.size = ns.length := by have q := IntsAre.length allI; rwa [Array.length_toList] at q
  have ⟨c0, tl0, a1⟩ := F.called_set.mro
  have a2 := F.called_set.made
  have a3 := F.called_set.sub
  have a4 := F.called_set.notType
  have a5 := F.called_set.canCreate
  have a6 := F.typeCall_set_1 (.ref l)
  have a7 := F.called_set.init.lookup
  have a8 := F.called_set.init.bind (.ref s.heap.objs.size)
  refine wpAny_call (codeAny_of_tree ?_)
  show wpAny _ _ (callAny (.type "set") _) _ _ _
  refine wpAny_pure ⟨Code.quiet_builtin _ (by decide +kernel), codeAny_builtin F.entry_type_call ?_⟩
  rw [Around.under_plain (weight_type_call_type "set" [.ref l] []) rfl]
  repeat (any_goals (first | assumption | wp_step))
  refine codeAny_mono (code_set_led1 (.ref l) (E := E) (Q₁ := fun x t => x = .ref s.heap.objs.size ∧ t = { s with heap := s.heap.push (newS w) }) ⟨rfl, rfl⟩) fun r t hr => ?_
  cases r with
  | error e => exact hr
  | ok fl =>
    cases fl with
    | ret x =>
      obtain ⟨rfl, rfl⟩ := hr
      have atS : (s.heap.push (newS w)).get? s.heap.objs.size = some (newS w) := Heap.get?_push_size _ rfl
      have ty : Shared.TypeIs { s with heap := s.heap.push (newS w) } (.ref s.heap.objs.size) "set" := ⟨_, atS, rfl⟩
      repeat (any_goals (first | assumption | wp_step))
      refine codeAny_mono (codeAny_call_builtin (R := wants (fun r u => r = .none ∧ ∃ g tk c, u = { s with heap := g, toks := tk } ∧ SetR w g s.heap.objs.size (fun j => decide (j ∈ ns)) c ∧ (∀ b o, s.heap.get? b = some o → g.get? b = some o)) E) F.called_set.init.plain F.entry_set_init (check_set_init_1 ty ?_)) fun r u hu => ?_
      · obtain ⟨⟨lc, ld, la, ls⟩, lo, l1, ln, l2⟩ := isL
        simp only at l1 l2
        subst l1 l2
        have lt : l < s.heap.objs.size := Heap.lt_size lo
        have lo1 : (s.heap.push (newS w)).get? l = some { cls := .type "list", dict := ld, data := .seq items ln, slots := ls } := Heap.get?_push_of_some _ lo
        have b1 := F.sub_list_set
        have b2 := F.sub_list_frozenset
        have b3 : (Value.type "list" == Value.type "dict") = false := by decide
        have isL1 : (s.heap.push (newS w)).IsList l items := ⟨_, lo1, rfl, ln, rfl⟩
        unfold Builtin.«set.__init__» noKeywords Builtin.Frozenset.updateFrom
        generalize e : pyIter = it
        wp_walk
        subst e
        refine wpAny_pyIter_list isL1 (wpAny_bind (wpAny_runValue ?_))
        have free3 : A.in1.in1.in1.handled = none := by simp [free]
        have two : (s.heap.push (newS w)).objs.size = s.heap.objs.size + 1 := Heap.size_push ..
        have ne1 : l ≠ (s.heap.push (newS w)).objs.size := by rw [two]; exact Nat.ne_of_lt (Nat.lt_succ_of_lt lt)
        have ne2 : s.heap.objs.size ∉ [(s.heap.push (newS w)).objs.size, l] := by
          rw [two]
          simp only [List.mem_cons, List.not_mem_nil, or_false, not_or]
          exact ⟨Nat.ne_of_lt (Nat.lt_succ_self _), Nat.ne_of_gt lt⟩
        refine set_update_ints (Walks.toS (Walks.list free3 _ l ne1 items)) s.heap.objs.size ne2 ns size room (fun i v hv => ?vals) (items.size - 0) 0 _ (by omega) (Nat.zero_le _) ⟨⟨_, Heap.get?_push_size _ rfl, rfl, rfl⟩, isL1.push _⟩ ?start ?stop
        case vals =>
          have hi : i < ns.length := by rw [← size]; exact (Array.getElem?_eq_some_iff.mp hv).1
          obtain ⟨t, q⟩ := PyProof.Rows.IntsAre.int_at allI i v (by rw [Array.getElem?_toList]; exact hv)
          refine ⟨ns[i], t, List.getElem?_eq_getElem hi, ?_⟩
          rw [q, List.getD_eq_getElem?_getD, List.getElem?_eq_getElem hi] <;> rfl
        case start => exact ⟨0, Nat.le_refl 0, setR_new_at (Heap.get?_push_of_some _ atS)⟩
        case stop =>
          intro u c m _ R
          obtain ⟨g, g2, d2, t2, o2⟩ := u
          obtain rfl : g2 = s.gens := m.gens
          obtain rfl : d2 = s.drawn := m.drawn
          obtain rfl : o2 = s.os := m.os
          show wpAny _ _ _ _ _ _
          refine wpAny_pure ?_
          show wpAny _ _ (ret Value.none) _ _ _
          refine wpAny_pure ⟨rfl, g, t2, c, rfl, R, fun b o q => ?_⟩
          have lb := Heap.lt_size q
          refine m.heap b o ?_ (Heap.get?_push_of_some _ (Heap.get?_push_of_some _ q))
          rw [two]
          simp only [List.mem_cons, List.not_mem_nil, or_false, not_or]
          exact ⟨Nat.ne_of_lt lb, Nat.ne_of_lt (Nat.lt_succ_of_lt lb)⟩
      · cases r with
        | error e => exact hu
        | ok fl2 =>
          cases fl2 with
          | ret x =>
            obtain ⟨rfl, g, tk, c, rfl, R, keep⟩ := hu
            repeat (any_goals (first | assumption | wp_step))
            exact then_ _ _ _ R keep
          | _ => exact hu.elim
    | _ => exact hr.elim
end
/-- set(xs), ints: its members, how many -/
def rSetI (K : PySem.W.Frag) (w : World) : List V → Hp → VK → Prop := fun xs H Q => ∃ (p : Addr) (ns : List Int), xs = [.ref p] ∧ SqL K H p (ns.map V.int) ∧ ns.length ≤ 4000 ∧
  ∀ (a : Addr) (c : Nat), H a = none → (∃ ks : List Int, ks.Nodup ∧ (∀ k, k ∈ ks ↔ k ∈ ns) ∧ ks.length = c) → Q (.ref a) (upd H a (SetO w a (fun j => decide (j ∈ ns)) c))
theorem cr_setI {X : Cx} (hc : X.calm = true) : CallR X (.type "set") (rSetI X.K X.w) := by
  intro pins s σ H xs us Q I r h
  obtain ⟨p, ns, rfl, hs, hl, q⟩ := h
  obtain ⟨its, rv, pl, hz⟩ := I.list hs
  rw [Vals.ref1 r]
  refine set_of_list ns (I.ok.hd hc) pl.isList (by simpa using rv.ints) (by unfold scanBound; omega) fun g tk c R keep => ?_
  refine ⟨.ref _, upd H s.heap.objs.size (SetO X.w s.heap.objs.size (fun j => decide (j ∈ ns)) c), I.laid (t' := tk) keep (Nat.le_refl _) (setO_new R), rfl, q _ c (I.hok.fresh (Nat.le_refl _)) ?_⟩
  obtain ⟨o, es, ep, t, ho, hx, hd, gd, nd, hm, hb, hf, hn, _⟩ := R
  exact ⟨es.toList.map keyOf, nd, fun k => by rw [← hm]; simp, by rw [List.length_map, Array.length_toList, hn]⟩
/-- len of a set of ints -/
theorem cr_lenSet {X : Cx} : CallR X (.builtin "len") (fun xs H Q => ∃ (a : Addr) (S : Int → Bool) (n : Nat), xs = [.ref a] ∧ H a = some (SetO X.w a S n) ∧ Q (.int n) H) := by
  intro pins s σ H xs us Q I r h
  obtain ⟨a, S, n, rfl, ha, q⟩ := h
  rw [Vals.ref1 r]
  obtain ⟨o, es, ep, t, ho, hx, hd, gd, nd, hm, hb, hf, hn, _⟩ := setO_get I ha
  refine call_len_set ho hx hd hf (by unfold scanBound at hb; omega) ⟨.int n, H, I.tok _, ⟨_, by rw [hn]⟩, q⟩
end L2

set_option Elab.async false
set_option linter.all false
set_option maxRecDepth 100000
set_option maxHeartbeats 1000000
/-! Rg, part T: places to try, the trials as a forest, and how a forest stands in the heap. -/
namespace Rg
open PySem PySem.Spec PyProof.Rows L2 Evl
/-! ### sorted, none twice -/
def insD (x : Int) : List Int → List Int
  | [] => [x]
  | y :: ys => if x < y then x :: y :: ys else if x = y then y :: ys else y :: insD x ys
def sortD : List Int → List Int
  | [] => []
  | x :: xs => insD x (sortD xs)
theorem insD_mem {x z : Int} : ∀ {l : List Int}, z ∈ insD x l ↔ z = x ∨ z ∈ l
  | [] => by simp [insD]
  | y :: ys => by
    unfold insD
    split
    · simp
    · split
      · rename_i h
        subst h
        simp
      · rw [List.mem_cons, insD_mem, List.mem_cons]
        exact ⟨fun h => by rcases h with h | h | h <;> simp [h], fun h => by rcases h with h | h | h <;> simp [h]⟩
theorem insD_up {x : Int} : ∀ {l : List Int}, l.Pairwise (· < ·) → (insD x l).Pairwise (· < ·)
  | [], _ => List.pairwise_singleton _ _
  | y :: ys, h => by
    obtain ⟨h1, h2⟩ := List.pairwise_cons.mp h
    unfold insD
    split
    · rename_i c
      refine List.pairwise_cons.mpr ⟨fun z hz => ?_, h⟩
      rcases List.mem_cons.mp hz with rfl | hz
      · exact c
      · exact Int.lt_trans c (h1 z hz)
    · split
      · exact h
      · refine List.pairwise_cons.mpr ⟨fun z hz => ?_, insD_up h2⟩
        rcases insD_mem.mp hz with rfl | hz
        · omega
        · exact h1 z hz
theorem sortD_mem {z : Int} : ∀ {l : List Int}, z ∈ sortD l ↔ z ∈ l
  | [] => Iff.rfl
  | x :: xs => by rw [sortD, insD_mem, sortD_mem, List.mem_cons]
theorem sortD_up : ∀ l : List Int, (sortD l).Pairwise (· < ·)
  | [] => .nil
  | x :: xs => insD_up (sortD_up xs)
theorem perm_mem {a b : List Int} (ha : a.Nodup) (hb : b.Nodup) (h : ∀ z, z ∈ a ↔ z ∈ b) : a.Perm b := (List.perm_ext_iff_of_nodup ha hb).mpr h
theorem sortD_eq {a ns : List Int} (ha : a.Pairwise (· < ·)) (h : ∀ z, z ∈ a ↔ z ∈ ns) : a = sortD ns :=
  up_unique (perm_mem (up_nodup ha) (up_nodup (sortD_up ns)) fun z => by rw [h, sortD_mem]) (ha.imp fun h => by omega) ((sortD_up ns).imp fun h => by omega)
theorem sortD_id {a : List Int} (ha : a.Pairwise (· < ·)) : sortD a = a := (sortD_eq ha fun _ => Iff.rfl).symm
theorem insD_len (x : Int) : ∀ l : List Int, (insD x l).length ≤ l.length + 1
  | [] => Nat.le_refl _
  | y :: ys => by
    have := insD_len x ys
    unfold insD
    split
    · simp
    · split
      · simp
      · simp
        omega
theorem sortD_len : ∀ l : List Int, (sortD l).length ≤ l.length
  | [] => Nat.le_refl _
  | x :: xs => by
    have h1 := insD_len x (sortD xs)
    have h2 := sortD_len xs
    rw [sortD, List.length_cons]
    omega
/-! ### places to try -/
def topI (l : List Int) : Int := gi l (l.length - 1)
def leftP (gs here : List Int) : List Int := (wo gs (btw here)).1
def lackP (gs here : List Int) : Option Int := (wo gs (btw here)).2
def nextP (gs here : List Int) : List Int := if leftP gs here = [] then [] else (sortD [topI (leftP gs here), maxD 0 here - topI (leftP gs here)]).filter fun x => !decide (x ∈ here)
theorem nextP_nin {gs here : List Int} {x : Int} (h : x ∈ nextP gs here) : x ∉ here := by
  unfold nextP at h
  split at h
  · cases h
  · simpa using (List.mem_filter.mp h).2
theorem nextP_len (gs here : List Int) : (nextP gs here).length ≤ 2 := by
  unfold nextP
  split
  · exact Nat.zero_le _
  · exact Nat.le_trans (List.length_filter_le _ _) (sortD_len _)
theorem wo_full : ∀ (ds left : List Int), (wo left ds).2 = none → (wo left ds).1.length + ds.length = left.length
  | [], left, _ => rfl
  | d :: ds, left, h => by
    by_cases c : d ∈ left
    · rw [wo_in c] at h ⊢
      have := wo_full ds (left.erase d) h
      have h2 := List.length_erase_of_mem c
      have h3 := List.length_pos_of_mem c
      rw [List.length_cons]
      omega
    · rw [wo_out c] at h
      cases h
theorem leftP_len {gs here : List Int} (h : lackP gs here = none) : 2 * (leftP gs here).length + here.length * here.length = 2 * gs.length + here.length := by
  have h1 := wo_full (btw here) gs h
  have h2 := btw_len2 here
  unfold leftP
  omega
/-- where something may be tried, there are at most six places -/
theorem next_few {gs here : List Int} (hl : gs.length ≤ 21) (h7 : here.length ≤ 7) (h : lackP gs here = none) (hn : nextP gs here ≠ []) : here.length ≤ 6 := by
  have h1 := leftP_len h
  by_cases c : here.length = 7
  · rw [c] at h1
    have h0 : leftP gs here = [] := List.eq_nil_of_length_eq_zero (by omega)
    unfold nextP at hn
    rw [if_pos h0] at hn
    exact absurd rfl hn
  · omega
/-! ### forests: trials side by side -/
inductive Fo where
  | nil : Fo
  | cons (place : Int) (lack : Option Int) (sub rest : Fo) : Fo
def fo (f : Int → Option Int × Fo) : List Int → Fo
  | [] => .nil
  | x :: xs => .cons x (f x).1 (f x).2 (fo f xs)
def subs (gs : List Int) : Nat → List Int → Fo
  | 0, _ => .nil
  | n + 1, here => if (lackP gs here).isSome then .nil else fo (fun x => (lackP gs (here ++ [x]), subs gs n (here ++ [x]))) (nextP gs here)
def trF (gs : List Int) (n : Nat) (places : List Int) (x : Int) : Option Int × Fo := (lackP gs (places ++ [x]), subs gs n (places ++ [x]))
theorem subs_lack {gs here : List Int} {n : Nat} (h : lackP gs here ≠ none) : subs gs n here = .nil := by
  cases n with
  | zero => rfl
  | succ n =>
    rw [subs, if_pos]
    cases e : lackP gs here with
    | none => exact absurd e h
    | some d => rfl
theorem subs_on {gs here : List Int} {n : Nat} (h : lackP gs here = none) : subs gs (n + 1) here = fo (trF gs n here) (nextP gs here) := by
  rw [subs, h]
  rfl
theorem subs_end {gs here : List Int} {n : Nat} (h : nextP gs here = []) : subs gs n here = .nil := by
  cases n with
  | zero => rfl
  | succ n =>
    rw [subs, h]
    cases lackP gs here <;> rfl
/-- how deep -/
def Fo.dep : Fo → Nat
  | .nil => 0
  | .cons _ _ s r => max (s.dep + 1) r.dep
theorem fo_dep {f : Int → Option Int × Fo} {n : Nat} : ∀ {xs : List Int}, (∀ x ∈ xs, (f x).2.dep + 1 ≤ n) → (fo f xs).dep ≤ n
  | [], _ => Nat.zero_le _
  | x :: xs, h => by
    have h1 := h x List.mem_cons_self
    have h2 := fo_dep (xs := xs) fun y hy => h y (List.mem_cons_of_mem _ hy)
    show max ((f x).2.dep + 1) (fo f xs).dep ≤ n
    omega
theorem subs_dep (gs : List Int) : ∀ (n : Nat) (here : List Int), (subs gs n here).dep ≤ n
  | 0, _ => Nat.le_refl _
  | n + 1, here => by
    rw [subs]
    split
    · exact Nat.zero_le _
    · exact fo_dep fun x _ => Nat.succ_le_succ (subs_dep gs n (here ++ [x]))
def ends (gs : List Int) : List Int := [0, topI gs]
def trialsF (gs : List Int) : Fo := if gs = [] then .nil else fo (trF gs 4 (ends gs)) (nextP gs (ends gs))
theorem trialsF_dep (gs : List Int) : (trialsF gs).dep ≤ 5 := by
  unfold trialsF
  split
  · exact Nat.zero_le _
  · exact fo_dep fun x _ => Nat.succ_le_succ (subs_dep gs 4 _)
theorem btw_two (t : Int) (h : 0 ≤ t) : btw [0, t] = [t] := by
  have e : allD [0, t] 2 = [t] := by
    have : ab (t - 0) = t := by
      unfold ab
      split <;> omega
    simp [allD, rowD, gi, List.range_succ]
    simpa using this
  rw [btw, show ([0, t] : List Int).length = 2 from rfl, e, sortI, List.mergeSort_singleton]
theorem topI_mem {gs : List Int} (h : gs ≠ []) : topI gs ∈ gs := by
  have := List.length_pos_iff.mpr h
  exact gi_mem (by omega)
theorem ends_lack {gs : List Int} (h : gs ≠ []) (h1 : ∀ d ∈ gs, 1 ≤ d) : lackP gs (ends gs) = none := by
  have hm := topI_mem h
  have := h1 _ hm
  rw [lackP, ends, btw_two _ (by omega), wo_in hm]
  rfl
theorem ends_nodup {gs : List Int} (h : gs ≠ []) (h1 : ∀ d ∈ gs, 1 ≤ d) : (ends gs).Nodup := by
  have := h1 _ (topI_mem h)
  simp [ends]
  omega
theorem gapsOk.pos {gs : List Int} (h : gapsOk gs) : ∀ d ∈ gs, 1 ≤ d := fun d hd => by
  obtain ⟨k, hk, rfl⟩ := List.getElem_of_mem hd
  have := (h k hk).1
  simpa [gi, List.getD_eq_getElem?_getD, List.getElem?_eq_getElem hk] using this
/-! ### a forest in the heap: all its objects new beside B -/
inductive FoAt (B H : Hp) : List V → Fo → Prop where
  | nil : FoAt B H [] .nil
  | cons {p l : Addr} {x : Int} {o : Option Int} {vs ws : List V} {s r : Fo} : B p = none → B l = none → H p = some (.tup [.int x, optV o, .ref l]) → H l = some (.lst vs) → FoAt B H vs s → FoAt B H ws r → FoAt B H (.ref p :: ws) (.cons x o s r)
theorem FoAt.go {B H B' H' : Hp} {vs : List V} {t : Fo} (h : FoAt B H vs t) (b : ∀ a, B a = none → B' a = none) (e : ∀ a o, B a = none → H a = some o → H' a = some o) : FoAt B' H' vs t := by
  induction h with
  | nil => exact .nil
  | cons h1 h2 h3 h4 _ _ ih1 ih2 => exact .cons (b _ h1) (b _ h2) (e _ _ h1 h3) (e _ _ h2 h4) ih1 ih2
theorem FoAt.ex {B H H' : Hp} {vs : List V} {t : Fo} (h : FoAt B H vs t) (e : Ex H H') : FoAt B H' vs t := h.go (fun _ z => z) fun a o _ z => e a o z
theorem FoAt.base {B B' H : Hp} {vs : List V} {t : Fo} (h : FoAt B H vs t) (e : Ex B' B) : FoAt B' H vs t := h.go (fun _ z => fresh_back e z) fun _ _ _ z => z
theorem FoAt.snoc {B H : Hp} {vs : List V} {x : Int} {f : Int → Option Int × Fo} {xs : List Int} {v : V} (h : FoAt B H vs (fo f xs)) (h1 : FoAt B H [v] (.cons x (f x).1 (f x).2 .nil)) : FoAt B H (vs ++ [v]) (fo f (xs ++ [x])) := by
  induction xs generalizing vs with
  | nil =>
    cases h
    exact h1
  | cons y ys ih =>
    cases h with
    | cons a1 a2 a3 a4 a5 a6 => exact .cons a1 a2 a3 a4 a5 (ih a6)
theorem FoAt.len {B H : Hp} {vs : List V} {f : Int → Option Int × Fo} {xs : List Int} (h : FoAt B H vs (fo f xs)) : vs.length = xs.length := by
  induction xs generalizing vs with
  | nil =>
    cases h
    rfl
  | cons y ys ih =>
    cases h with
    | cons a1 a2 a3 a4 a5 a6 => exact congrArg Nat.succ (ih a6)
def Fo.at : Fo → Nat → Option (Int × Option Int × Fo)
  | .nil, _ => none
  | .cons x o s _, 0 => some (x, o, s)
  | .cons _ _ _ r, k + 1 => r.at k
def Fo.len : Fo → Nat
  | .nil => 0
  | .cons _ _ _ r => r.len + 1
theorem FoAt.many {B H : Hp} {vs : List V} {t : Fo} (h : FoAt B H vs t) : vs.length = t.len := by
  induction h with
  | nil => rfl
  | cons _ _ _ _ _ _ _ ih => exact congrArg Nat.succ ih
theorem FoAt.nth {B H : Hp} {vs : List V} {t : Fo} (h : FoAt B H vs t) : ∀ {k : Nat}, k < t.len → ∃ (p l : Addr) (x : Int) (o : Option Int) (us : List V) (s : Fo), t.at k = some (x, o, s) ∧ s.dep + 1 ≤ t.dep ∧ vs[k]? = some (.ref p) ∧ B p = none ∧ B l = none ∧ H p = some (.tup [.int x, optV o, .ref l]) ∧ H l = some (.lst us) ∧ FoAt B H us s := by
  induction h with
  | nil => exact fun h => absurd h (Nat.not_lt_zero _)
  | @cons p l x o us ws s r h1 h2 h3 h4 h5 _ _ ih =>
    intro k hk
    cases k with
    | zero => exact ⟨p, l, x, o, us, s, rfl, Nat.le_max_left _ _, rfl, h1, h2, h3, h4, h5⟩
    | succ k =>
      obtain ⟨p, l, x, o, us, s', a1, a2, a3⟩ := ih (Nat.lt_of_succ_lt_succ hk)
      exact ⟨p, l, x, o, us, s', a1, Nat.le_trans a2 (Nat.le_max_right _ _), a3⟩
/-- nowhere are there many side by side -/
def FoFew : Fo → Prop
  | .nil => True
  | .cons _ _ s r => s.len ≤ 100 ∧ FoFew s ∧ FoFew r
theorem FoFew.at {x : Int} {o : Option Int} {s : Fo} : ∀ {t : Fo} {k : Nat}, FoFew t → t.at k = some (x, o, s) → s.len ≤ 100 ∧ FoFew s
  | .nil, _, _, h => by cases h
  | .cons _ _ _ _, 0, hf, h => by
    cases h
    exact ⟨hf.1, hf.2.1⟩
  | .cons _ _ _ r, k + 1, hf, h => FoFew.at (t := r) hf.2.2 h
theorem fo_len (f : Int → Option Int × Fo) : ∀ xs : List Int, (fo f xs).len = xs.length
  | [] => rfl
  | x :: xs => congrArg Nat.succ (fo_len f xs)
theorem fo_few {f : Int → Option Int × Fo} : ∀ {xs : List Int}, (∀ x ∈ xs, (f x).2.len ≤ 100 ∧ FoFew (f x).2) → FoFew (fo f xs)
  | [], _ => trivial
  | x :: xs, h => ⟨(h x List.mem_cons_self).1, (h x List.mem_cons_self).2, fo_few fun y hy => h y (List.mem_cons_of_mem _ hy)⟩
theorem subs_few (gs : List Int) : ∀ (n : Nat) (here : List Int), (subs gs n here).len ≤ 100 ∧ FoFew (subs gs n here)
  | 0, _ => ⟨Nat.zero_le _, trivial⟩
  | n + 1, here => by
    rw [subs]
    split
    · exact ⟨Nat.zero_le _, trivial⟩
    · refine ⟨?_, fo_few fun x _ => subs_few gs n (here ++ [x])⟩
      rw [fo_len]
      have := nextP_len gs here
      omega
theorem trialsF_few (gs : List Int) : (trialsF gs).len ≤ 100 ∧ FoFew (trialsF gs) := by
  unfold trialsF
  split
  · exact ⟨Nat.zero_le _, trivial⟩
  · refine ⟨?_, fo_few fun x _ => subs_few gs 4 _⟩
    rw [fo_len]
    have := nextP_len gs (ends gs)
    omega
/-- what evaluates to a new list of trials -/
def EvF (te : TE) (σ : L2.St) (H : Hp) (t : Fo) : Prop := ∀ H1, Ex H H1 → ∀ Q : VK, (∀ p vs H2 B, H1 p = none → Ex H1 H2 → H2 p = some (.lst vs) → Ex H1 B → B p ≠ none → FoAt B H2 vs t → Q (.ref p) H2) → te σ H1 Q
section
variable {K : PySem.W.Frag} {σ : L2.St} {H H' : Hp} {ta tb te tl : TE} {tt : TT}
theorem el_lcFo {j : Nat} {vs : List Nat} {ps : List Int} (f : Int → Option Int × Fo) (h : EvL tl σ H (Ints ps)) (hz : ps.length ≤ 40000) (hw : ∀ x, wipe ((wipe σ vs).set j (some x)) vs = wipe σ vs)
    (ht : ∀ (x : V) H1, Ex H H1 → EvT tt ((wipe σ vs).set j (some x)) H1 true)
    (he : ∀ x ∈ ps, ∀ H1, Ex H H1 → ∀ Q : VK, (∀ v H2, Ex H1 H2 → FoAt H1 H2 [v] (.cons x (f x).1 (f x).2 .nil) → Q v H2) → te ((wipe σ vs).set j (some (.int x))) H1 Q) : EvF (tLc (iList K tl) (gName j) tt te vs) σ H (fo f ps) := fun H0 e Q q => h H0 e _ fun a H1 ha e1 hx => ⟨a, rfl, ⟨_, sq_of hx⟩, fun Dl hD =>
  lc_list (xs := Ints ps) (fun i H' => ∃ ws, Ex H1 H' ∧ H' Dl = some (.lst ws) ∧ FoAt (upd H1 Dl (.lst [])) H' ws (fo f (ps.take i))) ⟨[], Ex.new hD, upd_same, .nil⟩ (fun i H' _ ⟨_, p, _⟩ => sq_of (p a _ hx)) (fun i x H' hi ⟨ws, p1, p2, p3⟩ => by
    obtain ⟨d, hd, rfl⟩ := ints_at hi
    have hm : d ∈ ps := List.mem_of_getElem? hd
    have hlen : ws.length ≤ 40000 := by
      have := p3.len
      have h2 : (ps.take i).length ≤ ps.length := List.length_take_le' i ps
      omega
    refine ⟨hw _, ht _ H (Ex.refl H) H' ((e.trans e1).trans p1) _ fun H3 e3 => ?_⟩
    show te _ H3 _
    refine he d hm H3 (((e.trans e1).trans p1).trans e3) _ fun v H4 e4 h4 => ⟨ws, e4 Dl _ (e3 Dl _ p2), sz_lt (by omega), ws ++ [v], Ex.mut ((p1.trans e3).trans e4) hD, upd_same, ?_⟩
    have hne : ∀ b, upd H1 Dl (.lst []) b = none → b ≠ Dl := fun b hb c => by
      rw [c, upd_same] at hb
      cases hb
    have hup : ∀ b o, upd H1 Dl (.lst []) b = none → H4 b = some o → upd H4 Dl (.lst (ws ++ [v])) b = some o := fun b o hb h => by
      rw [upd_ne (hne b hb)]
      exact h
    rw [take_more hd]
    refine FoAt.snoc (p3.go (fun _ z => z) fun b o hb h => hup b o hb (e4 b o (e3 b o h))) (h4.go (fun b hb => ?_) fun b o hb h => ?_)
    · by_cases c : b = Dl
      · rw [c, e3 Dl _ p2] at hb
        cases hb
      · rw [upd_ne c]
        exact fresh_back (p1.trans e3) hb
    · by_cases c : b = Dl
      · rw [c, e3 Dl _ p2] at hb
        cases hb
      · rw [upd_ne c]
        exact h) (fun H' ⟨ws, p1, p2, p3⟩ => by
    rw [List.length_map, List.take_length] at p3
    exact q Dl ws H' _ (fresh_back e1 hD) (e1.trans p1) p2 (e1.trans (Ex.new hD)) (by rw [upd_same]; exact fun z => by cases z) p3)⟩
/-- sorted(set(xs)) -/
theorem set_many {ks ns : List Int} (nd : ks.Nodup) (h : ∀ k, k ∈ ks ↔ k ∈ ns) : ks.length = (sortD ns).length :=
  (perm_mem nd (up_nodup (sortD_up ns)) fun z => by rw [h, sortD_mem]).length_eq
theorem el_sortSet {w : World} {ns : List Int} (h : EvL ta σ H (Ints ns)) (hz : ns.length < 64) : EvL (tCB (rSortedSet w) (tCons (tCB (rSetI K w) (tCons ta tNil)) tNil)) σ H (Ints (sortD ns)) := fun H1 e Q q =>
  h H1 e _ fun p H2 hp e2 h2 => ⟨p, ns, rfl, sq_of h2, by omega, fun a c ha ⟨ks, nd, hm, hc⟩ => ⟨a, _, c, rfl, upd_same, by
    have := set_many nd hm
    have := sortD_len ns
    omega, fun ms r up mem _ hr => by
    obtain rfl : ms = sortD ns := sortD_eq up (fun z => by rw [mem, decide_eq_true_eq])
    exact q r _ (fresh_back (e2.trans (Ex.new ha)) hr) ((e2.trans (Ex.new ha)).trans (Ex.new hr)) upd_same⟩⟩
/-- len(set(xs)) -/
theorem ev_lenSet {w : World} {a : Addr} {ns : List Int} (h : Ev ta σ H (.ref a)) (hx : IL H a ns) (hz : ns.length ≤ 4000) : Ev (tCB (fun xs H Q => ∃ (a : Addr) (S : Int → Bool) (n : Nat), xs = [.ref a] ∧ H a = some (SetO w a S n) ∧ Q (.int n) H) (tCons (tCB (rSetI K w) (tCons ta tNil)) tNil)) σ H (.int ((sortD ns).length : Nat)) := fun H1 e Q q =>
  h H1 e _ fun H2 e2 => ⟨a, ns, rfl, sq_of ((e.trans e2) a _ hx), hz, fun b c hb ⟨ks, nd, hm, hc⟩ => ⟨b, _, c, rfl, upd_same, by
    rw [← hc, set_many nd hm]
    exact q _ (e2.trans (Ex.new hb))⟩⟩
theorem ev_max {a : Addr} {ns : List Int} (h : Ev ta σ H (.ref a)) (hx : IL H a ns) (hn : ns ≠ []) : Ev (tCB (rMax K) (tCons ta tNil)) σ H (.int (maxD 0 ns)) := fun H1 e Q q =>
  h H1 e _ fun H2 e2 => ⟨a, ns, rfl, sq_of ((e.trans e2) a _ hx), List.length_pos_iff.mpr hn, fun m h1 h2 => by
    rw [maxD_eq h1 h2 (d := 0)]
    exact q H2 e2⟩
/-- xs + [..] -/
theorem el_cat {a : Addr} {xs ys : List Int} (h : Ev ta σ H (.ref a)) (hx : IL H a xs) (hb : EvL tb σ H (Ints ys)) (hz : xs.length + ys.length ≤ 100000) : EvL (tOp rCat ta tb) σ H (Ints (xs ++ ys)) := fun H1 e Q q =>
  h H1 e _ fun H2 e2 => hb H2 (e.trans e2) _ fun b H3 hb e3 h3 => ⟨a, b, Ints xs, Ints ys, rfl, rfl, ((e.trans e2).trans e3) a _ hx, h3, sz_of (by rw [List.length_map, List.length_map]; exact hz), fun p hp =>
    q p _ (fresh_back (e2.trans e3) hp) ((e2.trans e3).trans (Ex.new hp)) (by rw [upd_same]; simp [Ints])⟩
theorem ev_lenT {p : Addr} {xs : List V} (h : Ev ta σ H (.ref p)) (hp : H p = some (.tup xs)) : Ev (tCB (rLenS K) (tCons ta tNil)) σ H (.int (xs.length : Int)) := fun H1 e Q q =>
  h H1 e _ fun H2 e2 => ⟨p, xs, rfl, .inr (st_of ((e.trans e2) p _ hp)), q H2 e2⟩
theorem et_tru {x : V} {k : Bool} (h : Ev ta σ H x) (hk : ∀ H1, Ex H H1 → TruV K x H1 k) : EvT (fun σ H Q => ta σ H fun x H' => ∃ k, TruV K x H' k ∧ Q k H') σ H k := fun H1 e Q q =>
  h H1 e _ fun H2 e2 => ⟨k, hk H2 (e.trans e2), q H2 e2⟩
theorem et_truL {a : Addr} {xs : List V} (h : Ev ta σ H (.ref a)) (hx : Lst H a xs) : EvT (fun σ H Q => ta σ H fun x H' => ∃ k, TruV K x H' k ∧ Q k H') σ H (!xs.isEmpty) := et_tru h fun H1 e => .inl ⟨xs, sq_of (e a _ hx), rfl⟩
theorem range_gi (xs : List Int) : (List.range xs.length).map (gi xs) = xs := by
  refine List.ext_getElem (by simp) fun k h1 h2 => ?_
  simp [gi, List.getD_eq_getElem?_getD, List.getElem?_eq_getElem h2]
theorem given_lst (xs : List Int) (f : Int → Bool) (g : Int → Int) : given (Ints xs).length (fun i => f (gi xs i)) (fun i => .int (g (gi xs i))) = Ints ((xs.filter f).map g) := by
  rw [List.length_map, given_ints]
  congr 1
  have h := congrArg (fun l => (l.filter f).map g) (range_gi xs)
  simp only [List.filter_map, List.map_map] at h
  exact h
/-- [g x for x in xs if f x], ints -/
theorem el_lcI {a : Addr} {j : Nat} {vs : List Nat} {xs : List Int} (f : Int → Bool) (g : Int → Int) (h : Ev tl σ H (.ref a)) (hx : IL H a xs) (hz : xs.length ≤ 40000) (hw : ∀ x, wipe ((wipe σ vs).set j (some x)) vs = wipe σ vs)
    (ht : ∀ x ∈ xs, ∀ H1, Ex H H1 → EvT tt ((wipe σ vs).set j (some (.int x))) H1 (f x)) (he : ∀ x ∈ xs, ∀ H1, Ex H H1 → f x = true → Ev te ((wipe σ vs).set j (some (.int x))) H1 (.int (g x))) : EvL (tLc (iList K tl) (gName j) tt te vs) σ H (Ints ((xs.filter f).map g)) := by
  rw [← given_lst]
  refine el_lcL _ _ h (sq_of hx) (by rw [List.length_map]; exact hz) hw (fun i x H1 e1 hi => ?_) (fun i x H1 e1 hi hf => ?_)
  · obtain ⟨d, hd, rfl⟩ := ints_at hi
    rw [gi_of hd]
    exact ht d (List.mem_of_getElem? hd) H1 e1
  · obtain ⟨d, hd, rfl⟩ := ints_at hi
    rw [gi_of hd] at hf ⊢
    exact he d (List.mem_of_getElem? hd) H1 e1 hf
theorem el_lcNI {j : Nat} {vs : List Nat} {xs : List Int} (f : Int → Bool) (g : Int → Int) (h : EvL tl σ H (Ints xs)) (hz : xs.length ≤ 40000) (hw : ∀ x, wipe ((wipe σ vs).set j (some x)) vs = wipe σ vs)
    (ht : ∀ x ∈ xs, ∀ H1, Ex H H1 → EvT tt ((wipe σ vs).set j (some (.int x))) H1 (f x)) (he : ∀ x ∈ xs, ∀ H1, Ex H H1 → f x = true → Ev te ((wipe σ vs).set j (some (.int x))) H1 (.int (g x))) : EvL (tLc (iList K tl) (gName j) tt te vs) σ H (Ints ((xs.filter f).map g)) := by
  rw [← given_lst]
  refine el_lcNL _ _ h (by rw [List.length_map]; exact hz) hw (fun i x H1 e1 hi => ?_) (fun i x H1 e1 hi hf => ?_)
  · obtain ⟨d, hd, rfl⟩ := ints_at hi
    rw [gi_of hd]
    exact ht d (List.mem_of_getElem? hd) H1 e1
  · obtain ⟨d, hd, rfl⟩ := ints_at hi
    rw [gi_of hd] at hf ⊢
    exact he d (List.mem_of_getElem? hd) H1 e1 hf
theorem t_call {ta' : TA} {sp : Sp} {dvs vs : List V} {E : XK} {Q : VK} (h : EvA ta' σ H vs) (hs : ∀ H1, Ex H H1 → sp (vs ++ dvs) H1 Q E) : tCall sp dvs E ta' σ H Q := h H (Ex.refl H) _ hs
theorem t_callN {ta' tr : TA} {sp sp2 : Sp} {dvs d2 : List V} {E E2 : XK} {Q : VK} (h : tCall sp2 d2 E2 ta' σ H (fun x H1 => tr σ H1 fun xs H2 => sp ((x :: xs) ++ dvs) H2 Q E)) : tCall sp dvs E (tCons (tCall sp2 d2 E2 ta') tr) σ H Q := h
theorem t_args {ta' : TA} {vs : List V} {Q : List V → Hp → Prop} (h : EvA ta' σ H vs) (hs : ∀ H1, Ex H H1 → Q vs H1) : ta' σ H Q := h H (Ex.refl H) _ hs
theorem et_yes : EvT tYes σ H true := fun H1 _ Q q => q H1 (Ex.refl H1)
/-- return (x, o, xs): a new tuple with a new list at its end -/
theorem s_retUL {D : Ends} {xs : List V} {t1 t2 : TE} {v1 v2 : V} (h1 : Ev t1 σ H v1) (h2 : Ev t2 σ H v2) (hl : EvL te σ H xs) (k : ∀ (p l : Addr) H1, H p = none → H l = none → Ex H H1 → H1 p = some (.tup [v1, v2, .ref l]) → H1 l = some (.lst xs) → D.rt (.ref p) H1) : tRet (tTup (tCons t1 (tCons t2 (tCons te tNil)))) D σ H :=
  h1 H (Ex.refl H) _ fun H1 e1 => h2 H1 e1 _ fun H2 e2 => hl H2 (e1.trans e2) _ fun l H3 hl e3 h3 => ⟨(by show (3 : Nat) ≤ sizeLine; decide), fun p hp =>
    k p l _ (fresh_back ((e1.trans e2).trans e3) hp) (fresh_back (e1.trans e2) hl) (((e1.trans e2).trans e3).trans (Ex.new hp)) upd_same ((Ex.new hp) l _ h3)⟩
theorem s_retUF {D : Ends} {t : Fo} {t1 t2 : TE} {v1 v2 : V} (h1 : Ev t1 σ H v1) (h2 : Ev t2 σ H v2) (hl : EvF te σ H t) (k : ∀ (p l : Addr) ws H1, H p = none → H l = none → Ex H H1 → H1 p = some (.tup [v1, v2, .ref l]) → H1 l = some (.lst ws) → FoAt H H1 ws t → D.rt (.ref p) H1) : tRet (tTup (tCons t1 (tCons t2 (tCons te tNil)))) D σ H :=
  h1 H (Ex.refl H) _ fun H1 e1 => h2 H1 e1 _ fun H2 e2 => hl H2 (e1.trans e2) _ fun l ws H3 B hl e3 h3 eB hB hF => ⟨(by show (3 : Nat) ≤ sizeLine; decide), fun p hp =>
    k p l ws _ (fresh_back ((e1.trans e2).trans e3) hp) (fresh_back (e1.trans e2) hl) (((e1.trans e2).trans e3).trans (Ex.new hp)) upd_same ((Ex.new hp) l _ h3) ((hF.ex (Ex.new hp)).base ((e1.trans e2).trans eB))⟩
theorem s_retF {D : Ends} {t : Fo} (h : EvF te σ H t) (k : ∀ p ws H1 B, H p = none → Ex H H1 → H1 p = some (.lst ws) → Ex H B → B p ≠ none → FoAt B H1 ws t → D.rt (.ref p) H1) : tRet te D σ H := h H (Ex.refl H) _ k
theorem s_asgF {D : Ends} {t : Fo} {i : Nat} (h : EvF te σ H t) (k : ∀ p ws H1 B, H p = none → Ex H H1 → H1 p = some (.lst ws) → Ex H B → B p ≠ none → FoAt B H1 ws t → D.nx (σ.set i (some (.ref p))) H1) : tAsg te (gName i) D σ H := h H (Ex.refl H) _ k
/-- xs.append(e), whatever e is -/
theorem s_appX {D : Ends} {l : Addr} {xs : List V} (hl : H l = some (.lst xs)) (ha : Ev ta σ H (.ref l)) (h : ∀ H1, Ex H H1 → ∀ Q : VK, (∀ v H2, Ex H1 H2 → Q v H2) → te σ H1 Q) (hz : xs.length < 100000) (k : ∀ v H1, Ex H H1 → D.nx σ (upd H1 l (.lst (xs ++ [v])))) :
    tDrop (tBM K "list" rAppend ta (tCons te tNil)) D σ H := ha H (Ex.refl H) _ fun H1 e1 =>
  ⟨Or.inl ⟨rfl, xs, sq_of (e1 l _ hl)⟩, h H1 e1 _ fun v H2 e2 => ⟨l, xs, v, rfl, rfl, e2 l _ (e1 l _ hl), sz_lt hz, k v H2 (e1.trans e2)⟩⟩
/-- (0, None, []) -/
theorem any_tup3 {t1 t2 : TE} {v1 v2 : V} {xs : List V} (h1 : Ev t1 σ H v1) (h2 : Ev t2 σ H v2) (h3 : EvL te σ H xs) : ∀ H1, Ex H H1 → ∀ Q : VK, (∀ v H2, Ex H1 H2 → Q v H2) → tTup (tCons t1 (tCons t2 (tCons te tNil))) σ H1 Q := fun H1 e Q q =>
  h1 H1 e _ fun H2 e2 => h2 H2 (e.trans e2) _ fun H3 e3 => h3 H3 ((e.trans e2).trans e3) _ fun l H4 hl e4 h4 => ⟨(by show (3 : Nat) ≤ sizeLine; decide), fun p hp => q _ _ (((e2.trans e3).trans e4).trans (Ex.new hp))⟩
/-- xs.clear() -/
theorem s_clear {D : Ends} {l : Addr} {xs : List V} (hl : H l = some (.lst xs)) (ha : Ev ta σ H (.ref l)) (k : ∀ H1, Ex H H1 → D.nx σ (upd H1 l (.lst []))) : tDrop (tBM0 K "list" rClear ta) D σ H := ha H (Ex.refl H) _ fun H1 e1 =>
  ⟨Or.inl ⟨rfl, xs, sq_of (e1 l _ hl)⟩, l, xs, rfl, rfl, e1 l _ hl, k H1 e1⟩
end
/-- a promise that nobody can ask for -/
theorem Df.none {P : Program} {w : World} {K : PySem.W.Frag} {mg : Str → Option Value} {base : Heap} {CX : CXT} {x : Str} {st : Stmt} {ps : List Str} {k : Nat} {sp : Sp} (D : Df K mg x st) (hb : BindOk x st ps) (no : ∀ vs H Q E, ¬ sp vs H Q E) : Has P w K mg base CX k x ps sp := by
  obtain ⟨f, fd, F, g⟩ := D.ex
  exact ⟨f, fd, ⟨fun vs H Q E h => absurd h (no vs H Q E), fun A outer s H args us vs Q E _ _ _ _ h => absurd h (no vs H Q E)⟩, g, F.kp, F.bindsN hb, F.look⟩
end Rg

set_option maxHeartbeats 8000000
namespace Lw
open PySem PySem.Spec PyProof.Rows L2 Evl Rg
def top (i : Nat) : Stmt := PySem.Challenge.pw_roadgaps_k04_whole_what_was_tried.main.body.getD i (.Pass ⟨0, 0, 0, 0⟩)
section
variable {P : Program} {w : World} {K : PySem.W.Frag} {mg : Str → Option Value} {base : Heap}
abbrev s_between : Stmt := top 5
abbrev nm_between : List Str := ["places", "found", "k", "j"]
theorem sc_between : FnScope nm_between ["places"] (defScope s_between) := ⟨rfl, rfl, rfl, by decide +kernel, rfl, by decide +kernel, by decide +kernel⟩
def sp_between : Sp := fun vs H Q _ => ∃ (a : Addr) (ns : List Int), vs = [.ref a] ∧ IL H a ns ∧ ns.length ≤ 100 ∧ RL (Ints (btw ns)) H Q
theorem h_between (D : Df K mg "between" s_between) (T : Bs mg) : Has P w K mg base CX0 1 "between" ["places"] sp_between := by
  refine D.has0 sc_between (fun _ _ _ _ _ _ us hl => match us, hl with | [_], _ => rfl) (fun vs H Q E h => ?_) (fun f cdv A outer s H vs Q E hr h => ?_)
  · obtain ⟨a, ns, rfl, _⟩ := h
    rfl
  obtain ⟨a, ns, rfl, ha, hz, q⟩ := h
  refine ⟨_, (pss_cons (ps_set (i := 1) sc_between.nd rfl (Or.inl rfl) (pe_lst pa_nil))
    (pss_cons (ps_for PassesOwn.never rfl (pi_range1 rfl T.n_range (pa_cons (pe_callB call_len_seq (by rfl) T.n_len (by decide +kernel) (pa_cons (pv 0) pa_nil)) pa_nil)) (pg_name (i := 2) sc_between.nd rfl (Or.inl rfl))
    (pss_one (ps_for PassesOwn.never rfl (pi_range1 rfl T.n_range (pa_cons (pv 2) pa_nil)) (pg_name (i := 3) sc_between.nd rfl (Or.inl rfl))
    (pss_one (ps_expr (pe_bm PySem.F.plainAttrs_list PySem.F.slot_list_append PySem.F.type_list_append mt_append (pv 1) (pa_cons (pe_callB call_abs (by rfl) T.n_abs (by decide +kernel) (pa_cons (pe_op op_sub (pe_ix ix_list (pv 0) (pv 2) (fun _ _ => rfl)) (pe_ix ix_list (pv 0) (pv 3) (fun _ _ => rfl))) pa_nil)) pa_nil)))))))
    (pss_one (ps_ret (pe_callB cr_sortedI (by rfl) T.n_sorted (by decide +kernel) (pa_cons (pv 1) pa_nil)))))), ?_⟩
  refine s_asgL (el_lst ea_nil (by decide)) fun l H1 hl e1 h1 => ?_
  refine s_forR1 (n := (ns.length : Int)) (ea_cons (ev_lenI (ev_var rfl) (e1 a _ ha)) ea_nil) ⟨by omega, by omega⟩
    (fun i σ H' => ∃ v2 v3, σ = [some (.ref a), some (.ref l), v2, v3] ∧ Ex H H' ∧ IL H' l (allD ns i)) (fun H2 e2 => ⟨none, none, rfl, e1.trans e2, e2 l _ h1⟩) ?_ ?_
  · rintro i σ H2 hi ⟨v2, v3, rfl, e2, h2⟩
    refine s_forR1 (n := (i : Int)) (ea_cons (ev_var rfl) ea_nil) ⟨by omega, by omega⟩
      (fun j σ H' => ∃ v3, σ = [some (.ref a), some (.ref l), some (.int (i : Int)), v3] ∧ Ex H H' ∧ IL H' l (allD ns i ++ (List.range j).map fun j => ab (gi ns i - gi ns j)))
      (fun H3 e3 => ⟨v3, rfl, e2.trans e3, by simpa using e3 l _ h2⟩) ?_ ?_
    · rintro j σ H3 hj ⟨v3, rfl, e3, h3⟩
      refine s_app h3 (ev_var rfl) (ev_abs (ev_op (ev_op (ev_var rfl) (ev_var rfl) (rv_ixIN (e3 a _ ha) (by omega))) (ev_op (ev_var rfl) (ev_var rfl) (rv_ixIN (e3 a _ ha) (by omega))) rv_I0)) ?_ fun H4 e4 => ?_
      · have := allD_le ns i 100 (by omega)
        simp only [List.length_map, List.length_append, List.length_range]
        omega
      · refine ⟨_, rfl, Ex.mut (e3.trans e4) hl, ?_⟩
        refine il_upd ?_
        rw [ints_app, List.range_succ, List.map_append, ← List.append_assoc]
        rfl
    · rintro σ H3 ⟨v3, rfl, e3, h3⟩
      exact ⟨_, _, rfl, e3, h3⟩
  · rintro σ H2 ⟨v2, v3, rfl, e2, h2⟩
    exact s_retL (el_sorted (ev_var rfl) h2) fun p H3 hp e3 h3 => q p H3 (fresh_back e2 hp) (e2.trans e3) h3

abbrev s_see_gaps : Stmt := top 7
abbrev nm_see_gaps : List Str := ["gaps", "k"]
theorem sc_see_gaps : FnScope nm_see_gaps ["gaps"] (defScope s_see_gaps) := ⟨rfl, rfl, rfl, by decide +kernel, rfl, by decide +kernel, by decide +kernel⟩
def sp_see_gaps (K : PySem.W.Frag) : Sp := fun vs H Q E => ∃ (a : Addr) (ns : List Int), vs = [.ref a] ∧ IL H a ns ∧ Out K (refGaps ns) H E (RVal .non H Q)
theorem h_see_gaps (D : Df K mg "see_gaps" s_see_gaps) (T : Bs mg) (C_NoGaps : Ec K mg "NoGaps") (C_TooMany : Ec K mg "TooMany") : Has P w K mg base (L2.CX P w) 1 "see_gaps" ["gaps"] (sp_see_gaps K) := by
  refine D.hasX sc_see_gaps (fun _ _ _ _ _ _ us hl => match us, hl with | [_], _ => rfl) (fun vs H Q E h => ?_) (fun f cdv A outer s H vs Q E hr h => ?_)
  · obtain ⟨a, ns, rfl, _⟩ := h
    rfl
  obtain ⟨a, ns, rfl, ha, q⟩ := h
  refine ⟨_, (pss_cons (ps_if (pt_cmpR op_gt (pe_callB call_len_seq (by rfl) T.n_len (by decide +kernel) (pa_cons (pv 0) pa_nil)) pe_int (nomark _))
    (pss_one (ps_raiseC C_TooMany rfl (takes_of rfl rfl rfl rfl) rfl))
    pss_nil)
    (pss_one (ps_for (passes_of rfl) rfl (pi_range1 rfl T.n_range (pa_cons (pe_callB call_len_seq (by rfl) T.n_len (by decide +kernel) (pa_cons (pv 0) pa_nil)) pa_nil)) (pg_name (i := 1) sc_see_gaps.nd rfl (Or.inl rfl))
    (pss_one (ps_if (PW.pt (pw_or (pt_not (pt_chain op_le op_le pe_int (pe_ix ix_list (pv 0) (pv 1) (fun _ _ => rfl)) pe_int)) (pw_or1 (PW.pt (pw_and (pt_cmpR op_gt (pv 1) pe_int (nomark _)) (pw_and1 (pt_cmpR op_gt (pe_ix ix_list (pv 0) (pe_op op_sub (pv 1) pe_int) (fun _ _ => rfl)) (pe_ix ix_list (pv 0) (pv 1) (fun _ _ => rfl)) (nomark _))))))))
    (pss_one (ps_raiseC C_NoGaps rfl (takes_of rfl rfl rfl rfl) rfl))
    pss_nil))))), ?_⟩
  refine s_if (et_test (o_ (ev_lenI v_ ha) ev_c)) (fun hb H1 e1 => ?_) (fun hb H1 e1 => ?_)
  · simp at hb
    exact q.bad (refGaps_many (by omega)) e1
  · simp at hb
    have h21 : ns.length ≤ 21 := by omega
    refine s_forR1 (n := (ns.length : Int)) (ea_cons (ev_lenI v_ (e1 a _ ha)) ea_nil) ⟨by omega, by omega⟩
      (fun i σ H' => ∃ v, σ = [some (.ref a), v] ∧ Ex H H' ∧ ∀ k, k < i → 1 ≤ gi ns k ∧ gi ns k ≤ 4000 ∧ (0 < k → gi ns (k - 1) ≤ gi ns k)) (fun H2 e2 => ⟨none, rfl, e1.trans e2, fun k hk => by omega⟩) ?_ ?_
    · rintro i σ H2 hi ⟨v, rfl, e2, up⟩
      refine s_if (b := !(decide (1 ≤ gi ns i) && decide (gi ns i ≤ 4000)) || (decide (0 < (i : Int)) && decide (gi ns i < gi ns ((i : Int) - 1).toNat)))
        (et_or (et_not (et_test (ev_chain ev_c (ixN_ (e2 a _ ha) v_ v_ (by omega)) rv_I0 (fun _ => ev_c) fun _ => rv_I0))) fun _ => et_and (et_test (o_ v_ ev_c)) fun hp => ?_) (fun hb H3 e3 => ?_) (fun hb H3 e3 => ?_)
      · have hp : 0 < (i : Int) := of_decide_eq_true hp
        exact et_test (o_ (ixI_ (e2 a _ ha) v_ (o_ v_ ev_c) (by omega) (by omega)) (ixN_ (e2 a _ ha) v_ v_ (by omega)))
      · refine q.bad (refGaps_no h21 fun ok => ?_) (e2.trans e3)
        obtain ⟨k1, k2, k3⟩ := ok i (by omega)
        have j1 : ((i : Int) - 1).toNat = i - 1 := by omega
        rw [j1] at hb
        simp at hb
        rcases hb with hb | hb
        · omega
        · have := k3 (by omega)
          omega
      · refine ⟨_, rfl, e2.trans e3, fun k hk => ?_⟩
        have j1 : ((i : Int) - 1).toNat = i - 1 := by omega
        rw [j1] at hb
        simp at hb
        by_cases e : k = i
        · subst e
          exact ⟨by omega, by omega, fun h0 => by have := hb.2; omega⟩
        · exact up k (by omega)
    · rintro σ H2 ⟨v, rfl, e2, up⟩
      exact q.get (refGaps_ok h21 fun k hk => up k (by omega)) H2 e2

abbrev s_without : Stmt := top 8
abbrev nm_without : List Str := ["gaps", "some", "left", "d"]
theorem sc_without : FnScope nm_without ["gaps", "some"] (defScope s_without) := ⟨rfl, rfl, rfl, by decide +kernel, rfl, by decide +kernel, by decide +kernel⟩
def sp_without : Sp := fun vs H Q _ => ∃ (a b : Addr) (gs ds : List Int), vs = [.ref a, .ref b] ∧ IL H a gs ∧ IL H b ds ∧
  ∀ (p l : Addr) (H' : Hp), H p = none → H l = none → Ex H H' → H' p = some (.tup [.ref l, optV (wo gs ds).2]) → IL H' l (wo gs ds).1 → Q (.ref p) H'
theorem h_without (D : Df K mg "without" s_without) (T : Bs mg) : Has P w K mg base CX0 1 "without" ["gaps", "some"] sp_without := by
  refine D.has0 sc_without (fun _ _ _ _ _ _ us hl => match us, hl with | [_, _], _ => rfl) (fun vs H Q E h => ?_) (fun f cdv A outer s H vs Q E hr h => ?_)
  · obtain ⟨a, b, gs, ds, rfl, _⟩ := h
    rfl
  obtain ⟨a, b, gs, ds, rfl, ha, hb, q⟩ := h
  refine ⟨_, (pss_cons (ps_set (i := 2) sc_without.nd rfl (Or.inl rfl) (pe_callTy call_list_of (by rfl) T.n_list (by decide +kernel) (pa_cons (pv 0) pa_nil)))
    (pss_cons (ps_for PassesOwn.never rfl (pi_list (pv 1)) (pg_name (i := 3) sc_without.nd rfl (Or.inl rfl))
    (pss_cons (ps_if (pt_cmpR op_notIn_seq (pv 3) (pv 2) rfl)
    (pss_one (ps_ret (pe_tup (pa_cons (pv 2) (pa_cons (pv 3) pa_nil)))))
    pss_nil)
    (pss_one (ps_expr (pe_bm PySem.F.plainAttrs_list PySem.F.slot_list_remove PySem.F.type_list_remove mt_remove (pv 2) (pa_cons (pv 3) pa_nil))))))
    (pss_one (ps_ret (pe_tup (pa_cons (pv 2) (pa_cons pe_non pa_nil))))))), ?_⟩
  refine s_asgL (el_copy v_ ha) fun l H1 hl e1 h1 => ?_
  refine s_forL v_ (sq_of (e1 b _ hb)) (fun i σ H' => ∃ v left, σ = [some (.ref a), some (.ref b), some (.ref l), v] ∧ Ex H H' ∧ IL H' l left ∧ wo gs ds = wo left (ds.drop i))
    (fun H2 e2 => ⟨none, gs, rfl, e1.trans e2, e2 l _ h1, rfl⟩) (fun i σ H' _ ⟨_, _, _, e, _⟩ => sq_of (e b _ hb)) ?_ ?_
  · rintro i x σ H2 hi ⟨v, left, rfl, e2, h2, hw⟩
    obtain ⟨d, hd, rfl⟩ : ∃ d, ds[i]? = some d ∧ x = V.int d := by
      rw [List.getElem?_map] at hi
      cases e : ds[i]? with
      | none => rw [e] at hi; cases hi
      | some d => rw [e] at hi; exact ⟨d, rfl, (Option.some.inj hi).symm⟩
    rw [drop_at hd] at hw
    refine s_if (et_test (ni_ h2 v_ v_)) (fun hb H3 e3 => ?_) (fun hb H3 e3 => ?_)
    · have hn : d ∉ left := by simpa using hb
      rw [wo_out hn] at hw
      refine s_retU (eu_tup (ea_cons v_ (ea_cons v_ ea_nil)) (by show (2 : Nat) ≤ 100000; decide)) fun p H4 hp e4 h4 => q p l H4 ?_ hl ((e2.trans e3).trans e4) ?_ ?_
      · exact fresh_back (e2.trans e3) hp
      · rw [hw]
        exact h4
      · rw [hw]
        exact e4 l _ (e3 l _ h2)
    · have hn : d ∈ left := by simpa using hb
      rw [wo_in hn] at hw
      exact s_rem (e3 l _ h2) v_ v_ hn fun H4 e4 => ⟨_, _, rfl, Ex.mut ((e2.trans e3).trans e4) hl, upd_same, hw⟩
  · rintro σ H2 ⟨v, left, rfl, e2, h2, hw⟩
    rw [List.length_map, List.drop_length] at hw
    refine s_retU (eu_tup (ea_cons v_ (ea_cons ev_c ea_nil)) (by show (2 : Nat) ≤ 100000; decide)) fun p H4 hp e4 h4 => q p l H4 (fresh_back e2 hp) hl (e2.trans e4) ?_ ?_
    · rw [hw]
      exact h4
    · rw [hw]
      exact e4 l _ h2

/-- without(gaps, between(road))[1] and [0] -/
theorem ev_wo1 {σ : L2.St} {H : Hp} {tx ty : TE} {a b : Addr} {gs ns : List Int} {E1 E2 : XK} (hg : Ev tx σ H (.ref b)) (hn : Ev ty σ H (.ref a)) (h1 : IL H b gs) (h2 : IL H a ns) (hz : ns.length ≤ 100) :
    Ev (tOp (rIxT K) (tCall sp_without [] E1 (tCons tx (tCons (tCall sp_between [] E2 (tCons ty tNil)) tNil))) (tC (.int 1))) σ H (optV (wo gs (btw ns)).2) := fun H1 e Q q =>
  hg H1 e _ fun H2 e2 => hn H2 (e.trans e2) _ fun H3 e3 => ⟨a, ns, rfl, ((e.trans e2).trans e3) a _ h2, hz, fun c H4 hc e4 h4 =>
    ⟨b, c, gs, btw ns, rfl, (((e.trans e2).trans e3).trans e4) b _ h1, h4, fun p l H5 hp hl e5 h5 h6 => ⟨p, _, 1, _, rfl, rfl, st_of h5, rfl, q H5 (((e2.trans e3).trans e4).trans e5)⟩⟩⟩
theorem ev_wo0 {σ : L2.St} {H : Hp} {tx ty : TE} {a b : Addr} {gs ns : List Int} {E1 E2 : XK} (hg : Ev tx σ H (.ref b)) (hn : Ev ty σ H (.ref a)) (h1 : IL H b gs) (h2 : IL H a ns) (hz : ns.length ≤ 100) :
    EvL (tOp (rIxT K) (tCall sp_without [] E1 (tCons tx (tCons (tCall sp_between [] E2 (tCons ty tNil)) tNil))) (tC (.int 0))) σ H (Ints (wo gs (btw ns)).1) := fun H1 e Q q =>
  hg H1 e _ fun H2 e2 => hn H2 (e.trans e2) _ fun H3 e3 => ⟨a, ns, rfl, ((e.trans e2).trans e3) a _ h2, hz, fun c H4 hc e4 h4 =>
    ⟨b, c, gs, btw ns, rfl, (((e.trans e2).trans e3).trans e4) b _ h1, h4, fun p l H5 hp hl e5 h5 h6 => ⟨p, _, 0, _, rfl, rfl, st_of h5, rfl, q l H5 (fresh_back ((e2.trans e3).trans e4) hl) (((e2.trans e3).trans e4).trans e5) h6⟩⟩⟩

abbrev s_next_places : Stmt := top 10
abbrev nm_next_places : List Str := ["places", "gaps", "left", "length", "some", "place"]
theorem sc_next_places : FnScope nm_next_places ["places", "gaps"] (defScope s_next_places) := ⟨rfl, rfl, rfl, by decide +kernel, rfl, by decide +kernel, by decide +kernel⟩
def sp_next_places : Sp := fun vs H Q _ => ∃ (a b : Addr) (ns gs : List Int), vs = [.ref a, .ref b] ∧ IL H a ns ∧ IL H b gs ∧ ns ≠ [] ∧ ns.length ≤ 100 ∧ RL (Ints (nextP gs ns)) H Q
theorem h_next_places (D : Df K mg "next_places" s_next_places) (T : Bs mg) (G_without : Has P w K mg base CX0 1 "without" ["gaps", "some"] sp_without) (G_between : Has P w K mg base CX0 1 "between" ["places"] sp_between) : Has P w K mg base CX0 2 "next_places" ["places", "gaps"] sp_next_places := by
  refine D.has0 sc_next_places (fun _ _ _ _ _ _ us hl => match us, hl with | [_, _], _ => rfl) (fun vs H Q E h => ?_) (fun f cdv A outer s H vs Q E hr h => ?_)
  · obtain ⟨a, b, ns, gs, rfl, _⟩ := h
    rfl
  obtain ⟨a, b, ns, gs, rfl, ha, hb, hn, hz, q⟩ := h
  refine ⟨_, (pss_cons (ps_set (i := 2) sc_next_places.nd rfl (Or.inl rfl) (pe_ix ix_tup (pe_callH G_without (by first | exact hr | exact hr.mono (by omega)) (by rfl) pass0 (pa_cons (pv 1) (pa_cons (pe_callH G_between (by first | exact hr | exact hr.mono (by omega)) (by rfl) pass0 (pa_cons (pv 0) pa_nil)) pa_nil))) pe_int (fun _ _ => rfl)))
    (pss_cons (ps_if (pt_not (pt_truth (pv 2) (by intro _; rfl)))
    (pss_one (ps_ret (pe_lst pa_nil)))
    pss_nil)
    (pss_cons (ps_set (i := 3) sc_next_places.nd rfl (Or.inl rfl) (pe_callB (cr_max rfl) (by rfl) T.n_max (by decide +kernel) (pa_cons (pv 0) pa_nil)))
    (pss_cons (ps_set (i := 4) sc_next_places.nd rfl (Or.inl rfl) (pe_callB (cr_sortedSet rfl) (by rfl) T.n_sorted (by decide +kernel) (pa_cons (pe_callTy (cr_setI rfl) (by rfl) T.n_set (by decide +kernel) (pa_cons (pe_lst (pa_cons (pe_ix ix_list (pv 2) (pe_un un_neg pe_int) (fun _ _ => rfl)) (pa_cons (pe_op op_sub (pv 3) (pe_ix ix_list (pv 2) (pe_un un_neg pe_int) (fun _ _ => rfl))) pa_nil))) pa_nil)) pa_nil)))
    (pss_one (ps_ret (pe_lc (own := [("place", 5)]) rfl sc_next_places.nd (pi_list (pv 4)) (blkOk_by (own := [("place", 5)]) (N := nm_next_places) (sc := defScope s_next_places) (by decide +kernel)) (fun _ _ _ _ _ => (pg_name (i := 5) sc_next_places.nd rfl (Or.inl rfl))) (fun _ _ _ _ _ => (pts_one (pt_cmpR (r := rIn K true) op_notIn_seq (pv 5) (pv 0) rfl))) (fun _ _ _ _ _ => (pv 5))))))))), ?_⟩
  refine s_asgL (ev_wo0 v_ v_ hb ha hz) fun l H1 hl e1 h1 => ?_
  have h1 : IL H1 l (leftP gs ns) := h1
  refine s_if (et_not (et_truL v_ h1)) (fun hb2 H2 e2 => ?_) (fun hb2 H2 e2 => ?_)
  · have h0 : leftP gs ns = [] := by simpa using hb2
    refine s_retL (el_lst ea_nil (by decide)) fun p H3 hp e3 h3 => q p H3 (fresh_back (e1.trans e2) hp) ((e1.trans e2).trans e3) ?_
    rw [nextP, if_pos h0]
    exact h3
  · have h0 : leftP gs ns ≠ [] := by simpa using hb2
    dsimp only [tNext]
    have e12 := e1.trans e2
    refine s_asg (ev_max v_ (e12 a _ ha) hn) fun H3 e3 => ?_
    have h3 : IL H3 l (leftP gs ns) := e3 l _ (e2 l _ h1)
    refine s_asgL (el_sortSet (ns := [topI (leftP gs ns), maxD 0 ns - topI (leftP gs ns)]) (el_lst (ea_cons (ixL_ h3 v_ h0) (ea_cons (sub_ v_ (ixL_ h3 v_ h0)) ea_nil)) (by show (2 : Nat) ≤ 100000; decide)) (by show (2 : Nat) < 64; decide)) fun p H4 hp e4 h4 => ?_
    have e14 := (e12.trans e3).trans e4
    dsimp only
    refine s_retL (xs := Ints (nextP gs ns)) ?_ fun r H5 hr e5 h5 => q r H5 (fresh_back e14 hr) (e14.trans e5) h5
    rw [nextP, if_neg h0]
    have hm := sortD_len [topI (leftP gs ns), maxD 0 ns - topI (leftP gs ns)]
    generalize sortD [topI (leftP gs ns), maxD 0 ns - topI (leftP gs ns)] = ps at h4 hm ⊢
    have hf : Ints (ps.filter fun x => !decide (x ∈ ns)) = Ints ((ps.filter fun x => !decide (x ∈ ns)).map id) := by rw [List.map_id]
    rw [hf]
    exact el_lcI _ _ v_ h4 (by simp at hm; omega) (fun x => rfl) (fun x _ H5 e5 => et_test (ni_ ((e14.trans e5) a _ ha) v_ v_)) (fun x _ H5 e5 _ => v_)

abbrev s_trial : Stmt := top 11
abbrev nm_trial : List Str := ["places", "place", "gaps", "here", "lack", "far"]
theorem sc_trial : FnScope nm_trial ["places", "place", "gaps"] (defScope s_trial) := ⟨rfl, rfl, rfl, by decide +kernel, rfl, by decide +kernel, by decide +kernel⟩
/-- the trial of a place, n calls allowed: a new tuple -/
def sp_trial (n : Nat) : Sp := fun vs H Q _ => ∃ (a b : Addr) (ns gs : List Int) (x : Int) (m : Nat), vs = [.ref a, .int x, .ref b] ∧ IL H a ns ∧ IL H b gs ∧ gs.length ≤ 21 ∧ n = m + 1 ∧ ns.length + n = 7 ∧
  ∀ v H', Ex H H' → FoAt H H' [v] (.cons x (trF gs m ns x).1 (trF gs m ns x).2 .nil) → Q v H'
theorem FoAt.one {B H : Hp} {p l : Addr} {x : Int} {o : Option Int} {vs : List V} {s : Fo} (h1 : B p = none) (h2 : B l = none) (h3 : H p = some (.tup [.int x, optV o, .ref l])) (h4 : H l = some (.lst vs)) (h5 : FoAt B H vs s) : FoAt B H [.ref p] (.cons x o s .nil) := .cons h1 h2 h3 h4 h5 .nil
theorem optV_non (o : Option Int) : (!decide (optV o = .non)) = o.isSome := by
  cases o <;> rfl
theorem h_trial0 (D : Df K mg "trial" s_trial) : Has P w K mg base CX0 2 "trial" ["places", "place", "gaps"] (sp_trial 0) :=
  D.none (fun _ _ _ _ _ _ us hl => match us, hl with | [_, _, _], _ => rfl) fun vs H Q E h => by
    obtain ⟨_, _, _, _, _, m, _, _, _, _, h, _⟩ := h
    omega
theorem h_trial1 {n k : Nat} (D : Df K mg "trial" s_trial) (T : Bs mg) (hk : 2 ≤ k) (G_without : Has P w K mg base CX0 1 "without" ["gaps", "some"] sp_without) (G_between : Has P w K mg base CX0 1 "between" ["places"] sp_between)
    (G_next_places : Has P w K mg base CX0 2 "next_places" ["places", "gaps"] sp_next_places) (G_trial : Has P w K mg base CX0 k "trial" ["places", "place", "gaps"] (sp_trial n)) : Has P w K mg base CX0 (k + 1) "trial" ["places", "place", "gaps"] (sp_trial (n + 1)) := by
  refine D.has0 sc_trial (fun _ _ _ _ _ _ us hl => match us, hl with | [_, _, _], _ => rfl) (fun vs H Q E h => ?_) (fun f cdv A outer s H vs Q E hr h => ?_)
  · obtain ⟨a, b, ns, gs, x, m, rfl, _⟩ := h
    rfl
  obtain ⟨a, b, ns, gs, x, m, rfl, ha, hb, hg, hm, hl, q⟩ := h
  obtain rfl : m = n := by omega
  refine ⟨_, (pss_cons (ps_set (i := 3) sc_trial.nd rfl (Or.inr rfl) (pe_op op_cat (pv 0) (pe_lst (pa_cons (pv 1) pa_nil))))
    (pss_cons (ps_set (i := 4) sc_trial.nd rfl (Or.inl rfl) (pe_ix ix_tup (pe_callH G_without (by first | exact hr | exact hr.mono (by omega)) (by rfl) pass0 (pa_cons (pv 2) (pa_cons (pe_callH G_between (by first | exact hr | exact hr.mono (by omega)) (by rfl) pass0 (pa_cons (pv 3) pa_nil)) pa_nil))) pe_int (fun _ _ => rfl)))
    (pss_cons (ps_if (pt_cmpR op_notN (pv 4) pe_non (nomark _))
    (pss_one (ps_ret (pe_tup (pa_cons (pv 1) (pa_cons (pv 4) (pa_cons (pe_lst pa_nil) pa_nil))))))
    pss_nil)
    (pss_one (ps_ret (pe_tup (pa_cons (pv 1) (pa_cons pe_non (pa_cons (pe_lc (own := [("far", 5)]) rfl sc_trial.nd (pi_list (pe_callH G_next_places (by first | exact hr | exact hr.mono (by omega)) (by rfl) pass0 (pa_cons (pv 3) (pa_cons (pv 2) pa_nil)))) (blkOk_by (own := [("far", 5)]) (N := nm_trial) (sc := defScope s_trial) (by decide +kernel)) (fun _ _ _ _ _ => (pg_name (i := 5) sc_trial.nd rfl (Or.inl rfl))) (fun _ _ _ _ _ => pts_nil) (fun _ _ _ _ _ => (pe_callH G_trial (by first | exact hr | exact hr.mono (by omega)) (by rfl) pass0 (pa_cons (pv 3) (pa_cons (pv 5) (pa_cons (pv 2) pa_nil)))))) pa_nil))))))))), ?_⟩
  refine s_asgL (el_cat (ys := [x]) v_ ha (el_lst (ea_cons v_ ea_nil) (by show (1 : Nat) ≤ 100000; decide)) (by show ns.length + 1 ≤ 100000; omega)) fun c H1 hc e1 h1 => ?_
  have hlen : (ns ++ [x]).length + m = 7 := by
    rw [List.length_append]
    show ns.length + 1 + m = 7
    omega
  refine s_asg (ev_wo1 v_ v_ (e1 b _ hb) h1 (by omega)) fun H2 e2 => ?_
  have e12 := e1.trans e2
  unfold trF at q
  have ew : (wo gs (btw (ns ++ [x]))).2 = lackP gs (ns ++ [x]) := rfl
  rw [ew]
  refine s_if (et_is (et_test (notN_ v_)) (optV_non _)) (fun hb2 H3 e3 => ?_) (fun hb2 H3 e3 => ?_)
  · have h0 : lackP gs (ns ++ [x]) ≠ none := fun z => by
      rw [z] at hb2
      cases hb2
    refine s_retUL v_ v_ (el_lst ea_nil (by decide)) fun p l H4 hp hl4 e4 h4 h5 => q (.ref p) H4 ((e12.trans e3).trans e4) (FoAt.one (fresh_back (e12.trans e3) hp) (fresh_back (e12.trans e3) hl4) h4 h5 ?_)
    rw [subs_lack h0]
    exact .nil
  · have h0 : lackP gs (ns ++ [x]) = none := by
      cases e : lackP gs (ns ++ [x]) with
      | none => rfl
      | some d =>
        rw [e] at hb2
        cases hb2
    dsimp only [tNext]
    rw [h0] at q
    have e13 := e12.trans e3
    have h3 : IL H3 c (ns ++ [x]) := e3 c _ (e2 c _ h1)
    have hb3 : IL H3 b gs := e13 b _ hb
    refine s_retUF (t := subs gs m (ns ++ [x])) v_ ev_c ?_ fun p l vs H4 hp hl4 e4 h4 h5 h6 => q (.ref p) H4 (e13.trans e4) (FoAt.one (fresh_back e13 hp) (fresh_back e13 hl4) h4 h5 (h6.base e13))
    by_cases hne : nextP gs (ns ++ [x]) = []
    · rw [subs_end hne]
      have z := el_lcFo (K := K) (σ := [some (.ref a), some (.int x), some (.ref b), some (.ref c), some (optV (lackP gs (ns ++ [x]))), none]) (H := H3) (j := 5) (vs := [5]) (ps := nextP gs (ns ++ [x])) (tt := tYes)
        (tl := tCall sp_next_places [] (fun _ _ _ => False) (tCons (tVar 3) (tCons (tVar 2) tNil))) (trF gs m (ns ++ [x])) (el_call (ea_cons v_ (ea_cons v_ ea_nil)) fun H5 e5 Q q E => ⟨c, b, _, gs, rfl, e5 c _ h3, e5 b _ hb3, by simp, by omega, q⟩) (by have := nextP_len gs (ns ++ [x]); omega) (fun _ => rfl) (fun _ _ _ => et_yes)
        (te := tCall (sp_trial m) [] (fun _ _ _ => False) (tCons (tVar 3) (tCons (tVar 5) (tCons (tVar 2) tNil)))) (fun y hy => by rw [hne] at hy; cases hy)
      rw [hne] at z
      exact z
    · have h6 := next_few hg (by omega) h0 hne
      obtain ⟨r, rfl⟩ : ∃ r, m = r + 1 := ⟨m - 1, by omega⟩
      rw [subs_on h0]
      exact el_lcFo _ (el_call (ea_cons v_ (ea_cons v_ ea_nil)) fun H5 e5 Q q E => ⟨c, b, _, gs, rfl, e5 c _ h3, e5 b _ hb3, by simp, by omega, q⟩) (by have := nextP_len gs (ns ++ [x]); omega) (fun _ => rfl) (fun _ _ _ => et_yes)
        (fun y hy H5 e5 Q q => t_call (ea_cons v_ (ea_cons v_ (ea_cons v_ ea_nil))) fun H6 e6 =>
          ⟨c, b, _, gs, y, r, rfl, (e5.trans e6) c _ h3, (e5.trans e6) b _ hb3, hg, rfl, by omega, fun v H9 e9 h9 => q v H9 (e6.trans e9) (h9.base e6)⟩)
theorem h_trial (D : Df K mg "trial" s_trial) (T : Bs mg) (G_without : Has P w K mg base CX0 1 "without" ["gaps", "some"] sp_without) (G_between : Has P w K mg base CX0 1 "between" ["places"] sp_between)
    (G_next_places : Has P w K mg base CX0 2 "next_places" ["places", "gaps"] sp_next_places) : ∀ n : Nat, Has P w K mg base CX0 (n + 2) "trial" ["places", "place", "gaps"] (sp_trial n)
  | 0 => h_trial0 D
  | n + 1 => h_trial1 D T (by omega) G_without G_between G_next_places (h_trial D T G_without G_between G_next_places n)

abbrev s_trials : Stmt := top 12
abbrev nm_trials : List Str := ["gaps", "ends", "place"]
theorem sc_trials : FnScope nm_trials ["gaps"] (defScope s_trials) := ⟨rfl, rfl, rfl, by decide +kernel, rfl, by decide +kernel, by decide +kernel⟩
/-- the trials of a list of distances -/
def sp_trials (K : PySem.W.Frag) : Sp := fun vs H Q E => ∃ (b : Addr) (gs : List Int), vs = [.ref b] ∧ IL H b gs ∧ Out K (refGaps gs) H E
  (∀ p ws H' B, H p = none → Ex H H' → H' p = some (.lst ws) → Ex H B → B p ≠ none → FoAt B H' ws (trialsF gs) → Q (.ref p) H')
theorem h_trials (D : Df K mg "trials" s_trials) (T : Bs mg) (G_see_gaps : Has P w K mg base (L2.CX P w) 1 "see_gaps" ["gaps"] (sp_see_gaps K))
    (G_next_places : Has P w K mg base CX0 2 "next_places" ["places", "gaps"] sp_next_places) (G_trial : Has P w K mg base CX0 7 "trial" ["places", "place", "gaps"] (sp_trial 5)) : Has P w K mg base (L2.CX P w) 8 "trials" ["gaps"] (sp_trials K) := by
  refine D.hasX sc_trials (fun _ _ _ _ _ _ us hl => match us, hl with | [_], _ => rfl) (fun vs H Q E h => ?_) (fun f cdv A outer s H vs Q E hr h => ?_)
  · obtain ⟨b, gs, rfl, _⟩ := h
    rfl
  obtain ⟨b, gs, rfl, hb, q⟩ := h
  refine ⟨_, (pss_cons (ps_expr (pe_callH G_see_gaps (by first | exact hr | exact hr.mono (by omega)) (by rfl) (passX (takes_of rfl rfl rfl rfl)) (pa_cons (pv 0) pa_nil)))
    (pss_cons (ps_if (pt_not (pt_truth (pv 0) (by intro _; rfl)))
    (pss_one (ps_ret (pe_lst pa_nil)))
    pss_nil)
    (pss_cons (ps_set (i := 1) sc_trials.nd rfl (Or.inr rfl) (pe_lst (pa_cons pe_int (pa_cons (pe_ix ix_list (pv 0) (pe_un un_neg pe_int) (fun _ _ => rfl)) pa_nil))))
    (pss_one (ps_ret (pe_lc (own := [("place", 2)]) rfl sc_trials.nd (pi_list (pe_callH G_next_places (by first | exact hr | exact hr.mono (by omega)) (by rfl) pass0 (pa_cons (pv 1) (pa_cons (pv 0) pa_nil)))) (blkOk_by (own := [("place", 2)]) (N := nm_trials) (sc := defScope s_trials) (by decide +kernel)) (fun _ _ _ _ _ => (pg_name (i := 2) sc_trials.nd rfl (Or.inl rfl))) (fun _ _ _ _ _ => pts_nil) (fun _ _ _ _ _ => (pe_callH G_trial (by first | exact hr | exact hr.mono (by omega)) (by rfl) pass0 (pa_cons (pv 1) (pa_cons (pv 2) (pa_cons (pv 0) pa_nil))))))))))), ?_⟩
  refine s_call (ea_cons v_ ea_nil) fun H1 e1 => ⟨b, gs, rfl, e1 b _ hb, q.imp e1 fun r1 q H2 e2 => ?_⟩
  have e12 := e1.trans e2
  refine s_if (et_not (et_truL v_ (e12 b _ hb))) (fun hb2 H3 e3 => ?_) (fun hb2 H3 e3 => ?_)
  · have h0 : gs = [] := by simpa using hb2
    refine s_retL (el_lst ea_nil (by decide)) fun p H4 hp e4 h4 => q p [] H4 H4 (fresh_back (e12.trans e3) hp) ((e12.trans e3).trans e4) h4 ((e12.trans e3).trans e4) (by rw [h4]; exact fun z => by cases z) ?_
    rw [trialsF, if_pos h0]
    exact .nil
  · have h0 : gs ≠ [] := by simpa using hb2
    dsimp only [tNext]
    have e13 := e12.trans e3
    refine s_asgL (el_lst (vs := [.int 0, .int (topI gs)]) (ea_cons ev_c (ea_cons (ixL_ (e13 b _ hb) v_ h0) ea_nil)) (by show (2 : Nat) ≤ 100000; decide)) fun c H4 hc e4 h4 => ?_
    have h4 : IL H4 c (ends gs) := h4
    have e14 := e13.trans e4
    have hb4 : IL H4 b gs := e14 b _ hb
    dsimp only
    refine s_retF (t := trialsF gs) ?_ fun p ws H5 B hp e5 h5 eB hB hF => q p ws H5 B (fresh_back e14 hp) (e14.trans e5) h5 (e14.trans eB) hB hF
    rw [trialsF, if_neg h0]
    exact el_lcFo _ (el_call (ea_cons v_ (ea_cons v_ ea_nil)) fun H5 e5 Q q E => ⟨c, b, _, gs, rfl, e5 c _ h4, e5 b _ hb4, by simp [ends], by show (2 : Nat) ≤ 100; decide, q⟩) (by have := nextP_len gs (ends gs); omega) (fun _ => rfl) (fun _ _ _ => et_yes)
        (fun y hy H5 e5 Q q => t_call (ea_cons v_ (ea_cons v_ (ea_cons v_ ea_nil))) fun H6 e6 =>
          ⟨c, b, _, gs, y, 4, rfl, (e5.trans e6) c _ h4, (e5.trans e6) b _ hb4, (refGaps_none r1).1, rfl, rfl, fun v H9 e9 h9 => q v H9 (e6.trans e9) (h9.base e6)⟩)

abbrev s_law_cell_at : Stmt := top 14
abbrev nm_law_cell_at : List Str := ["script", "k"]
theorem sc_law_cell_at : FnScope nm_law_cell_at ["script", "k"] (defScope s_law_cell_at) := ⟨rfl, rfl, rfl, by decide +kernel, rfl, by decide +kernel, by decide +kernel⟩
def sp_law_cell_at (K : PySem.W.Frag) : Sp := fun vs H Q _ => ∃ (a : Addr) (ns : List Int) (k : Int), vs = [.ref a, .int k] ∧ SqL K H a (Ints ns) ∧ 0 ≤ k ∧ RVal (.int (cell ns k)) H Q
theorem h_law_cell_at (D : Df K mg "_law_cell_at" s_law_cell_at) (T : Bs mg) : Has P w K mg base CX0 1 "_law_cell_at" ["script", "k"] (sp_law_cell_at K) := by
  refine D.has0 sc_law_cell_at (fun _ _ _ _ _ _ us hl => match us, hl with | [_, _], _ => rfl) (fun vs H Q E h => ?_) (fun f cdv A outer s H vs Q E hr h => ?_)
  · obtain ⟨a, ns, k, rfl, _⟩ := h
    rfl
  obtain ⟨a, ns, k, rfl, ha, hk, q⟩ := h
  refine ⟨_, (pss_cons (ps_if (pt_cmpR op_lt (pv 1) (pe_callB call_len_seq (by rfl) T.n_len (by decide +kernel) (pa_cons (pv 0) pa_nil)) (nomark _))
    (pss_one (ps_ret (pe_ix ix_list (pv 0) (pv 1) (fun _ _ => rfl))))
    pss_nil)
    (pss_one (ps_ret pe_int))), ?_⟩
  refine s_if (et_test (o_ v_ (ev_len v_ ha))) (fun hb H1 e1 => ?_) (fun hb H1 e1 => ?_)
  · rw [List.length_map] at hb
    have hb : k < (ns.length : Int) := of_decide_eq_true hb
    exact s_ret (ev_op v_ v_ (rv_ixL (ex_l e1 ha) (atI_ints hk hb))) fun H2 e2 => q H2 (e1.trans e2)
  · rw [List.length_map] at hb
    have hb : ¬ k < (ns.length : Int) := of_decide_eq_false hb
    have e : cell ns k = 0 := by
      unfold cell gi
      rw [List.getD_eq_getElem?_getD, List.getElem?_eq_none (by omega)]
      rfl
    rw [e] at q
    dsimp only [tNext]
    exact s_ret ev_c fun H2 e2 => q H2 (e1.trans e2)

theorem ev_cell {σ : L2.St} {H : Hp} {a : Addr} {ns : List Int} {k : Int} {ta tb : TE} {E : XK} (ha : Ev ta σ H (.ref a)) (hk : Ev tb σ H (.int k)) (h : SqL K H a (Ints ns)) (h0 : 0 ≤ k) :
    Ev (tCall (sp_law_cell_at K) [] E (tCons ta (tCons tb tNil))) σ H (.int (cell ns k)) := ev_call (ea_cons ha (ea_cons hk ea_nil)) fun H3 e3 Q q E => ⟨a, ns, k, rfl, ex_l e3 h, h0, q⟩

abbrev s_law_whole : Stmt := top 15
abbrev nm_law_whole : List Str := ["found"]
theorem sc_law_whole : FnScope nm_law_whole ["found"] (defScope s_law_whole) := ⟨rfl, rfl, rfl, by decide +kernel, rfl, by decide +kernel, by decide +kernel⟩
def sp_law_whole : Sp := fun vs H Q _ => ∃ i : Int, vs = [.int i] ∧ RVal (.bl true) H Q
theorem h_law_whole (D : Df K mg "_law_whole" s_law_whole) (T : Bs mg) : Has P w K mg base CX0 1 "_law_whole" ["found"] sp_law_whole := by
  refine D.has0 sc_law_whole (fun _ _ _ _ _ _ us hl => match us, hl with | [_], _ => rfl) (fun vs H Q E h => ?_) (fun f cdv A outer s H vs Q E hr h => ?_)
  · obtain ⟨i, rfl, _⟩ := h
    rfl
  obtain ⟨i, rfl, q⟩ := h
  refine ⟨_, (pss_one (ps_ret (pe_and (pe_callB call_isi (by rfl) T.n_isinstance (by decide +kernel) (pa_cons (pv 0) (pa_cons (pe_bltn (v := .ty "int") (by rfl) T.n_int (by decide +kernel) rfl) pa_nil))) (pe_one (pe_not (pe_callB call_isi (by rfl) T.n_isinstance (by decide +kernel) (pa_cons (pv 0) (pa_cons (pe_bltn (v := .ty "bool") (by rfl) T.n_bool (by decide +kernel) rfl) pa_nil)))))))), ?_⟩
  exact s_ret (ev_andV (isi_ (t := .type "int") v_ ev_c (fun H1 _ => .base (.int i)) (kit_ty (b := "int") (r := true) (by decide +kernel)))
    fun _ => ev_notV (isi_ (t := .type "int") v_ ev_c (fun H1 _ => .base (.int i)) (kit_ty (b := "bool") (r := false) (by decide +kernel)))) q

abbrev s_law_between : Stmt := top 17
abbrev nm_law_between : List Str := ["places", "found", "a", "b"]
theorem sc_law_between : FnScope nm_law_between ["places"] (defScope s_law_between) := ⟨rfl, rfl, rfl, by decide +kernel, rfl, by decide +kernel, by decide +kernel⟩
def sp_law_between : Sp := fun vs H Q _ => ∃ (a : Addr) (ns : List Int), vs = [.ref a] ∧ IL H a ns ∧ ns.length ≤ 100 ∧ RL (Ints (lbw ns)) H Q
theorem h_law_between (D : Df K mg "_law_between" s_law_between) (T : Bs mg) : Has P w K mg base CX0 1 "_law_between" ["places"] sp_law_between := by
  refine D.has0 sc_law_between (fun _ _ _ _ _ _ us hl => match us, hl with | [_], _ => rfl) (fun vs H Q E h => ?_) (fun f cdv A outer s H vs Q E hr h => ?_)
  · obtain ⟨a, ns, rfl, _⟩ := h
    rfl
  obtain ⟨a, ns, rfl, ha, hz, q⟩ := h
  refine ⟨_, (pss_cons (ps_set (i := 1) sc_law_between.nd rfl (Or.inl rfl) (pe_lst pa_nil))
    (pss_cons (ps_for PassesOwn.never rfl (pi_list (pv 0)) (pg_name (i := 2) sc_law_between.nd rfl (Or.inl rfl))
    (pss_one (ps_for PassesOwn.never rfl (pi_list (pv 0)) (pg_name (i := 3) sc_law_between.nd rfl (Or.inl rfl))
    (pss_one (ps_if (pt_cmpR op_lt (pv 2) (pv 3) (nomark _))
    (pss_one (ps_expr (pe_bm PySem.F.plainAttrs_list PySem.F.slot_list_append PySem.F.type_list_append mt_append (pv 1) (pa_cons (pe_op op_sub (pv 3) (pv 2)) pa_nil))))
    pss_nil)))))
    (pss_one (ps_ret (pe_callB cr_sortedI (by rfl) T.n_sorted (by decide +kernel) (pa_cons (pv 1) pa_nil)))))), ?_⟩
  refine s_asgL (el_lst ea_nil (by decide)) fun l H1 hl e1 h1 => ?_
  refine s_forL v_ (sq_of (e1 a _ ha)) (fun i σ H' => ∃ v2 v3, σ = [some (.ref a), some (.ref l), v2, v3] ∧ Ex H H' ∧ IL H' l ((ns.take i).flatMap (lallR ns)))
    (fun H2 e2 => ⟨none, none, rfl, e1.trans e2, e2 l _ h1⟩) (fun i σ H' _ ⟨_, _, _, e, _⟩ => sq_of (e a _ ha)) ?_ ?_
  · rintro i x σ H2 hi ⟨v2, v3, rfl, e2, h2⟩
    obtain ⟨x, hx, rfl⟩ := ints_at hi
    refine s_forL v_ (sq_of (e2 a _ ha)) (fun j σ H' => ∃ v3, σ = [some (.ref a), some (.ref l), some (.int x), v3] ∧ Ex H H' ∧ IL H' l ((ns.take i).flatMap (lallR ns) ++ lallR (ns.take j) x))
      (fun H3 e3 => ⟨v3, rfl, e2.trans e3, by simpa [lallR] using e3 l _ h2⟩) (fun i σ H' _ ⟨_, _, e, _⟩ => sq_of (e a _ ha)) ?_ ?_
    · rintro j y σ H3 hj ⟨v3, rfl, e3, h3⟩
      obtain ⟨y, hy, rfl⟩ := ints_at hj
      refine s_if (et_test (o_ v_ v_)) (fun hb H4 e4 => ?_) (fun hb H4 e4 => ?_)
      · have hb : x < y := of_decide_eq_true hb
        refine s_app (e4 l _ h3) v_ (o_ v_ v_) ?_ fun H5 e5 => ⟨_, rfl, Ex.mut ((e3.trans e4).trans e5) hl, ?_⟩
        · have := lall_part ns i j x
          rw [List.length_map]
          have h2 : ns.length * ns.length ≤ 100 * 100 := Nat.mul_le_mul hz hz
          omega
        · refine il_upd ?_
          rw [ints_app, List.append_assoc, lallR_more hy, if_pos hb]
      · have hb : ¬ x < y := of_decide_eq_false hb
        refine ⟨_, rfl, e3.trans e4, ?_⟩
        rw [lallR_more hy, if_neg hb, List.append_nil]
        exact e4 l _ h3
    · rintro σ H3 ⟨v3, rfl, e3, h3⟩
      rw [List.length_map, List.take_length] at h3
      refine ⟨_, _, rfl, e3, ?_⟩
      rw [take_more hx, List.flatMap_append, List.flatMap_singleton]
      exact h3
  · rintro σ H2 ⟨v2, v3, rfl, e2, h2⟩
    rw [List.length_map, List.take_length] at h2
    exact s_retL (el_sorted v_ h2) fun p H3 hp e3 h3 => q p H3 (fresh_back e2 hp) (e2.trans e3) h3

abbrev s_law_road : Stmt := top 18
abbrev nm_law_road : List Str := ["script", "first", "many", "steps", "road", "k"]
theorem sc_law_road : FnScope nm_law_road ["script", "first", "many", "steps"] (defScope s_law_road) := ⟨rfl, rfl, rfl, by decide +kernel, rfl, by decide +kernel, by decide +kernel⟩
def sp_law_road (K : PySem.W.Frag) : Sp := fun vs H Q _ => ∃ (a : Addr) (ns : List Int) (first steps : Int) (n : Nat), vs = [.ref a, .int first, .int (1 + (n : Int)), .int steps] ∧ SqL K H a (Ints ns) ∧ 0 ≤ first ∧ 0 < steps ∧ n ≤ 1000 ∧ RL (Ints (lroad ns first steps n)) H Q
theorem h_law_road (D : Df K mg "_law_road" s_law_road) (T : Bs mg) (G_law_cell_at : Has P w K mg base CX0 1 "_law_cell_at" ["script", "k"] (sp_law_cell_at K)) : Has P w K mg base CX0 2 "_law_road" ["script", "first", "many", "steps"] (sp_law_road K) := by
  refine D.has0 sc_law_road (fun _ _ _ _ _ _ us hl => match us, hl with | [_, _, _, _], _ => rfl) (fun vs H Q E h => ?_) (fun f cdv A outer s H vs Q E hr h => ?_)
  · obtain ⟨a, ns, first, steps, n, rfl, _⟩ := h
    rfl
  obtain ⟨a, ns, first, steps, n, rfl, ha, hf, hst, hn, q⟩ := h
  refine ⟨_, (pss_cons (ps_set (i := 4) sc_law_road.nd rfl (Or.inl rfl) (pe_lst (pa_cons pe_int pa_nil)))
    (pss_cons (ps_for PassesOwn.never rfl (pi_range1 rfl T.n_range (pa_cons (pe_op op_sub (pv 2) pe_int) pa_nil)) (pg_name (i := 5) sc_law_road.nd rfl (Or.inl rfl))
    (pss_one (ps_expr (pe_bm PySem.F.plainAttrs_list PySem.F.slot_list_append PySem.F.type_list_append mt_append (pv 4) (pa_cons (pe_op op_add (pe_op op_add (pe_ix ix_list (pv 4) (pe_un un_neg pe_int) (fun _ _ => rfl)) pe_int) (pe_op op_mod (pe_callH G_law_cell_at (by first | exact hr | exact hr.mono (by omega)) (by rfl) pass0 (pa_cons (pv 0) (pa_cons (pe_op op_add (pv 1) (pv 5)) pa_nil))) (pv 3))) pa_nil)))))
    (pss_one (ps_ret (pv 4))))), ?_⟩
  refine s_asgL (el_lst (ea_cons ev_c ea_nil) (by show (1 : Nat) ≤ 100000; decide)) fun l H1 hl e1 h1 => ?_
  refine s_forR1 (n := 1 + (n : Int) - 1) (ea_cons (sub_ v_ ev_c) ea_nil) ⟨by omega, by omega⟩
    (fun i σ H' => ∃ v, σ = [some (.ref a), some (.int first), some (.int (1 + (n : Int))), some (.int steps), some (.ref l), v] ∧ Ex H H' ∧ IL H' l (lroad ns first steps i)) (fun H2 e2 => ⟨none, rfl, e1.trans e2, e2 l _ h1⟩) ?_ ?_
  · rintro i σ H2 hi ⟨v, rfl, e2, h2⟩
    have hne : lroad ns first steps i ≠ [] := fun z => by
      have := lroad_len ns first steps i
      rw [z] at this
      cases this
    refine s_app h2 v_ (add_ (add_ (ixL_ h2 v_ hne) ev_c) (mod_ (ev_call (z := .int (cell ns (first + i))) (ea_cons v_ (ea_cons (add_ v_ v_) ea_nil)) fun H3 e3 Q q E => ⟨a, ns, first + i, rfl, ex_l (e2.trans e3) ha, by omega, q⟩) v_ hst)) ?_ fun H3 e3 => ⟨_, rfl, Ex.mut (e2.trans e3) hl, ?_⟩
    · rw [List.length_map, lroad_len]
      omega
    · refine il_upd ?_
      rw [ints_app, lroad, lroad_len, Nat.add_sub_cancel]
  · rintro σ H2 ⟨v, rfl, e2, h2⟩
    have j : (1 + (n : Int) - 1).toNat = n := by omega
    rw [j] at h2
    exact s_ret v_ fun H3 e3 => q l H3 hl (e2.trans e3) (e3 l _ h2)

abbrev s_law_left : Stmt := top 19
abbrev nm_law_left : List Str := ["gaps", "places", "left", "d"]
theorem sc_law_left : FnScope nm_law_left ["gaps", "places"] (defScope s_law_left) := ⟨rfl, rfl, rfl, by decide +kernel, rfl, by decide +kernel, by decide +kernel⟩
def sp_law_left : Sp := fun vs H Q _ => ∃ (a b : Addr) (gs ns : List Int), vs = [.ref a, .ref b] ∧ IL H a gs ∧ IL H b ns ∧ ns.length ≤ 100 ∧
  (∀ d, (wo gs (lbw ns)).2 = some d → ∀ (p : Addr) (H' : Hp), H p = none → Ex H H' → H' p = some (.tup [.non, .int d]) → Q (.ref p) H') ∧
  ((wo gs (lbw ns)).2 = none → ∀ (p l : Addr) (H' : Hp), H p = none → H l = none → Ex H H' → H' p = some (.tup [.ref l, .non]) → IL H' l (wo gs (lbw ns)).1 → Q (.ref p) H')
theorem h_law_left (D : Df K mg "_law_left" s_law_left) (T : Bs mg) (G_law_between : Has P w K mg base CX0 1 "_law_between" ["places"] sp_law_between) : Has P w K mg base CX0 2 "_law_left" ["gaps", "places"] sp_law_left := by
  refine D.has0 sc_law_left (fun _ _ _ _ _ _ us hl => match us, hl with | [_, _], _ => rfl) (fun vs H Q E h => ?_) (fun f cdv A outer s H vs Q E hr h => ?_)
  · obtain ⟨a, b, gs, ns, rfl, _⟩ := h
    rfl
  obtain ⟨a, b, gs, ns, rfl, ha, hb, hz, q1, q2⟩ := h
  refine ⟨_, (pss_cons (ps_set (i := 2) sc_law_left.nd rfl (Or.inl rfl) (pe_callTy call_list_of (by rfl) T.n_list (by decide +kernel) (pa_cons (pv 0) pa_nil)))
    (pss_cons (ps_for PassesOwn.never rfl (pi_list (pe_callH G_law_between (by first | exact hr | exact hr.mono (by omega)) (by rfl) pass0 (pa_cons (pv 1) pa_nil))) (pg_name (i := 3) sc_law_left.nd rfl (Or.inl rfl))
    (pss_cons (ps_if (pt_cmpR op_notIn_seq (pv 3) (pv 2) rfl)
    (pss_one (ps_ret (pe_tup (pa_cons pe_non (pa_cons (pv 3) pa_nil)))))
    pss_nil)
    (pss_one (ps_expr (pe_bm PySem.F.plainAttrs_list PySem.F.slot_list_remove PySem.F.type_list_remove mt_remove (pv 2) (pa_cons (pv 3) pa_nil))))))
    (pss_one (ps_ret (pe_tup (pa_cons (pv 2) (pa_cons pe_non pa_nil))))))), ?_⟩
  refine s_asgL (el_copy v_ ha) fun l H1 hl e1 h1 => ?_
  refine s_forNL (el_call (ea_cons v_ ea_nil) fun H2 e2 Q q E => ⟨b, ns, rfl, (e1.trans e2) b _ hb, hz, q⟩)
    (fun c i σ H' => ∃ v left, σ = [some (.ref a), some (.ref b), some (.ref l), v] ∧ Ex H H' ∧ H c = none ∧ c ≠ l ∧ IL H' c (lbw ns) ∧ IL H' l left ∧ wo gs (lbw ns) = wo left ((lbw ns).drop i))
    (fun c H2 hc e2 h2 => ⟨none, gs, rfl, e1.trans e2, fresh_back e1 hc, Ne.symm (ne_of_none h1 hc), h2, e2 l _ h1, rfl⟩) (fun c i σ H' _ ⟨_, _, _, _, _, _, e, _⟩ => sq_of e) ?_ ?_
  · rintro c i x σ H2 hi ⟨v, left, rfl, e2, hc, ncl, h3, h2, hw⟩
    obtain ⟨d, hd, rfl⟩ := ints_at hi
    rw [drop_at hd] at hw
    refine s_if (et_test (ni_ h2 v_ v_)) (fun hb H3 e3 => ?_) (fun hb H3 e3 => ?_)
    · have hn : d ∉ left := by simpa using hb
      rw [wo_out hn] at hw
      exact s_retU (eu_tup (ea_cons ev_c (ea_cons v_ ea_nil)) (by show (2 : Nat) ≤ 100000; decide)) fun p H4 hp e4 h4 => q1 d (by rw [hw]) p H4 (fresh_back (e2.trans e3) hp) ((e2.trans e3).trans e4) h4
    · have hn : d ∈ left := by simpa using hb
      rw [wo_in hn] at hw
      exact s_rem (e3 l _ h2) v_ v_ hn fun H4 e4 => ⟨_, _, rfl, Ex.mut ((e2.trans e3).trans e4) hl, hc, ncl, by rw [IL, upd_ne ncl]; exact e4 c _ (e3 c _ h3), upd_same, hw⟩
  · rintro c σ H2 ⟨v, left, rfl, e2, hc, ncl, h3, h2, hw⟩
    rw [List.length_map, List.drop_length] at hw
    refine s_retU (eu_tup (ea_cons v_ (ea_cons ev_c ea_nil)) (by show (2 : Nat) ≤ 100000; decide)) fun p H4 hp e4 h4 => q2 (by rw [hw]; rfl) p l H4 (fresh_back e2 hp) hl (e2.trans e4) h4 ?_
    rw [hw]
    exact e4 l _ h2

/-- _law_left(gaps, here)[1] and [0] -/
theorem ev_left1 {σ : L2.St} {H : Hp} {tx ty : TE} {a b : Addr} {gs ns : List Int} {E1 : XK} (hg : Ev tx σ H (.ref b)) (hn : Ev ty σ H (.ref a)) (h1 : IL H b gs) (h2 : IL H a ns) (hz : ns.length ≤ 100) (nd : ns.Nodup) :
    Ev (tOp (rIxT K) (tCall sp_law_left [] E1 (tCons tx (tCons ty tNil))) (tC (.int 1))) σ H (optV (lackP gs ns)) := fun H1 e Q q =>
  hg H1 e _ fun H2 e2 => hn H2 (e.trans e2) _ fun H3 e3 => ⟨b, a, gs, ns, rfl, ((e.trans e2).trans e3) b _ h1, ((e.trans e2).trans e3) a _ h2, hz, fun d hd p H4 hp e4 h4 => ⟨p, _, 1, _, rfl, rfl, st_of h4, rfl, by
    rw [lbw_btw nd] at hd
    have hd : lackP gs ns = some d := hd
    rw [hd] at q
    exact q H4 ((e2.trans e3).trans e4)⟩, fun hd p l H4 hp hl e4 h4 h5 => ⟨p, _, 1, _, rfl, rfl, st_of h4, rfl, by
    rw [lbw_btw nd] at hd
    have hd : lackP gs ns = none := hd
    rw [hd] at q
    exact q H4 ((e2.trans e3).trans e4)⟩⟩
theorem el_left0 {σ : L2.St} {H : Hp} {tx ty : TE} {a b : Addr} {gs ns : List Int} {E1 : XK} (hg : Ev tx σ H (.ref b)) (hn : Ev ty σ H (.ref a)) (h1 : IL H b gs) (h2 : IL H a ns) (hz : ns.length ≤ 100) (nd : ns.Nodup) (h0 : lackP gs ns = none) :
    EvL (tOp (rIxT K) (tCall sp_law_left [] E1 (tCons tx (tCons ty tNil))) (tC (.int 0))) σ H (Ints (leftP gs ns)) := fun H1 e Q q =>
  hg H1 e _ fun H2 e2 => hn H2 (e.trans e2) _ fun H3 e3 => ⟨b, a, gs, ns, rfl, ((e.trans e2).trans e3) b _ h1, ((e.trans e2).trans e3) a _ h2, hz, fun d hd p H4 hp e4 h4 => (by
    rw [lbw_btw nd] at hd
    have hd : lackP gs ns = some d := hd
    rw [hd] at h0
    cases h0), fun hd p l H4 hp hl e4 h4 h5 => ⟨p, _, 0, _, rfl, rfl, st_of h4, rfl, q l H4 (fresh_back (e2.trans e3) hl) ((e2.trans e3).trans e4) (by
      rw [lbw_btw nd] at h5
      exact h5)⟩⟩
theorem ev_left0 {σ : L2.St} {H : Hp} {tx ty : TE} {a b : Addr} {gs ns : List Int} {E1 : XK} (hg : Ev tx σ H (.ref b)) (hn : Ev ty σ H (.ref a)) (h1 : IL H b gs) (h2 : IL H a ns) (hz : ns.length ≤ 100) (nd : ns.Nodup) (h0 : lackP gs ns ≠ none) :
    Ev (tOp (rIxT K) (tCall sp_law_left [] E1 (tCons tx (tCons ty tNil))) (tC (.int 0))) σ H .non := fun H1 e Q q =>
  hg H1 e _ fun H2 e2 => hn H2 (e.trans e2) _ fun H3 e3 => ⟨b, a, gs, ns, rfl, ((e.trans e2).trans e3) b _ h1, ((e.trans e2).trans e3) a _ h2, hz, fun d hd p H4 hp e4 h4 => ⟨p, _, 0, _, rfl, rfl, st_of h4, rfl, q H4 ((e2.trans e3).trans e4)⟩, fun hd p l H4 hp hl e4 h4 h5 => by
    rw [lbw_btw nd] at hd
    exact absurd hd h0⟩

abbrev s_law_next : Stmt := top 20
abbrev nm_law_next : List Str := ["gaps", "places", "left", "length", "place"]
theorem sc_law_next : FnScope nm_law_next ["gaps", "places"] (defScope s_law_next) := ⟨rfl, rfl, rfl, by decide +kernel, rfl, by decide +kernel, by decide +kernel⟩
def lnext (gs ns : List Int) : List Int := if lackP gs ns = none then nextP gs ns else []
def sp_law_next : Sp := fun vs H Q _ => ∃ (a b : Addr) (ns gs : List Int), vs = [.ref b, .ref a] ∧ IL H a ns ∧ IL H b gs ∧ ns ≠ [] ∧ ns.length ≤ 100 ∧ ns.Nodup ∧ RL (Ints (lnext gs ns)) H Q
theorem h_law_next (D : Df K mg "_law_next" s_law_next) (T : Bs mg) (G_law_left : Has P w K mg base CX0 2 "_law_left" ["gaps", "places"] sp_law_left) : Has P w K mg base CX0 3 "_law_next" ["gaps", "places"] sp_law_next := by
  refine D.has0 sc_law_next (fun _ _ _ _ _ _ us hl => match us, hl with | [_, _], _ => rfl) (fun vs H Q E h => ?_) (fun f cdv A outer s H vs Q E hr h => ?_)
  · obtain ⟨a, b, ns, gs, rfl, _⟩ := h
    rfl
  obtain ⟨a, b, ns, gs, rfl, ha, hb, hn, hz, nd, q⟩ := h
  refine ⟨_, (pss_cons (ps_set (i := 2) sc_law_next.nd rfl (Or.inl rfl) (pe_ix ix_tup (pe_callH G_law_left (by first | exact hr | exact hr.mono (by omega)) (by rfl) pass0 (pa_cons (pv 0) (pa_cons (pv 1) pa_nil))) pe_int (fun _ _ => rfl)))
    (pss_cons (ps_if (PW.pt (pw_or (pt_cmpR op_isN (pv 2) pe_non (nomark _)) (pw_or1 (pt_cmpR (op_eqD (hD_of hr)) (pv 2) (pe_lst pa_nil) (nomark _)))))
    (pss_one (ps_ret (pe_lst pa_nil)))
    pss_nil)
    (pss_cons (ps_set (i := 3) sc_law_next.nd rfl (Or.inl rfl) (pe_callB (cr_max rfl) (by rfl) T.n_max (by decide +kernel) (pa_cons (pv 1) pa_nil)))
    (pss_one (ps_ret (pe_lc (own := [("place", 4)]) rfl sc_law_next.nd (pi_list (pe_callB (cr_sortedSet rfl) (by rfl) T.n_sorted (by decide +kernel) (pa_cons (pe_callTy (cr_setI rfl) (by rfl) T.n_set (by decide +kernel) (pa_cons (pe_lst (pa_cons (pe_ix ix_list (pv 2) (pe_un un_neg pe_int) (fun _ _ => rfl)) (pa_cons (pe_op op_sub (pv 3) (pe_ix ix_list (pv 2) (pe_un un_neg pe_int) (fun _ _ => rfl))) pa_nil))) pa_nil)) pa_nil))) (blkOk_by (own := [("place", 4)]) (N := nm_law_next) (sc := defScope s_law_next) (by decide +kernel)) (fun _ _ _ _ _ => (pg_name (i := 4) sc_law_next.nd rfl (Or.inl rfl))) (fun _ _ _ _ _ => (pts_one (pt_cmpR (r := rIn K true) op_notIn_seq (pv 4) (pv 1) rfl))) (fun _ _ _ _ _ => (pv 4)))))))), ?_⟩
  by_cases h0 : lackP gs ns = none
  · rw [lnext, if_pos h0] at q
    refine s_asgL (el_left0 v_ v_ hb ha hz nd h0) fun l H1 hl e1 h1 => ?_
    refine s_if (et_or (a := false) (et_test (isN_ (x := .ref l) v_)) fun _ => et_test (eqIN_ (ms := []) v_ h1 (el_lst ea_nil (by decide)))) (fun hb2 H2 e2 => ?_) (fun hb2 H2 e2 => ?_)
    · have h0 : leftP gs ns = [] := by simpa using hb2
      refine s_retL (el_lst ea_nil (by decide)) fun p H3 hp e3 h3 => q p H3 (fresh_back (e1.trans e2) hp) ((e1.trans e2).trans e3) ?_
      rw [nextP, if_pos h0]
      exact h3
    · have h0 : leftP gs ns ≠ [] := by simpa using hb2
      dsimp only [tNext]
      have e12 := e1.trans e2
      refine s_asg (ev_max v_ (e12 a _ ha) hn) fun H3 e3 => ?_
      have h3 : IL H3 l (leftP gs ns) := e3 l _ (e2 l _ h1)
      have e13 := e12.trans e3
      dsimp only
      refine s_retL (xs := Ints (nextP gs ns)) ?_ fun r H5 hr e5 h5 => q r H5 (fresh_back e13 hr) (e13.trans e5) h5
      rw [nextP, if_neg h0]
      have hf : ∀ ps : List Int, Ints (ps.filter fun x => !decide (x ∈ ns)) = Ints ((ps.filter fun x => !decide (x ∈ ns)).map id) := fun ps => by rw [List.map_id]
      rw [hf]
      exact el_lcNI _ _ (el_sortSet (ns := [topI (leftP gs ns), maxD 0 ns - topI (leftP gs ns)]) (el_lst (ea_cons (ixL_ h3 v_ h0) (ea_cons (sub_ v_ (ixL_ h3 v_ h0)) ea_nil)) (by show (2 : Nat) ≤ 100000; decide)) (by show (2 : Nat) < 64; decide))
        (by have hm := sortD_len [topI (leftP gs ns), maxD 0 ns - topI (leftP gs ns)]; simp at hm; omega) (fun x => rfl) (fun x _ H5 e5 => et_test (ni_ ((e13.trans e5) a _ ha) v_ v_)) (fun x _ H5 e5 _ => v_)
  · rw [lnext, if_neg h0] at q
    refine s_asg (ev_left0 v_ v_ hb ha hz nd h0) fun H1 e1 => ?_
    refine s_if (et_or (a := true) (b := false) (et_test (isN_ (x := .non) v_)) fun z => by cases z) (fun _ H2 e2 => ?_) (fun z => by cases z)
    exact s_retL (el_lst ea_nil (by decide)) fun p H3 hp e3 h3 => q p H3 (fresh_back (e1.trans e2) hp) ((e1.trans e2).trans e3) h3
theorem lnext_nin {gs here : List Int} {x : Int} (h : x ∈ lnext gs here) : x ∉ here := by
  unfold lnext at h
  split at h
  · exact nextP_nin h
  · cases h
theorem lnext_len (gs here : List Int) : (lnext gs here).length ≤ 2 := by
  unfold lnext
  split
  · exact nextP_len gs here
  · exact Nat.zero_le _

abbrev s_law_trial : Stmt := top 21
abbrev nm_law_trial : List Str := ["gaps", "places", "place", "here", "lack", "far"]
theorem sc_law_trial : FnScope nm_law_trial ["gaps", "places", "place"] (defScope s_law_trial) := ⟨rfl, rfl, rfl, by decide +kernel, rfl, by decide +kernel, by decide +kernel⟩
def sp_law_trial (n : Nat) : Sp := fun vs H Q _ => ∃ (a b : Addr) (ns gs : List Int) (x : Int) (m : Nat), vs = [.ref b, .ref a, .int x] ∧ IL H a ns ∧ IL H b gs ∧ gs.length ≤ 21 ∧ ns.Nodup ∧ x ∉ ns ∧ n = m + 1 ∧ ns.length + n = 7 ∧
  ∀ v H', Ex H H' → FoAt H H' [v] (.cons x (trF gs m ns x).1 (trF gs m ns x).2 .nil) → Q v H'
theorem h_law_trial0 (D : Df K mg "_law_trial" s_law_trial) : Has P w K mg base CX0 3 "_law_trial" ["gaps", "places", "place"] (sp_law_trial 0) :=
  D.none (fun _ _ _ _ _ _ us hl => match us, hl with | [_, _, _], _ => rfl) fun vs H Q E h => by
    obtain ⟨_, _, _, _, _, m, _, _, _, _, _, _, h, _⟩ := h
    omega
theorem subs_lnext {gs here : List Int} {m : Nat} : subs gs (m + 1) here = fo (trF gs m here) (lnext gs here) := by
  by_cases h : lackP gs here = none
  · rw [subs_on h, lnext, if_pos h]
  · rw [subs_lack h, lnext, if_neg h]
    rfl
theorem h_law_trial1 {n k : Nat} (D : Df K mg "_law_trial" s_law_trial) (T : Bs mg) (hk : 3 ≤ k) (G_law_left : Has P w K mg base CX0 2 "_law_left" ["gaps", "places"] sp_law_left)
    (G_law_next : Has P w K mg base CX0 3 "_law_next" ["gaps", "places"] sp_law_next) (G_law_trial : Has P w K mg base CX0 k "_law_trial" ["gaps", "places", "place"] (sp_law_trial n)) : Has P w K mg base CX0 (k + 1) "_law_trial" ["gaps", "places", "place"] (sp_law_trial (n + 1)) := by
  refine D.has0 sc_law_trial (fun _ _ _ _ _ _ us hl => match us, hl with | [_, _, _], _ => rfl) (fun vs H Q E h => ?_) (fun f cdv A outer s H vs Q E hr h => ?_)
  · obtain ⟨a, b, ns, gs, x, m, rfl, _⟩ := h
    rfl
  obtain ⟨a, b, ns, gs, x, m, rfl, ha, hb, hg, nd, hx, hm, hl, q⟩ := h
  obtain rfl : m = n := by omega
  refine ⟨_, (pss_cons (ps_set (i := 3) sc_law_trial.nd rfl (Or.inr rfl) (pe_op op_cat (pv 1) (pe_lst (pa_cons (pv 2) pa_nil))))
    (pss_cons (ps_set (i := 4) sc_law_trial.nd rfl (Or.inl rfl) (pe_ix ix_tup (pe_callH G_law_left (by first | exact hr | exact hr.mono (by omega)) (by rfl) pass0 (pa_cons (pv 0) (pa_cons (pv 3) pa_nil))) pe_int (fun _ _ => rfl)))
    (pss_one (ps_ret (pe_tup (pa_cons (pv 2) (pa_cons (pv 4) (pa_cons (pe_lc (own := [("far", 5)]) rfl sc_law_trial.nd (pi_list (pe_callH G_law_next (by first | exact hr | exact hr.mono (by omega)) (by rfl) pass0 (pa_cons (pv 0) (pa_cons (pv 3) pa_nil)))) (blkOk_by (own := [("far", 5)]) (N := nm_law_trial) (sc := defScope s_law_trial) (by decide +kernel)) (fun _ _ _ _ _ => (pg_name (i := 5) sc_law_trial.nd rfl (Or.inl rfl))) (fun _ _ _ _ _ => pts_nil) (fun _ _ _ _ _ => (pe_callH G_law_trial (by first | exact hr | exact hr.mono (by omega)) (by rfl) pass0 (pa_cons (pv 0) (pa_cons (pv 3) (pa_cons (pv 5) pa_nil)))))) pa_nil)))))))), ?_⟩
  refine s_asgL (el_cat (ys := [x]) v_ ha (el_lst (ea_cons v_ ea_nil) (by show (1 : Nat) ≤ 100000; decide)) (by show ns.length + 1 ≤ 100000; omega)) fun c H1 hc e1 h1 => ?_
  have hlen : (ns ++ [x]).length + m = 7 := by
    rw [List.length_append]
    show ns.length + 1 + m = 7
    omega
  have nd1 : (ns ++ [x]).Nodup := List.nodup_append.mpr ⟨nd, (by simp), fun y hy z hz e => hx (by rw [List.mem_singleton] at hz; rw [← hz, ← e]; exact hy)⟩
  refine s_asg (ev_left1 v_ v_ (e1 b _ hb) h1 (by omega) nd1) fun H2 e2 => ?_
  have e12 := e1.trans e2
  unfold trF at q
  have h2 : IL H2 c (ns ++ [x]) := e2 c _ h1
  have hb2 : IL H2 b gs := e12 b _ hb
  generalize ns ++ [x] = here at *
  dsimp only
  refine s_retUF (t := subs gs m here) v_ v_ ?_ fun p l vs H4 hp hl4 e4 h4 h5 h6 => q (.ref p) H4 (e12.trans e4) (FoAt.one (fresh_back e12 hp) (fresh_back e12 hl4) h4 h5 (h6.base e12))
  have hcall : ∀ {E1 : XK} {σ : L2.St} {tx ty : TE}, Ev tx σ H2 (.ref b) → Ev ty σ H2 (.ref c) → EvL (tCall sp_law_next [] E1 (tCons tx (tCons ty tNil))) σ H2 (Ints (lnext gs here)) := fun h3 h4 => el_call (ea_cons h3 (ea_cons h4 ea_nil)) fun H5 e5 Q q E => ⟨c, b, _, gs, rfl, e5 c _ h2, e5 b _ hb2, (fun z => by rw [z] at hlen; simp at hlen; omega), by omega, nd1, q⟩
  by_cases hne : lnext gs here = []
  · have e0 : subs gs m here = fo (trF gs m here) (lnext gs here) := by
      rw [hne]
      cases m with
      | zero => rfl
      | succ m => rw [subs_lnext, hne] <;> rfl
    rw [e0]
    exact el_lcFo _ (hcall v_ v_) (by have := lnext_len gs here; omega) (fun _ => rfl) (fun _ _ _ => et_yes) (fun y hy => by rw [hne] at hy; cases hy)
  · have h0 : lackP gs here = none ∧ nextP gs here ≠ [] := by
      unfold lnext at hne
      split at hne
      · exact ⟨by assumption, hne⟩
      · exact absurd rfl hne
    have h6 := next_few hg (by omega) h0.1 h0.2
    obtain ⟨r, rfl⟩ : ∃ r, m = r + 1 := ⟨m - 1, by omega⟩
    rw [subs_lnext]
    exact el_lcFo _ (hcall v_ v_) (by have := lnext_len gs here; omega) (fun _ => rfl) (fun _ _ _ => et_yes)
      (fun y hy H5 e5 Q q => t_call (ea_cons v_ (ea_cons v_ (ea_cons v_ ea_nil))) fun H6 e6 =>
        ⟨c, b, _, gs, y, r, rfl, (e5.trans e6) c _ h2, (e5.trans e6) b _ hb2, hg, nd1, lnext_nin hy, rfl, by omega, fun v H9 e9 h9 => q v H9 (e6.trans e9) (h9.base e6)⟩)
theorem h_law_trial (D : Df K mg "_law_trial" s_law_trial) (T : Bs mg) (G_law_left : Has P w K mg base CX0 2 "_law_left" ["gaps", "places"] sp_law_left)
    (G_law_next : Has P w K mg base CX0 3 "_law_next" ["gaps", "places"] sp_law_next) : ∀ n : Nat, Has P w K mg base CX0 (n + 3) "_law_trial" ["gaps", "places", "place"] (sp_law_trial n)
  | 0 => h_law_trial0 D
  | n + 1 => h_law_trial1 D T (by omega) G_law_left G_law_next (h_law_trial D T G_law_left G_law_next n)

abbrev s_law_gaps : Stmt := top 22
abbrev nm_law_gaps : List Str := ["script", "first", "steps", "road", "gaps", "mode", "cell"]
theorem sc_law_gaps : FnScope nm_law_gaps ["script", "first"] (defScope s_law_gaps) := ⟨rfl, rfl, rfl, by decide +kernel, rfl, by decide +kernel, by decide +kernel⟩
def sp_law_gaps (K : PySem.W.Frag) : Sp := fun vs H Q _ => ∃ (a : Addr) (ns : List Int) (first : Int), vs = [.ref a, .int first] ∧ SqL K H a (Ints ns) ∧ 0 ≤ first ∧ RL (Ints (lgaps ns first)) H Q
theorem h_law_gaps (D : Df K mg "_law_gaps" s_law_gaps) (T : Bs mg) (G_law_cell_at : Has P w K mg base CX0 1 "_law_cell_at" ["script", "k"] (sp_law_cell_at K)) (G_law_road : Has P w K mg base CX0 2 "_law_road" ["script", "first", "many", "steps"] (sp_law_road K))
    (G_law_between : Has P w K mg base CX0 1 "_law_between" ["places"] sp_law_between) : Has P w K mg base CX0 3 "_law_gaps" ["script", "first"] (sp_law_gaps K) := by
  refine D.has0 sc_law_gaps (fun _ _ _ _ _ _ us hl => match us, hl with | [_, _], _ => rfl) (fun vs H Q E h => ?_) (fun f cdv A outer s H vs Q E hr h => ?_)
  · obtain ⟨a, ns, first, rfl, _⟩ := h
    rfl
  obtain ⟨a, ns, first, rfl, ha, hf, q⟩ := h
  refine ⟨_, (pss_cons (ps_set (i := 2) sc_law_gaps.nd rfl (Or.inl rfl) (pe_ix ix_list (pe_lst (pa_cons pe_int (pa_cons pe_int (pa_cons pe_int (pa_cons pe_int pa_nil))))) (pe_op op_mod (pe_op op_fdiv (pe_callH G_law_cell_at (by first | exact hr | exact hr.mono (by omega)) (by rfl) pass0 (pa_cons (pv 0) (pa_cons (pv 1) pa_nil))) pe_int) pe_int) (fun _ _ => rfl)))
    (pss_cons (ps_set (i := 3) sc_law_gaps.nd rfl (Or.inl rfl) (pe_callH G_law_road (by first | exact hr | exact hr.mono (by omega)) (by rfl) pass0 (pa_cons (pv 0) (pa_cons (pe_op op_add (pv 1) pe_int) (pa_cons (pe_op op_add pe_int (pe_op op_mod (pe_callH G_law_cell_at (by first | exact hr | exact hr.mono (by omega)) (by rfl) pass0 (pa_cons (pv 0) (pa_cons (pv 1) pa_nil))) pe_int)) (pa_cons (pv 2) pa_nil))))))
    (pss_cons (ps_set (i := 4) sc_law_gaps.nd rfl (Or.inl rfl) (pe_callH G_law_between (by first | exact hr | exact hr.mono (by omega)) (by rfl) pass0 (pa_cons (pv 3) pa_nil)))
    (pss_cons (ps_set (i := 5) sc_law_gaps.nd rfl (Or.inl rfl) (pe_op op_mod (pe_op op_fdiv (pe_callH G_law_cell_at (by first | exact hr | exact hr.mono (by omega)) (by rfl) pass0 (pa_cons (pv 0) (pa_cons (pv 1) pa_nil))) pe_int) pe_int))
    (pss_cons (ps_set (i := 6) sc_law_gaps.nd rfl (Or.inl rfl) (pe_callH G_law_cell_at (by first | exact hr | exact hr.mono (by omega)) (by rfl) pass0 (pa_cons (pv 0) (pa_cons (pe_op op_add (pv 1) pe_int) pa_nil))))
    (pss_cut (ps_if (PW.pt (pw_and (pt_cmpR op_eq (pv 5) pe_int (nomark _)) (pw_and1 (pt_cmpR (op_neD (hD_of hr)) (pv 4) (pe_lst pa_nil) (nomark _)))))
    (pss_one (ps_expr (pe_bm PySem.F.plainAttrs_list PySem.F.slot_list_pop PySem.F.type_list_pop mt_popAt (pv 4) (pa_cons (pe_op op_mod (pv 6) (pe_callB call_len_seq (by rfl) T.n_len (by decide +kernel) (pa_cons (pv 4) pa_nil))) pa_nil))))
    pss_nil)
    (pss_cut (ps_if (PW.pt (pw_and (pt_cmpR op_eq (pv 5) pe_int (nomark _)) (pw_and1 (pt_cmpR (op_neD (hD_of hr)) (pv 4) (pe_lst pa_nil) (nomark _)))))
    (pss_one (ps_asg (pe_op op_add pe_int (pe_op op_mod (pe_op op_fdiv (pv 6) pe_int) (pe_op op_add (pe_ix ix_list (pv 4) (pe_un un_neg pe_int) (fun _ _ => rfl)) pe_int))) (pg_sub (pv 4) (pe_op op_mod (pv 6) (pe_callB call_len_seq (by rfl) T.n_len (by decide +kernel) (pa_cons (pv 4) pa_nil))) set_list)))
    pss_nil)
    (pss_cut (ps_if (PW.pt (pw_and (pt_cmpR op_eq (pv 5) pe_int (nomark _)) (pw_and1 (pt_cmpR op_lt (pe_callB call_len_seq (by rfl) T.n_len (by decide +kernel) (pa_cons (pv 4) pa_nil)) pe_int (nomark _)))))
    (pss_one (ps_expr (pe_bm PySem.F.plainAttrs_list PySem.F.slot_list_append PySem.F.type_list_append mt_append (pv 4) (pa_cons (pe_op op_add pe_int (pe_op op_mod (pe_op op_fdiv (pv 6) pe_int) (pe_op op_add (pe_callBK (cr_maxDf rfl) (by rfl) T.n_max (by decide +kernel) (pa_cons (pv 4) pa_nil) (pk_cons pe_int pk_nil)) pe_int))) pa_nil))))
    pss_nil)
    (pss_one (ps_ret (pe_callB cr_sortedI (by rfl) T.n_sorted (by decide +kernel) (pa_cons (pv 4) pa_nil)))))))))))), ?_⟩
  refine s_asg (menu_ (ns := [3, 9, 60, 600]) (el_lst (ea_cons ev_c (ea_cons ev_c (ea_cons ev_c (ea_cons ev_c ea_nil)))) (by show (4 : Nat) ≤ 100000; decide)) (fun H1 e1 => mod_ (div_ (ev_cell v_ v_ (ex_l e1 ha) hf) ev_c ⟨by decide, by decide⟩) ev_c (by decide)) (by omega) (by show _ < (4 : Int); omega)) fun H1 e1 => ?_
  refine s_asgL (el_call (ea_cons v_ (ea_cons (add_ v_ ev_c) (ea_cons (add_ ev_c (mod_ (ev_cell v_ v_ (ex_l e1 ha) hf) ev_c (by decide))) (ea_cons v_ ea_nil)))) fun H2 e2 Q q E =>
    ⟨a, ns, first + 1, steps4 (cell ns first), (cell ns first % 7).toNat, by rw [show (((cell ns first % 7).toNat : Nat) : Int) = cell ns first % 7 by omega]; rfl, ex_l (e1.trans e2) ha, by omega, (steps4_pos _).1, by omega, q⟩) fun r H2 hr2 e2 h2 => ?_
  have e12 := e1.trans e2
  have hlen : (lmade ns first).length ≤ 7 := by
    rw [lmade, lroad_len]
    omega
  refine s_asgL (el_call (ea_cons v_ ea_nil) fun H3 e3 Q q E => ⟨r, lmade ns first, rfl, e3 r _ h2, by omega, q⟩) fun l H3 hl e3 h3 => ?_
  have e13 := e12.trans e3
  have hl0 : H l = none := fresh_back e12 hl
  refine s_asg (mod_ (div_ (ev_cell v_ v_ (ex_l e13 ha) hf) ev_c ⟨by decide, by decide⟩) ev_c (by decide)) fun H4 e4 => ?_
  have e14 := e13.trans e4
  refine s_asg (ev_cell v_ (add_ v_ ev_c) (ex_l e14 ha) (by omega)) fun H5 e5 => ?_
  have e15 := e14.trans e5
  have h5 : IL H5 l (lbw (lmade ns first)) := e5 l _ (e4 l _ h3)
  have hg0 : (lbw (lmade ns first)).length ≤ 49 := by
    have h1 := lbw_len (lmade ns first)
    have h2 := Nat.mul_le_mul hlen hlen
    omega
  have hp0 : ∀ d ∈ lbw (lmade ns first), 1 ≤ d := fun d hd => lbw_pos hd
  unfold lgaps at q
  generalize lbw (lmade ns first) = g0 at h5 hg0 hp0 q
  refine s_cutif (fun σ H' => σ = [some (.ref a), some (.int first), some (.int (steps4 (cell ns first))), some (.ref r), some (.ref l), some (.int (cell ns first / 28 % 6)), some (.int (cell ns (first + 7)))] ∧ Ex H H' ∧ IL H' l (lg1 (cell ns first / 28 % 6) (cell ns (first + 7)) g0))
    (et_and (et_test (ev_op v_ ev_c (rv_eq rfl))) fun _ => et_test (neIN_ (ms := []) v_ h5 (el_lst ea_nil (by decide)))) (fun hb H6 e6 => ?_) (fun hb H6 e6 => ?_) ?_
  · simp at hb
    have hn : 0 < (g0.length : Int) := by
      have := List.length_pos_iff.mpr hb.2
      omega
    refine s_popAt (e6 l _ h5) v_ (mod_ v_ (ev_lenI v_ (e6 l _ h5)) hn) (Int.emod_nonneg _ (by omega)) (Int.emod_lt_of_pos _ hn) (by omega) fun H7 e7 => ⟨rfl, Ex.mut ((e15.trans e6).trans e7) hl0, ?_⟩
    rw [lg1, if_pos hb]
    exact upd_same
  · refine ⟨rfl, e15.trans e6, ?_⟩
    rw [lg1, if_neg (by simpa using hb)]
    exact e6 l _ h5
  rintro σ' H6 ⟨rfl, e6, h6⟩
  have hg1 : (lg1 (cell ns first / 28 % 6) (cell ns (first + 7)) g0).length ≤ 49 := Nat.le_trans (lg1_len _ _ _) hg0
  have hp1 := lg1_pos (m := cell ns first / 28 % 6) (c := cell ns (first + 7)) hp0
  generalize lg1 (cell ns first / 28 % 6) (cell ns (first + 7)) g0 = g1 at h6 hg1 hp1 q
  refine s_cutif (fun σ H' => σ = [some (.ref a), some (.int first), some (.int (steps4 (cell ns first))), some (.ref r), some (.ref l), some (.int (cell ns first / 28 % 6)), some (.int (cell ns (first + 7)))] ∧ Ex H H' ∧ IL H' l (lg2 (cell ns first / 28 % 6) (cell ns (first + 7)) g1))
    (et_and (et_test (ev_op v_ ev_c (rv_eq rfl))) fun _ => et_test (neIN_ (ms := []) v_ h6 (el_lst ea_nil (by decide)))) (fun hb H7 e7 => ?_) (fun hb H7 e7 => ?_) ?_
  · simp at hb
    have hn : 0 < (g1.length : Int) := by
      have := List.length_pos_iff.mpr hb.2
      omega
    have ht := top_pos hp1 hb.2
    refine s_setI (e7 l _ h6) (add_ ev_c (mod_ (div_ v_ ev_c ⟨by decide, by decide⟩) (add_ (ixL_ (e7 l _ h6) v_ hb.2) ev_c) (by omega))) v_ (mod_ v_ (ev_lenI v_ (e7 l _ h6)) hn) (Int.emod_nonneg _ (by omega)) (Int.emod_lt_of_pos _ hn) fun H8 e8 => ⟨rfl, Ex.mut ((e6.trans e7).trans e8) hl0, ?_⟩
    rw [lg2, if_pos hb]
    exact upd_same
  · refine ⟨rfl, e6.trans e7, ?_⟩
    rw [lg2, if_neg (by simpa using hb)]
    exact e7 l _ h6
  rintro σ' H7 ⟨rfl, e7, h7⟩
  have hg2 : (lg2 (cell ns first / 28 % 6) (cell ns (first + 7)) g1).length ≤ 49 := by
    rw [lg2_len]
    exact hg1
  have hp2 := lg2_pos (m := cell ns first / 28 % 6) (c := cell ns (first + 7)) hp1
  generalize lg2 (cell ns first / 28 % 6) (cell ns (first + 7)) g1 = g2 at h7 hg2 hp2 q
  refine s_cutif (fun σ H' => σ = [some (.ref a), some (.int first), some (.int (steps4 (cell ns first))), some (.ref r), some (.ref l), some (.int (cell ns first / 28 % 6)), some (.int (cell ns (first + 7)))] ∧ Ex H H' ∧ IL H' l (lg3 (cell ns first / 28 % 6) (cell ns (first + 7)) g2))
    (et_and (et_test (ev_op v_ ev_c (rv_eq rfl))) fun _ => et_test (o_ (ev_lenI v_ h7) ev_c)) (fun hb H8 e8 => ?_) (fun hb H8 e8 => ?_) ?_
  · simp at hb
    have ht := maxD_pos hp2
    refine s_app (e8 l _ h7) v_ (add_ ev_c (mod_ (div_ v_ ev_c ⟨by decide, by decide⟩) (add_ (ev_maxD v_ (e8 l _ h7)) ev_c) (by omega))) (by rw [List.length_map]; omega) fun H9 e9 => ⟨rfl, Ex.mut ((e7.trans e8).trans e9) hl0, ?_⟩
    rw [lg3, if_pos ⟨hb.1, by omega⟩]
    exact il_upd (ints_app _ _)
  · refine ⟨rfl, e7.trans e8, ?_⟩
    rw [lg3, if_neg (fun z => by simp at hb; have := hb z.1; omega)]
    exact e8 l _ h7
  rintro σ' H8 ⟨rfl, e8, h8⟩
  exact s_retL (el_sorted v_ h8) fun p H9 hp e9 h9 => q p H9 (fresh_back e8 hp) (e8.trans e9) h9

abbrev s_law_alike : Stmt := top 23
abbrev nm_law_alike : List Str := ["found", "due", "k", "one"]
theorem sc_law_alike : FnScope nm_law_alike ["found", "due"] (defScope s_law_alike) := ⟨rfl, rfl, rfl, by decide +kernel, rfl, by decide +kernel, by decide +kernel⟩
/-- the same forest twice: True -/
def sp_law_alike (n : Nat) : Sp := fun vs H Q _ => ∃ (a b : Addr) (us ws : List V) (B1 B2 : Hp) (t : Fo), vs = [.ref a, .ref b] ∧ Lst H a us ∧ Lst H b ws ∧ FoAt B1 H us t ∧ FoAt B2 H ws t ∧ t.len ≤ 100 ∧ FoFew t ∧ t.dep < n ∧ RVal (.bl true) H Q
theorem h_law_alike0 (D : Df K mg "_law_alike" s_law_alike) : Has P w K mg base CX0 1 "_law_alike" ["found", "due"] (sp_law_alike 0) :=
  D.none (fun _ _ _ _ _ _ us hl => match us, hl with | [_, _], _ => rfl) fun vs H Q E h => by
    obtain ⟨_, _, _, _, _, _, _, _, _, _, _, _, _, _, h, _⟩ := h
    omega
theorem h_law_alike1 {n k : Nat} (D : Df K mg "_law_alike" s_law_alike) (T : Bs mg) (hk : 1 ≤ k) (G_law_whole : Has P w K mg base CX0 1 "_law_whole" ["found"] sp_law_whole)
    (G_law_alike : Has P w K mg base CX0 k "_law_alike" ["found", "due"] (sp_law_alike n)) : Has P w K mg base CX0 (k + 1) "_law_alike" ["found", "due"] (sp_law_alike (n + 1)) := by
  refine D.has0 sc_law_alike (fun _ _ _ _ _ _ us hl => match us, hl with | [_, _], _ => rfl) (fun vs H Q E h => ?_) (fun f cdv A outer s H vs Q E hr h => ?_)
  · obtain ⟨a, b, us, ws, B1, B2, t, rfl, _⟩ := h
    rfl
  obtain ⟨a, b, us, ws, B1, B2, t, rfl, ha, hb, h1, h2, hz, hf, hd, q⟩ := h
  refine ⟨_, (pss_cons (ps_if (PW.pt (pw_or (pt_not (pt_val (pe_callB call_isi (by rfl) T.n_isinstance (by decide +kernel) (pa_cons (pv 0) (pa_cons (pe_bltn (v := .ty "list") (by rfl) T.n_list (by decide +kernel) rfl) pa_nil))))) (pw_or1 (pt_cmpR op_ne (pe_callB call_len_seq (by rfl) T.n_len (by decide +kernel) (pa_cons (pv 0) pa_nil)) (pe_callB call_len_seq (by rfl) T.n_len (by decide +kernel) (pa_cons (pv 1) pa_nil)) (nomark _)))))
    (pss_one (ps_ret pe_bl))
    pss_nil)
    (pss_cons (ps_for PassesOwn.never rfl (pi_range1 rfl T.n_range (pa_cons (pe_callB call_len_seq (by rfl) T.n_len (by decide +kernel) (pa_cons (pv 1) pa_nil)) pa_nil)) (pg_name (i := 2) sc_law_alike.nd rfl (Or.inl rfl))
    (pss_cons (ps_set (i := 3) sc_law_alike.nd rfl (Or.inl rfl) (pe_ix ix_list (pv 0) (pv 2) (fun _ _ => rfl)))
    (pss_cons (ps_if (PW.pt (pw_or (pt_not (pt_val (pe_callB call_isi (by rfl) T.n_isinstance (by decide +kernel) (pa_cons (pv 3) (pa_cons (pe_bltn (v := .ty "tuple") (by rfl) T.n_tuple (by decide +kernel) rfl) pa_nil))))) (pw_or (pt_cmpR op_ne (pe_callB call_len_seq (by rfl) T.n_len (by decide +kernel) (pa_cons (pv 3) pa_nil)) pe_int (nomark _)) (pw_or (pt_not (pt_val (pe_callH G_law_whole (by first | exact hr | exact hr.mono (by omega)) (by rfl) pass0 (pa_cons (pe_ix ix_tup (pv 3) pe_int (fun _ _ => rfl)) pa_nil)))) (pw_or1 (pt_cmpR op_ne (pe_ix ix_tup (pv 3) pe_int (fun _ _ => rfl)) (pe_ix ix_tup (pe_ix ix_list (pv 1) (pv 2) (fun _ _ => rfl)) pe_int (fun _ _ => rfl)) (nomark _)))))))
    (pss_one (ps_ret pe_bl))
    pss_nil)
    (pss_cons (ps_if (PW.pt (pw_and (pt_cmpR op_isN (pe_ix ix_tup (pe_ix ix_list (pv 1) (pv 2) (fun _ _ => rfl)) pe_int (fun _ _ => rfl)) pe_non (nomark _)) (pw_and1 (pt_cmpR op_notN (pe_ix ix_tup (pv 3) pe_int (fun _ _ => rfl)) pe_non (nomark _)))))
    (pss_one (ps_ret pe_bl))
    pss_nil)
    (pss_cons (ps_if (PW.pt (pw_and (pt_cmpR op_notN (pe_ix ix_tup (pe_ix ix_list (pv 1) (pv 2) (fun _ _ => rfl)) pe_int (fun _ _ => rfl)) pe_non (nomark _)) (pw_and1 (PW.pt (pw_or (pt_not (pt_val (pe_callH G_law_whole (by first | exact hr | exact hr.mono (by omega)) (by rfl) pass0 (pa_cons (pe_ix ix_tup (pv 3) pe_int (fun _ _ => rfl)) pa_nil)))) (pw_or1 (pt_cmpR op_ne (pe_ix ix_tup (pv 3) pe_int (fun _ _ => rfl)) (pe_ix ix_tup (pe_ix ix_list (pv 1) (pv 2) (fun _ _ => rfl)) pe_int (fun _ _ => rfl)) (nomark _))))))))
    (pss_one (ps_ret pe_bl))
    pss_nil)
    (pss_one (ps_if (pt_not (pt_val (pe_callH G_law_alike (by first | exact hr | exact hr.mono (by omega)) (by rfl) pass0 (pa_cons (pe_ix ix_tup (pv 3) pe_int (fun _ _ => rfl)) (pa_cons (pe_ix ix_tup (pe_ix ix_list (pv 1) (pv 2) (fun _ _ => rfl)) pe_int (fun _ _ => rfl)) pa_nil)))))
    (pss_one (ps_ret pe_bl))
    pss_nil)))))))
    (pss_one (ps_ret pe_bl)))), ?_⟩
  have l1 := h1.many
  have l2 := h2.many
  refine s_if (b := false) (et_is (et_or (et_not (et_B (isi_ (t := .type "list") v_ ev_c (fun H1 e1 => .base (.lst (e1 a _ ha))) (kit_ty (b := "list") (r := true) (by decide +kernel))))) fun _ => et_test (ev_op (ev_len v_ (sq_of ha)) (ev_len v_ (sq_of hb)) (rv_ne rfl))) (by simp [l1, l2])) (fun z => by cases z) fun _ H1 e1 => ?_
  dsimp only [tNext]
  refine s_forR1 (n := (ws.length : Int)) (ea_cons (ev_len v_ (sq_of (e1 b _ hb))) ea_nil) ⟨by omega, by omega⟩
      (fun i σ H' => ∃ v2 v3, σ = [some (.ref a), some (.ref b), v2, v3] ∧ Ex H H') (fun H2 e2 => ⟨none, none, rfl, e1.trans e2⟩) ?_ ?_
  · rintro i σ H2 hi ⟨v2, v3, rfl, e2⟩
    obtain ⟨p, l, x, o, xs, s1, a1, a2, a3, _, _, a4, a5, a6⟩ := h1.nth (k := i) (by omega)
    obtain ⟨p', l', x', o', xs', s2, b1, b2, b3, _, _, b4, b5, b6⟩ := h2.nth (k := i) (by omega)
    rw [a1] at b1
    cases b1
    refine s_asg (ixV_ (e2 a _ ha) v_ v_ (atI_nat a3)) fun H3 e3 => ?_
    have e23 := e2.trans e3
    have ix : ∀ {H4 : Hp} {tx ty : TE} {σ : L2.St}, Ex H H4 → Ev tx σ H4 (.ref b) → Ev ty σ H4 (.int (i : Int)) → Ev (tOp (rIxL K) tx ty) σ H4 (.ref p') := fun e5 h5 h6 => ixV_ (e5 b _ hb) h5 h6 (atI_nat b3)
    refine s_if (b := false) (et_is (et_or (et_not (et_B (isi_ (t := .type "tuple") v_ ev_c (fun H1 e1 => .base (.tup (e1 p _ (e23 p _ a4)))) (kit_ty (b := "tuple") (r := true) (by decide +kernel))))) fun _ =>
      et_or (et_test (ev_op (ev_lenT v_ (e23 p _ a4)) ev_c (rv_ne rfl))) fun _ => et_or (et_not (et_B (ev_call (z := .bl true) (ea_cons (ixT_ (e23 p _ a4) v_ ev_c rfl) ea_nil) fun H4 e4 Q q E => ⟨_, rfl, q⟩))) fun _ =>
      et_test (ev_op (x := .int x) (y := .int x) (ixT_ (e23 p _ a4) v_ ev_c rfl) (ixT_ (e23 p' _ b4) (ix e23 v_ v_) ev_c rfl) (rv_ne rfl))) (by simp)) (fun z => by cases z) fun _ H4 e4 => ?_
    dsimp only [tNext]
    have e24 := e23.trans e4
    refine s_if (b := false) ?_ (fun z => by cases z) fun _ H5 e5 => ?_
    · refine et_is (et_and (a := decide (optV o = .non)) (b := !decide (optV o = .non)) (et_test (isN_ (ixT_ (e24 p' _ b4) (ix e24 v_ v_) ev_c rfl))) fun _ => et_test (notN_ (ixT_ (e24 p _ a4) v_ ev_c rfl))) ?_
      cases o <;> rfl
    dsimp only [tNext]
    have e25 := e24.trans e5
    refine s_if (b := false) ?_ (fun z => by cases z) fun _ H6 e6 => ?_
    · cases o with
      | none => exact et_and (a := false) (b := false) (et_test (notN_ (x := .non) (ixT_ (e25 p' _ b4) (ix e25 v_ v_) ev_c rfl))) fun z => by cases z
      | some d => exact et_is (et_and (a := true) (et_test (notN_ (x := .int d) (ixT_ (e25 p' _ b4) (ix e25 v_ v_) ev_c rfl))) fun _ => et_or (et_not (et_B (ev_call (z := .bl true) (ea_cons (ixT_ (e25 p _ a4) v_ ev_c rfl) ea_nil) fun H4 e4 Q q E => ⟨d, rfl, q⟩))) fun _ =>
          et_test (ev_op (x := .int d) (y := .int d) (ixT_ (e25 p _ a4) v_ ev_c rfl) (ixT_ (e25 p' _ b4) (ix e25 v_ v_) ev_c rfl) (rv_ne rfl))) (by simp)
    dsimp only [tNext]
    have e26 := e25.trans e6
    obtain ⟨c1, c2⟩ := hf.at a1
    refine s_if (b := false) (et_is (et_not (et_B (ev_call (z := .bl true) (ea_cons (ixT_ (e26 p _ a4) v_ ev_c rfl) (ea_cons (ixT_ (e26 p' _ b4) (ix e26 v_ v_) ev_c rfl) ea_nil)) fun H7 e7 Q q E =>
      ⟨l, l', xs, xs', B1, B2, s1, rfl, (e26.trans e7) l _ a5, (e26.trans e7) l' _ b5, a6.ex (e26.trans e7), b6.ex (e26.trans e7), c1, c2, by omega, q⟩))) rfl) (fun z => by cases z) fun _ H7 e7 => ⟨_, _, rfl, e26.trans e7⟩
  · rintro σ H2 ⟨v2, v3, rfl, e2⟩
    dsimp only [tNext]
    exact s_ret ev_c fun H3 e3 => q H3 (e2.trans e3)
theorem h_law_alike (D : Df K mg "_law_alike" s_law_alike) (T : Bs mg) (G_law_whole : Has P w K mg base CX0 1 "_law_whole" ["found"] sp_law_whole) : ∀ n : Nat, Has P w K mg base CX0 (n + 1) "_law_alike" ["found", "due"] (sp_law_alike n)
  | 0 => h_law_alike0 D
  | n + 1 => h_law_alike1 D T (by omega) G_law_whole (h_law_alike D T G_law_whole n)

abbrev s_law : Stmt := top 24
abbrev nm_law : List Str := ["script", "gaps", "due", "ends", "handed", "found", "one", "place"]
theorem sc_law : FnScope nm_law ["script"] (defScope s_law) := ⟨rfl, rfl, rfl, by decide +kernel, rfl, by decide +kernel, by decide +kernel⟩
def sp_law (K : PySem.W.Frag) : Sp := fun vs H Q _ => ∃ (a : Addr) (ns : List Int), vs = [.ref a] ∧ SqL K H a (Ints ns) ∧ ns.length ≤ 63 ∧ ∀ H', Q (.bl true) H'
theorem h_law (D : Df K mg "law" s_law) (T : Bs mg) (G_law_gaps : Has P w K mg base CX0 3 "_law_gaps" ["script", "first"] (sp_law_gaps K)) (G_law_next : Has P w K mg base CX0 3 "_law_next" ["gaps", "places"] sp_law_next)
    (G_law_trial : Has P w K mg base CX0 8 "_law_trial" ["gaps", "places", "place"] (sp_law_trial 5)) (G_law_alike : Has P w K mg base CX0 7 "_law_alike" ["found", "due"] (sp_law_alike 6))
    (G_trials : Has P w K mg base (L2.CX P w) 8 "trials" ["gaps"] (sp_trials K)) : Has P w K mg base CX0 9 "law" ["script"] (sp_law K) := by
  refine D.has0 sc_law (fun _ _ _ _ _ _ us hl => match us, hl with | [_], _ => rfl) (fun vs H Q E h => ?_) (fun f cdv A outer s H vs Q E hr h => ?_)
  · obtain ⟨a, ns, rfl, _⟩ := h
    rfl
  obtain ⟨a, ns, rfl, ha, _, q⟩ := h
  refine ⟨_, (pss_cons (ps_set (i := 1) sc_law.nd rfl (Or.inr rfl) (pe_callH G_law_gaps (by first | exact hr | exact hr.mono (by omega)) (by rfl) pass0 (pa_cons (pv 0) (pa_cons pe_int pa_nil))))
    (pss_cons (ps_set (i := 2) sc_law.nd rfl (Or.inl rfl) (pe_lst pa_nil))
    (pss_cut (ps_if (pt_cmpR (op_neD (hD_of hr)) (pv 1) (pe_lst pa_nil) (nomark _))
    (pss_cons (ps_set (i := 3) sc_law.nd rfl (Or.inr rfl) (pe_lst (pa_cons pe_int (pa_cons (pe_ix ix_list (pv 1) (pe_un un_neg pe_int) (fun _ _ => rfl)) pa_nil))))
    (pss_one (ps_setLc (i := 2) (own := [("place", 7)]) rfl sc_law.nd rfl rfl (sw_true rfl rfl rfl (by decide +kernel)) (pi_list (pe_callH G_law_next (by first | exact hr | exact hr.mono (by omega)) (by rfl) pass0 (pa_cons (pv 1) (pa_cons (pv 3) pa_nil)))) (blkOk_by (own := [("place", 7)]) (N := nm_law) (sc := defScope s_law) (by decide +kernel)) (fun _ _ _ _ _ => (pg_name (i := 7) sc_law.nd rfl (Or.inl rfl))) (fun _ _ _ _ _ => pts_nil) (fun _ _ _ _ _ => (pe_callH G_law_trial (by first | exact hr | exact hr.mono (by omega)) (by rfl) pass0 (pa_cons (pv 1) (pa_cons (pv 3) (pa_cons (pv 7) pa_nil))))))))
    pss_nil)
    (pss_cons (ps_set (i := 4) sc_law.nd rfl (Or.inl rfl) (pe_callTy call_list_of (by rfl) T.n_list (by decide +kernel) (pa_cons (pv 1) pa_nil)))
    (pss_cons (ps_set (i := 5) sc_law.nd rfl (Or.inl rfl) (pe_callH G_trials (by first | exact hr | exact hr.mono (by omega)) (by rfl) passE0 (pa_cons (pv 4) pa_nil)))
    (pss_cons (ps_if (PW.pt (pw_or (pt_not (pt_val (pe_callH G_law_alike (by first | exact hr | exact hr.mono (by omega)) (by rfl) pass0 (pa_cons (pv 5) (pa_cons (pv 2) pa_nil))))) (pw_or1 (pt_cmpR (op_neD (hD_of hr)) (pv 4) (pv 1) (nomark _)))))
    (pss_one (ps_ret pe_bl))
    pss_nil)
    (pss_cons (ps_for PassesOwn.never rfl (pi_list (pv 5)) (pg_name (i := 6) sc_law.nd rfl (Or.inl rfl))
    (pss_one (ps_expr (pe_bm PySem.F.plainAttrs_list PySem.F.slot_list_append PySem.F.type_list_append mt_append (pe_ix ix_tup (pv 6) pe_int (fun _ _ => rfl)) (pa_cons (pe_tup (pa_cons pe_int (pa_cons pe_non (pa_cons (pe_lst pa_nil) pa_nil)))) pa_nil)))))
    (pss_cons (ps_expr (pe_bm0 PySem.F.plainAttrs_list PySem.F.slot_list_clear PySem.F.type_list_clear mt_clear (pv 5)))
    (pss_one (ps_ret (pe_callH G_law_alike (by first | exact hr | exact hr.mono (by omega)) (by rfl) pass0 (pa_cons (pe_callH G_trials (by first | exact hr | exact hr.mono (by omega)) (by rfl) passE0 (pa_cons (pv 4) pa_nil)) (pa_cons (pv 2) pa_nil))))))))))))), ?_⟩
  obtain ⟨hg21, hok⟩ := lgaps_ok ns 0
  have hpos := hok.pos
  have href := refGaps_ok hg21 hok
  refine s_asgL (el_call (ea_cons v_ (ea_cons ev_c ea_nil)) fun H1 e1 Q q E => ⟨a, ns, 0, rfl, ex_l e1 ha, by decide, q⟩) fun g H1 hg e1 h1 => ?_
  generalize lgaps ns 0 = gs at *
  have h1 : IL H1 g gs := h1
  refine s_asgL (el_lst ea_nil (by decide)) fun d H2 hd e2 h2 => ?_
  have hg2 : IL H2 g gs := e2 g _ h1
  refine s_cutif (fun σ H' => ∃ (dd : Addr) (c : Option V) (ws : List V) (B : Hp), σ = [some (.ref a), some (.ref g), some (.ref dd), c, none, none, none, none] ∧ Ex H2 H' ∧ Lst H' dd ws ∧ FoAt B H' ws (trialsF gs))
    (et_test (neIN_ (ms := []) v_ hg2 (el_lst ea_nil (by decide)))) (fun hb H3 e3 => ?_) (fun hb H3 e3 => ?_) ?_
  · have h0 : gs ≠ [] := by simpa using hb
    have hg3 : IL H3 g gs := e3 g _ hg2
    refine s_asgL (el_lst (vs := [.int 0, .int (topI gs)]) (ea_cons ev_c (ea_cons (ixL_ hg3 v_ h0) ea_nil)) (by show (2 : Nat) ≤ 100000; decide)) fun c H4 hc e4 h4 => ?_
    have h4 : IL H4 c (ends gs) := h4
    have hg4 : IL H4 g gs := e4 g _ hg3
    refine s_asgF (t := fo (trF gs 4 (ends gs)) (lnext gs (ends gs))) (el_lcFo _ (el_call (ea_cons v_ (ea_cons v_ ea_nil)) fun H5 e5 Q q E => ⟨c, g, _, gs, rfl, e5 c _ h4, e5 g _ hg4, by simp [ends], by show (2 : Nat) ≤ 100; decide, ends_nodup h0 hpos, q⟩) (by have := lnext_len gs (ends gs); omega) (fun _ => rfl) (fun _ _ _ => et_yes)
        (fun y hy H5 e5 Q q => t_call (ea_cons v_ (ea_cons v_ (ea_cons v_ ea_nil))) fun H6 e6 =>
          ⟨c, g, _, gs, y, 4, rfl, (e5.trans e6) c _ h4, (e5.trans e6) g _ hg4, hg21, ends_nodup h0 hpos, lnext_nin hy, rfl, rfl, fun v H9 e9 h9 => q v H9 (e6.trans e9) (h9.base e6)⟩)) fun p ws H5 B hp e5 h5 eB hB hF => ?_
    refine ⟨p, _, ws, B, rfl, (e3.trans e4).trans e5, h5, ?_⟩
    rw [trialsF, if_neg h0]
    rw [lnext, if_pos (ends_lack h0 hpos)] at hF
    exact hF
  · have h0 : gs = [] := by simpa using hb
    refine ⟨d, none, [], H3, rfl, e3, e3 d _ h2, ?_⟩
    rw [trialsF, if_pos h0]
    exact .nil
  rintro σ' H3 ⟨dd, c, ws, B, rfl, e3, h3, hF⟩
  have hg3 : IL H3 g gs := e3 g _ hg2
  obtain ⟨tl, tf⟩ := trialsF_few gs
  have td := trialsF_dep gs
  refine s_asgL (el_copy v_ hg3) fun h H4 hh e4 h4 => ?_
  have h4 : IL H4 h gs := h4
  have hg4 : IL H4 g gs := e4 g _ hg3
  refine s_asgF (t := trialsF gs) (fun H5 e5 Q q => t_call (ea_cons v_ ea_nil) fun H6 e6 => ⟨h, gs, rfl, (e5.trans e6) h _ h4, Out.ok href fun p ws H7 B hp e7 h7 eB hB hF => q p ws H7 B (fresh_back e6 hp) (e6.trans e7) h7 (e6.trans eB) hB hF⟩) fun f fs H5 B5 hf e5 h5 eB hB hF5 => ?_
  have hF5 : FoAt B5 H5 fs (trialsF gs) := hF5
  have h53 : Lst H5 dd ws := e5 dd _ (e4 dd _ h3)
  have hFd : FoAt B H5 ws (trialsF gs) := hF.ex (e4.trans e5)
  refine s_if (b := false) (et_is (et_or (a := false) (b := false) (et_not (et_B (ev_call (z := .bl true) (ea_cons v_ (ea_cons v_ ea_nil)) fun H6 e6 Q q E => ⟨f, dd, fs, ws, B5, B, _, rfl, e6 f _ h5, e6 dd _ h53, hF5.ex e6, hFd.ex e6, tl, tf, by omega, q⟩))) fun _ => et_is (et_test (neI_ v_ (e5 h _ h4) v_ (e5 g _ hg4))) (by simp)) rfl) (fun z => by cases z) fun _ H6 e6 => ?_
  dsimp only [tNext]
  have hl := hF5.many
  have e46 := e5.trans e6
  refine s_forL v_ (sq_of (e6 f _ h5)) (fun i σ H' => ∃ v6, σ = [some (.ref a), some (.ref g), some (.ref dd), c, some (.ref h), some (.ref f), v6, none] ∧ Ex H4 H' ∧ Lst H' f fs ∧
      ∀ j, j < fs.length → ∃ (p l : Addr) (x : Int) (o : Option Int) (us : List V), fs[j]? = some (.ref p) ∧ B5 l = none ∧ H' p = some (.tup [.int x, optV o, .ref l]) ∧ H' l = some (.lst us) ∧ us.length ≤ 100 + i)
    (fun H7 e7 => ⟨none, rfl, e46.trans e7, e7 f _ (e6 f _ h5), fun j hj => ?_⟩) (fun i σ H' _ ⟨_, _, _, e, _⟩ => sq_of e) ?_ ?_
  · obtain ⟨p, l, x, o, us, s1, a1, a2, a3, _, a3l, a4, a5, a6⟩ := hF5.nth (k := j) (by omega)
    obtain ⟨c1, c2⟩ := tf.at a1
    refine ⟨p, l, x, o, us, a3, a3l, e7 p _ (e6 p _ a4), e7 l _ (e6 l _ a5), ?_⟩
    rw [a6.many]
    omega
  · rintro i x σ H7 hi ⟨v6, rfl, e7, h7, hj⟩
    have hi' := (List.getElem?_eq_some_iff.mp hi).1
    obtain ⟨p, l, y, o, us, b1, b2, b3, b4, b5⟩ := hj i hi'
    rw [hi] at b1
    cases b1
    refine s_appX (xs := us) b4 (ixT_ b3 v_ ev_c rfl) (any_tup3 ev_c ev_c (el_lst ea_nil (by decide))) (by omega) fun v H8 e8 => ?_
    have hl4 : H4 l = none := fresh_back eB b2
    have hlf : f ≠ l := fun z => by
      rw [z] at hB
      exact hB b2
    refine ⟨_, rfl, Ex.mut (e7.trans e8) hl4, ?_, fun j hjj => ?_⟩
    · show upd H8 l _ f = _
      rw [upd_ne hlf]
      exact e8 f _ h7
    · obtain ⟨p', l', y', o', us', c1, c2, c3, c4, c5⟩ := hj j hjj
      have hpl : p' ≠ l := fun z => by
        rw [z, b4] at c3
        cases c3
      by_cases hll : l' = l
      · subst hll
        rw [b4] at c4
        cases c4
        refine ⟨p', l', y', o', us ++ [v], c1, c2, ?_, upd_same, by rw [List.length_append, List.length_singleton]; omega⟩
        rw [upd_ne hpl]
        exact e8 p' _ c3
      · refine ⟨p', l', y', o', us', c1, c2, ?_, ?_, by omega⟩
        · rw [upd_ne hpl]
          exact e8 p' _ c3
        · rw [upd_ne hll]
          exact e8 l' _ c4
  · rintro σ H7 ⟨v6, rfl, e7, h7, hj⟩
    dsimp only [tNext]
    have hF4 : H4 f = none := hf
    refine s_clear h7 v_ fun H8 e8 => ?_
    have e9 := Ex.mut (o := .lst []) (e7.trans e8) hF4
    generalize upd H8 f (.lst []) = H9 at e9 ⊢
    dsimp only
    have h49 : IL H9 h gs := e9 h _ h4
    refine s_ret (v := .bl true) (fun H10 e10 Q q => ?_) fun H10 _ => q H10
    refine t_callN (t_call (ea_cons v_ ea_nil) fun H11 e11 => ⟨h, gs, rfl, (e10.trans e11) h _ h49, Out.ok href fun p ws2 H12 B12 hp e12 h12 _ _ hF12 => ?_⟩)
    refine t_args (ea_cons v_ ea_nil) fun H13 e13 => ?_
    have e413 := ((((e9.trans e10).trans e11).trans e12).trans e13)
    exact ⟨p, dd, ws2, ws, B12, B, _, rfl, e13 p _ h12, e413 dd _ (e4 dd _ h3), hF12.ex e13, (hF.ex e4).ex e413, tl, tf, by omega, fun H14 e14 => q H14 (((e11.trans e12).trans e13).trans e14)⟩

end
def fn : List He.DefD := [⟨("between", none), "between", "between", defArgs s_between, defBody s_between, defScope s_between, [], []⟩,
  ⟨("see_gaps", none), "see_gaps", "see_gaps", defArgs s_see_gaps, defBody s_see_gaps, defScope s_see_gaps, [], []⟩,
  ⟨("without", none), "without", "without", defArgs s_without, defBody s_without, defScope s_without, [], []⟩,
  ⟨("next_places", none), "next_places", "next_places", defArgs s_next_places, defBody s_next_places, defScope s_next_places, [], []⟩,
  ⟨("trial", none), "trial", "trial", defArgs s_trial, defBody s_trial, defScope s_trial, [], []⟩,
  ⟨("trials", none), "trials", "trials", defArgs s_trials, defBody s_trials, defScope s_trials, [], []⟩,
  ⟨("_law_cell_at", none), "_law_cell_at", "_law_cell_at", defArgs s_law_cell_at, defBody s_law_cell_at, defScope s_law_cell_at, [], []⟩,
  ⟨("_law_whole", none), "_law_whole", "_law_whole", defArgs s_law_whole, defBody s_law_whole, defScope s_law_whole, [], []⟩,
  ⟨("_law_between", none), "_law_between", "_law_between", defArgs s_law_between, defBody s_law_between, defScope s_law_between, [], []⟩,
  ⟨("_law_road", none), "_law_road", "_law_road", defArgs s_law_road, defBody s_law_road, defScope s_law_road, [], []⟩,
  ⟨("_law_left", none), "_law_left", "_law_left", defArgs s_law_left, defBody s_law_left, defScope s_law_left, [], []⟩,
  ⟨("_law_next", none), "_law_next", "_law_next", defArgs s_law_next, defBody s_law_next, defScope s_law_next, [], []⟩,
  ⟨("_law_trial", none), "_law_trial", "_law_trial", defArgs s_law_trial, defBody s_law_trial, defScope s_law_trial, [], []⟩,
  ⟨("_law_gaps", none), "_law_gaps", "_law_gaps", defArgs s_law_gaps, defBody s_law_gaps, defScope s_law_gaps, [], []⟩,
  ⟨("_law_alike", none), "_law_alike", "_law_alike", defArgs s_law_alike, defBody s_law_alike, defScope s_law_alike, [], []⟩,
  ⟨("law", none), "law", "law", defArgs s_law, defBody s_law, defScope s_law, [], []⟩]
def fa : List He.Fa := [.glo "between", .glo "see_gaps", .glo "without", .glo "next_places", .glo "trial", .glo "trials", .glo "_law_cell_at", .glo "_law_whole", .glo "_law_between", .glo "_law_road", .glo "_law_left", .glo "_law_next", .glo "_law_trial", .glo "_law_gaps", .glo "_law_alike", .glo "law", .free "len", .free "range", .free "sorted", .free "list", .free "set", .free "abs", .free "max", .free "min", .free "isinstance", .free "int", .free "bool", .free "enumerate", .free "reversed", .free "str", .free "tuple", .free "ValueError", .glo "RoadError", .exc "RoadError", .glo "NoGaps", .exc "NoGaps", .glo "TooMany", .exc "TooMany"]
abbrev R : PySem.W.OpenRow := PySem.W.OpenLaw.row PySem.Challenge.rw_roadgaps_k04_whole_what_was_tried
abbrev hk : PySem.W.Hook := He.hookD 4 fa fn
def ob (s : PySem.W.SharedT) : He.AlD := He.obsDG 4 fa fn (HandSHeadRun.getT s)
theorem ob_eq (s : PySem.W.SharedT) : ob s = hk.obs s.abs := He.obsDG_eq (HandSHeadRun.getT_eq s)
theorem run (w : World) : HandSHeadRun.RunEq R (PySem.W.view R.prog [24]) hk ob 2000 ["NoGaps", "RoadError", "TooMany", "_law_alike", "_law_between", "_law_cell_at", "_law_gaps", "_law_left", "_law_list", "_law_next", "_law_road", "_law_trial", "_law_whole", "between", "next_places", "see_gaps", "trial", "trials", "without"] w := by
  intro os
  kernel_rfl
theorem facts {P : Program} {w : World} {K : PySem.W.Frag} {h : Heap} {mg : Str → Option Value} {f : Addr} (X : K.In h) (G : h.Ns mainGlobals mg) (hfa : mg ("law" : Str) = some (.ref f)) (c : He.SaysD fa fn K) :
    ∃ fd : FuncData, (∀ (s : Shared) (v : Value), BindsTo s fd ⟨[v], []⟩ [("script", v)]) ∧ ∀ base : Heap, K.In base → base.Ns mainGlobals mg → FnOk P w K mg base CX0 9 f fd ["script"] (sp_law K) := by
  have D_between : Df K mg "between" s_between := by
    obtain ⟨fd, F⟩ := c.def_ 0 rfl
    exact ⟨_, fd, F, He.glo_ok X G (c.fact 0 (f := .glo "between") rfl)⟩
  have D_see_gaps : Df K mg "see_gaps" s_see_gaps := by
    obtain ⟨fd, F⟩ := c.def_ 1 rfl
    exact ⟨_, fd, F, He.glo_ok X G (c.fact 1 (f := .glo "see_gaps") rfl)⟩
  have D_without : Df K mg "without" s_without := by
    obtain ⟨fd, F⟩ := c.def_ 2 rfl
    exact ⟨_, fd, F, He.glo_ok X G (c.fact 2 (f := .glo "without") rfl)⟩
  have D_next_places : Df K mg "next_places" s_next_places := by
    obtain ⟨fd, F⟩ := c.def_ 3 rfl
    exact ⟨_, fd, F, He.glo_ok X G (c.fact 3 (f := .glo "next_places") rfl)⟩
  have D_trial : Df K mg "trial" s_trial := by
    obtain ⟨fd, F⟩ := c.def_ 4 rfl
    exact ⟨_, fd, F, He.glo_ok X G (c.fact 4 (f := .glo "trial") rfl)⟩
  have D_trials : Df K mg "trials" s_trials := by
    obtain ⟨fd, F⟩ := c.def_ 5 rfl
    exact ⟨_, fd, F, He.glo_ok X G (c.fact 5 (f := .glo "trials") rfl)⟩
  have D_law_cell_at : Df K mg "_law_cell_at" s_law_cell_at := by
    obtain ⟨fd, F⟩ := c.def_ 6 rfl
    exact ⟨_, fd, F, He.glo_ok X G (c.fact 6 (f := .glo "_law_cell_at") rfl)⟩
  have D_law_whole : Df K mg "_law_whole" s_law_whole := by
    obtain ⟨fd, F⟩ := c.def_ 7 rfl
    exact ⟨_, fd, F, He.glo_ok X G (c.fact 7 (f := .glo "_law_whole") rfl)⟩
  have D_law_between : Df K mg "_law_between" s_law_between := by
    obtain ⟨fd, F⟩ := c.def_ 8 rfl
    exact ⟨_, fd, F, He.glo_ok X G (c.fact 8 (f := .glo "_law_between") rfl)⟩
  have D_law_road : Df K mg "_law_road" s_law_road := by
    obtain ⟨fd, F⟩ := c.def_ 9 rfl
    exact ⟨_, fd, F, He.glo_ok X G (c.fact 9 (f := .glo "_law_road") rfl)⟩
  have D_law_left : Df K mg "_law_left" s_law_left := by
    obtain ⟨fd, F⟩ := c.def_ 10 rfl
    exact ⟨_, fd, F, He.glo_ok X G (c.fact 10 (f := .glo "_law_left") rfl)⟩
  have D_law_next : Df K mg "_law_next" s_law_next := by
    obtain ⟨fd, F⟩ := c.def_ 11 rfl
    exact ⟨_, fd, F, He.glo_ok X G (c.fact 11 (f := .glo "_law_next") rfl)⟩
  have D_law_trial : Df K mg "_law_trial" s_law_trial := by
    obtain ⟨fd, F⟩ := c.def_ 12 rfl
    exact ⟨_, fd, F, He.glo_ok X G (c.fact 12 (f := .glo "_law_trial") rfl)⟩
  have D_law_gaps : Df K mg "_law_gaps" s_law_gaps := by
    obtain ⟨fd, F⟩ := c.def_ 13 rfl
    exact ⟨_, fd, F, He.glo_ok X G (c.fact 13 (f := .glo "_law_gaps") rfl)⟩
  have D_law_alike : Df K mg "_law_alike" s_law_alike := by
    obtain ⟨fd, F⟩ := c.def_ 14 rfl
    exact ⟨_, fd, F, He.glo_ok X G (c.fact 14 (f := .glo "_law_alike") rfl)⟩
  have D_law : Df K mg "law" s_law := by
    obtain ⟨fd, F⟩ := c.def_ 15 rfl
    exact ⟨_, fd, F, He.glo_ok X G (c.fact 15 (f := .glo "law") rfl)⟩
  have T : Bs mg := ⟨He.free_ok X G (c.fact 16 (f := .free "len") rfl), He.free_ok X G (c.fact 17 (f := .free "range") rfl), He.free_ok X G (c.fact 18 (f := .free "sorted") rfl), He.free_ok X G (c.fact 19 (f := .free "list") rfl), He.free_ok X G (c.fact 20 (f := .free "set") rfl), He.free_ok X G (c.fact 21 (f := .free "abs") rfl), He.free_ok X G (c.fact 22 (f := .free "max") rfl), He.free_ok X G (c.fact 23 (f := .free "min") rfl), He.free_ok X G (c.fact 24 (f := .free "isinstance") rfl), He.free_ok X G (c.fact 25 (f := .free "int") rfl), He.free_ok X G (c.fact 26 (f := .free "bool") rfl), He.free_ok X G (c.fact 27 (f := .free "enumerate") rfl), He.free_ok X G (c.fact 28 (f := .free "reversed") rfl), He.free_ok X G (c.fact 29 (f := .free "str") rfl), He.free_ok X G (c.fact 30 (f := .free "tuple") rfl), He.free_ok X G (c.fact 31 (f := .free "ValueError") rfl)⟩
  have C_RoadError : Ec K mg "RoadError" := ec_mk X G (c.fact 32 (f := .glo "RoadError") rfl) (c.fact 33 (f := .exc "RoadError") rfl)
  have C_NoGaps : Ec K mg "NoGaps" := ec_mk X G (c.fact 34 (f := .glo "NoGaps") rfl) (c.fact 35 (f := .exc "NoGaps") rfl)
  have C_TooMany : Ec K mg "TooMany" := ec_mk X G (c.fact 36 (f := .glo "TooMany") rfl) (c.fact 37 (f := .exc "TooMany") rfl)
  -- level 9
  refine D_law.end_ (fun _ _ _ _ _ _ us hl => match us, hl with | [_], _ => rfl) hfa fun base hK hG => ?_
  have G_between := h_between (P := P) (w := w) (base := base) D_between T
  have G_see_gaps := h_see_gaps (P := P) (w := w) (base := base) D_see_gaps T C_NoGaps C_TooMany
  have G_without := h_without (P := P) (w := w) (base := base) D_without T
  have G_next_places := h_next_places D_next_places T G_without G_between
  have G_trial := h_trial D_trial T G_without G_between G_next_places 5
  have G_trials := h_trials D_trials T G_see_gaps G_next_places G_trial
  have G_law_cell_at := h_law_cell_at (P := P) (w := w) (base := base) D_law_cell_at T
  have G_law_whole := h_law_whole (P := P) (w := w) (base := base) D_law_whole T
  have G_law_between := h_law_between (P := P) (w := w) (base := base) D_law_between T
  have G_law_road := h_law_road D_law_road T G_law_cell_at
  have G_law_left := h_law_left D_law_left T G_law_between
  have G_law_next := h_law_next D_law_next T G_law_left
  have G_law_trial := h_law_trial D_law_trial T G_law_left G_law_next 5
  have G_law_gaps := h_law_gaps D_law_gaps T G_law_cell_at G_law_road G_law_between
  have G_law_alike := h_law_alike D_law_alike T G_law_whole 6
  exact h_law D_law T G_law_gaps G_law_next G_law_trial G_law_alike G_trials
end Lw
open PySem PySem.W PySem.Calls PyProof.Rows
theorem PySem.Challenge.cw_roadgaps_k04_whole_what_was_tried_holds : PySem.Challenge.rw_roadgaps_k04_whole_what_was_tried.Holds := by
  w_on; o_law
  refine HandSHeadRun.head_any (r := OpenLaw.row PySem.Challenge.rw_roadgaps_k04_whole_what_was_tried) (q := view (OpenLaw.row PySem.Challenge.rw_roadgaps_k04_whole_what_was_tried).prog [24]) (H := Lw.hk) (ob := Lw.ob) (M := 2000) (loose := ["NoGaps", "RoadError", "TooMany", "_law_alike", "_law_between", "_law_cell_at", "_law_gaps", "_law_left", "_law_list", "_law_next", "_law_road", "_law_trial", "_law_whole", "between", "next_places", "see_gaps", "trial", "trials", "without"]) (d := HandSHeadRun.topDef (OpenLaw.row PySem.Challenge.rw_roadgaps_k04_whole_what_was_tried).prog 24) (kwd := []) Lw.ob_eq
    (by kernel_rfl) (fun s => by kernel_rfl) Lw.run (by kernel_rfl) (by kernel_rfl) (by kernel_rfl) (by rfl) (by first | assumption | decide +kernel) (by decide +kernel) ⟨rfl, rfl, rfl, rfl, rfl, by decide +kernel⟩ ?hw ?hc
  case hw => w_witness2
  case hc =>
    refine L2.walk_ofE (l := PySem.Challenge.rw_roadgaps_k04_whole_what_was_tried) (n := 63) (k := 9) (x := "script") (CX := L2.CX0) rfl (by decide) (by kernel_rfl) ⟨rfl, by decide, by decide⟩ ?F (fun _ _ _ _ z => z)
    intro w mg fa h Y G hmg0
    obtain ⟨K, KX, c⟩ := Y
    have hmg : mg ("law" : PySem.Str) = some (.ref fa) := by
      have e : (HandSHeadRun.topDef (OpenLaw.row PySem.Challenge.rw_roadgaps_k04_whole_what_was_tried).prog 24).name = ("law" : PySem.Str) := by kernel_rfl
      rw [← e]
      exact hmg0
    obtain ⟨fd, hb, hF⟩ := Lw.facts (P := (PySem.Challenge.rw_roadgaps_k04_whole_what_was_tried).prog) (w := w) KX G hmg c
    exact ⟨K, fd, Lw.sp_law K, KX, hb, fun H a ns hl _ hS => ⟨a, ns, rfl, hS, hl, fun _ => rfl⟩, hF⟩
