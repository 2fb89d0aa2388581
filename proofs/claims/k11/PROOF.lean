import PyProof.Rows.All
import Wide.All
import OpenK.AllK
import Wide.FinOn
import HandS.ForMost
import HandS.SortKw
import KE.KMinKey
import KE.KStateDown
import HandS.Exc
import HandS.TryOnly
import HandS.ExcOwn
import HandS.WordsExc
import HandS.Defaults
import HandS.Sort
import HandS.SortInts
import HandS.SetFor
import HandS.Strs
import HandS.Deep
import HandS.Evl
import HandS.IsInst
import HandS.Conv
import HandS.Walk
import HandS.Head0
import HandS.Head1
import HandS.Head2
import HandS.HeadEnd
import HandS.HeadHook1
import HandS.HeadHook2
import KE.SortData
import HandS.HotCalls
import HandS.ExcIs
import HandS.Text
import HandS.ExcCtx
import HandS.SuiteRaise
import KE.KTryMore
import PySem.Challenge.RW_roadgaps_k11_read
set_option Elab.async false
set_option linter.all false
set_option Elab.async false
set_option linter.all false
set_option maxHeartbeats 4000000
/-! Rg, part M: the mathematics, in plain Lean: what the program's functions compute. -/
namespace Rg

/-! ### sorting -/
def sortI (ns : List Int) : List Int := ns.mergeSort fun a b => decide (a ≤ b)
theorem sortI_perm (ns : List Int) : (sortI ns).Perm ns := List.mergeSort_perm ns _
theorem sortI_up (ns : List Int) : (sortI ns).Pairwise (· ≤ ·) := by
  have h := List.pairwise_mergeSort (le := fun a b : Int => decide (a ≤ b)) (fun a b c h1 h2 => by simp at *; omega) (fun a b => by simp; omega) ns
  exact h.imp fun h => by simpa using h
theorem up_unique {a b : List Int} (h : a.Perm b) (ha : a.Pairwise (· ≤ ·)) (hb : b.Pairwise (· ≤ ·)) : a = b :=
  h.eq_of_pairwise (le := (· ≤ ·)) (fun x y _ _ h1 h2 => by omega) ha hb
theorem sortI_eq {a ns : List Int} (h : a.Perm ns) (ha : a.Pairwise (· ≤ ·)) : a = sortI ns := up_unique (h.trans (sortI_perm ns).symm) ha (sortI_up ns)
theorem sortI_congr {a b : List Int} (h : a.Perm b) : sortI a = sortI b := up_unique ((sortI_perm a).trans (h.trans (sortI_perm b).symm)) (sortI_up a) (sortI_up b)
theorem sortI_len (ns : List Int) : (sortI ns).length = ns.length := (sortI_perm ns).length_eq
theorem sortI_id {ns : List Int} (h : ns.Pairwise (· ≤ ·)) : sortI ns = ns := (sortI_eq (List.Perm.refl _) h).symm

/-! ### distances: |x_k - x_j|, j below k -/
def ab (i : Int) : Int := if i < 0 then -i else i
def gi (ns : List Int) (k : Nat) : Int := ns.getD k 0
def rowD (ns : List Int) (k : Nat) : List Int := (List.range k).map fun j => ab (gi ns k - gi ns j)
def allD (ns : List Int) : Nat → List Int
  | 0 => []
  | k + 1 => allD ns k ++ rowD ns k
def btw (ns : List Int) : List Int := sortI (allD ns ns.length)
theorem rowD_len (ns : List Int) (k : Nat) : (rowD ns k).length = k := by simp [rowD]
theorem allD_len2 (ns : List Int) : ∀ k : Nat, 2 * (allD ns k).length + k = k * k
  | 0 => rfl
  | k + 1 => by
    have h := allD_len2 ns k
    have e : (k + 1) * (k + 1) = k * k + 2 * k + 1 := by rw [Nat.add_mul, Nat.mul_add]; omega
    rw [allD, List.length_append, rowD_len, e]
    omega
theorem allD_le (ns : List Int) (k m : Nat) (h : k ≤ m) : (allD ns k).length ≤ m * m := by
  have h1 := allD_len2 ns k
  have h2 : k * k ≤ m * m := Nat.mul_le_mul h h
  omega
theorem btw_len2 (ns : List Int) : 2 * (btw ns).length + ns.length = ns.length * ns.length := by
  rw [btw, sortI_len]
  exact allD_len2 ns ns.length

/-! ### a road, a list of distances: what is refused -/
def roadOk (ns : List Int) : Prop := 1 ≤ ns.length ∧ ns.length ≤ 50 ∧ gi ns 0 = 0 ∧ gi ns (ns.length - 1) ≤ 4000 ∧ ∀ k, k + 1 < ns.length → gi ns k < gi ns (k + 1)
def gapsOk (ns : List Int) : Prop := ∀ k, k < ns.length → 1 ≤ gi ns k ∧ gi ns k ≤ 4000 ∧ (0 < k → gi ns (k - 1) ≤ gi ns k)
open Classical in
noncomputable def refRoad (ns : List Int) : Option String := if roadOk ns then none else some "NoRoad"
open Classical in
noncomputable def refGaps (ns : List Int) : Option String := if 21 < ns.length then some "TooMany" else if gapsOk ns then none else some "NoGaps"
theorem refRoad_ok {ns : List Int} (h : roadOk ns) : refRoad ns = none := if_pos h
theorem refRoad_no {ns : List Int} (h : ¬ roadOk ns) : refRoad ns = some "NoRoad" := if_neg h
theorem refRoad_none {ns : List Int} (h : refRoad ns = none) : roadOk ns := by
  unfold refRoad at h
  split at h
  · assumption
  · cases h
theorem refGaps_ok {ns : List Int} (h1 : ns.length ≤ 21) (h : gapsOk ns) : refGaps ns = none := by
  unfold refGaps
  rw [if_neg (by omega), if_pos h]
theorem refGaps_many {ns : List Int} (h1 : 21 < ns.length) : refGaps ns = some "TooMany" := if_pos h1
theorem refGaps_no {ns : List Int} (h1 : ns.length ≤ 21) (h : ¬ gapsOk ns) : refGaps ns = some "NoGaps" := by
  unfold refGaps
  rw [if_neg (by omega), if_neg h]
theorem refGaps_none {ns : List Int} (h : refGaps ns = none) : ns.length ≤ 21 ∧ gapsOk ns := by
  unfold refGaps at h
  split at h
  · cases h
  · split at h
    · exact ⟨by omega, by assumption⟩
    · cases h

/-! ### a list without some of it -/
def wo : List Int → List Int → List Int × Option Int
  | left, [] => (left, none)
  | left, d :: ds => if d ∈ left then wo (left.erase d) ds else (left, some d)
theorem wo_in {left ds : List Int} {d : Int} (h : d ∈ left) : wo left (d :: ds) = wo (left.erase d) ds := if_pos h
theorem wo_out {left ds : List Int} {d : Int} (h : d ∉ left) : wo left (d :: ds) = (left, some d) := if_neg h
theorem wo_len : ∀ (ds left : List Int), (wo left ds).1.length ≤ left.length
  | [], _ => Nat.le_refl _
  | d :: ds, left => by
    by_cases h : d ∈ left
    · rw [wo_in h]
      have h1 := wo_len ds (left.erase d)
      have h2 := List.length_erase_le (a := d) (l := left)
      omega
    · rw [wo_out h]
      exact Nat.le_refl _
/-- the place of the first d, and the list without it -/
theorem erase_at : ∀ {xs : List Int} {d : Int}, d ∈ xs → ∃ j, xs[j]? = some d ∧ (∀ m, m < j → xs[m]? ≠ some d) ∧ xs.eraseIdx j = xs.erase d
  | [], d, h => by cases h
  | x :: xs, d, h => by
    by_cases e : x = d
    · subst e
      exact ⟨0, rfl, fun m hm => by omega, by simp⟩
    · have hm : d ∈ xs := by
        rcases List.mem_cons.mp h with z | z
        · exact absurd z.symm e
        · exact z
      obtain ⟨j, h1, h2, h3⟩ := erase_at hm
      refine ⟨j + 1, by simpa using h1, fun m hm => ?_, ?_⟩
      · cases m with
        | zero => simpa using e
        | succ m => simpa using h2 m (by omega)
      · rw [List.erase_cons_tail (by simpa using e), ← h3]
        rfl
theorem drop_at {α : Type} {xs : List α} {i : Nat} {x : α} (h : xs[i]? = some x) : xs.drop i = x :: xs.drop (i + 1) := by
  obtain ⟨hi, e⟩ := List.getElem?_eq_some_iff.mp h
  rw [← e]
  exact List.drop_eq_getElem_cons hi

/-! ### the law's own: cells, roads -/
def cell (ns : List Int) (k : Int) : Int := gi ns k.toNat
def lroad (ns : List Int) (first steps : Int) : Nat → List Int
  | 0 => [0]
  | n + 1 => lroad ns first steps n ++ [gi (lroad ns first steps n) n + 1 + cell ns (first + n) % steps]
theorem lroad_len (ns : List Int) (first steps : Int) : ∀ n, (lroad ns first steps n).length = n + 1
  | 0 => rfl
  | n + 1 => by rw [lroad, List.length_append, lroad_len ns first steps n]; rfl
/-- b - a for each a below b -/
def lallR (xs : List Int) (a : Int) : List Int := (xs.filter fun b => decide (a < b)).map fun b => b - a
def lall (ns : List Int) : List Int := ns.flatMap (lallR ns)
theorem take_more {α : Type} {l : List α} {i : Nat} {x : α} (h : l[i]? = some x) : l.take (i + 1) = l.take i ++ [x] := by
  rw [List.take_add_one, h]
  rfl
theorem lallR_more {ns : List Int} {j : Nat} {x y : Int} (h : ns[j]? = some y) : lallR (ns.take (j + 1)) x = lallR (ns.take j) x ++ if x < y then [y - x] else [] := by
  unfold lallR
  rw [take_more h, List.filter_append, List.map_append]
  congr 1
  by_cases c : x < y
  · rw [if_pos c, List.filter_cons_of_pos (by simpa using c)]
    rfl
  · rw [if_neg c, List.filter_cons_of_neg (by simpa using c)]
    rfl
theorem lallR_len (ns : List Int) (a : Int) : (lallR ns a).length ≤ ns.length := by
  unfold lallR
  rw [List.length_map]
  exact List.length_filter_le _ _
theorem lall_len (ns xs : List Int) : (xs.flatMap (lallR ns)).length ≤ xs.length * ns.length := by
  induction xs with
  | nil => simp
  | cons x xs ih =>
    have := lallR_len ns x
    rw [List.flatMap_cons, List.length_append, List.length_cons, Nat.succ_mul]
    omega
theorem lall_part (ns : List Int) (i j : Nat) (x : Int) : ((ns.take i).flatMap (lallR ns) ++ lallR (ns.take j) x).length ≤ ns.length * ns.length + ns.length := by
  have h1 := lall_len ns (ns.take i)
  have h2 := lallR_len (ns.take j) x
  have h3 : (ns.take i).length ≤ ns.length := List.length_take_le' i ns
  have h4 : (ns.take j).length ≤ ns.length := List.length_take_le' j ns
  have h5 := Nat.mul_le_mul h3 (Nat.le_refl ns.length)
  rw [List.length_append]
  omega
theorem gi_ext {ns ms : List Int} (hl : ns.length = ms.length) (h : ∀ k, k < ms.length → gi ns k = gi ms k) : ns = ms := by
  refine List.ext_getElem hl fun k h1 h2 => ?_
  have := h k h2
  simpa [gi, List.getD_eq_getElem?_getD, List.getElem?_eq_getElem h1, List.getElem?_eq_getElem h2] using this
theorem roadOk.small {ns : List Int} (h : roadOk ns) : ns.length ≤ 100 := by
  have := h.2.1
  omega
def lbw (ns : List Int) : List Int := sortI (lall ns)
theorem lbw_len (ns : List Int) : (lbw ns).length ≤ ns.length * ns.length := by
  rw [lbw, sortI_len]
  exact lall_len ns ns
theorem lbw_pos {ns : List Int} {d : Int} (h : d ∈ lbw ns) : 1 ≤ d := by
  have h := (sortI_perm (lall ns)).mem_iff.mp h
  obtain ⟨a, _, h⟩ := List.mem_flatMap.mp h
  unfold lallR at h
  obtain ⟨b, hb, rfl⟩ := List.mem_map.mp h
  have := (List.mem_filter.mp hb).2
  simp at this
  omega
theorem gi_mem {ns : List Int} {k : Nat} (h : k < ns.length) : gi ns k ∈ ns := by
  simp [gi, List.getD_eq_getElem?_getD, List.getElem?_eq_getElem h]
theorem gi_get {ns : List Int} {k : Nat} (h : k < ns.length) : ns[k]? = some (gi ns k) := by
  simp [gi, List.getD_eq_getElem?_getD, List.getElem?_eq_getElem h]
theorem gi_of {ns : List Int} {k : Nat} {x : Int} (h : ns[k]? = some x) : gi ns k = x := by
  simp [gi, List.getD_eq_getElem?_getD, h]

/-! ### the greatest, the least -/
def maxD (d : Int) : List Int → Int
  | [] => d
  | [x] => x
  | x :: y :: r => max x (maxD d (y :: r))
def minD (d : Int) : List Int → Int
  | [] => d
  | [x] => x
  | x :: y :: r => min x (minD d (y :: r))
theorem maxD_spec (d : Int) : ∀ ns : List Int, ns ≠ [] → maxD d ns ∈ ns ∧ ∀ k ∈ ns, k ≤ maxD d ns
  | [], h => absurd rfl h
  | [x], _ => by simp [maxD]
  | x :: y :: r, _ => by
    obtain ⟨h1, h2⟩ := maxD_spec d (y :: r) (List.cons_ne_nil _ _)
    have e : maxD d (x :: y :: r) = max x (maxD d (y :: r)) := rfl
    rw [e]
    refine ⟨?_, fun k hk => ?_⟩
    · by_cases c : x ≤ maxD d (y :: r)
      · rw [Int.max_eq_right c]
        exact List.mem_cons_of_mem _ h1
      · rw [Int.max_eq_left (by omega)]
        exact List.mem_cons_self
    · rcases List.mem_cons.mp hk with rfl | hk
      · omega
      · have := h2 k hk
        omega
theorem minD_spec (d : Int) : ∀ ns : List Int, ns ≠ [] → minD d ns ∈ ns ∧ ∀ k ∈ ns, minD d ns ≤ k
  | [], h => absurd rfl h
  | [x], _ => by simp [minD]
  | x :: y :: r, _ => by
    obtain ⟨h1, h2⟩ := minD_spec d (y :: r) (List.cons_ne_nil _ _)
    have e : minD d (x :: y :: r) = min x (minD d (y :: r)) := rfl
    rw [e]
    refine ⟨?_, fun k hk => ?_⟩
    · by_cases c : x ≤ minD d (y :: r)
      · rw [Int.min_eq_left c]
        exact List.mem_cons_self
      · rw [Int.min_eq_right (by omega)]
        exact List.mem_cons_of_mem _ h1
    · rcases List.mem_cons.mp hk with rfl | hk
      · omega
      · have := h2 k hk
        omega
theorem maxD_eq {d m : Int} {ns : List Int} (h1 : m ∈ ns) (h2 : ∀ k ∈ ns, k ≤ m) : m = maxD d ns := by
  obtain ⟨k1, k2⟩ := maxD_spec d ns (List.ne_nil_of_mem h1)
  have := k2 m h1
  have := h2 _ k1
  omega
theorem minD_eq {d m : Int} {ns : List Int} (h1 : m ∈ ns) (h2 : ∀ k ∈ ns, m ≤ k) : m = minD d ns := by
  obtain ⟨k1, k2⟩ := minD_spec d ns (List.ne_nil_of_mem h1)
  have := k2 m h1
  have := h2 _ k1
  omega

/-! ### the law's list of distances -/
def steps4 (c : Int) : Int := gi [3, 9, 60, 600] (c / 7 % 4).toNat
theorem gi4 {x y z u : Int} {i : Int} (h0 : 0 ≤ i) (h4 : i < 4) : gi [x, y, z, u] i.toNat = x ∨ gi [x, y, z, u] i.toNat = y ∨ gi [x, y, z, u] i.toNat = z ∨ gi [x, y, z, u] i.toNat = u := by
  have : i.toNat = 0 ∨ i.toNat = 1 ∨ i.toNat = 2 ∨ i.toNat = 3 := by omega
  rcases this with e | e | e | e <;> rw [e] <;> simp [gi]
theorem gi3 {x y z : Int} {i : Int} (h0 : 0 ≤ i) (h4 : i < 3) : gi [x, y, z] i.toNat = x ∨ gi [x, y, z] i.toNat = y ∨ gi [x, y, z] i.toNat = z := by
  have : i.toNat = 0 ∨ i.toNat = 1 ∨ i.toNat = 2 := by omega
  rcases this with e | e | e <;> rw [e] <;> simp [gi]
theorem steps4_pos (c : Int) : 0 < steps4 c ∧ steps4 c ≤ 600 := by
  have := gi4 (x := 3) (y := 9) (z := 60) (u := 600) (i := c / 7 % 4) (by omega) (by omega)
  unfold steps4
  omega
def lmade (ns : List Int) (first : Int) : List Int := lroad ns (first + 1) (steps4 (cell ns first)) (cell ns first % 7).toNat
def lg1 (m c : Int) (g : List Int) : List Int := if m = 1 ∧ g ≠ [] then g.eraseIdx (c % g.length).toNat else g
def lg2 (m c : Int) (g : List Int) : List Int := if m = 2 ∧ g ≠ [] then g.set (c % g.length).toNat (1 + c / 21 % (gi g (g.length - 1) + 2)) else g
def lg3 (m c : Int) (g : List Int) : List Int := if m = 3 ∧ g.length < 21 then g ++ [1 + c / 21 % (maxD 0 g + 2)] else g
def lgaps (ns : List Int) (first : Int) : List Int := sortI (lg3 (cell ns first / 28 % 6) (cell ns (first + 7)) (lg2 (cell ns first / 28 % 6) (cell ns (first + 7)) (lg1 (cell ns first / 28 % 6) (cell ns (first + 7)) (lbw (lmade ns first)))))
theorem lg1_len (m c : Int) (g : List Int) : (lg1 m c g).length ≤ g.length := by
  unfold lg1
  split
  · exact List.length_eraseIdx_le _ _
  · exact Nat.le_refl _
theorem lg2_len (m c : Int) (g : List Int) : (lg2 m c g).length = g.length := by
  unfold lg2
  split
  · exact List.length_set
  · rfl
theorem lg1_pos {m c : Int} {g : List Int} (h : ∀ d ∈ g, 1 ≤ d) : ∀ d ∈ lg1 m c g, 1 ≤ d := by
  unfold lg1
  split
  · exact fun d hd => h d (List.mem_of_mem_eraseIdx hd)
  · exact h
theorem top_pos {g : List Int} (h : ∀ d ∈ g, 1 ≤ d) (hn : g ≠ []) : 1 ≤ gi g (g.length - 1) := by
  have hp : 0 < g.length := List.length_pos_iff.mpr hn
  exact h _ (gi_mem (by omega))
theorem maxD_pos {g : List Int} (h : ∀ d ∈ g, 1 ≤ d) : 0 ≤ maxD 0 g := by
  by_cases hn : g = []
  · subst hn
    exact Int.le_refl 0
  · have := h _ (maxD_spec 0 g hn).1
    omega
theorem lg2_pos {m c : Int} {g : List Int} (h : ∀ d ∈ g, 1 ≤ d) : ∀ d ∈ lg2 m c g, 1 ≤ d := by
  unfold lg2
  split
  · rename_i hc
    intro d hd
    rcases List.mem_or_eq_of_mem_set hd with z | z
    · exact h d z
    · have h1 := top_pos h hc.2
      have h2 := Int.emod_nonneg (c / 21) (b := gi g (g.length - 1) + 2) (by omega)
      omega
  · exact h

/-! ### all distances, each pair once -/
def prs : List Int → List Int
  | [] => []
  | x :: xs => xs.map (fun y => ab (x - y)) ++ prs xs
theorem ab_swap (x y : Int) : ab (x - y) = ab (y - x) := by
  unfold ab
  split <;> split <;> omega
theorem ab_nonneg (x : Int) : 0 ≤ ab x := by
  unfold ab
  split <;> omega
theorem prs_perm {a b : List Int} (h : a.Perm b) : (prs a).Perm (prs b) := by
  induction h with
  | nil => exact .refl _
  | cons x h ih => exact (h.map _).append ih
  | swap x y l =>
    show ((ab (y - x) :: l.map fun z => ab (y - z)) ++ (l.map (fun z => ab (x - z)) ++ prs l)).Perm ((ab (x - y) :: l.map fun z => ab (x - z)) ++ (l.map (fun z => ab (y - z)) ++ prs l))
    rw [ab_swap y x, List.cons_append, List.cons_append]
    refine List.Perm.cons _ ?_
    rw [← List.append_assoc, ← List.append_assoc]
    exact List.perm_append_comm.append_right _
  | trans _ _ ih1 ih2 => exact ih1.trans ih2
theorem prs_len2 : ∀ ns : List Int, 2 * (prs ns).length + ns.length = ns.length * ns.length
  | [] => rfl
  | x :: xs => by
    have h := prs_len2 xs
    have e : (xs.length + 1) * (xs.length + 1) = xs.length * xs.length + 2 * xs.length + 1 := by rw [Nat.add_mul, Nat.mul_add]; omega
    rw [prs, List.length_append, List.length_map, List.length_cons, e]
    omega
theorem prs_snoc (l : List Int) (x : Int) : (prs (l ++ [x])).Perm (prs l ++ l.map fun y => ab (x - y)) := by
  have h : (prs (l ++ [x])).Perm (prs (x :: l)) := prs_perm (List.perm_append_comm (l₁ := l) (l₂ := [x]))
  exact h.trans List.perm_append_comm
theorem rowD_take (ns : List Int) {k : Nat} (hk : k ≤ ns.length) (x : Int) : ((List.range k).map fun j => ab (x - gi ns j)) = (ns.take k).map fun y => ab (x - y) := by
  refine List.ext_getElem (by simp; omega) fun i h1 h2 => ?_
  simp at h1
  have hi : i < ns.length := by omega
  simp [gi, List.getD_eq_getElem?_getD, List.getElem?_eq_getElem hi]
theorem allD_prs (ns : List Int) : ∀ k, k ≤ ns.length → (allD ns k).Perm (prs (ns.take k))
  | 0, _ => by simp [allD, prs]
  | k + 1, h => by
    have ih := allD_prs ns k (by omega)
    rw [allD, take_more (gi_get (by omega : k < ns.length)), rowD, rowD_take ns (by omega)]
    exact (ih.append_right _).trans (prs_snoc _ _).symm
theorem btw_prs (ns : List Int) : btw ns = sortI (prs ns) := by
  have h := allD_prs ns ns.length (Nat.le_refl _)
  rw [List.take_length] at h
  exact sortI_congr h
theorem btw_perm {a b : List Int} (h : a.Perm b) : btw a = btw b := by
  rw [btw_prs, btw_prs]
  exact sortI_congr (prs_perm h)
theorem flat_split {α : Type} (f g : α → List Int) : ∀ l : List α, (l.flatMap fun a => f a ++ g a).Perm (l.flatMap f ++ l.flatMap g)
  | [] => .refl _
  | x :: l => by
    have h := flat_split f g l
    rw [List.flatMap_cons, List.flatMap_cons, List.flatMap_cons]
    refine ((List.Perm.append_left _ h).trans ?_)
    rw [List.append_assoc, List.append_assoc]
    refine List.Perm.append_left _ ?_
    rw [← List.append_assoc, ← List.append_assoc]
    exact List.perm_append_comm.append_right _
theorem lall_one (x : Int) : ∀ xs : List Int, x ∉ xs → (lallR xs x ++ xs.flatMap fun a => if a < x then [x - a] else []).Perm (xs.map fun y => ab (x - y))
  | [], _ => .refl _
  | y :: ys, h => by
    have h1 : x ≠ y := fun e => h (by rw [e]; exact List.mem_cons_self)
    have ih := lall_one x ys fun z => h (List.mem_cons_of_mem _ z)
    rw [List.flatMap_cons, List.map_cons]
    by_cases c : x < y
    · have e1 : lallR (y :: ys) x = (y - x) :: lallR ys x := by
        unfold lallR
        rw [List.filter_cons_of_pos (by simpa using c)]
        rfl
      have e2 : ab (x - y) = y - x := by
        unfold ab
        split <;> omega
      rw [e1, e2, if_neg (by omega)]
      exact ih.cons _
    · have e1 : lallR (y :: ys) x = lallR ys x := by
        unfold lallR
        rw [List.filter_cons_of_neg (by simpa using c)]
      have e2 : ab (x - y) = x - y := by
        unfold ab
        split <;> omega
      rw [e1, e2, if_pos (by omega)]
      refine List.Perm.trans ?_ (ih.cons _)
      rw [List.singleton_append]
      exact List.perm_middle
theorem lall_prs : ∀ ns : List Int, ns.Nodup → (lall ns).Perm (prs ns)
  | [], _ => .refl _
  | x :: xs, h => by
    have hn := List.nodup_cons.mp h
    have ih := lall_prs xs hn.2
    have e1 : lallR (x :: xs) x = lallR xs x := by
      unfold lallR
      rw [List.filter_cons_of_neg (by simp)]
    have e2 : lallR (x :: xs) = fun a => (if a < x then [x - a] else []) ++ lallR xs a := by
      funext a
      unfold lallR
      by_cases c : a < x
      · rw [List.filter_cons_of_pos (by simpa using c), if_pos c]
        rfl
      · rw [List.filter_cons_of_neg (by simpa using c), if_neg c]
        rfl
    unfold lall
    rw [List.flatMap_cons, e1, e2]
    refine (List.Perm.append_left _ (flat_split _ _ xs)).trans ?_
    rw [← List.append_assoc]
    exact (lall_one x xs hn.1).append ih
theorem lbw_btw {ns : List Int} (h : ns.Nodup) : lbw ns = btw ns := by
  rw [btw_prs]
  exact sortI_congr (lall_prs ns h)
theorem up_nodup {ns : List Int} (h : ns.Pairwise (· < ·)) : ns.Nodup := h.imp fun h e => by omega
theorem btw_up (ns : List Int) : (btw ns).Pairwise (· ≤ ·) := sortI_up _

/-! ### roads by what they hold -/
theorem gi_pair {ns : List Int} (h : ns.Pairwise (· < ·)) {i j : Nat} (hij : i < j) (hj : j < ns.length) : gi ns i < gi ns j := by
  have := List.pairwise_iff_getElem.mp h i j (by omega) hj hij
  simpa [gi, List.getD_eq_getElem?_getD, List.getElem?_eq_getElem hj, List.getElem?_eq_getElem (show i < ns.length by omega)] using this
theorem up_of_step {ns : List Int} (h : ∀ k, k + 1 < ns.length → gi ns k < gi ns (k + 1)) : ns.Pairwise (· < ·) := by
  have far : ∀ d i, i + d + 1 < ns.length → gi ns i < gi ns (i + d + 1) := by
    intro d
    induction d with
    | zero => exact fun i hi => h i hi
    | succ d ih => exact fun i hi => Int.lt_trans (ih i (by omega)) (h (i + d + 1) hi)
  refine List.pairwise_iff_getElem.mpr fun i j hi hj hij => ?_
  have := far (j - i - 1) i (by omega)
  rw [show i + (j - i - 1) + 1 = j by omega] at this
  simpa [gi, List.getD_eq_getElem?_getD, List.getElem?_eq_getElem hj, List.getElem?_eq_getElem hi] using this
theorem roadOk_of {ns : List Int} (h0 : ns ≠ []) (h1 : ns.length ≤ 50) (h2 : gi ns 0 = 0) (h3 : ∀ x ∈ ns, x ≤ 4000) (h4 : ns.Pairwise (· < ·)) : roadOk ns := by
  have hp := List.length_pos_iff.mpr h0
  exact ⟨hp, h1, h2, h3 _ (gi_mem (by omega)), fun k hk => gi_pair h4 (Nat.lt_succ_self k) hk⟩
theorem roadOk.up {ns : List Int} (h : roadOk ns) : ns.Pairwise (· < ·) := up_of_step h.2.2.2.2
theorem roadOk.ne {ns : List Int} (h : roadOk ns) : ns ≠ [] := List.length_pos_iff.mp h.1
theorem gi_snoc_lt {xs : List Int} {y : Int} {k : Nat} (h : k < xs.length) : gi (xs ++ [y]) k = gi xs k := by
  simp [gi, List.getD_eq_getElem?_getD, List.getElem?_append_left h]
theorem gi_snoc {xs : List Int} {y : Int} : gi (xs ++ [y]) xs.length = y := by
  simp [gi, List.getD_eq_getElem?_getD]
theorem lroad_facts (ns : List Int) (first : Int) {steps : Int} (hs : 0 < steps) : ∀ n, gi (lroad ns first steps n) 0 = 0 ∧ (∀ x ∈ lroad ns first steps n, 0 ≤ x ∧ x ≤ n * steps) ∧ (lroad ns first steps n).Pairwise (· < ·) ∧ (∀ x ∈ lroad ns first steps n, x ≤ gi (lroad ns first steps n) n)
  | 0 => by simp [lroad, gi]
  | n + 1 => by
    obtain ⟨h1, h2, h3, h4⟩ := lroad_facts ns first hs n
    have hl := lroad_len ns first steps n
    have hm1 := Int.emod_nonneg (cell ns (first + n)) (b := steps) (by omega)
    have hm2 := Int.emod_lt_of_pos (cell ns (first + n)) hs
    have hg : gi (lroad ns first steps n) n ∈ lroad ns first steps n := gi_mem (by omega)
    have hgb := h2 _ hg
    have he : ((n + 1 : Nat) : Int) * steps = n * steps + steps := by rw [Int.natCast_add, Int.add_mul]; omega
    have hlast : gi (lroad ns first steps (n + 1)) (n + 1) = gi (lroad ns first steps n) n + 1 + cell ns (first + n) % steps := by
      rw [lroad]
      have := gi_snoc (xs := lroad ns first steps n) (y := gi (lroad ns first steps n) n + 1 + cell ns (first + n) % steps)
      rw [hl] at this
      exact this
    refine ⟨?_, fun x hx => ?_, ?_, fun x hx => ?_⟩
    · rw [lroad, gi_snoc_lt (by omega), h1]
    · rw [lroad] at hx
      rcases List.mem_append.mp hx with hx | hx
      · have := h2 x hx
        omega
      · rw [List.mem_singleton.mp hx]
        omega
    · rw [lroad]
      refine List.pairwise_append.mpr ⟨h3, List.pairwise_singleton _ _, fun x hx y hy => ?_⟩
      rw [List.mem_singleton.mp hy]
      have := h4 x hx
      omega
    · rw [hlast]
      rw [lroad] at hx
      rcases List.mem_append.mp hx with hx | hx
      · have := h4 x hx
        omega
      · rw [List.mem_singleton.mp hx]
        omega
theorem lroad_ok (ns : List Int) (first : Int) {steps : Int} {n : Nat} (hs : 0 < steps) (h1 : n ≤ 49) (h2 : n * steps ≤ 4000) : roadOk (lroad ns first steps n) := by
  obtain ⟨k1, k2, k3, _⟩ := lroad_facts ns first hs n
  have hl := lroad_len ns first steps n
  refine roadOk_of (fun z => by rw [z] at hl; cases hl) (by omega) k1 (fun x hx => ?_) k3
  have := k2 x hx
  omega
/-! ### the law's list of distances is one -/
theorem gapsOk_of {ns : List Int} (h1 : ns.Pairwise (· ≤ ·)) (h2 : ∀ d ∈ ns, 1 ≤ d ∧ d ≤ 4000) : gapsOk ns := fun k hk => by
  have hm := h2 _ (gi_mem hk)
  refine ⟨hm.1, hm.2, fun h0 => ?_⟩
  have := List.pairwise_iff_getElem.mp h1 (k - 1) k (by omega) hk (by omega)
  simpa [gi, List.getD_eq_getElem?_getD, List.getElem?_eq_getElem hk, List.getElem?_eq_getElem (show k - 1 < ns.length by omega)] using this
theorem prs_le {M : Int} : ∀ {ns : List Int}, (∀ x ∈ ns, 0 ≤ x ∧ x ≤ M) → ∀ d ∈ prs ns, d ≤ M
  | [], _, d, hd => by cases hd
  | x :: xs, h, d, hd => by
    rcases List.mem_append.mp hd with hd | hd
    · obtain ⟨y, hy, rfl⟩ := List.mem_map.mp hd
      have h1 := h x List.mem_cons_self
      have h2 := h y (List.mem_cons_of_mem _ hy)
      unfold ab
      split <;> omega
    · exact prs_le (fun y hy => h y (List.mem_cons_of_mem _ hy)) d hd
theorem lbw_le {M : Int} {ns : List Int} (hn : ns.Nodup) (h : ∀ x ∈ ns, 0 ≤ x ∧ x ≤ M) : ∀ d ∈ lbw ns, d ≤ M := fun d hd => by
  rw [lbw_btw hn, btw_prs] at hd
  exact prs_le h d ((sortI_perm _).mem_iff.mp hd)
theorem lg1_le {M m c : Int} {g : List Int} (h : ∀ d ∈ g, d ≤ M) : ∀ d ∈ lg1 m c g, d ≤ M := by
  unfold lg1
  split
  · exact fun d hd => h d (List.mem_of_mem_eraseIdx hd)
  · exact h
theorem lg2_le {M m c : Int} {g : List Int} (hp : ∀ d ∈ g, 1 ≤ d) (h : ∀ d ∈ g, d ≤ M) : ∀ d ∈ lg2 m c g, d ≤ M + 2 := by
  unfold lg2
  split
  · rename_i hc
    intro d hd
    rcases List.mem_or_eq_of_mem_set hd with z | z
    · have := h d z
      omega
    · have h1 := top_pos hp hc.2
      have h3 : 0 < g.length := List.length_pos_iff.mpr hc.2
      have h4 := h _ (gi_mem (ns := g) (k := g.length - 1) (by omega))
      have h2 := Int.emod_lt_of_pos (c / 21) (b := gi g (g.length - 1) + 2) (by omega)
      omega
  · intro d hd
    have := h d hd
    omega
theorem lmade_ok (ns : List Int) (first : Int) : roadOk (lmade ns first) ∧ (lmade ns first).length ≤ 7 ∧ ∀ x ∈ lmade ns first, 0 ≤ x ∧ x ≤ 3600 := by
  have hs := steps4_pos (cell ns first)
  have hn : (cell ns first % 7).toNat ≤ 6 := by omega
  have hmul : (((cell ns first % 7).toNat : Nat) : Int) * steps4 (cell ns first) ≤ 3600 := by
    have := Int.mul_le_mul (show (((cell ns first % 7).toNat : Nat) : Int) ≤ 6 by omega) hs.2 (by omega) (by decide)
    omega
  refine ⟨lroad_ok ns (first + 1) hs.1 (by omega) (by omega), ?_, fun x hx => ?_⟩
  · rw [lmade, lroad_len]
    omega
  · have := (lroad_facts ns (first + 1) hs.1 (cell ns first % 7).toNat).2.1 x hx
    omega
theorem lgaps_ok (ns : List Int) (first : Int) : (lgaps ns first).length ≤ 21 ∧ gapsOk (lgaps ns first) := by
  obtain ⟨h1, h2, h3⟩ := lmade_ok ns first
  have hn := up_nodup h1.up
  have hlen : (lbw (lmade ns first)).length ≤ 21 := by
    have := btw_len2 (lmade ns first)
    have hm := Nat.mul_le_mul (show (lmade ns first).length - 1 ≤ 6 by omega) h2
    have e : (lmade ns first).length * (lmade ns first).length = ((lmade ns first).length - 1) * (lmade ns first).length + (lmade ns first).length := by
      have hp := h1.1
      obtain ⟨k, hk⟩ : ∃ k, (lmade ns first).length = k + 1 := ⟨(lmade ns first).length - 1, by omega⟩
      rw [hk, Nat.add_sub_cancel, ← Nat.succ_mul]
    rw [lbw_btw hn]
    omega
  have hp0 : ∀ d ∈ lbw (lmade ns first), 1 ≤ d := fun d hd => lbw_pos hd
  have hm0 := lbw_le hn h3
  unfold lgaps
  generalize lbw (lmade ns first) = g0 at *
  generalize cell ns first / 28 % 6 = m
  generalize cell ns (first + 7) = c
  have l1 := lg1_len m c g0
  have l2 := lg2_len m c (lg1 m c g0)
  have p2 := lg2_pos (m := m) (c := c) (lg1_pos (m := m) (c := c) hp0)
  have m2 : ∀ d ∈ lg2 m c (lg1 m c g0), d ≤ 3602 := lg2_le (m := m) (c := c) (lg1_pos (m := m) (c := c) hp0) (lg1_le (m := m) (c := c) hm0)
  generalize lg2 m c (lg1 m c g0) = g2 at *
  have hM : 0 ≤ maxD 0 g2 ∧ maxD 0 g2 ≤ 3602 := by
    refine ⟨maxD_pos p2, ?_⟩
    by_cases hz : g2 = []
    · subst hz
      decide
    · exact m2 _ (maxD_spec 0 g2 hz).1
  have h2 := Int.emod_lt_of_pos (c / 21) (b := maxD 0 g2 + 2) (by omega)
  have h4 := Int.emod_nonneg (c / 21) (b := maxD 0 g2 + 2) (by omega)
  refine ⟨?_, gapsOk_of (sortI_up _) fun d hd => ?_⟩
  · rw [sortI_len, lg3]
    split
    · rw [List.length_append, List.length_singleton]
      omega
    · omega
  · have hd := (sortI_perm _).mem_iff.mp hd
    rw [lg3] at hd
    split at hd
    · rcases List.mem_append.mp hd with hd | hd
      · have a1 := p2 d hd
        have a2 := m2 d hd
        omega
      · rw [List.mem_singleton.mp hd]
        omega
    · have a1 := p2 d hd
      have a2 := m2 d hd
      omega
end Rg

set_option Elab.async false
set_option linter.all false
set_option maxRecDepth 100000
set_option maxHeartbeats 400000
/-! Rg, part MM: max(xs, default=i), min(xs, default=i) of a list of ints, empty or not. -/
namespace PySem

/-! ### max(xs, default=d) -/
section
variable {prog : Program} {w : World} {A : Around} {R : Result → Shared → Prop} {I S : Addr} {fp wr : List Addr} {n : Nat} {P : Nat → Value → Prop} {St : Nat → Heap → Prop} {bt : Nat → Nat → Bool} {kd : Str} {d : Value}
/-- what stands in the best one's list ahead of turn i -/
def maxBest (P : Nat → Value → Prop) (bt : Nat → Nat → Bool) (i : Nat) (o : List Value) : Prop := (i = 0 ∧ o = []) ∨ (0 < i ∧ ∃ v, o = [v, v] ∧ P (argBest bt (i - 1)) v)
theorem max_turns (W : Walks prog w A.in1 I fp wr n P St) (hcmp : CmpOf prog w A.in1 .Gt P bt) (hS : S ∉ fp) : ∀ (k i : Nat) (s : Shared) (o : List Value) (c : Nat), i + k = n → St i s.heap → maxBest P bt i o →
    s.heap.get? S = some { cls := .type "list", dict := none, data := .seq o.toArray c, slots := #[] } →
    (∀ v h' tk, (n = 0 → v = d) → (0 < n → P (argBest bt (n - 1)) v) → (∀ b u, b ∉ wr → b ≠ S → s.heap.get? b = some u → h'.get? b = some u) → R (.ok (.ret v)) { s with heap := h', toks := tk }) →
    codeAny (model prog w) A (.builtin "max.loop" ⟨[.ref I, .none, .ref S], [(kd, d)]⟩) R s := by
  have nm : (toString "max" ++ toString ".loop" : String) = "max.loop" := by decide
  have hw : S ∉ wr := fun h => hS (W.sub _ h)
  intro k
  induction k with
  | zero =>
    intro i s o c hk hst hb ho hR
    refine codeAny_builtin F.entry_max_loop ?_
    rw [Around.under_plainId F.plain_max_loop _]
    refine wpAny_bind (wpAny_seqItems ho rfl ?_)
    have hin : n = i := by omega
    refine wpAny_bind (wpAny_tryCatch (W.done s _ _ (hin ▸ hst) fun h1 tk1 k1 => ?_))
    have ho1 := k1 S _ hw ho
    rcases hb with ⟨i0, rfl⟩ | ⟨i0, v, rfl, hp⟩
    · refine wpAny_bind (wpAny_rule (wpAny_pure (hR d h1 tk1 (fun _ => rfl) (fun z => by omega) fun b u hbw _ e => k1 b u hbw e)))
    · refine wpAny_bind ?_
      refine wpAny_updateSeq ho1 rfl (wpAny_bind (wpAny_letGo (wpAny_pure ?_)))
      refine hR v _ tk1 (fun z => by omega) (fun _ => by rw [hin]; exact hp) fun b u hbw hbS e => ?_
      exact (Heap.get?_update_other _ _ (Ne.symm hbS)).trans (k1 b u hbw e)
  | succ k ih =>
    intro i s o c hk hst hb ho hR
    refine codeAny_builtin F.entry_max_loop ?_
    rw [Around.under_plainId F.plain_max_loop _]
    refine wpAny_bind (wpAny_seqItems ho rfl ?_)
    refine wpAny_bind (wpAny_tryCatch (W.item i s _ _ (by omega) hst fun x h1 tk1 hx st1 k1 => ?_))
    have ho1 := k1 S _ hw ho
    have still : ∀ {h2 : Heap}, (∀ b u, b ≠ S → h1.get? b = some u → h2.get? b = some u) → St (i + 1) h2 := fun e => W.frame _ _ _ st1 fun b hbf u q => e b u (fun z => hS (z ▸ hbf)) q
    have next : ∀ (h2 : Heap) (o2 : List Value) (c2 : Nat), (∀ b u, b ≠ S → h1.get? b = some u → h2.get? b = some u) → maxBest P bt (i + 1) o2 → h2.get? S = some { cls := .type "list", dict := none, data := .seq o2.toArray c2, slots := #[] } →
        codeAny (model prog w) A (.builtin "max.loop" ⟨[.ref I, .none, .ref S], [(kd, d)]⟩) R { s with heap := h2, toks := tk1 } := fun h2 o2 c2 e b2 q => by
      refine ih (i + 1) _ o2 c2 (by omega) (still e) b2 q fun v h3 tk3 z1 z2 k3 => hR v h3 tk3 z1 z2 fun b u hbw hbS q2 => ?_
      exact k3 b u hbw hbS (e b u hbS (k1 b u hbw q2))
    rcases hb with ⟨i0, rfl⟩ | ⟨i0, v, rfl, hp⟩
    · subst i0
      refine wpAny_bind (wpAny_pure ?_)
      refine wpAny_bind ?_
      refine wpAny_updateSeq ho1 rfl ?_
      rw [nm]
      refine wpAny_pure ⟨plainId_quiet F.plain_max_loop _, next _ [x, x] _ (fun b u hbS e => (Heap.get?_update_other _ _ (Ne.symm hbS)).trans e) (.inr ⟨Nat.succ_pos _, x, rfl, hx⟩) (Heap.get?_update_self _ ho1 rfl)⟩
    · obtain ⟨j, rfl⟩ : ∃ j, i = j + 1 := ⟨i - 1, by omega⟩
      refine wpAny_bind (wpAny_pure ?_)
      refine wpAny_bind (wpAny_tryCatch (wpAny_holding (wpAny_bind (hcmp (j + 1) (argBest bt j) x v _ _ _ hx hp ?_))))
      refine wpAny_bind (wpAny_holding (wpAny_truthy_bool ?_))
      refine wpAny_bind (wpAny_letGo (wpAny_pure ?_))
      cases hc : bt (j + 1) (argBest bt j) with
      | true =>
        rw [if_pos rfl]
        refine wpAny_bind ?_
        refine wpAny_updateSeq ho1 rfl (wpAny_bind (wpAny_letGo ?_))
        rw [nm]
        refine wpAny_pure ⟨plainId_quiet F.plain_max_loop _, next _ [x, x] _ (fun b u hbS e => (Heap.get?_update_other _ _ (Ne.symm hbS)).trans e) (.inr ⟨Nat.succ_pos _, x, rfl, ?_⟩) (Heap.get?_update_self _ ho1 rfl)⟩
        show P (argBest bt (j + 1)) x
        simpa only [argBest, hc, if_true] using hx
      | false =>
        rw [if_neg Bool.false_ne_true]
        refine wpAny_bind (wpAny_letGo ?_)
        rw [nm]
        refine wpAny_pure ⟨plainId_quiet F.plain_max_loop _, next _ [v, v] _ (fun b u _ e => e) (.inr ⟨Nat.succ_pos _, v, rfl, ?_⟩) ho1⟩
        show P (argBest bt (j + 1)) v
        have e : argBest bt (j + 1) = argBest bt j := by simp only [argBest, hc, Bool.false_eq_true, if_false]
        rw [e]
        exact hp
end
theorem args_max_dflt (a v : Value) : argsOk "max" ⟨[a], [(Str.ofString "default", v)]⟩ := by unfold argsOk; kernel_rfl
section
variable {prog : Program} {w : World} {A : Around} {E : Value → Shared → Prop} {s : Shared} {l : Addr} {its : List Value} {ns : List Int} {Q : Value → Shared → Prop} {d : Value}
theorem max_dflt_items {xs : Array (Int × Tok)} (hh : A.handled = none) (hl : s.heap.IsList l (intItems xs))
    (h : ∀ v h' tk, (xs.size = 0 → v = d) → (0 < xs.size → (intItems xs)[argBest (fun i j => decide (numAt xs i > numAt xs j)) (xs.size - 1)]? = some v) → (∀ b o, s.heap.get? b = some o → h'.get? b = some o) → Q v { s with heap := h', toks := tk }) :
    wpAny (model prog w) A (call (.builtin "max") [.ref l] [(Str.ofString "default", d)]) Q E s := by
  have nm : (toString "max" ++ toString ".loop" : String) = "max.loop" := by decide
  refine PyProof.Rows.kmk_tree F.kind_max F.plain_max F.entry_max (args_max_dflt _ _) ?_
  show wpAny _ A.in1 (Builtin.Builtins.bindParams "max" ["key", "default"] 0 ⟨[], [(Str.ofString "default", d)]⟩ >>= _) _ _ s
  refine wpAny_bind (wpAny_of_eq (show Builtin.Builtins.bindParams "max" ["key", "default"] 0 ⟨[], [(Str.ofString "default", d)]⟩ = pure [none, some d] from rfl) ?_)
  refine wpAny_bind (wpAny_pure (wpAny_bind (iter_intList hl fun s2 e st hfp hne => ?_)))
  subst e
  refine wpAny_bind (wpAny_newObj_type ?_)
  rw [nm]
  have hsz : (intItems xs).size = xs.size := by simp [intItems]
  have W := Walks.list (prog := prog) (w := w) (A := A.in1) hh s.heap.objs.size l hne (intItems xs)
  rw [hsz] at W
  refine wpAny_pure ⟨plainId_quiet F.plain_max_loop _, max_turns W (CmpOf.ints_gt (numAt xs) fun _ _ => intItems_at) (fun hm => Nat.lt_irrefl _ (hfp _ hm)) xs.size 0 _ [] _ (Nat.zero_add _)
    (W.frame _ _ _ st fun b _ o e => Heap.get?_push_of_some _ e) (.inl ⟨rfl, rfl⟩) (Heap.get?_push_size _ rfl) fun v h' tk z1 z2 k => ?_⟩
  exact h v h' tk z1 z2 (old_kept fun b o hb e => k b o hb (Nat.ne_of_lt (Heap.lt_size e)) (Heap.get?_push_of_some _ e))
end

/-! ### min(xs, default=d) -/
section
variable {prog : Program} {w : World} {A : Around} {R : Result → Shared → Prop} {I S : Addr} {fp wr : List Addr} {n : Nat} {P : Nat → Value → Prop} {St : Nat → Heap → Prop} {bt : Nat → Nat → Bool} {kd : Str} {d : Value}
/-- what stands in the best one's list ahead of turn i -/
def minBest (P : Nat → Value → Prop) (bt : Nat → Nat → Bool) (i : Nat) (o : List Value) : Prop := (i = 0 ∧ o = []) ∨ (0 < i ∧ ∃ v, o = [v, v] ∧ P (argBest bt (i - 1)) v)
theorem min_turns (W : Walks prog w A.in1 I fp wr n P St) (hcmp : CmpOf prog w A.in1 .Lt P bt) (hS : S ∉ fp) : ∀ (k i : Nat) (s : Shared) (o : List Value) (c : Nat), i + k = n → St i s.heap → minBest P bt i o →
    s.heap.get? S = some { cls := .type "list", dict := none, data := .seq o.toArray c, slots := #[] } →
    (∀ v h' tk, (n = 0 → v = d) → (0 < n → P (argBest bt (n - 1)) v) → (∀ b u, b ∉ wr → b ≠ S → s.heap.get? b = some u → h'.get? b = some u) → R (.ok (.ret v)) { s with heap := h', toks := tk }) →
    codeAny (model prog w) A (.builtin "min.loop" ⟨[.ref I, .none, .ref S], [(kd, d)]⟩) R s := by
  have nm : (toString "min" ++ toString ".loop" : String) = "min.loop" := by decide
  have hw : S ∉ wr := fun h => hS (W.sub _ h)
  intro k
  induction k with
  | zero =>
    intro i s o c hk hst hb ho hR
    refine codeAny_builtin F.entry_min_loop ?_
    rw [Around.under_plainId F.plain_min_loop _]
    refine wpAny_bind (wpAny_seqItems ho rfl ?_)
    have hin : n = i := by omega
    refine wpAny_bind (wpAny_tryCatch (W.done s _ _ (hin ▸ hst) fun h1 tk1 k1 => ?_))
    have ho1 := k1 S _ hw ho
    rcases hb with ⟨i0, rfl⟩ | ⟨i0, v, rfl, hp⟩
    · refine wpAny_bind (wpAny_rule (wpAny_pure (hR d h1 tk1 (fun _ => rfl) (fun z => by omega) fun b u hbw _ e => k1 b u hbw e)))
    · refine wpAny_bind ?_
      refine wpAny_updateSeq ho1 rfl (wpAny_bind (wpAny_letGo (wpAny_pure ?_)))
      refine hR v _ tk1 (fun z => by omega) (fun _ => by rw [hin]; exact hp) fun b u hbw hbS e => ?_
      exact (Heap.get?_update_other _ _ (Ne.symm hbS)).trans (k1 b u hbw e)
  | succ k ih =>
    intro i s o c hk hst hb ho hR
    refine codeAny_builtin F.entry_min_loop ?_
    rw [Around.under_plainId F.plain_min_loop _]
    refine wpAny_bind (wpAny_seqItems ho rfl ?_)
    refine wpAny_bind (wpAny_tryCatch (W.item i s _ _ (by omega) hst fun x h1 tk1 hx st1 k1 => ?_))
    have ho1 := k1 S _ hw ho
    have still : ∀ {h2 : Heap}, (∀ b u, b ≠ S → h1.get? b = some u → h2.get? b = some u) → St (i + 1) h2 := fun e => W.frame _ _ _ st1 fun b hbf u q => e b u (fun z => hS (z ▸ hbf)) q
    have next : ∀ (h2 : Heap) (o2 : List Value) (c2 : Nat), (∀ b u, b ≠ S → h1.get? b = some u → h2.get? b = some u) → minBest P bt (i + 1) o2 → h2.get? S = some { cls := .type "list", dict := none, data := .seq o2.toArray c2, slots := #[] } →
        codeAny (model prog w) A (.builtin "min.loop" ⟨[.ref I, .none, .ref S], [(kd, d)]⟩) R { s with heap := h2, toks := tk1 } := fun h2 o2 c2 e b2 q => by
      refine ih (i + 1) _ o2 c2 (by omega) (still e) b2 q fun v h3 tk3 z1 z2 k3 => hR v h3 tk3 z1 z2 fun b u hbw hbS q2 => ?_
      exact k3 b u hbw hbS (e b u hbS (k1 b u hbw q2))
    rcases hb with ⟨i0, rfl⟩ | ⟨i0, v, rfl, hp⟩
    · subst i0
      refine wpAny_bind (wpAny_pure ?_)
      refine wpAny_bind ?_
      refine wpAny_updateSeq ho1 rfl ?_
      rw [nm]
      refine wpAny_pure ⟨plainId_quiet F.plain_min_loop _, next _ [x, x] _ (fun b u hbS e => (Heap.get?_update_other _ _ (Ne.symm hbS)).trans e) (.inr ⟨Nat.succ_pos _, x, rfl, hx⟩) (Heap.get?_update_self _ ho1 rfl)⟩
    · obtain ⟨j, rfl⟩ : ∃ j, i = j + 1 := ⟨i - 1, by omega⟩
      refine wpAny_bind (wpAny_pure ?_)
      refine wpAny_bind (wpAny_tryCatch (wpAny_holding (wpAny_bind (hcmp (j + 1) (argBest bt j) x v _ _ _ hx hp ?_))))
      refine wpAny_bind (wpAny_holding (wpAny_truthy_bool ?_))
      refine wpAny_bind (wpAny_letGo (wpAny_pure ?_))
      cases hc : bt (j + 1) (argBest bt j) with
      | true =>
        rw [if_pos rfl]
        refine wpAny_bind ?_
        refine wpAny_updateSeq ho1 rfl (wpAny_bind (wpAny_letGo ?_))
        rw [nm]
        refine wpAny_pure ⟨plainId_quiet F.plain_min_loop _, next _ [x, x] _ (fun b u hbS e => (Heap.get?_update_other _ _ (Ne.symm hbS)).trans e) (.inr ⟨Nat.succ_pos _, x, rfl, ?_⟩) (Heap.get?_update_self _ ho1 rfl)⟩
        show P (argBest bt (j + 1)) x
        simpa only [argBest, hc, if_true] using hx
      | false =>
        rw [if_neg Bool.false_ne_true]
        refine wpAny_bind (wpAny_letGo ?_)
        rw [nm]
        refine wpAny_pure ⟨plainId_quiet F.plain_min_loop _, next _ [v, v] _ (fun b u _ e => e) (.inr ⟨Nat.succ_pos _, v, rfl, ?_⟩) ho1⟩
        show P (argBest bt (j + 1)) v
        have e : argBest bt (j + 1) = argBest bt j := by simp only [argBest, hc, Bool.false_eq_true, if_false]
        rw [e]
        exact hp
end
theorem args_min_dflt (a v : Value) : argsOk "min" ⟨[a], [(Str.ofString "default", v)]⟩ := by unfold argsOk; kernel_rfl
section
variable {prog : Program} {w : World} {A : Around} {E : Value → Shared → Prop} {s : Shared} {l : Addr} {its : List Value} {ns : List Int} {Q : Value → Shared → Prop} {d : Value}
theorem min_dflt_items {xs : Array (Int × Tok)} (hh : A.handled = none) (hl : s.heap.IsList l (intItems xs))
    (h : ∀ v h' tk, (xs.size = 0 → v = d) → (0 < xs.size → (intItems xs)[argBest (fun i j => decide (numAt xs i < numAt xs j)) (xs.size - 1)]? = some v) → (∀ b o, s.heap.get? b = some o → h'.get? b = some o) → Q v { s with heap := h', toks := tk }) :
    wpAny (model prog w) A (call (.builtin "min") [.ref l] [(Str.ofString "default", d)]) Q E s := by
  have nm : (toString "min" ++ toString ".loop" : String) = "min.loop" := by decide
  refine PyProof.Rows.kmk_tree F.kind_min F.plain_min F.entry_min (args_min_dflt _ _) ?_
  show wpAny _ A.in1 (Builtin.Builtins.bindParams "min" ["key", "default"] 0 ⟨[], [(Str.ofString "default", d)]⟩ >>= _) _ _ s
  refine wpAny_bind (wpAny_of_eq (show Builtin.Builtins.bindParams "min" ["key", "default"] 0 ⟨[], [(Str.ofString "default", d)]⟩ = pure [none, some d] from rfl) ?_)
  refine wpAny_bind (wpAny_pure (wpAny_bind (iter_intList hl fun s2 e st hfp hne => ?_)))
  subst e
  refine wpAny_bind (wpAny_newObj_type ?_)
  rw [nm]
  have hsz : (intItems xs).size = xs.size := by simp [intItems]
  have W := Walks.list (prog := prog) (w := w) (A := A.in1) hh s.heap.objs.size l hne (intItems xs)
  rw [hsz] at W
  refine wpAny_pure ⟨plainId_quiet F.plain_min_loop _, min_turns W (CmpOf.ints_lt (numAt xs) fun _ _ => intItems_at) (fun hm => Nat.lt_irrefl _ (hfp _ hm)) xs.size 0 _ [] _ (Nat.zero_add _)
    (W.frame _ _ _ st fun b _ o e => Heap.get?_push_of_some _ e) (.inl ⟨rfl, rfl⟩) (Heap.get?_push_size _ rfl) fun v h' tk z1 z2 k => ?_⟩
  exact h v h' tk z1 z2 (old_kept fun b o hb e => k b o hb (Nat.ne_of_lt (Heap.lt_size e)) (Heap.get?_push_of_some _ e))
end
end PySem

namespace L2
open PySem PySem.Spec PyProof.Rows
/-- max(xs, default=i) -/
def rmaxDf (K : PySem.W.Frag) : List V → List V → Hp → VK → Prop := fun vs zs H Q => ∃ (a : Addr) (ns : List Int) (i : Int), vs = [V.ref a] ∧ zs = [V.int i] ∧ SqL K H a (ns.map V.int) ∧ (ns = [] → Q (.int i) H) ∧ (∀ m, m ∈ ns → (∀ k ∈ ns, k ≤ m) → Q (.int m) H)
theorem cr_maxDf {X : Cx} (hc : X.calm = true) : CallRK X (.builtin "max") [Str.ofString "default"] (rmaxDf X.K) := by
  intro pins s σ H vs zs us ws Q I r rz h
  obtain ⟨a, ns, i, rfl, rfl, hs, q0, q1⟩ := h
  obtain ⟨its, rv, hl, _⟩ := I.list hs
  rw [Vals.ref1 r]
  obtain ⟨w1, rfl, t, rfl⟩ := vals1 rz
  obtain ⟨xs, e⟩ := rv.ints.allInts.items
  have hn : numsOf (intItems xs).toList = ns := by rw [← e]; exact rv.ints.numsOf
  rw [nums_intItems] at hn
  have hl2 := hl.isList
  rw [e] at hl2
  have hlen : ns.length = xs.size := by rw [← hn, List.length_map, Array.length_toList]
  refine PySem.max_dflt_items (I.ok.hd hc) hl2 fun v h' tk z1 z2 hk => ?_
  by_cases hz : xs.size = 0
  · rw [z1 hz]
    exact ⟨.int i, H, I.kept hk, ⟨_, rfl⟩, q0 (List.eq_nil_of_length_eq_zero (by omega))⟩
  · obtain ⟨t2, rfl⟩ := intItems_at (z2 (by omega))
    obtain ⟨h1, h2⟩ := argBest_gt (numAt xs) (xs.size - 1)
    refine ⟨.int _, H, I.kept hk, ⟨_, rfl⟩, q1 _ ?_ fun k hkm => ?_⟩
    · rw [← hn, numAt_eq]
      exact PySem.getD_mem (by rw [List.length_map, Array.length_toList]; omega)
    · rw [← hn] at hkm
      obtain ⟨j, hj, rfl⟩ := mem_getD hkm
      rw [List.length_map, Array.length_toList] at hj
      rw [← numAt_eq]
      exact h2 j (by omega)
end L2

namespace L2
open PySem PySem.Spec PyProof.Rows
/-- min(xs, default=i) -/
def rminDf (K : PySem.W.Frag) : List V → List V → Hp → VK → Prop := fun vs zs H Q => ∃ (a : Addr) (ns : List Int) (i : Int), vs = [V.ref a] ∧ zs = [V.int i] ∧ SqL K H a (ns.map V.int) ∧ (ns = [] → Q (.int i) H) ∧ (∀ m, m ∈ ns → (∀ k ∈ ns, m ≤ k) → Q (.int m) H)
theorem cr_minDf {X : Cx} (hc : X.calm = true) : CallRK X (.builtin "min") [Str.ofString "default"] (rminDf X.K) := by
  intro pins s σ H vs zs us ws Q I r rz h
  obtain ⟨a, ns, i, rfl, rfl, hs, q0, q1⟩ := h
  obtain ⟨its, rv, hl, _⟩ := I.list hs
  rw [Vals.ref1 r]
  obtain ⟨w1, rfl, t, rfl⟩ := vals1 rz
  obtain ⟨xs, e⟩ := rv.ints.allInts.items
  have hn : numsOf (intItems xs).toList = ns := by rw [← e]; exact rv.ints.numsOf
  rw [nums_intItems] at hn
  have hl2 := hl.isList
  rw [e] at hl2
  have hlen : ns.length = xs.size := by rw [← hn, List.length_map, Array.length_toList]
  refine PySem.min_dflt_items (I.ok.hd hc) hl2 fun v h' tk z1 z2 hk => ?_
  by_cases hz : xs.size = 0
  · rw [z1 hz]
    exact ⟨.int i, H, I.kept hk, ⟨_, rfl⟩, q0 (List.eq_nil_of_length_eq_zero (by omega))⟩
  · obtain ⟨t2, rfl⟩ := intItems_at (z2 (by omega))
    obtain ⟨h1, h2⟩ := argBest_lt (numAt xs) (xs.size - 1)
    refine ⟨.int _, H, I.kept hk, ⟨_, rfl⟩, q1 _ ?_ fun k hkm => ?_⟩
    · rw [← hn, numAt_eq]
      exact PySem.getD_mem (by rw [List.length_map, Array.length_toList]; omega)
    · rw [← hn] at hkm
      obtain ⟨j, hj, rfl⟩ := mem_getD hkm
      rw [List.length_map, Array.length_toList] at hj
      rw [← numAt_eq]
      exact h2 j (by omega)
end L2

set_option Elab.async false
set_option linter.all false
set_option maxRecDepth 100000
set_option maxHeartbeats 1000000
/-! Rg, part A: what all laws of this program share: a def's promise by its name, lists of ints, what a call hands back. -/
namespace Rg
open PySem PySem.Spec PyProof.Rows L2 Evl

/-! ### lists of ints -/
abbrev Ints (ns : List Int) : List V := ns.map V.int
abbrev Lst (H : Hp) (a : Addr) (xs : List V) : Prop := H a = some (.lst xs)
abbrev IL (H : Hp) (a : Addr) (ns : List Int) : Prop := H a = some (.lst (Ints ns))
/-! ### what a call hands back -/
/-- a new list | a value, the heap grown -/
def RL (xs : List V) (H : Hp) (Q : VK) : Prop := ∀ p H', H p = none → Ex H H' → H' p = some (.lst xs) → Q (.ref p) H'
def RVal (v : V) (H : Hp) (Q : VK) : Prop := ∀ H', Ex H H' → Q v H'

/-- what is refused: the class x is let out, the heap grown; else k -/
def Out (K : PySem.W.Frag) (r : Option String) (H : Hp) (E : XK) (k : Prop) : Prop := match r with
  | some x => ∀ H', Ex H H' → E (.ref (He.ga K (Str.ofString x))) none H'
  | none => k
theorem Out.imp {K : PySem.W.Frag} {r : Option String} {H H1 : Hp} {E : XK} {k k' : Prop} (h : Out K r H E k) (e : Ex H H1) (f : r = none → k → k') : Out K r H1 E k' := by
  cases r with
  | some x => exact fun H' e' => h H' (e.trans e')
  | none => exact f rfl h
theorem Out.ok {K : PySem.W.Frag} {r : Option String} {H : Hp} {E : XK} {k : Prop} (hr : r = none) (h : k) : Out K r H E k := by
  subst hr
  exact h
theorem Out.get {K : PySem.W.Frag} {r : Option String} {H : Hp} {E : XK} {k : Prop} (h : Out K r H E k) (hr : r = none) : k := by
  subst hr
  exact h
theorem Out.bad {K : PySem.W.Frag} {r : Option String} {x : String} {H : Hp} {E : XK} {k : Prop} (h : Out K r H E k) (hr : r = some x) {H' : Hp} (e : Ex H H') : E (.ref (He.ga K (Str.ofString x))) none H' := by
  subst hr
  exact h H' e
def optV : Option Int → V
  | none => .non
  | some d => .int d
/-! ### a def of the top, by its name -/
section
variable {P : Program} {w : World} {K : PySem.W.Frag} {mg : Str → Option Value} {base : Heap}
structure Has (P : Program) (w : World) (K : PySem.W.Frag) (mg : Str → Option Value) (base : Heap) (CX : CXT) (k : Nat) (x : Str) (ps : List Str) (sp : Sp) : Prop where
  ex : ∃ f fd, FnOk P w K mg base CX k f fd ps sp ∧ mg x = some (.ref f) ∧ PySem.W.keepIn K (.ref f) = true ∧ Binds K fd ps [] ∧ ∃ oc od osl, K.lookup f = some ⟨oc, od, .func fd, osl⟩
theorem Has.mono {CX : CXT} {j k : Nat} {x : Str} {ps : List Str} {sp : Sp} (h : Has P w K mg base CX j x ps sp) (le : j ≤ k) : Has P w K mg base CX k x ps sp := by
  obtain ⟨f, fd, F, r⟩ := h.ex
  exact ⟨f, fd, F.mono le, r⟩
theorem _root_.L2.FunD.look {x qual : Str} {params : Arguments} {body : List Stmt} {scope : Scope} {dvs : List V} {kws : List (Str × V)} {f : Addr} {fd : FuncData} (F : FunD K x qual params body scope dvs kws f fd) : ∃ oc od osl, K.lookup f = some ⟨oc, od, .func fd, osl⟩ := by
  obtain ⟨oc, od, dV, kV, doc, pm, an, cdv, ct, osl, _, lk, _⟩ := F.ex
  exact ⟨oc, od, osl, lk⟩
structure Df (K : PySem.W.Frag) (mg : Str → Option Value) (x : Str) (st : Stmt) : Prop where
  ex : ∃ f fd, FunD K x x (defArgs st) (defBody st) (defScope st) [] [] f fd ∧ mg x = some (.ref f)
abbrev BindOk (x : Str) (st : Stmt) (ps : List Str) : Prop := ∀ (kV doc pm : Value) (an : Option Addr) (cdv ct : Value) (us : List Value), us.length = ps.length → bindArgs (PySem.W.fnOf x x (defArgs st) (defBody st) (defScope st) .none kV doc pm an cdv ct) ⟨us, []⟩ = pure (ps.zip us)
/-- THE RULE: a def that lets no exception out -/
theorem Df.has0 {x : Str} {st : Stmt} {N ps : List Str} {k : Nat} {sp : Sp} (D : Df K mg x st) (S : FnScope N ps (defScope st)) (hb : BindOk x st ps) (len : ∀ vs H Q E, sp vs H Q E → vs.length = ps.length)
    (hbody : ∀ (f : Addr) (cdv : Value) (A : Around) (outer : List Env) (s : Shared) (H : Hp) (vs : List V) (Q : VK) (E : XK), Room k (A.deeper (envOfC x (defScope st) s.heap.objs.size f cdv)) → sp vs H Q E →
      ∃ t, PSs (cxOf CX0 P w K mg base N x (defScope st) f cdv A outer s H E).nox (defBody st) t ∧ t { nx := fun _ H' => Q .non H', rt := Q } (start N vs) H) : Has P w K mg base CX0 (k + 1) x ps sp := by
  obtain ⟨f, fd, F, g⟩ := D.ex
  refine ⟨f, fd, F.ok S len (fun cdv A outer s H vs Q E hr h => ?_), g, F.kp, F.bindsN hb, F.look⟩
  obtain ⟨t, h1, h2⟩ := hbody f cdv A outer s H vs Q E hr h
  exact ⟨t, h1.nox, h2⟩
/-- a def that may raise -/
theorem Df.hasX {x : Str} {st : Stmt} {N ps : List Str} {k : Nat} {sp : Sp} (D : Df K mg x st) (S : FnScope N ps (defScope st)) (hb : BindOk x st ps) (len : ∀ vs H Q E, sp vs H Q E → vs.length = ps.length)
    (hbody : ∀ (f : Addr) (cdv : Value) (A : Around) (outer : List Env) (s : Shared) (H : Hp) (vs : List V) (Q : VK) (E : XK), Room k (A.deeper (envOfC x (defScope st) s.heap.objs.size f cdv)) → sp vs H Q E →
      ∃ t, PSs (cxOf (L2.CX P w) P w K mg base N x (defScope st) f cdv A outer s H E) (defBody st) t ∧ t { nx := fun _ H' => Q .non H', rt := Q } (start N vs) H) : Has P w K mg base (L2.CX P w) (k + 1) x ps sp := by
  obtain ⟨f, fd, F, g⟩ := D.ex
  exact ⟨f, fd, F.ok S len (hbody f), g, F.kp, F.bindsN hb, F.look⟩
/-- the law's own def, at the end -/
theorem Df.end_ {x p : Str} {st : Stmt} {k : Nat} {sp : Sp} {f : Addr} (D : Df K mg x st) (hb : BindOk x st [p]) (hfa : mg x = some (.ref f)) (h : ∀ base : Heap, K.In base → base.Ns mainGlobals mg → Has P w K mg base CX0 k x [p] sp) :
    ∃ fd : FuncData, (∀ (s : Shared) (v : Value), BindsTo s fd ⟨[v], []⟩ [(p, v)]) ∧ ∀ base : Heap, K.In base → base.Ns mainGlobals mg → FnOk P w K mg base CX0 k f fd [p] sp := by
  obtain ⟨f1, fd, F, g⟩ := D.ex
  rw [g] at hfa
  cases hfa
  obtain ⟨oc, od, osl, lk⟩ := F.look
  refine ⟨fd, fun s v => F.bindsA hb s [v] rfl, fun base a b => ?_⟩
  obtain ⟨f2, fd2, F2, g2, _, _, oc2, od2, osl2, lk2⟩ := (h base a b).ex
  rw [g] at g2
  cases g2
  rw [lk] at lk2
  cases lk2
  exact F2
end
section
variable {X : Cx}
theorem pe_callH {CX : CXT} {k : Nat} {x : Str} {ps : List Str} {sp : Sp} {E : XK} {p pos : Pos} {e : Expr} {es : List Expr} {t : TA} (F : Has X.prog X.w X.K X.mg X.base CX k x ps sp) (hr : Room k X.A) (hg : Gl X x) (hx : Passes CX X E)
    (ha : PA X (e :: es) t) (hdb : (x == ("__debug__" : Str)) = false := by decide) (he : starEach (e :: es) X.env = (false, eval e X.env) :: starEach es X.env := by rfl) (hpl : (backTo pos (starEach es X.env)).any (·.1) = false := by rfl) :
    PE X (.Call (.Name x p) (e :: es) [] pos) (tCall sp [] E t) := by
  obtain ⟨f, fd, F, hm, hk, hb, _⟩ := F.ex
  exact pe_call F hr hg hm hk hb .nil hx ha hdb he hpl
end
theorem passE0 {X : Cx} : Passes (L2.CX X.prog X.w) X E0 := fun _ _ _ _ _ _ _ ⟨_, _, _, _, _, _, _, _, _, _, _, _, h⟩ => h.elim
theorem passX {X : Cx} {E : XK} (tk : Takes X (fun cls d _ H => E cls d H)) : Passes (L2.CX X.prog X.w) X E := passes_call tk fun _ _ _ _ h => h
/-- an own exception class of the top, without __init__ -/
structure Ec (K : PySem.W.Frag) (mg : Str → Option Value) (x : Str) : Prop where
  g : mg x = some (.ref (He.ga K x))
  ex : PySem.W.excIn K (He.ga K x) He.veBase "ValueError.__new__" = true
  k : PySem.W.keepIn K (.ref (He.ga K x)) = true
  b : PySem.W.subIn K (.ref (He.ga K x)) (.type "BaseException") = some true
  t : PySem.W.typeIn K (.ref (He.ga K x)) = some (.type "type")
theorem ec_mk {K : PySem.W.Frag} {h : Heap} {mg : Str → Option Value} {x : Str} (X : K.In h) (G : h.Ns mainGlobals mg) (c1 : (He.Fa.glo x).ok K = true) (c2 : (He.Fa.exc x).ok K = true) : Ec K mg x := by
  obtain ⟨e1, e2⟩ := He.ba c2
  obtain ⟨e2, e3⟩ := He.ba e2
  obtain ⟨e3, e4⟩ := He.ba e3
  exact ⟨He.glo_ok X G c1, e1, e2, of_decide_eq_true e3, of_decide_eq_true e4⟩
/-- raise X('..') -/
def tRz (cls : Value) (W : WX) : TS := fun _ σ H => W cls none σ H
theorem ps_raiseC {X : Cx} {W : WX} {x m : Str} {j : Nat} {p p2 pos pos2 : Pos} (C : Ec X.K X.mg x) (hc : X.calm = true) (tk : Takes X W) (hg : Gl X x) (hdb : (x == ("__debug__" : Str)) = false := by decide) :
    PS X (.Raise (some (.Call (.Name x p) [.Constant (.str m) j p2] [] pos)) none pos2) (tRz (.ref (He.ga X.K x)) W) :=
  ps_raise hc tk (pmk_own PySem.F.excBase_ValueError C.ex C.g C.k (raises_own C.b C.t) hg hdb)
theorem hD_of {k : Nat} {A : Around} (hr : Room k A) : A.units + 64 < cLine := by have := hr.units; omega

/-! ### builtins that the top leaves alone -/
structure Bs (mg : Str → Option Value) : Prop where
  n_len : mg "len" = none
  n_range : mg "range" = none
  n_sorted : mg "sorted" = none
  n_list : mg "list" = none
  n_set : mg "set" = none
  n_abs : mg "abs" = none
  n_max : mg "max" = none
  n_min : mg "min" = none
  n_isinstance : mg "isinstance" = none
  n_int : mg "int" = none
  n_bool : mg "bool" = none
  n_enumerate : mg "enumerate" = none
  n_reversed : mg "reversed" = none
  n_str : mg "str" = none
  n_tuple : mg "tuple" = none
  n_ValueError : mg "ValueError" = none

/-! ### calls of built-ins by what they evaluate to -/
section
variable {K : PySem.W.Frag} {σ : L2.St} {H H' : Hp} {ta tb te : TE}
theorem il_upd {l : Addr} {ys : List V} {zs : List Int} (h : ys = Ints zs) : IL (upd H l (.lst ys)) l zs := by
  show upd H l (.lst ys) l = _
  rw [upd_same, h]
theorem ints_app (xs : List Int) (v : Int) : Ints xs ++ [V.int v] = Ints (xs ++ [v]) := by simp [Ints]
theorem ix_nat {n j : Nat} (h : j < n) : ixN n (j : Int) = some j := ixN_nat h
theorem ix_at {n : Nat} {i : Int} (h0 : 0 ≤ i) (h : i < (n : Int)) : ixN n i = some i.toNat := by
  have e : i = ((i.toNat : Nat) : Int) := by omega
  rw [e, ixN_nat (by omega)]
  congr 1
theorem atI_ints {ns : List Int} {i : Int} (h0 : 0 ≤ i) (h : i < (ns.length : Int)) : atI (Ints ns) i = some (.int (gi ns i.toNat)) := by
  unfold atI
  rw [List.length_map, ix_at h0 h]
  show (Ints ns)[i.toNat]? = _
  have hk : i.toNat < ns.length := by omega
  rw [List.getElem?_map, List.getElem?_eq_getElem hk]
  simp [gi, List.getD_eq_getElem?_getD, List.getElem?_eq_getElem hk]
theorem atI_intsN {ns : List Int} {i : Nat} (h : i < ns.length) : atI (Ints ns) (i : Int) = some (.int (gi ns i)) := atI_ints (by omega) (by omega)
theorem atI_neg1 {ns : List Int} (h : ns ≠ []) : atI (Ints ns) (-1) = some (.int (gi ns (ns.length - 1))) := by
  have hp : 0 < ns.length := List.length_pos_iff.mpr h
  have hk : ns.length - 1 < ns.length := by omega
  have e := atI_last (xs := (Ints ns).dropLast) (v := .int (gi ns (ns.length - 1)))
  have e2 : (Ints ns).dropLast ++ [V.int (gi ns (ns.length - 1))] = Ints ns := by
    rw [show V.int (gi ns (ns.length - 1)) = (Ints ns).getLast (by simpa using h) by
      rw [List.getLast_eq_getElem]
      simp [gi, List.getD_eq_getElem?_getD, List.getElem?_eq_getElem hk]]
    exact List.dropLast_concat_getLast _
  rw [e2] at e
  exact e
theorem rv_ixI {a : Addr} {ns : List Int} {i : Int} (h : IL H a ns) (h0 : 0 ≤ i) (h1 : i < (ns.length : Int)) : RV (rIxL K) (.ref a) (.int i) H (.int (gi ns i.toNat)) := rv_ixL (sq_of h) (atI_ints h0 h1)
theorem rv_ixIN {a : Addr} {ns : List Int} {i : Nat} (h : IL H a ns) (h1 : i < ns.length) : RV (rIxL K) (.ref a) (.int (i : Int)) H (.int (gi ns i)) := rv_ixL (sq_of h) (atI_intsN h1)
theorem ev_lenI {a : Addr} {ns : List Int} (ha : Ev ta σ H (.ref a)) (h : IL H a ns) : Ev (tCB (rLenS K) (tCons ta tNil)) σ H (.int (ns.length : Int)) := by
  have z := ev_len (K := K) ha (sq_of h)
  rw [List.length_map] at z
  exact z
theorem v_ {i : Nat} {v : V} (h : σ[i]? = some (some v) := by rfl) : Ev (tVar i) σ H v := ev_var h
theorem o_ {f : Int → Int → V} {i j : Int} (ha : Ev ta σ H (.int i)) (hb : Ev tb σ H (.int j)) : Ev (tOp (rI0 f) ta tb) σ H (f i j) := ev_op ha hb rv_I0
theorem oc_ {C : Int → Int → Prop} {f : Int → Int → V} {i j : Int} (ha : Ev ta σ H (.int i)) (hb : Ev tb σ H (.int j)) (hc : C i j) : Ev (tOp (rI C f) ta tb) σ H (f i j) := ev_op ha hb (rv_I hc)
theorem add_ {i j : Int} (ha : Ev ta σ H (.int i)) (hb : Ev tb σ H (.int j)) : Ev (tOp (rI0 fun i j => .int (i + j)) ta tb) σ H (.int (i + j)) := ev_op ha hb (rv_I0 (g := fun i j => .int (i + j)))
theorem sub_ {i j : Int} (ha : Ev ta σ H (.int i)) (hb : Ev tb σ H (.int j)) : Ev (tOp (rI0 fun i j => .int (i - j)) ta tb) σ H (.int (i - j)) := ev_op ha hb (rv_I0 (g := fun i j => .int (i - j)))
theorem mod_ {i j : Int} (ha : Ev ta σ H (.int i)) (hb : Ev tb σ H (.int j)) (hc : 0 < j) : Ev (tOp (rI (fun _ j => 0 < j) fun i j => .int (i % j)) ta tb) σ H (.int (i % j)) := ev_op ha hb (rv_I (C := fun _ j => 0 < j) (g := fun i j => .int (i % j)) hc)
theorem div_ {i j : Int} (ha : Ev ta σ H (.int i)) (hb : Ev tb σ H (.int j)) (hc : CDiv i j) : Ev (tOp (rI CDiv fun i j => .int (i / j)) ta tb) σ H (.int (i / j)) := ev_op ha hb (rv_I (C := CDiv) (g := fun i j => .int (i / j)) hc)
theorem ng_ {i : Int} (ha : Ev ta σ H (.int i)) : Ev (tUn (rU fun i => .int (-i)) ta) σ H (.int (-i)) := ev_un ha ru_neg
/-- xs[i] of a list of ints -/
theorem ixI_ {a : Addr} {ns : List Int} {i : Int} (h : IL H a ns) (ha : Ev ta σ H (.ref a)) (hi : Ev tb σ H (.int i)) (h0 : 0 ≤ i) (h1 : i < (ns.length : Int)) : Ev (tOp (rIxL K) ta tb) σ H (.int (gi ns i.toNat)) := ev_op ha hi (rv_ixI h h0 h1)
theorem ixN_ {a : Addr} {ns : List Int} {i : Nat} (h : IL H a ns) (ha : Ev ta σ H (.ref a)) (hi : Ev tb σ H (.int (i : Int))) (h1 : i < ns.length) : Ev (tOp (rIxL K) ta tb) σ H (.int (gi ns i)) := ev_op ha hi (rv_ixIN h h1)
/-- xs[-1] -/
theorem ixL_ {a : Addr} {ns : List Int} (h : IL H a ns) (ha : Ev ta σ H (.ref a)) (h1 : ns ≠ []) : Ev (tOp (rIxL K) ta (tUn (rU fun i => .int (-i)) (tC (.int 1)))) σ H (.int (gi ns (ns.length - 1))) :=
  ev_op ha (ng_ ev_c) (rv_ixL (sq_of h) (atI_neg1 h1))
theorem ev_chain {tc : TE} {r r' : R2} {x y z : V} {k1 k2 : Bool} (ha : Ev ta σ H x) (hb : Ev tb σ H y) (hr : RV r x y H (.bl k1)) (hc : k1 = true → Ev tc σ H z) (hr' : k1 = true → RV r' y z H (.bl k2)) : Ev (tChain r r' ta tb tc) σ H (.bl (k1 && k2)) := fun H1 e Q q =>
  ha H1 e _ fun H2 e2 => hb H2 (e.trans e2) _ fun H3 e3 => hr H3 ((e.trans e2).trans e3) _ fun H4 e4 => ⟨k1, rfl, by
    have e5 := ((e.trans e2).trans e3).trans e4
    cases k1 with
    | true =>
      show tc σ H4 _
      exact hc rfl H4 e5 _ fun H5 e6 => hr' rfl H5 (e5.trans e6) Q fun H6 e7 => q H6 ((((e2.trans e3).trans e4).trans e6).trans e7)
    | false =>
      show Q (.bl false) H4
      exact q H4 ((e2.trans e3).trans e4)⟩
theorem dIn (d : Int) (ns : List Int) : inV (.int d) (Ints ns) = decide (d ∈ ns) := by
  unfold inV
  induction ns with
  | nil => simp
  | cons x xs ih =>
    show ((V.int x :: Ints xs).any fun y => eqV y (V.int d)) = _
    rw [List.any_cons, ih]
    have e : eqV (.int x) (.int d) = (x == d) := rfl
    rw [e, Bool.eq_iff_iff, Bool.or_eq_true, beq_iff_eq, decide_eq_true_eq, decide_eq_true_eq, List.mem_cons]
    exact or_congr_left ⟨fun h => h.symm, fun h => h.symm⟩
theorem flats (ns : List Int) : (Ints ns).all flatV = true := by
  simp [Ints, flatV]
/-- d in xs, d not in xs -/
theorem in_ {a : Addr} {ns : List Int} {d : Int} (h : IL H a ns) (hd : Ev ta σ H (.int d)) (ha : Ev tb σ H (.ref a)) : Ev (tOp (rIn K false) ta tb) σ H (.bl (decide (d ∈ ns))) := by
  have z := ev_op hd ha (rv_isL (K := K) (sq_of h) rfl (flats ns))
  rw [dIn] at z
  exact z
theorem ni_ {a : Addr} {ns : List Int} {d : Int} (h : IL H a ns) (hd : Ev ta σ H (.int d)) (ha : Ev tb σ H (.ref a)) : Ev (tOp (rIn K true) ta tb) σ H (.bl (!decide (d ∈ ns))) := by
  have z := ev_op hd ha (rv_niL (K := K) (sq_of h) rfl (flats ns))
  rw [dIn] at z
  exact z
/-- xs.remove(d) -/
theorem s_rem {D : Ends} {l : Addr} {ns : List Int} {d : Int} (hl : IL H l ns) (ha : Ev ta σ H (.ref l)) (h : Ev te σ H (.int d)) (hd : d ∈ ns) (k : ∀ H1, Ex H H1 → D.nx σ (upd H1 l (.lst (Ints (ns.erase d))))) :
    tDrop (tBM K "list" rRemI ta (tCons te tNil)) D σ H := ha H (Ex.refl H) _ fun H1 e1 =>
  ⟨Or.inl ⟨rfl, Ints ns, sq_of (e1 l _ hl)⟩, h H1 e1 _ fun H2 e2 => by
    obtain ⟨j, h1, h2, h3⟩ := erase_at hd
    refine ⟨l, ns, d, j, rfl, rfl, e2 l _ (e1 l _ hl), h1, h2, ?_⟩
    rw [h3]
    exact k H2 (e1.trans e2)⟩
/-- list(xs) -/
theorem el_copy {a : Addr} {xs : List V} (ha : Ev ta σ H (.ref a)) (h : Lst H a xs) : EvL (tCB (rListS K) (tCons ta tNil)) σ H xs := el_list ha (sq_of h)
/-- isinstance(n, int), isinstance(n, bool) -/
theorem isi_ {x : V} {n : String} {t : Value} {b : Bool} (ha : Ev ta σ H x) (hc : Ev tb σ H (.ty n)) (ty : ∀ H1, Ex H H1 → TyX K H1 x t) (hk : PySem.W.kitOne K t (.type n) = some b) : Ev (tCB (rIsi K) (tCons ta (tCons tb tNil))) σ H (.bl b) := fun H1 e Q q =>
  ha H1 e _ fun H2 e2 => hc H2 (e.trans e2) _ fun H3 e3 => ⟨x, .ty n, t, .type n, b, rfl, .ty n, ty H3 ((e.trans e2).trans e3), hk, q H3 (e2.trans e3)⟩
theorem ints_at {ns : List Int} {i : Nat} {x : V} (h : (Ints ns)[i]? = some x) : ∃ d, ns[i]? = some d ∧ x = V.int d := by
  rw [List.getElem?_map] at h
  cases e : ns[i]? with
  | none =>
    rw [e] at h
    cases h
  | some d =>
    rw [e] at h
    exact ⟨d, rfl, (Option.some.inj h).symm⟩
/-- f(..) as a statement -/
theorem s_call {D : Ends} {sp : Sp} {dvs vs : List V} {E : XK} {t : TA} (h : EvA t σ H vs) (hs : ∀ H1, Ex H H1 → sp (vs ++ dvs) H1 (fun _ H2 => D.nx σ H2) E) : tDrop (tCall sp dvs E t) D σ H := h H (Ex.refl H) _ fun H1 e1 => hs H1 e1
/-- return f(..) op e -/
theorem s_retop {D : Ends} {sp : Sp} {dvs vs : List V} {E : XK} {t : TA} {r : R2} (h : EvA t σ H vs) (hs : ∀ H1, Ex H H1 → sp (vs ++ dvs) H1 (fun x H2 => tb σ H2 fun y H3 => r x y H3 D.rt) E) : tRet (tOp r (tCall sp dvs E t) tb) D σ H := h H (Ex.refl H) _ fun H1 e1 => hs H1 e1
/-- return f(..) -/
theorem s_retcall {D : Ends} {sp : Sp} {dvs vs : List V} {E : XK} {t : TA} (h : EvA t σ H vs) (hs : ∀ H1, Ex H H1 → sp (vs ++ dvs) H1 D.rt E) : tRet (tCall sp dvs E t) D σ H := h H (Ex.refl H) _ fun H1 e1 => hs H1 e1
/-- x = f(..) -/
theorem s_setcall {D : Ends} {sp : Sp} {dvs vs : List V} {E : XK} {t : TA} {i : Nat} (h : EvA t σ H vs) (hs : ∀ H1, Ex H H1 → sp (vs ++ dvs) H1 (fun x H2 => D.nx (σ.set i (some x)) H2) E) : tAsg (tCall sp dvs E t) (gName i) D σ H := h H (Ex.refl H) _ fun H1 e1 => hs H1 e1
/-- if not f(..): u; else: w -/
theorem s_ifnotcall {D : Ends} {sp : Sp} {dvs vs : List V} {E : XK} {t : TA} {u w : TS} (h : EvA t σ H vs) (hs : ∀ H1, Ex H H1 → sp (vs ++ dvs) H1 (fun x H2 => ∃ k, x = .bl k ∧ (if (!k) = true then u D σ H2 else w D σ H2)) E) : tIfS (tNot (tB (tCall sp dvs E t))) u w D σ H := h H (Ex.refl H) _ fun H1 e1 => hs H1 e1
/-! ### lists of ints as data -/
def dI (ns : List Int) : PyData := .list (ns.map .int)
theorem dpAll_I (ns : List Int) : DpAll K H (Ints ns) (ns.map .int) := by
  induction ns with
  | nil => exact .nil
  | cons x xs ih => exact .cons (.int x) ih
theorem dp_I {a : Addr} {ns : List Int} (h : IL H a ns) : Dp K H (.ref a) (dI ns) := .lst (sq_of h) (dpAll_I ns)
theorem lay_Is (ns : List Int) : PyData.canLayAll0 (ns.map .int) = true := by
  induction ns with
  | nil => rfl
  | cons x xs ih => simp [PyData.canLayAll0, PyData.canLay0, ih]
theorem depth_Is (ns : List Int) : PyData.depthAll (ns.map .int) = 0 := by
  induction ns with
  | nil => rfl
  | cons x xs ih => simp [PyData.depthAll, PyData.depth, ih]
theorem sh_I (ns : List Int) : SeqAt.shaped (dI ns) = true := by
  simp [SeqAt.shaped, dI, PyData.canLay0, PyData.depth, lay_Is, depth_Is]
theorem eqvs_I : ∀ ns ms : List Int, PyData.eqvAll (ns.map .int) (ms.map .int) = decide (ns = ms)
  | [], [] => by simp [PyData.eqvAll]
  | [], _ :: _ => by simp [PyData.eqvAll]
  | _ :: _, [] => by simp [PyData.eqvAll]
  | x :: xs, y :: ys => by
    rw [Bool.eq_iff_iff]
    simp [PyData.eqvAll, PyData.eqv, eqvs_I xs ys]
theorem eqv_I (ns ms : List Int) : PyData.eqv (dI ns) (dI ms) = decide (ns = ms) := by
  simp [dI, PyData.eqv, eqvs_I]
theorem eqv_NI (ms : List Int) : PyData.eqv .none (dI ms) = false := by
  simp [dI, PyData.eqv]
/-- xs == ys, != -/
theorem eqI_ {a b : Addr} {ns ms : List Int} (ha : Ev ta σ H (.ref a)) (h1 : IL H a ns) (hb : Ev tb σ H (.ref b)) (h2 : IL H b ms) : Ev (tOp (rEqD K) ta tb) σ H (.bl (decide (ns = ms))) := fun H1 e Q q =>
  ha H1 e _ fun H2 e2 => hb H2 (e.trans e2) _ fun H3 e3 => ⟨dI ns, dI ms, dp_I (((e.trans e2).trans e3) a _ h1), dp_I (((e.trans e2).trans e3) b _ h2), sh_I _, sh_I _, by
    rw [eqv_I]
    exact q H3 (e2.trans e3)⟩
theorem neI_ {a b : Addr} {ns ms : List Int} (ha : Ev ta σ H (.ref a)) (h1 : IL H a ns) (hb : Ev tb σ H (.ref b)) (h2 : IL H b ms) : Ev (tOp (rNeD K) ta tb) σ H (.bl (!decide (ns = ms))) := fun H1 e Q q =>
  ha H1 e _ fun H2 e2 => hb H2 (e.trans e2) _ fun H3 e3 => ⟨dI ns, dI ms, dp_I (((e.trans e2).trans e3) a _ h1), dp_I (((e.trans e2).trans e3) b _ h2), sh_I _, sh_I _, by
    rw [eqv_I]
    exact q H3 (e2.trans e3)⟩
theorem neIN_ {a : Addr} {ns ms : List Int} (ha : Ev ta σ H (.ref a)) (h1 : IL H a ns) (hb : EvL tb σ H (Ints ms)) : Ev (tOp (rNeD K) ta tb) σ H (.bl (!decide (ns = ms))) := fun H1 e Q q =>
  ha H1 e _ fun H2 e2 => hb H2 (e.trans e2) _ fun b H3 _ e3 h2 => ⟨dI ns, dI ms, dp_I (((e.trans e2).trans e3) a _ h1), dp_I h2, sh_I _, sh_I _, by
    rw [eqv_I]
    exact q H3 (e2.trans e3)⟩
theorem eqIN_ {a : Addr} {ns ms : List Int} (ha : Ev ta σ H (.ref a)) (h1 : IL H a ns) (hb : EvL tb σ H (Ints ms)) : Ev (tOp (rEqD K) ta tb) σ H (.bl (decide (ns = ms))) := fun H1 e Q q =>
  ha H1 e _ fun H2 e2 => hb H2 (e.trans e2) _ fun b H3 _ e3 h2 => ⟨dI ns, dI ms, dp_I (((e.trans e2).trans e3) a _ h1), dp_I h2, sh_I _, sh_I _, by
    rw [eqv_I]
    exact q H3 (e2.trans e3)⟩
/-- [3, 9, ..][i] -/
theorem menu_ {ns : List Int} {i : Int} (h : EvL ta σ H (Ints ns)) (hi : ∀ H1, Ex H H1 → Ev tb σ H1 (.int i)) (h0 : 0 ≤ i) (h1 : i < (ns.length : Int)) : Ev (tOp (rIxL K) ta tb) σ H (.int (gi ns i.toNat)) :=
  ev_opL1 h hi fun p H1 hp _ => rv_ixI hp h0 h1
theorem ints_erase : ∀ (ns : List Int) (k : Nat), (Ints ns).eraseIdx k = Ints (ns.eraseIdx k)
  | [], k => rfl
  | x :: xs, 0 => rfl
  | x :: xs, k + 1 => congrArg (V.int x :: ·) (ints_erase xs k)
theorem ints_set : ∀ (ns : List Int) (k : Nat) (v : Int), (Ints ns).set k (.int v) = Ints (ns.set k v)
  | [], k, v => rfl
  | x :: xs, 0, v => rfl
  | x :: xs, k + 1, v => congrArg (V.int x :: ·) (ints_set xs k v)
/-- xs.pop(i) as a statement -/
theorem s_popAt {D : Ends} {l : Addr} {ns : List Int} {i : Int} (hl : IL H l ns) (ha : Ev ta σ H (.ref l)) (h : Ev te σ H (.int i)) (h0 : 0 ≤ i) (h1 : i < (ns.length : Int)) (hz : ns.length < 1000000) (k : ∀ H1, Ex H H1 → D.nx σ (upd H1 l (.lst (Ints (ns.eraseIdx i.toNat))))) :
    tDrop (tBM K "list" rPopAt ta (tCons te tNil)) D σ H := ha H (Ex.refl H) _ fun H1 e1 =>
  ⟨Or.inl ⟨rfl, Ints ns, sq_of (e1 l _ hl)⟩, h H1 e1 _ fun H2 e2 => by
    refine ⟨l, Ints ns, i, i.toNat, .int (gi ns i.toNat), rfl, rfl, e2 l _ (e1 l _ hl), by omega, by omega, ?_, ?_, ?_⟩
    · rw [List.length_map]
      exact (ixN_seq (ix_at h0 h1)).1
    · have hk : i.toNat < ns.length := by omega
      rw [List.getElem?_map, gi_get hk]
      rfl
    · rw [ints_erase]
      exact k H2 (e1.trans e2)⟩
/-- xs[i] = n -/
theorem s_setI {D : Ends} {l : Addr} {ns : List Int} {i v : Int} (hl : IL H l ns) (h : Ev te σ H (.int v)) (ho : Ev ta σ H (.ref l)) (hi : Ev tb σ H (.int i)) (h0 : 0 ≤ i) (h1 : i < (ns.length : Int)) (k : ∀ H1, Ex H H1 → D.nx σ (upd H1 l (.lst (Ints (ns.set i.toNat v))))) :
    tAsg te (gSub ta tb rSetL) D σ H := h H (Ex.refl H) _ fun H1 e1 => ho H1 e1 _ fun H2 e2 => hi H2 (e1.trans e2) _ fun H3 e3 => by
  refine ⟨l, Ints ns, i, i.toNat, rfl, rfl, ((e1.trans e2).trans e3) l _ hl, ?_, ?_⟩
  · rw [List.length_map]
    exact ix_at h0 h1
  · show D.nx σ (upd H3 l (.lst ((Ints ns).set i.toNat (.int v))))
    rw [ints_set]
    exact k H3 ((e1.trans e2).trans e3)
/-- max(xs, default=d), min(xs, default=d) -/
theorem ev_maxD {a : Addr} {ns : List Int} {d : Int} (ha : Ev ta σ H (.ref a)) (h : IL H a ns) : Ev (tCKw (rmaxDf K) (tCons ta tNil) (tCons (tC (.int d)) tNil)) σ H (.int (maxD d ns)) := fun H1 e Q q =>
  ha H1 e _ fun H2 e2 => ⟨a, ns, d, rfl, rfl, sq_of ((e.trans e2) a _ h), fun z => by
    subst z
    exact q H2 e2, fun m h1 h2 => by
    rw [maxD_eq h1 h2 (d := d)]
    exact q H2 e2⟩
theorem ev_minD {a : Addr} {ns : List Int} {d : Int} (ha : Ev ta σ H (.ref a)) (h : IL H a ns) : Ev (tCKw (rminDf K) (tCons ta tNil) (tCons (tC (.int d)) tNil)) σ H (.int (minD d ns)) := fun H1 e Q q =>
  ha H1 e _ fun H2 e2 => ⟨a, ns, d, rfl, rfl, sq_of ((e.trans e2) a _ h), fun z => by
    subst z
    exact q H2 e2, fun m h1 h2 => by
    rw [minD_eq h1 h2 (d := d)]
    exact q H2 e2⟩
/-- if t: a, between other statements: M holds behind it either way -/
theorem s_cutif {D : Ends} {t : TT} {u w rest : TS} {b : Bool} (M : L2.St → Hp → Prop) (h : EvT t σ H b) (h1 : b = true → ∀ H1, Ex H H1 → u { D with nx := M } σ H1) (h2 : b = false → ∀ H1, Ex H H1 → w { D with nx := M } σ H1)
    (k : ∀ σ' H', M σ' H' → rest D σ' H') : tCut (tIfS t u w) rest D σ H := ⟨M, s_if h h1 h2, k⟩
theorem cw_ex {H H1 H2 : Hp} {f : Nat → Bool} {v : Nat → V} {Dl : Addr} {i : Nat} (p : Cw H f v Dl i H1) (e : Ex H1 H2) : Cw H f v Dl i H2 := ⟨p.1, p.2.1.trans e, e Dl _ p.2.2⟩
/-- a comprehension over enumerate(xs): two names -/
theorem el_lcE {a : Addr} {xs : List V} {tA : TA} {tt : TT} {j0 j1 : Nat} {vs : List Nat} (f : Nat → Bool) (v : Nat → V) (h : EvA tA σ H [.ref a]) (hx : Lst H a xs) (hz : xs.length ≤ 40000) (hw : ∀ x y, wipe (((wipe σ vs).set j0 (some x)).set j1 (some y)) vs = wipe σ vs)
    (ht : ∀ (i : Nat) (x : V) H1, Ex H H1 → xs[i]? = some x → EvT tt (((wipe σ vs).set j0 (some (.int (i : Nat)))).set j1 (some x)) H1 (f i))
    (he : ∀ (i : Nat) (x : V) H1, Ex H H1 → xs[i]? = some x → f i = true → Ev te (((wipe σ vs).set j0 (some (.int (i : Nat)))).set j1 (some x)) H1 (v i)) :
    EvL (tLc (iEnum K tA) (gTup K 2 (gCons (gName j0) (gCons (gName j1) gNil))) tt te vs) σ H (given xs.length f v) := fun H0 e Q q => h H0 e _ fun H1 e1 => ⟨a, xs, rfl, sq_of ((e.trans e1) a _ hx), fun Dl hD =>
  lc_it (walk_enum (xs := xs)) (Cw H1 f v Dl) ⟨hD, Ex.new hD, upd_same⟩ (fun i H' _ p => sq_of (((e.trans e1).trans p.2.1) a _ hx)) (fun i z H2 H3 hi p y => by
    obtain ⟨T, x, y, rfl, nT, rfl, h1, h2⟩ := y
    cases (Option.some.inj h1)
    have p3 : Cw H1 f v Dl i (upd H2 T (.tup [.int (i : Nat), y])) := cw_ex p (Ex.new nT)
    refine ⟨T, [.int (i : Nat), y], rfl, st_of upd_same, rfl, _, _, rfl, _, _, rfl, rfl, hw _ _, ?_⟩
    exact cw_turn p3 (by omega) (ht i y H1 (e.trans e1) h2) (fun hf => he i y H1 (e.trans e1) h2 hf)) (fun H' p => q Dl H' (fresh_back e1 p.1) (e1.trans p.2.1) p.2.2)⟩
/-- a comprehension over reversed(xs) -/
theorem el_lcRev {a : Addr} {xs : List V} {tA : TA} {tt : TT} {j : Nat} {vs : List Nat} (f : Nat → Bool) (v : Nat → V) (h : EvA tA σ H [.ref a]) (hx : Lst H a xs) (hz : xs.length ≤ 40000) (hw : ∀ x, wipe ((wipe σ vs).set j (some x)) vs = wipe σ vs)
    (ht : ∀ (i : Nat) (x : V) H1, Ex H H1 → i < xs.length → xs[xs.length - 1 - i]? = some x → EvT tt ((wipe σ vs).set j (some x)) H1 (f i))
    (he : ∀ (i : Nat) (x : V) H1, Ex H H1 → i < xs.length → xs[xs.length - 1 - i]? = some x → f i = true → Ev te ((wipe σ vs).set j (some x)) H1 (v i)) :
    EvL (tLc (iRev K tA) (gName j) tt te vs) σ H (given xs.length f v) := fun H0 e Q q => h H0 e _ fun H1 e1 => ⟨a, xs, rfl, sq_of ((e.trans e1) a _ hx), fun Dl hD =>
  lc_it (walk_rev (xs := xs)) (Cw H1 f v Dl) ⟨hD, Ex.new hD, upd_same⟩ (fun i H' _ p => sq_of (((e.trans e1).trans p.2.1) a _ hx)) (fun i z H2 H3 hi p y => by
    obtain ⟨rfl, h2⟩ := y
    exact ⟨hw _, cw_turn p (by omega) (ht i z H1 (e.trans e1) hi h2) (fun hf => he i z H1 (e.trans e1) hi h2 hf)⟩) (fun H' p => q Dl H' (fresh_back e1 p.1) (e1.trans p.2.1) p.2.2)⟩
theorem given_ints (n : Nat) (f : Nat → Bool) (g : Nat → Int) : given n f (fun i => .int (g i)) = Ints (((List.range n).filter f).map g) := by
  simp [given, Ints]
theorem given_all (n : Nat) (v : Nat → V) : given n (fun _ => true) v = (List.range n).map v := by
  unfold given
  rw [List.filter_eq_self.mpr (fun _ _ => rfl)]
/-- t[i] of a tuple, xs[i] of any list -/
theorem ixT_ {p : Addr} {xs : List V} {i : Int} {v : V} (h : H p = some (.tup xs)) (ha : Ev ta σ H (.ref p)) (hi : Ev tb σ H (.int i)) (hv : atI xs i = some v) : Ev (tOp (rIxT K) ta tb) σ H v := ev_op ha hi (rv_ixT (st_of h) hv)
theorem ixV_ {p : Addr} {xs : List V} {i : Int} {v : V} (h : Lst H p xs) (ha : Ev ta σ H (.ref p)) (hi : Ev tb σ H (.int i)) (hv : atI xs i = some v) : Ev (tOp (rIxL K) ta tb) σ H v := ev_op ha hi (rv_ixL (sq_of h) hv)
theorem isN_ {x : V} (ha : Ev ta σ H x) : Ev (tOp (fun x y H Q => y = .non ∧ Q (.bl (decide (x = .non))) H) ta (tC .non)) σ H (.bl (decide (x = .non))) := fun H1 e Q q => ha H1 e _ fun H2 e2 => ⟨rfl, q H2 e2⟩
theorem notN_ {x : V} (ha : Ev ta σ H x) : Ev (tOp (fun x y H Q => y = .non ∧ Q (.bl (!decide (x = .non))) H) ta (tC .non)) σ H (.bl (!decide (x = .non))) := fun H1 e Q q => ha H1 e _ fun H2 e2 => ⟨rfl, q H2 e2⟩
/-! ### lists of lists of ints as data -/
def dLL (ls : List (List Int)) : PyData := .list (ls.map dI)
theorem lay_LL : ∀ ls : List (List Int), PyData.canLayAll0 (ls.map dI) = true
  | [] => rfl
  | x :: xs => by simp [PyData.canLayAll0, PyData.canLay0, dI, lay_Is, lay_LL xs]
theorem depth_LL : ∀ ls : List (List Int), PyData.depthAll (ls.map dI) ≤ 1
  | [] => Nat.zero_le _
  | x :: xs => by
    have h := depth_LL xs
    simp [PyData.depthAll, PyData.depth, dI, depth_Is]
    omega
theorem sh_LL (ls : List (List Int)) : SeqAt.shaped (dLL ls) = true := by
  have h := depth_LL ls
  simp [SeqAt.shaped, dLL, PyData.canLay0, PyData.depth, lay_LL]
  omega
theorem eqvs_LL : ∀ ns ms : List (List Int), PyData.eqvAll (ns.map dI) (ms.map dI) = decide (ns = ms)
  | [], [] => by simp [PyData.eqvAll]
  | [], _ :: _ => by simp [PyData.eqvAll]
  | _ :: _, [] => by simp [PyData.eqvAll]
  | x :: xs, y :: ys => by
    rw [Bool.eq_iff_iff]
    simp [PyData.eqvAll, eqv_I, eqvs_LL xs ys]
theorem eqv_LL (ns ms : List (List Int)) : PyData.eqv (dLL ns) (dLL ms) = decide (ns = ms) := by
  simp [dLL, PyData.eqv, eqvs_LL]
/-- lists of ints at these addresses -/
inductive ILs (H : Hp) : List V → List (List Int) → Prop where
  | nil : ILs H [] []
  | cons {a : Addr} {ns : List Int} {vs : List V} {ls : List (List Int)} : IL H a ns → ILs H vs ls → ILs H (.ref a :: vs) (ns :: ls)
theorem ILs.dp {vs : List V} {ls : List (List Int)} (h : ILs H vs ls) : DpAll K H vs (ls.map dI) := by
  induction h with
  | nil => exact .nil
  | cons h _ ih => exact .cons (dp_I h) ih
theorem ILs.ex {vs : List V} {ls : List (List Int)} (h : ILs H vs ls) (e : Ex H H') : ILs H' vs ls := by
  induction h with
  | nil => exact .nil
  | cons h _ ih => exact .cons (e _ _ h) ih
theorem dp_LL {p : Addr} {vs : List V} {ls : List (List Int)} (h : Lst H p vs) (hl : ILs H vs ls) : Dp K H (.ref p) (dLL ls) := .lst (sq_of h) hl.dp
theorem neLL_ {a : Addr} {vs ws : List V} {ns ms : List (List Int)} (ha : Ev ta σ H (.ref a)) (h1 : Lst H a vs) (l1 : ILs H vs ns) (hb : EvL tb σ H ws) (l2 : ILs H ws ms) : Ev (tOp (rNeD K) ta tb) σ H (.bl (!decide (ns = ms))) := fun H1 e Q q =>
  ha H1 e _ fun H2 e2 => hb H2 (e.trans e2) _ fun b H3 _ e3 h2 => ⟨dLL ns, dLL ms, dp_LL (((e.trans e2).trans e3) a _ h1) (l1.ex ((e.trans e2).trans e3)), dp_LL h2 (l2.ex ((e.trans e2).trans e3)), sh_LL _, sh_LL _, by
    rw [eqv_LL]
    exact q H3 (e2.trans e3)⟩
theorem eqLL_ {a : Addr} {vs ws : List V} {ns ms : List (List Int)} (ha : Ev ta σ H (.ref a)) (h1 : Lst H a vs) (l1 : ILs H vs ns) (hb : EvL tb σ H ws) (l2 : ILs H ws ms) : Ev (tOp (rEqD K) ta tb) σ H (.bl (decide (ns = ms))) := fun H1 e Q q =>
  ha H1 e _ fun H2 e2 => hb H2 (e.trans e2) _ fun b H3 _ e3 h2 => ⟨dLL ns, dLL ms, dp_LL (((e.trans e2).trans e3) a _ h1) (l1.ex ((e.trans e2).trans e3)), dp_LL h2 (l2.ex ((e.trans e2).trans e3)), sh_LL _, sh_LL _, by
    rw [eqv_LL]
    exact q H3 (e2.trans e3)⟩
theorem Ex.at {a : Addr} {o : HO} (e : Ex H H') (h : H a = some o) : H' a = some o := e a o h
theorem ev_abs {i : Int} (ha : Ev ta σ H (.int i)) : Ev (tCB (fun xs H Q => ∃ i, xs = [.int i] ∧ Q (.int (if i < 0 then -i else i)) H) (tCons ta tNil)) σ H (.int (ab i)) := fun H1 e Q q =>
  ha H1 e _ fun H2 e2 => ⟨i, rfl, q H2 e2⟩
theorem el_sorted {a : Addr} {ns : List Int} (ha : Ev ta σ H (.ref a)) (h : IL H a ns) : EvL (tCB (rSortedI K) (tCons ta tNil)) σ H (Ints (sortI ns)) := fun H1 e Q q =>
  ha H1 e _ fun H2 e2 => ⟨a, ns, rfl, sq_of ((e.trans e2) a _ h), fun ns' p hp hu hn => by
    rw [sortI_eq hp hu]
    exact q p _ (fresh_back e2 hn) (e2.trans (Ex.new hn)) upd_same⟩
theorem el_sortedN {ns : List Int} (ha : EvL ta σ H (Ints ns)) : EvL (tCB (rSortedI K) (tCons ta tNil)) σ H (Ints (sortI ns)) := fun H1 e Q q =>
  ha H1 e _ fun a H2 _ e2 h2 => ⟨a, ns, rfl, sq_of h2, fun ns' p hp hu hn => by
    rw [sortI_eq hp hu]
    exact q p _ (fresh_back e2 hn) (e2.trans (Ex.new hn)) upd_same⟩
end
end Rg

set_option Elab.async false
set_option linter.all false
set_option maxRecDepth 100000
set_option maxHeartbeats 1000000
/-! Rg, part Set: set(xs) of a list of ints, its length, its sorted list. -/
namespace L2
open PySem PySem.Spec PyProof.Rows
/-- the empty set that a call of set begins with -/
abbrev newS (w : World) : Obj := { cls := .type "set", dict := none, data := .set #[] 0 (.fresh 0 0 (!w.params.followText "set-order")) }
section
variable {P : Program} {w : World} {A : Around} {E : Value → Shared → Prop} {s : Shared}
set_option maxHeartbeats 3200000 in
theorem set_of_list {l : Addr} {items : Array Value} (ns : List Int) {Q : Value → Shared → Prop} (free : A.handled = none) (isL : s.heap.IsList l items) (allI : IntsAre items.toList ns) (room : ns.length + 1 < scanBound)
    (then_ : ∀ (g : Heap) (tk c : Nat), SetR w g s.heap.objs.size (fun j => decide (j ∈ ns)) c → (∀ b o, s.heap.get? b = some o → g.get? b = some o) → Q (.ref s.heap.objs.size) { s with heap := g, toks := tk }) :
    wpAny (model P w) A (call (.type "set") [.ref l]) Q E s := by
  have size : items.size = ns.length := by have q := IntsAre.length allI; rwa [Array.length_toList] at q
  have ⟨c0, tl0, a1⟩ := F.called_set.mro
  have a2 := F.called_set.made
  have a3 := F.called_set.sub
  have a4 := F.called_set.notType
  have a5 := F.called_set.canCreate
  have a6 := F.typeCall_set_1 (.ref l)
  have a7 := F.called_set.init.lookup
  have a8 := F.called_set.init.bind (.ref s.heap.objs.size)
  refine wpAny_call (codeAny_of_tree ?_)
  show wpAny _ _ (callAny (.type "set") _) _ _ _
  refine wpAny_pure ⟨Code.quiet_builtin _ (by decide +kernel), codeAny_builtin F.entry_type_call ?_⟩
  rw [Around.under_plain (weight_type_call_type "set" [.ref l] []) rfl]
  repeat (any_goals (first | assumption | wp_step))
  refine codeAny_mono (code_set_led1 (.ref l) (E := E) (Q₁ := fun x t => x = .ref s.heap.objs.size ∧ t = { s with heap := s.heap.push (newS w) }) ⟨rfl, rfl⟩) fun r t hr => ?_
  cases r with
  | error e => exact hr
  | ok fl =>
    cases fl with
    | ret x =>
      obtain ⟨rfl, rfl⟩ := hr
      have atS : (s.heap.push (newS w)).get? s.heap.objs.size = some (newS w) := Heap.get?_push_size _ rfl
      have ty : Shared.TypeIs { s with heap := s.heap.push (newS w) } (.ref s.heap.objs.size) "set" := ⟨_, atS, rfl⟩
      repeat (any_goals (first | assumption | wp_step))
      refine codeAny_mono (codeAny_call_builtin (R := wants (fun r u => r = .none ∧ ∃ g tk c, u = { s with heap := g, toks := tk } ∧ SetR w g s.heap.objs.size (fun j => decide (j ∈ ns)) c ∧ (∀ b o, s.heap.get? b = some o → g.get? b = some o)) E) F.called_set.init.plain F.entry_set_init (check_set_init_1 ty ?_)) fun r u hu => ?_
      · obtain ⟨⟨lc, ld, la, ls⟩, lo, l1, ln, l2⟩ := isL
        simp only at l1 l2
        subst l1 l2
        have lt : l < s.heap.objs.size := Heap.lt_size lo
        have lo1 : (s.heap.push (newS w)).get? l = some { cls := .type "list", dict := ld, data := .seq items ln, slots := ls } := Heap.get?_push_of_some _ lo
        have b1 := F.sub_list_set
        have b2 := F.sub_list_frozenset
        have b3 : (Value.type "list" == Value.type "dict") = false := by decide
        have isL1 : (s.heap.push (newS w)).IsList l items := ⟨_, lo1, rfl, ln, rfl⟩
        unfold Builtin.«set.__init__» noKeywords Builtin.Frozenset.updateFrom
        generalize e : pyIter = it
        wp_walk
        subst e
        refine wpAny_pyIter_list isL1 (wpAny_bind (wpAny_runValue ?_))
        have free3 : A.in1.in1.in1.handled = none := by simp [free]
        have two : (s.heap.push (newS w)).objs.size = s.heap.objs.size + 1 := Heap.size_push ..
        have ne1 : l ≠ (s.heap.push (newS w)).objs.size := by rw [two]; exact Nat.ne_of_lt (Nat.lt_succ_of_lt lt)
        have ne2 : s.heap.objs.size ∉ [(s.heap.push (newS w)).objs.size, l] := by
          rw [two]
          simp only [List.mem_cons, List.not_mem_nil, or_false, not_or]
          exact ⟨Nat.ne_of_lt (Nat.lt_succ_self _), Nat.ne_of_gt lt⟩
        refine set_update_ints (Walks.toS (Walks.list free3 _ l ne1 items)) s.heap.objs.size ne2 ns size room (fun i v hv => ?vals) (items.size - 0) 0 _ (by omega) (Nat.zero_le _) ⟨⟨_, Heap.get?_push_size _ rfl, rfl, rfl⟩, isL1.push _⟩ ?start ?stop
        case vals =>
          have hi : i < ns.length := by rw [← size]; exact (Array.getElem?_eq_some_iff.mp hv).1
          obtain ⟨t, q⟩ := PyProof.Rows.IntsAre.int_at allI i v (by rw [Array.getElem?_toList]; exact hv)
          refine ⟨ns[i], t, List.getElem?_eq_getElem hi, ?_⟩
          rw [q, List.getD_eq_getElem?_getD, List.getElem?_eq_getElem hi] <;> rfl
        case start => exact ⟨0, Nat.le_refl 0, setR_new_at (Heap.get?_push_of_some _ atS)⟩
        case stop =>
          intro u c m _ R
          obtain ⟨g, g2, d2, t2, o2⟩ := u
          obtain rfl : g2 = s.gens := m.gens
          obtain rfl : d2 = s.drawn := m.drawn
          obtain rfl : o2 = s.os := m.os
          show wpAny _ _ _ _ _ _
          refine wpAny_pure ?_
          show wpAny _ _ (ret Value.none) _ _ _
          refine wpAny_pure ⟨rfl, g, t2, c, rfl, R, fun b o q => ?_⟩
          have lb := Heap.lt_size q
          refine m.heap b o ?_ (Heap.get?_push_of_some _ (Heap.get?_push_of_some _ q))
          rw [two]
          simp only [List.mem_cons, List.not_mem_nil, or_false, not_or]
          exact ⟨Nat.ne_of_lt lb, Nat.ne_of_lt (Nat.lt_succ_of_lt lb)⟩
      · cases r with
        | error e => exact hu
        | ok fl2 =>
          cases fl2 with
          | ret x =>
            obtain ⟨rfl, g, tk, c, rfl, R, keep⟩ := hu
            repeat (any_goals (first | assumption | wp_step))
            exact then_ _ _ _ R keep
          | _ => exact hu.elim
    | _ => exact hr.elim
end
/-- set(xs), ints: its members, how many -/
def rSetI (K : PySem.W.Frag) (w : World) : List V → Hp → VK → Prop := fun xs H Q => ∃ (p : Addr) (ns : List Int), xs = [.ref p] ∧ SqL K H p (ns.map V.int) ∧ ns.length ≤ 4000 ∧
  ∀ (a : Addr) (c : Nat), H a = none → (∃ ks : List Int, ks.Nodup ∧ (∀ k, k ∈ ks ↔ k ∈ ns) ∧ ks.length = c) → Q (.ref a) (upd H a (SetO w a (fun j => decide (j ∈ ns)) c))
theorem cr_setI {X : Cx} (hc : X.calm = true) : CallR X (.type "set") (rSetI X.K X.w) := by
  intro pins s σ H xs us Q I r h
  obtain ⟨p, ns, rfl, hs, hl, q⟩ := h
  obtain ⟨its, rv, pl, hz⟩ := I.list hs
  rw [Vals.ref1 r]
  refine set_of_list ns (I.ok.hd hc) pl.isList (by simpa using rv.ints) (by unfold scanBound; omega) fun g tk c R keep => ?_
  refine ⟨.ref _, upd H s.heap.objs.size (SetO X.w s.heap.objs.size (fun j => decide (j ∈ ns)) c), I.laid (t' := tk) keep (Nat.le_refl _) (setO_new R), rfl, q _ c (I.hok.fresh (Nat.le_refl _)) ?_⟩
  obtain ⟨o, es, ep, t, ho, hx, hd, gd, nd, hm, hb, hf, hn, _⟩ := R
  exact ⟨es.toList.map keyOf, nd, fun k => by rw [← hm]; simp, by rw [List.length_map, Array.length_toList, hn]⟩
/-- len of a set of ints -/
theorem cr_lenSet {X : Cx} : CallR X (.builtin "len") (fun xs H Q => ∃ (a : Addr) (S : Int → Bool) (n : Nat), xs = [.ref a] ∧ H a = some (SetO X.w a S n) ∧ Q (.int n) H) := by
  intro pins s σ H xs us Q I r h
  obtain ⟨a, S, n, rfl, ha, q⟩ := h
  rw [Vals.ref1 r]
  obtain ⟨o, es, ep, t, ho, hx, hd, gd, nd, hm, hb, hf, hn, _⟩ := setO_get I ha
  refine call_len_set ho hx hd hf (by unfold scanBound at hb; omega) ⟨.int n, H, I.tok _, ⟨_, by rw [hn]⟩, q⟩
end L2

set_option Elab.async false
set_option linter.all false
set_option maxRecDepth 100000
set_option maxHeartbeats 1000000
/-! Rg, part T: places to try, the trials as a forest, and how a forest stands in the heap. -/
namespace Rg
open PySem PySem.Spec PyProof.Rows L2 Evl
/-! ### sorted, none twice -/
def insD (x : Int) : List Int → List Int
  | [] => [x]
  | y :: ys => if x < y then x :: y :: ys else if x = y then y :: ys else y :: insD x ys
def sortD : List Int → List Int
  | [] => []
  | x :: xs => insD x (sortD xs)
theorem insD_mem {x z : Int} : ∀ {l : List Int}, z ∈ insD x l ↔ z = x ∨ z ∈ l
  | [] => by simp [insD]
  | y :: ys => by
    unfold insD
    split
    · simp
    · split
      · rename_i h
        subst h
        simp
      · rw [List.mem_cons, insD_mem, List.mem_cons]
        exact ⟨fun h => by rcases h with h | h | h <;> simp [h], fun h => by rcases h with h | h | h <;> simp [h]⟩
theorem insD_up {x : Int} : ∀ {l : List Int}, l.Pairwise (· < ·) → (insD x l).Pairwise (· < ·)
  | [], _ => List.pairwise_singleton _ _
  | y :: ys, h => by
    obtain ⟨h1, h2⟩ := List.pairwise_cons.mp h
    unfold insD
    split
    · rename_i c
      refine List.pairwise_cons.mpr ⟨fun z hz => ?_, h⟩
      rcases List.mem_cons.mp hz with rfl | hz
      · exact c
      · exact Int.lt_trans c (h1 z hz)
    · split
      · exact h
      · refine List.pairwise_cons.mpr ⟨fun z hz => ?_, insD_up h2⟩
        rcases insD_mem.mp hz with rfl | hz
        · omega
        · exact h1 z hz
theorem sortD_mem {z : Int} : ∀ {l : List Int}, z ∈ sortD l ↔ z ∈ l
  | [] => Iff.rfl
  | x :: xs => by rw [sortD, insD_mem, sortD_mem, List.mem_cons]
theorem sortD_up : ∀ l : List Int, (sortD l).Pairwise (· < ·)
  | [] => .nil
  | x :: xs => insD_up (sortD_up xs)
theorem perm_mem {a b : List Int} (ha : a.Nodup) (hb : b.Nodup) (h : ∀ z, z ∈ a ↔ z ∈ b) : a.Perm b := (List.perm_ext_iff_of_nodup ha hb).mpr h
theorem sortD_eq {a ns : List Int} (ha : a.Pairwise (· < ·)) (h : ∀ z, z ∈ a ↔ z ∈ ns) : a = sortD ns :=
  up_unique (perm_mem (up_nodup ha) (up_nodup (sortD_up ns)) fun z => by rw [h, sortD_mem]) (ha.imp fun h => by omega) ((sortD_up ns).imp fun h => by omega)
theorem sortD_id {a : List Int} (ha : a.Pairwise (· < ·)) : sortD a = a := (sortD_eq ha fun _ => Iff.rfl).symm
theorem insD_len (x : Int) : ∀ l : List Int, (insD x l).length ≤ l.length + 1
  | [] => Nat.le_refl _
  | y :: ys => by
    have := insD_len x ys
    unfold insD
    split
    · simp
    · split
      · simp
      · simp
        omega
theorem sortD_len : ∀ l : List Int, (sortD l).length ≤ l.length
  | [] => Nat.le_refl _
  | x :: xs => by
    have h1 := insD_len x (sortD xs)
    have h2 := sortD_len xs
    rw [sortD, List.length_cons]
    omega
/-! ### places to try -/
def topI (l : List Int) : Int := gi l (l.length - 1)
def leftP (gs here : List Int) : List Int := (wo gs (btw here)).1
def lackP (gs here : List Int) : Option Int := (wo gs (btw here)).2
def nextP (gs here : List Int) : List Int := if leftP gs here = [] then [] else (sortD [topI (leftP gs here), maxD 0 here - topI (leftP gs here)]).filter fun x => !decide (x ∈ here)
theorem nextP_nin {gs here : List Int} {x : Int} (h : x ∈ nextP gs here) : x ∉ here := by
  unfold nextP at h
  split at h
  · cases h
  · simpa using (List.mem_filter.mp h).2
theorem nextP_len (gs here : List Int) : (nextP gs here).length ≤ 2 := by
  unfold nextP
  split
  · exact Nat.zero_le _
  · exact Nat.le_trans (List.length_filter_le _ _) (sortD_len _)
theorem wo_full : ∀ (ds left : List Int), (wo left ds).2 = none → (wo left ds).1.length + ds.length = left.length
  | [], left, _ => rfl
  | d :: ds, left, h => by
    by_cases c : d ∈ left
    · rw [wo_in c] at h ⊢
      have := wo_full ds (left.erase d) h
      have h2 := List.length_erase_of_mem c
      have h3 := List.length_pos_of_mem c
      rw [List.length_cons]
      omega
    · rw [wo_out c] at h
      cases h
theorem leftP_len {gs here : List Int} (h : lackP gs here = none) : 2 * (leftP gs here).length + here.length * here.length = 2 * gs.length + here.length := by
  have h1 := wo_full (btw here) gs h
  have h2 := btw_len2 here
  unfold leftP
  omega
/-- where something may be tried, there are at most six places -/
theorem next_few {gs here : List Int} (hl : gs.length ≤ 21) (h7 : here.length ≤ 7) (h : lackP gs here = none) (hn : nextP gs here ≠ []) : here.length ≤ 6 := by
  have h1 := leftP_len h
  by_cases c : here.length = 7
  · rw [c] at h1
    have h0 : leftP gs here = [] := List.eq_nil_of_length_eq_zero (by omega)
    unfold nextP at hn
    rw [if_pos h0] at hn
    exact absurd rfl hn
  · omega
/-! ### forests: trials side by side -/
inductive Fo where
  | nil : Fo
  | cons (place : Int) (lack : Option Int) (sub rest : Fo) : Fo
def fo (f : Int → Option Int × Fo) : List Int → Fo
  | [] => .nil
  | x :: xs => .cons x (f x).1 (f x).2 (fo f xs)
def subs (gs : List Int) : Nat → List Int → Fo
  | 0, _ => .nil
  | n + 1, here => if (lackP gs here).isSome then .nil else fo (fun x => (lackP gs (here ++ [x]), subs gs n (here ++ [x]))) (nextP gs here)
def trF (gs : List Int) (n : Nat) (places : List Int) (x : Int) : Option Int × Fo := (lackP gs (places ++ [x]), subs gs n (places ++ [x]))
theorem subs_lack {gs here : List Int} {n : Nat} (h : lackP gs here ≠ none) : subs gs n here = .nil := by
  cases n with
  | zero => rfl
  | succ n =>
    rw [subs, if_pos]
    cases e : lackP gs here with
    | none => exact absurd e h
    | some d => rfl
theorem subs_on {gs here : List Int} {n : Nat} (h : lackP gs here = none) : subs gs (n + 1) here = fo (trF gs n here) (nextP gs here) := by
  rw [subs, h]
  rfl
theorem subs_end {gs here : List Int} {n : Nat} (h : nextP gs here = []) : subs gs n here = .nil := by
  cases n with
  | zero => rfl
  | succ n =>
    rw [subs, h]
    cases lackP gs here <;> rfl
/-- how deep -/
def Fo.dep : Fo → Nat
  | .nil => 0
  | .cons _ _ s r => max (s.dep + 1) r.dep
theorem fo_dep {f : Int → Option Int × Fo} {n : Nat} : ∀ {xs : List Int}, (∀ x ∈ xs, (f x).2.dep + 1 ≤ n) → (fo f xs).dep ≤ n
  | [], _ => Nat.zero_le _
  | x :: xs, h => by
    have h1 := h x List.mem_cons_self
    have h2 := fo_dep (xs := xs) fun y hy => h y (List.mem_cons_of_mem _ hy)
    show max ((f x).2.dep + 1) (fo f xs).dep ≤ n
    omega
theorem subs_dep (gs : List Int) : ∀ (n : Nat) (here : List Int), (subs gs n here).dep ≤ n
  | 0, _ => Nat.le_refl _
  | n + 1, here => by
    rw [subs]
    split
    · exact Nat.zero_le _
    · exact fo_dep fun x _ => Nat.succ_le_succ (subs_dep gs n (here ++ [x]))
def ends (gs : List Int) : List Int := [0, topI gs]
def trialsF (gs : List Int) : Fo := if gs = [] then .nil else fo (trF gs 4 (ends gs)) (nextP gs (ends gs))
theorem trialsF_dep (gs : List Int) : (trialsF gs).dep ≤ 5 := by
  unfold trialsF
  split
  · exact Nat.zero_le _
  · exact fo_dep fun x _ => Nat.succ_le_succ (subs_dep gs 4 _)
theorem btw_two (t : Int) (h : 0 ≤ t) : btw [0, t] = [t] := by
  have e : allD [0, t] 2 = [t] := by
    have : ab (t - 0) = t := by
      unfold ab
      split <;> omega
    simp [allD, rowD, gi, List.range_succ]
    simpa using this
  rw [btw, show ([0, t] : List Int).length = 2 from rfl, e, sortI, List.mergeSort_singleton]
theorem topI_mem {gs : List Int} (h : gs ≠ []) : topI gs ∈ gs := by
  have := List.length_pos_iff.mpr h
  exact gi_mem (by omega)
theorem ends_lack {gs : List Int} (h : gs ≠ []) (h1 : ∀ d ∈ gs, 1 ≤ d) : lackP gs (ends gs) = none := by
  have hm := topI_mem h
  have := h1 _ hm
  rw [lackP, ends, btw_two _ (by omega), wo_in hm]
  rfl
theorem ends_nodup {gs : List Int} (h : gs ≠ []) (h1 : ∀ d ∈ gs, 1 ≤ d) : (ends gs).Nodup := by
  have := h1 _ (topI_mem h)
  simp [ends]
  omega
theorem gapsOk.pos {gs : List Int} (h : gapsOk gs) : ∀ d ∈ gs, 1 ≤ d := fun d hd => by
  obtain ⟨k, hk, rfl⟩ := List.getElem_of_mem hd
  have := (h k hk).1
  simpa [gi, List.getD_eq_getElem?_getD, List.getElem?_eq_getElem hk] using this
/-! ### a forest in the heap: all its objects new beside B -/
inductive FoAt (B H : Hp) : List V → Fo → Prop where
  | nil : FoAt B H [] .nil
  | cons {p l : Addr} {x : Int} {o : Option Int} {vs ws : List V} {s r : Fo} : B p = none → B l = none → H p = some (.tup [.int x, optV o, .ref l]) → H l = some (.lst vs) → FoAt B H vs s → FoAt B H ws r → FoAt B H (.ref p :: ws) (.cons x o s r)
theorem FoAt.go {B H B' H' : Hp} {vs : List V} {t : Fo} (h : FoAt B H vs t) (b : ∀ a, B a = none → B' a = none) (e : ∀ a o, B a = none → H a = some o → H' a = some o) : FoAt B' H' vs t := by
  induction h with
  | nil => exact .nil
  | cons h1 h2 h3 h4 _ _ ih1 ih2 => exact .cons (b _ h1) (b _ h2) (e _ _ h1 h3) (e _ _ h2 h4) ih1 ih2
theorem FoAt.ex {B H H' : Hp} {vs : List V} {t : Fo} (h : FoAt B H vs t) (e : Ex H H') : FoAt B H' vs t := h.go (fun _ z => z) fun a o _ z => e a o z
theorem FoAt.base {B B' H : Hp} {vs : List V} {t : Fo} (h : FoAt B H vs t) (e : Ex B' B) : FoAt B' H vs t := h.go (fun _ z => fresh_back e z) fun _ _ _ z => z
theorem FoAt.snoc {B H : Hp} {vs : List V} {x : Int} {f : Int → Option Int × Fo} {xs : List Int} {v : V} (h : FoAt B H vs (fo f xs)) (h1 : FoAt B H [v] (.cons x (f x).1 (f x).2 .nil)) : FoAt B H (vs ++ [v]) (fo f (xs ++ [x])) := by
  induction xs generalizing vs with
  | nil =>
    cases h
    exact h1
  | cons y ys ih =>
    cases h with
    | cons a1 a2 a3 a4 a5 a6 => exact .cons a1 a2 a3 a4 a5 (ih a6)
theorem FoAt.len {B H : Hp} {vs : List V} {f : Int → Option Int × Fo} {xs : List Int} (h : FoAt B H vs (fo f xs)) : vs.length = xs.length := by
  induction xs generalizing vs with
  | nil =>
    cases h
    rfl
  | cons y ys ih =>
    cases h with
    | cons a1 a2 a3 a4 a5 a6 => exact congrArg Nat.succ (ih a6)
def Fo.at : Fo → Nat → Option (Int × Option Int × Fo)
  | .nil, _ => none
  | .cons x o s _, 0 => some (x, o, s)
  | .cons _ _ _ r, k + 1 => r.at k
def Fo.len : Fo → Nat
  | .nil => 0
  | .cons _ _ _ r => r.len + 1
theorem FoAt.many {B H : Hp} {vs : List V} {t : Fo} (h : FoAt B H vs t) : vs.length = t.len := by
  induction h with
  | nil => rfl
  | cons _ _ _ _ _ _ _ ih => exact congrArg Nat.succ ih
theorem FoAt.nth {B H : Hp} {vs : List V} {t : Fo} (h : FoAt B H vs t) : ∀ {k : Nat}, k < t.len → ∃ (p l : Addr) (x : Int) (o : Option Int) (us : List V) (s : Fo), t.at k = some (x, o, s) ∧ s.dep + 1 ≤ t.dep ∧ vs[k]? = some (.ref p) ∧ B p = none ∧ B l = none ∧ H p = some (.tup [.int x, optV o, .ref l]) ∧ H l = some (.lst us) ∧ FoAt B H us s := by
  induction h with
  | nil => exact fun h => absurd h (Nat.not_lt_zero _)
  | @cons p l x o us ws s r h1 h2 h3 h4 h5 _ _ ih =>
    intro k hk
    cases k with
    | zero => exact ⟨p, l, x, o, us, s, rfl, Nat.le_max_left _ _, rfl, h1, h2, h3, h4, h5⟩
    | succ k =>
      obtain ⟨p, l, x, o, us, s', a1, a2, a3⟩ := ih (Nat.lt_of_succ_lt_succ hk)
      exact ⟨p, l, x, o, us, s', a1, Nat.le_trans a2 (Nat.le_max_right _ _), a3⟩
/-- nowhere are there many side by side -/
def FoFew : Fo → Prop
  | .nil => True
  | .cons _ _ s r => s.len ≤ 100 ∧ FoFew s ∧ FoFew r
theorem FoFew.at {x : Int} {o : Option Int} {s : Fo} : ∀ {t : Fo} {k : Nat}, FoFew t → t.at k = some (x, o, s) → s.len ≤ 100 ∧ FoFew s
  | .nil, _, _, h => by cases h
  | .cons _ _ _ _, 0, hf, h => by
    cases h
    exact ⟨hf.1, hf.2.1⟩
  | .cons _ _ _ r, k + 1, hf, h => FoFew.at (t := r) hf.2.2 h
theorem fo_len (f : Int → Option Int × Fo) : ∀ xs : List Int, (fo f xs).len = xs.length
  | [] => rfl
  | x :: xs => congrArg Nat.succ (fo_len f xs)
theorem fo_few {f : Int → Option Int × Fo} : ∀ {xs : List Int}, (∀ x ∈ xs, (f x).2.len ≤ 100 ∧ FoFew (f x).2) → FoFew (fo f xs)
  | [], _ => trivial
  | x :: xs, h => ⟨(h x List.mem_cons_self).1, (h x List.mem_cons_self).2, fo_few fun y hy => h y (List.mem_cons_of_mem _ hy)⟩
theorem subs_few (gs : List Int) : ∀ (n : Nat) (here : List Int), (subs gs n here).len ≤ 100 ∧ FoFew (subs gs n here)
  | 0, _ => ⟨Nat.zero_le _, trivial⟩
  | n + 1, here => by
    rw [subs]
    split
    · exact ⟨Nat.zero_le _, trivial⟩
    · refine ⟨?_, fo_few fun x _ => subs_few gs n (here ++ [x])⟩
      rw [fo_len]
      have := nextP_len gs here
      omega
theorem trialsF_few (gs : List Int) : (trialsF gs).len ≤ 100 ∧ FoFew (trialsF gs) := by
  unfold trialsF
  split
  · exact ⟨Nat.zero_le _, trivial⟩
  · refine ⟨?_, fo_few fun x _ => subs_few gs 4 _⟩
    rw [fo_len]
    have := nextP_len gs (ends gs)
    omega
/-- what evaluates to a new list of trials -/
def EvF (te : TE) (σ : L2.St) (H : Hp) (t : Fo) : Prop := ∀ H1, Ex H H1 → ∀ Q : VK, (∀ p vs H2 B, H1 p = none → Ex H1 H2 → H2 p = some (.lst vs) → Ex H1 B → B p ≠ none → FoAt B H2 vs t → Q (.ref p) H2) → te σ H1 Q
section
variable {K : PySem.W.Frag} {σ : L2.St} {H H' : Hp} {ta tb te tl : TE} {tt : TT}
theorem el_lcFo {j : Nat} {vs : List Nat} {ps : List Int} (f : Int → Option Int × Fo) (h : EvL tl σ H (Ints ps)) (hz : ps.length ≤ 40000) (hw : ∀ x, wipe ((wipe σ vs).set j (some x)) vs = wipe σ vs)
    (ht : ∀ (x : V) H1, Ex H H1 → EvT tt ((wipe σ vs).set j (some x)) H1 true)
    (he : ∀ x ∈ ps, ∀ H1, Ex H H1 → ∀ Q : VK, (∀ v H2, Ex H1 H2 → FoAt H1 H2 [v] (.cons x (f x).1 (f x).2 .nil) → Q v H2) → te ((wipe σ vs).set j (some (.int x))) H1 Q) : EvF (tLc (iList K tl) (gName j) tt te vs) σ H (fo f ps) := fun H0 e Q q => h H0 e _ fun a H1 ha e1 hx => ⟨a, rfl, ⟨_, sq_of hx⟩, fun Dl hD =>
  lc_list (xs := Ints ps) (fun i H' => ∃ ws, Ex H1 H' ∧ H' Dl = some (.lst ws) ∧ FoAt (upd H1 Dl (.lst [])) H' ws (fo f (ps.take i))) ⟨[], Ex.new hD, upd_same, .nil⟩ (fun i H' _ ⟨_, p, _⟩ => sq_of (p a _ hx)) (fun i x H' hi ⟨ws, p1, p2, p3⟩ => by
    obtain ⟨d, hd, rfl⟩ := ints_at hi
    have hm : d ∈ ps := List.mem_of_getElem? hd
    have hlen : ws.length ≤ 40000 := by
      have := p3.len
      have h2 : (ps.take i).length ≤ ps.length := List.length_take_le' i ps
      omega
    refine ⟨hw _, ht _ H (Ex.refl H) H' ((e.trans e1).trans p1) _ fun H3 e3 => ?_⟩
    show te _ H3 _
    refine he d hm H3 (((e.trans e1).trans p1).trans e3) _ fun v H4 e4 h4 => ⟨ws, e4 Dl _ (e3 Dl _ p2), sz_lt (by omega), ws ++ [v], Ex.mut ((p1.trans e3).trans e4) hD, upd_same, ?_⟩
    have hne : ∀ b, upd H1 Dl (.lst []) b = none → b ≠ Dl := fun b hb c => by
      rw [c, upd_same] at hb
      cases hb
    have hup : ∀ b o, upd H1 Dl (.lst []) b = none → H4 b = some o → upd H4 Dl (.lst (ws ++ [v])) b = some o := fun b o hb h => by
      rw [upd_ne (hne b hb)]
      exact h
    rw [take_more hd]
    refine FoAt.snoc (p3.go (fun _ z => z) fun b o hb h => hup b o hb (e4 b o (e3 b o h))) (h4.go (fun b hb => ?_) fun b o hb h => ?_)
    · by_cases c : b = Dl
      · rw [c, e3 Dl _ p2] at hb
        cases hb
      · rw [upd_ne c]
        exact fresh_back (p1.trans e3) hb
    · by_cases c : b = Dl
      · rw [c, e3 Dl _ p2] at hb
        cases hb
      · rw [upd_ne c]
        exact h) (fun H' ⟨ws, p1, p2, p3⟩ => by
    rw [List.length_map, List.take_length] at p3
    exact q Dl ws H' _ (fresh_back e1 hD) (e1.trans p1) p2 (e1.trans (Ex.new hD)) (by rw [upd_same]; exact fun z => by cases z) p3)⟩
/-- sorted(set(xs)) -/
theorem set_many {ks ns : List Int} (nd : ks.Nodup) (h : ∀ k, k ∈ ks ↔ k ∈ ns) : ks.length = (sortD ns).length :=
  (perm_mem nd (up_nodup (sortD_up ns)) fun z => by rw [h, sortD_mem]).length_eq
theorem el_sortSet {w : World} {ns : List Int} (h : EvL ta σ H (Ints ns)) (hz : ns.length < 64) : EvL (tCB (rSortedSet w) (tCons (tCB (rSetI K w) (tCons ta tNil)) tNil)) σ H (Ints (sortD ns)) := fun H1 e Q q =>
  h H1 e _ fun p H2 hp e2 h2 => ⟨p, ns, rfl, sq_of h2, by omega, fun a c ha ⟨ks, nd, hm, hc⟩ => ⟨a, _, c, rfl, upd_same, by
    have := set_many nd hm
    have := sortD_len ns
    omega, fun ms r up mem _ hr => by
    obtain rfl : ms = sortD ns := sortD_eq up (fun z => by rw [mem, decide_eq_true_eq])
    exact q r _ (fresh_back (e2.trans (Ex.new ha)) hr) ((e2.trans (Ex.new ha)).trans (Ex.new hr)) upd_same⟩⟩
/-- len(set(xs)) -/
theorem ev_lenSet {w : World} {a : Addr} {ns : List Int} (h : Ev ta σ H (.ref a)) (hx : IL H a ns) (hz : ns.length ≤ 4000) : Ev (tCB (fun xs H Q => ∃ (a : Addr) (S : Int → Bool) (n : Nat), xs = [.ref a] ∧ H a = some (SetO w a S n) ∧ Q (.int n) H) (tCons (tCB (rSetI K w) (tCons ta tNil)) tNil)) σ H (.int ((sortD ns).length : Nat)) := fun H1 e Q q =>
  h H1 e _ fun H2 e2 => ⟨a, ns, rfl, sq_of ((e.trans e2) a _ hx), hz, fun b c hb ⟨ks, nd, hm, hc⟩ => ⟨b, _, c, rfl, upd_same, by
    rw [← hc, set_many nd hm]
    exact q _ (e2.trans (Ex.new hb))⟩⟩
theorem ev_max {a : Addr} {ns : List Int} (h : Ev ta σ H (.ref a)) (hx : IL H a ns) (hn : ns ≠ []) : Ev (tCB (rMax K) (tCons ta tNil)) σ H (.int (maxD 0 ns)) := fun H1 e Q q =>
  h H1 e _ fun H2 e2 => ⟨a, ns, rfl, sq_of ((e.trans e2) a _ hx), List.length_pos_iff.mpr hn, fun m h1 h2 => by
    rw [maxD_eq h1 h2 (d := 0)]
    exact q H2 e2⟩
/-- xs + [..] -/
theorem el_cat {a : Addr} {xs ys : List Int} (h : Ev ta σ H (.ref a)) (hx : IL H a xs) (hb : EvL tb σ H (Ints ys)) (hz : xs.length + ys.length ≤ 100000) : EvL (tOp rCat ta tb) σ H (Ints (xs ++ ys)) := fun H1 e Q q =>
  h H1 e _ fun H2 e2 => hb H2 (e.trans e2) _ fun b H3 hb e3 h3 => ⟨a, b, Ints xs, Ints ys, rfl, rfl, ((e.trans e2).trans e3) a _ hx, h3, sz_of (by rw [List.length_map, List.length_map]; exact hz), fun p hp =>
    q p _ (fresh_back (e2.trans e3) hp) ((e2.trans e3).trans (Ex.new hp)) (by rw [upd_same]; simp [Ints])⟩
theorem ev_lenT {p : Addr} {xs : List V} (h : Ev ta σ H (.ref p)) (hp : H p = some (.tup xs)) : Ev (tCB (rLenS K) (tCons ta tNil)) σ H (.int (xs.length : Int)) := fun H1 e Q q =>
  h H1 e _ fun H2 e2 => ⟨p, xs, rfl, .inr (st_of ((e.trans e2) p _ hp)), q H2 e2⟩
theorem et_tru {x : V} {k : Bool} (h : Ev ta σ H x) (hk : ∀ H1, Ex H H1 → TruV K x H1 k) : EvT (fun σ H Q => ta σ H fun x H' => ∃ k, TruV K x H' k ∧ Q k H') σ H k := fun H1 e Q q =>
  h H1 e _ fun H2 e2 => ⟨k, hk H2 (e.trans e2), q H2 e2⟩
theorem et_truL {a : Addr} {xs : List V} (h : Ev ta σ H (.ref a)) (hx : Lst H a xs) : EvT (fun σ H Q => ta σ H fun x H' => ∃ k, TruV K x H' k ∧ Q k H') σ H (!xs.isEmpty) := et_tru h fun H1 e => .inl ⟨xs, sq_of (e a _ hx), rfl⟩
theorem range_gi (xs : List Int) : (List.range xs.length).map (gi xs) = xs := by
  refine List.ext_getElem (by simp) fun k h1 h2 => ?_
  simp [gi, List.getD_eq_getElem?_getD, List.getElem?_eq_getElem h2]
theorem given_lst (xs : List Int) (f : Int → Bool) (g : Int → Int) : given (Ints xs).length (fun i => f (gi xs i)) (fun i => .int (g (gi xs i))) = Ints ((xs.filter f).map g) := by
  rw [List.length_map, given_ints]
  congr 1
  have h := congrArg (fun l => (l.filter f).map g) (range_gi xs)
  simp only [List.filter_map, List.map_map] at h
  exact h
/-- [g x for x in xs if f x], ints -/
theorem el_lcI {a : Addr} {j : Nat} {vs : List Nat} {xs : List Int} (f : Int → Bool) (g : Int → Int) (h : Ev tl σ H (.ref a)) (hx : IL H a xs) (hz : xs.length ≤ 40000) (hw : ∀ x, wipe ((wipe σ vs).set j (some x)) vs = wipe σ vs)
    (ht : ∀ x ∈ xs, ∀ H1, Ex H H1 → EvT tt ((wipe σ vs).set j (some (.int x))) H1 (f x)) (he : ∀ x ∈ xs, ∀ H1, Ex H H1 → f x = true → Ev te ((wipe σ vs).set j (some (.int x))) H1 (.int (g x))) : EvL (tLc (iList K tl) (gName j) tt te vs) σ H (Ints ((xs.filter f).map g)) := by
  rw [← given_lst]
  refine el_lcL _ _ h (sq_of hx) (by rw [List.length_map]; exact hz) hw (fun i x H1 e1 hi => ?_) (fun i x H1 e1 hi hf => ?_)
  · obtain ⟨d, hd, rfl⟩ := ints_at hi
    rw [gi_of hd]
    exact ht d (List.mem_of_getElem? hd) H1 e1
  · obtain ⟨d, hd, rfl⟩ := ints_at hi
    rw [gi_of hd] at hf ⊢
    exact he d (List.mem_of_getElem? hd) H1 e1 hf
theorem el_lcNI {j : Nat} {vs : List Nat} {xs : List Int} (f : Int → Bool) (g : Int → Int) (h : EvL tl σ H (Ints xs)) (hz : xs.length ≤ 40000) (hw : ∀ x, wipe ((wipe σ vs).set j (some x)) vs = wipe σ vs)
    (ht : ∀ x ∈ xs, ∀ H1, Ex H H1 → EvT tt ((wipe σ vs).set j (some (.int x))) H1 (f x)) (he : ∀ x ∈ xs, ∀ H1, Ex H H1 → f x = true → Ev te ((wipe σ vs).set j (some (.int x))) H1 (.int (g x))) : EvL (tLc (iList K tl) (gName j) tt te vs) σ H (Ints ((xs.filter f).map g)) := by
  rw [← given_lst]
  refine el_lcNL _ _ h (by rw [List.length_map]; exact hz) hw (fun i x H1 e1 hi => ?_) (fun i x H1 e1 hi hf => ?_)
  · obtain ⟨d, hd, rfl⟩ := ints_at hi
    rw [gi_of hd]
    exact ht d (List.mem_of_getElem? hd) H1 e1
  · obtain ⟨d, hd, rfl⟩ := ints_at hi
    rw [gi_of hd] at hf ⊢
    exact he d (List.mem_of_getElem? hd) H1 e1 hf
theorem t_call {ta' : TA} {sp : Sp} {dvs vs : List V} {E : XK} {Q : VK} (h : EvA ta' σ H vs) (hs : ∀ H1, Ex H H1 → sp (vs ++ dvs) H1 Q E) : tCall sp dvs E ta' σ H Q := h H (Ex.refl H) _ hs
theorem t_callN {ta' tr : TA} {sp sp2 : Sp} {dvs d2 : List V} {E E2 : XK} {Q : VK} (h : tCall sp2 d2 E2 ta' σ H (fun x H1 => tr σ H1 fun xs H2 => sp ((x :: xs) ++ dvs) H2 Q E)) : tCall sp dvs E (tCons (tCall sp2 d2 E2 ta') tr) σ H Q := h
theorem t_args {ta' : TA} {vs : List V} {Q : List V → Hp → Prop} (h : EvA ta' σ H vs) (hs : ∀ H1, Ex H H1 → Q vs H1) : ta' σ H Q := h H (Ex.refl H) _ hs
theorem et_yes : EvT tYes σ H true := fun H1 _ Q q => q H1 (Ex.refl H1)
/-- return (x, o, xs): a new tuple with a new list at its end -/
theorem s_retUL {D : Ends} {xs : List V} {t1 t2 : TE} {v1 v2 : V} (h1 : Ev t1 σ H v1) (h2 : Ev t2 σ H v2) (hl : EvL te σ H xs) (k : ∀ (p l : Addr) H1, H p = none → H l = none → Ex H H1 → H1 p = some (.tup [v1, v2, .ref l]) → H1 l = some (.lst xs) → D.rt (.ref p) H1) : tRet (tTup (tCons t1 (tCons t2 (tCons te tNil)))) D σ H :=
  h1 H (Ex.refl H) _ fun H1 e1 => h2 H1 e1 _ fun H2 e2 => hl H2 (e1.trans e2) _ fun l H3 hl e3 h3 => ⟨(by show (3 : Nat) ≤ sizeLine; decide), fun p hp =>
    k p l _ (fresh_back ((e1.trans e2).trans e3) hp) (fresh_back (e1.trans e2) hl) (((e1.trans e2).trans e3).trans (Ex.new hp)) upd_same ((Ex.new hp) l _ h3)⟩
theorem s_retUF {D : Ends} {t : Fo} {t1 t2 : TE} {v1 v2 : V} (h1 : Ev t1 σ H v1) (h2 : Ev t2 σ H v2) (hl : EvF te σ H t) (k : ∀ (p l : Addr) ws H1, H p = none → H l = none → Ex H H1 → H1 p = some (.tup [v1, v2, .ref l]) → H1 l = some (.lst ws) → FoAt H H1 ws t → D.rt (.ref p) H1) : tRet (tTup (tCons t1 (tCons t2 (tCons te tNil)))) D σ H :=
  h1 H (Ex.refl H) _ fun H1 e1 => h2 H1 e1 _ fun H2 e2 => hl H2 (e1.trans e2) _ fun l ws H3 B hl e3 h3 eB hB hF => ⟨(by show (3 : Nat) ≤ sizeLine; decide), fun p hp =>
    k p l ws _ (fresh_back ((e1.trans e2).trans e3) hp) (fresh_back (e1.trans e2) hl) (((e1.trans e2).trans e3).trans (Ex.new hp)) upd_same ((Ex.new hp) l _ h3) ((hF.ex (Ex.new hp)).base ((e1.trans e2).trans eB))⟩
theorem s_retF {D : Ends} {t : Fo} (h : EvF te σ H t) (k : ∀ p ws H1 B, H p = none → Ex H H1 → H1 p = some (.lst ws) → Ex H B → B p ≠ none → FoAt B H1 ws t → D.rt (.ref p) H1) : tRet te D σ H := h H (Ex.refl H) _ k
theorem s_asgF {D : Ends} {t : Fo} {i : Nat} (h : EvF te σ H t) (k : ∀ p ws H1 B, H p = none → Ex H H1 → H1 p = some (.lst ws) → Ex H B → B p ≠ none → FoAt B H1 ws t → D.nx (σ.set i (some (.ref p))) H1) : tAsg te (gName i) D σ H := h H (Ex.refl H) _ k
/-- xs.append(e), whatever e is -/
theorem s_appX {D : Ends} {l : Addr} {xs : List V} (hl : H l = some (.lst xs)) (ha : Ev ta σ H (.ref l)) (h : ∀ H1, Ex H H1 → ∀ Q : VK, (∀ v H2, Ex H1 H2 → Q v H2) → te σ H1 Q) (hz : xs.length < 100000) (k : ∀ v H1, Ex H H1 → D.nx σ (upd H1 l (.lst (xs ++ [v])))) :
    tDrop (tBM K "list" rAppend ta (tCons te tNil)) D σ H := ha H (Ex.refl H) _ fun H1 e1 =>
  ⟨Or.inl ⟨rfl, xs, sq_of (e1 l _ hl)⟩, h H1 e1 _ fun v H2 e2 => ⟨l, xs, v, rfl, rfl, e2 l _ (e1 l _ hl), sz_lt hz, k v H2 (e1.trans e2)⟩⟩
/-- (0, None, []) -/
theorem any_tup3 {t1 t2 : TE} {v1 v2 : V} {xs : List V} (h1 : Ev t1 σ H v1) (h2 : Ev t2 σ H v2) (h3 : EvL te σ H xs) : ∀ H1, Ex H H1 → ∀ Q : VK, (∀ v H2, Ex H1 H2 → Q v H2) → tTup (tCons t1 (tCons t2 (tCons te tNil))) σ H1 Q := fun H1 e Q q =>
  h1 H1 e _ fun H2 e2 => h2 H2 (e.trans e2) _ fun H3 e3 => h3 H3 ((e.trans e2).trans e3) _ fun l H4 hl e4 h4 => ⟨(by show (3 : Nat) ≤ sizeLine; decide), fun p hp => q _ _ (((e2.trans e3).trans e4).trans (Ex.new hp))⟩
/-- xs.clear() -/
theorem s_clear {D : Ends} {l : Addr} {xs : List V} (hl : H l = some (.lst xs)) (ha : Ev ta σ H (.ref l)) (k : ∀ H1, Ex H H1 → D.nx σ (upd H1 l (.lst []))) : tDrop (tBM0 K "list" rClear ta) D σ H := ha H (Ex.refl H) _ fun H1 e1 =>
  ⟨Or.inl ⟨rfl, xs, sq_of (e1 l _ hl)⟩, l, xs, rfl, rfl, e1 l _ hl, k H1 e1⟩
end
/-- a promise that nobody can ask for -/
theorem Df.none {P : Program} {w : World} {K : PySem.W.Frag} {mg : Str → Option Value} {base : Heap} {CX : CXT} {x : Str} {st : Stmt} {ps : List Str} {k : Nat} {sp : Sp} (D : Df K mg x st) (hb : BindOk x st ps) (no : ∀ vs H Q E, ¬ sp vs H Q E) : Has P w K mg base CX k x ps sp := by
  obtain ⟨f, fd, F, g⟩ := D.ex
  exact ⟨f, fd, ⟨fun vs H Q E h => absurd h (no vs H Q E), fun A outer s H args us vs Q E _ _ _ _ h => absurd h (no vs H Q E)⟩, g, F.kp, F.bindsN hb, F.look⟩
end Rg

set_option Elab.async false
set_option linter.all false
set_option maxRecDepth 100000
set_option maxHeartbeats 1000000
/-! Rg, part N: the roads that the trials find are all roads with these distances. -/
namespace Rg
/-! ### without, as what is left of a heap of numbers -/
theorem wo_perm : ∀ (ds left : List Int), (wo left ds).2 = none → left.Perm (ds ++ (wo left ds).1)
  | [], left, _ => .refl _
  | d :: ds, left, h => by
    by_cases c : d ∈ left
    · rw [wo_in c] at h ⊢
      exact (List.perm_cons_erase c).trans ((wo_perm ds _ h).cons d)
    · rw [wo_out c] at h
      cases h
theorem wo_sub : ∀ (ds left rest : List Int), left.Perm (ds ++ rest) → (wo left ds).2 = none
  | [], _, _, _ => rfl
  | d :: ds, left, rest, h => by
    have c : d ∈ left := h.mem_iff.mpr List.mem_cons_self
    rw [wo_in c]
    exact wo_sub ds _ rest ((List.cons_perm_iff_perm_erase.mp h.symm).2.symm)
theorem wo_sl : ∀ (ds left : List Int), (wo left ds).1.Sublist left
  | [], _ => .refl _
  | d :: ds, left => by
    by_cases c : d ∈ left
    · rw [wo_in c]
      exact (wo_sl ds _).trans List.erase_sublist
    · rw [wo_out c]
      exact .refl _
theorem btw_perm_prs (ns : List Int) : (btw ns).Perm (prs ns) := by
  rw [btw_prs]
  exact sortI_perm _
/-! ### distances of two lists side by side -/
def crs (xs ys : List Int) : List Int := xs.flatMap fun x => ys.map fun y => ab (x - y)
theorem prs_app : ∀ xs ys : List Int, (prs (xs ++ ys)).Perm (prs xs ++ (crs xs ys ++ prs ys))
  | [], ys => .refl _
  | x :: xs, ys => by
    have ih := prs_app xs ys
    show (((xs ++ ys).map fun y => ab (x - y)) ++ prs (xs ++ ys)).Perm (((xs.map fun y => ab (x - y)) ++ prs xs) ++ (((ys.map fun y => ab (x - y)) ++ crs xs ys) ++ prs ys))
    rw [List.map_append]
    refine (ih.append_left _).trans ?_
    simp only [List.append_assoc]
    refine List.Perm.append_left _ ?_
    exact List.perm_append_comm_assoc _ _ _
theorem crs_mem {xs ys : List Int} {x y : Int} (hx : x ∈ xs) (hy : y ∈ ys) : ab (x - y) ∈ crs xs ys := List.mem_flatMap.mpr ⟨x, hx, List.mem_map.mpr ⟨y, hy, rfl⟩⟩
theorem crs_of {xs ys : List Int} {d : Int} (h : d ∈ crs xs ys) : ∃ x ∈ xs, ∃ y ∈ ys, d = ab (x - y) := by
  obtain ⟨x, hx, h⟩ := List.mem_flatMap.mp h
  obtain ⟨y, hy, rfl⟩ := List.mem_map.mp h
  exact ⟨x, hx, y, hy, rfl⟩
theorem prs_of : ∀ {xs : List Int} {d : Int}, d ∈ prs xs → ∃ x ∈ xs, ∃ y ∈ xs, d = ab (x - y)
  | [], d, h => by cases h
  | x :: xs, d, h => by
    rcases List.mem_append.mp h with h | h
    · obtain ⟨y, hy, rfl⟩ := List.mem_map.mp h
      exact ⟨x, List.mem_cons_self, y, List.mem_cons_of_mem _ hy, rfl⟩
    · obtain ⟨a, ha, b, hb, e⟩ := prs_of h
      exact ⟨a, List.mem_cons_of_mem _ ha, b, List.mem_cons_of_mem _ hb, e⟩
/-! ### the roads that a forest tells -/
def rf (many : Nat) : Fo → List Int → List (List Int)
  | .nil, _ => []
  | .cons x o s r, places => (if o = none ∧ (places.length + 1) * places.length = 2 * many then [sortI (places ++ [x])] else []) ++ rf many s (places ++ [x]) ++ rf many r places
theorem rf_fo {many : Nat} {f : Int → Option Int × Fo} {places row : List Int} : ∀ {xs : List Int}, row ∈ rf many (fo f xs) places ↔ ∃ x ∈ xs, ((f x).1 = none ∧ (places.length + 1) * places.length = 2 * many ∧ row = sortI (places ++ [x])) ∨ row ∈ rf many (f x).2 (places ++ [x])
  | [] => by simp [fo, rf]
  | x :: xs => by
    rw [fo, rf, List.mem_append, List.mem_append, rf_fo (xs := xs)]
    constructor
    · rintro ((h | h) | ⟨y, hy, h⟩)
      · split at h
        · rename_i c
          exact ⟨x, List.mem_cons_self, .inl ⟨c.1, c.2, List.mem_singleton.mp h⟩⟩
        · cases h
      · exact ⟨x, List.mem_cons_self, .inr h⟩
      · exact ⟨y, List.mem_cons_of_mem _ hy, h⟩
    · rintro ⟨y, hy, h⟩
      rcases List.mem_cons.mp hy with rfl | hy
      · rcases h with ⟨h1, h2, h3⟩ | h
        · left; left
          rw [if_pos ⟨h1, h2⟩, h3]
          exact List.mem_singleton_self _
        · exact .inl (.inr h)
      · exact .inr ⟨y, hy, h⟩
/-- a road with just these distances -/
def Good (gs r : List Int) : Prop := r ≠ [] ∧ gi r 0 = 0 ∧ r.Pairwise (· < ·) ∧ btw r = gs
/-- some places between the ends, none twice -/
structure Spot (gs here : List Int) : Prop where
  nd : here.Nodup
  ge : ∀ x ∈ here, 0 ≤ x ∧ x ≤ topI gs
  z : 0 ∈ here
  t : topI gs ∈ here
theorem Spot.max {gs here : List Int} (S : Spot gs here) : maxD 0 here = topI gs := (maxD_eq S.t fun k hk => (S.ge k hk).2).symm
theorem top_le {gs : List Int} (h : gs.Pairwise (· ≤ ·)) : ∀ d ∈ gs, d ≤ topI gs := fun d hd => by
  obtain ⟨k, hk, rfl⟩ := List.getElem_of_mem hd
  have hl := List.length_pos_of_mem hd
  by_cases c : k = gs.length - 1
  · subst c
    simp [topI, gi, List.getD_eq_getElem?_getD, List.getElem?_eq_getElem hk]
  · have := List.pairwise_iff_getElem.mp h k (gs.length - 1) hk (by omega) (by omega)
    simpa [topI, gi, List.getD_eq_getElem?_getD, List.getElem?_eq_getElem (show gs.length - 1 < gs.length by omega)] using this
theorem left_sl (gs here : List Int) : (leftP gs here).Sublist gs := wo_sl _ _
theorem next_of {gs here : List Int} {x : Int} (hu : gs.Pairwise (· ≤ ·)) (hp : ∀ d ∈ gs, 1 ≤ d) (S : Spot gs here) : x ∈ nextP gs here ↔ leftP gs here ≠ [] ∧ (x = topI (leftP gs here) ∨ x = topI gs - topI (leftP gs here)) ∧ x ∉ here := by
  unfold nextP
  split
  · rename_i h
    simp [h]
  · rename_i h
    rw [List.mem_filter, sortD_mem, S.max]
    simp [h]
theorem Spot.next {gs here : List Int} {x : Int} (hu : gs.Pairwise (· ≤ ·)) (hp : ∀ d ∈ gs, 1 ≤ d) (S : Spot gs here) (h : x ∈ nextP gs here) : Spot gs (here ++ [x]) := by
  obtain ⟨h1, h2, h3⟩ := (next_of hu hp S).mp h
  have hm := (left_sl gs here).subset (topI_mem h1)
  have b1 := hp _ hm
  have b2 := top_le hu _ hm
  refine ⟨List.nodup_append.mpr ⟨S.nd, by simp, fun y hy z hz e => h3 (by rw [List.mem_singleton] at hz; rw [← hz, ← e]; exact hy)⟩, fun y hy => ?_, List.mem_append_left _ S.z, List.mem_append_left _ S.t⟩
  rcases List.mem_append.mp hy with hy | hy
  · exact S.ge y hy
  · rw [List.mem_singleton.mp hy]
    omega
theorem sort_up {ns : List Int} (h : ns.Nodup) : (sortI ns).Pairwise (· < ·) := by
  have h1 := sortI_up ns
  have h2 : (sortI ns).Nodup := (sortI_perm ns).nodup_iff.mpr h
  exact (h1.and h2).imp fun ⟨a, b⟩ => by omega
theorem up_first {r : List Int} (h : r.Pairwise (· < ·)) (h0 : 0 ∈ r) (hp : ∀ x ∈ r, 0 ≤ x) : gi r 0 = 0 := by
  cases r with
  | nil => cases h0
  | cons y ys =>
    show y = 0
    have := hp y List.mem_cons_self
    rcases List.mem_cons.mp h0 with e | e
    · exact e.symm
    · have := (List.pairwise_cons.mp h).1 0 e
      omega
theorem Spot.good {gs here : List Int} (hu : gs.Pairwise (· ≤ ·)) (S : Spot gs here) (h : lackP gs here = none) (hm : here.length * (here.length - 1) = 2 * gs.length) : Good gs (sortI here) := by
  have hz : here ≠ [] := List.ne_nil_of_mem S.z
  have hpos := List.length_pos_iff.mpr hz
  have hw := wo_full _ _ h
  have hl := btw_len2 here
  have e0 : here.length * here.length = here.length * (here.length - 1) + here.length := by
    obtain ⟨k, hk⟩ : ∃ k, here.length = k + 1 := ⟨here.length - 1, by omega⟩
    rw [hk, Nat.add_sub_cancel, Nat.mul_succ]
  have hl0 : (leftP gs here).length = 0 := by
    unfold leftP
    omega
  have hl1 : leftP gs here = [] := List.eq_nil_of_length_eq_zero hl0
  have hperm := wo_perm _ _ h
  have hl1' : (wo gs (btw here)).1 = [] := hl1
  rw [hl1', List.append_nil] at hperm
  refine ⟨fun z => hz (List.eq_nil_of_length_eq_zero (by rw [← sortI_len, z]; rfl)), up_first (sort_up S.nd) ((sortI_perm here).mem_iff.mpr S.z) (fun x hx => (S.ge x ((sortI_perm here).mem_iff.mp hx)).1), sort_up S.nd, ?_⟩
  rw [btw_perm (sortI_perm here)]
  exact (up_unique hperm hu (btw_up here)).symm
/-- what is told fits -/
theorem rf_good {gs : List Int} (hu : gs.Pairwise (· ≤ ·)) (hp : ∀ d ∈ gs, 1 ≤ d) : ∀ (n : Nat) {here row : List Int}, Spot gs here → row ∈ rf gs.length (subs gs n here) here → Good gs row
  | 0, _, _, _, h => by cases h
  | n + 1, here, row, S, h => by
    by_cases c : lackP gs here = none
    · rw [subs_on c, rf_fo] at h
      obtain ⟨x, hx, h⟩ := h
      have S2 := S.next hu hp hx
      rcases h with ⟨h1, h2, rfl⟩ | h
      · refine S2.good hu h1 ?_
        rw [List.length_append]
        exact h2
      · exact rf_good hu hp n S2 h
    · rw [subs_lack c] at h
      cases h
theorem Good.le {gs r : List Int} (h : Good gs r) : ∀ x ∈ r, 0 ≤ x := by
  obtain ⟨h1, h2, h3, _⟩ := h
  cases r with
  | nil => exact absurd rfl h1
  | cons y ys =>
    have h2 : y = 0 := h2
    intro x hx
    rcases List.mem_cons.mp hx with rfl | hx
    · omega
    · have := (List.pairwise_cons.mp h3).1 x hx
      omega
theorem ab_le {x y L : Int} (h1 : 0 ≤ x ∧ x ≤ L) (h2 : 0 ≤ y ∧ y ≤ L) : ab (x - y) ≤ max x (L - x) := by
  unfold ab
  split <;> omega
/-- the places of r that are not yet here -/
theorem split_r {here r : List Int} (hn : here.Nodup) (hr : r.Nodup) (hs : ∀ x ∈ here, x ∈ r) : r.Perm (here ++ r.filter fun x => !decide (x ∈ here)) := by
  refine perm_mem hr (List.nodup_append.mpr ⟨hn, hr.filter _, fun x hx y hy e => ?_⟩) fun z => ?_
  · have := (List.mem_filter.mp hy).2
    simp at this
    exact this (e ▸ hx)
  · rw [List.mem_append, List.mem_filter]
    by_cases c : z ∈ here
    · simp [c, hs z c]
    · simp [c]
theorem good_top {gs r : List Int} (hg : Good gs r) (h : 2 ≤ r.length) : topI gs ∈ r ∧ ∀ x ∈ r, x ≤ topI gs := by
  obtain ⟨h1, h2, h3, h4⟩ := hg
  have hge := Good.le ⟨h1, h2, h3, h4⟩
  have hup : gs.Pairwise (· ≤ ·) := h4 ▸ btw_up r
  have hlast : ∀ x ∈ r, x ≤ gi r (r.length - 1) := fun x hx => top_le (h3.imp fun h => by omega) x hx
  have hm : gi r (r.length - 1) ∈ r := gi_mem (by omega)
  have hperm := btw_perm_prs r
  rw [h4] at hperm
  have e : topI gs = gi r (r.length - 1) := by
    refine Int.le_antisymm ?_ ?_
    · have hne : gs ≠ [] := fun z => by
        have := btw_len2 r
        rw [h4, z] at this
        have hh := Nat.mul_le_mul h (Nat.le_refl r.length)
        simp at this
        omega
      obtain ⟨x, hx, y, hy, e⟩ := prs_of (hperm.mem_iff.mp (topI_mem hne))
      have a1 := hge x hx
      have a2 := hge y hy
      have a3 := hlast x hx
      have a4 := hlast y hy
      rw [e]
      unfold ab
      split <;> omega
    · refine top_le hup _ (hperm.mem_iff.mpr ?_)
      cases r with
      | nil => exact absurd rfl h1
      | cons y ys =>
        have h2 : y = 0 := h2
        subst h2
        refine List.mem_append_left _ (List.mem_map.mpr ⟨gi (0 :: ys) ((0 :: ys).length - 1), ?_, ?_⟩)
        · have hk : ys.length - 1 < ys.length := by
            simp at h
            omega
          have : gi (0 :: ys) ((0 :: ys).length - 1) = gi ys (ys.length - 1) := by
            obtain ⟨k, hk⟩ : ∃ k, ys.length = k + 1 := ⟨ys.length - 1, by omega⟩
            rw [List.length_cons, Nat.add_sub_cancel, hk]
            rfl
          rw [this]
          exact gi_mem hk
        · have := hge _ hm
          unfold ab
          split <;> omega
  exact ⟨e ▸ hm, fun x hx => e ▸ hlast x hx⟩
/-- every road is told -/
theorem good_rf {gs r : List Int} (hp : ∀ d ∈ gs, 1 ≤ d) (hg : Good gs r) (h2 : 2 ≤ r.length) : ∀ (n : Nat) {here : List Int}, Spot gs here → (∀ x ∈ here, x ∈ r) → here.length < r.length → r.length ≤ here.length + n → r ∈ rf gs.length (subs gs n here) here
  | 0, here, S, hs, hl, hn => by omega
  | n + 1, here, S, hs, hl, hn => by
    have hu : gs.Pairwise (· ≤ ·) := hg.2.2.2 ▸ btw_up r
    have hrn := up_nodup hg.2.2.1
    obtain ⟨ht, hle⟩ := good_top hg h2
    have hge := hg.le
    have hsp := split_r S.nd hrn hs
    generalize hrest : (r.filter fun x => !decide (x ∈ here)) = rest at hsp
    have hrm : ∀ x ∈ rest, x ∈ r ∧ x ∉ here := fun x hx => by
      rw [← hrest, List.mem_filter] at hx
      simpa using hx
    have hne : rest ≠ [] := fun z => by
      have := hsp.length_eq
      rw [z, List.append_nil] at this
      omega
    -- the distances that are left
    have hgs : gs.Perm (btw here ++ (crs here rest ++ prs rest)) := by
      have h1 := btw_perm_prs r
      rw [hg.2.2.2] at h1
      exact (h1.trans ((prs_perm hsp).trans (prs_app here rest))).trans ((btw_perm_prs here).symm.append_right _)
    have hlack : lackP gs here = none := wo_sub _ _ _ hgs
    have hleft : (leftP gs here).Perm (crs here rest ++ prs rest) := (List.perm_append_left_iff _).mp ((wo_perm _ _ hlack).symm.trans hgs)
    have hln : leftP gs here ≠ [] := fun z => by
      rw [z] at hleft
      have hx := hleft.symm.eq_nil
      obtain ⟨a, rest', rfl⟩ := List.exists_cons_of_ne_nil hne
      have hm : ab (0 - a) ∈ crs here (a :: rest') := crs_mem S.z List.mem_cons_self
      rw [(List.append_eq_nil_iff.mp hx).1] at hm
      cases hm
    have hlu : (leftP gs here).Pairwise (· ≤ ·) := hu.sublist (left_sl gs here)
    have htop := topI_mem hln
    have hmax := top_le hlu
    generalize hd : topI (leftP gs here) = d at htop hmax
    -- the greatest one is from a place that is wanted to one of the ends
    have hfar : ∀ a ∈ rest, max a (topI gs - a) ≤ d := fun a ha => by
      have ha2 := hrm a ha
      have h1 := hge a ha2.1
      have h2 := hle a ha2.1
      have m1 := hmax _ (hleft.mem_iff.mpr (List.mem_append_left _ (crs_mem S.z ha)))
      have m2 := hmax _ (hleft.mem_iff.mpr (List.mem_append_left _ (crs_mem S.t ha)))
      have e1 : ab (0 - a) = a := by
        unfold ab
        split <;> omega
      have e2 : ab (topI gs - a) = topI gs - a := by
        unfold ab
        split <;> omega
      rw [e1] at m1
      rw [e2] at m2
      omega
    have hex : ∃ a ∈ rest, d = max a (topI gs - a) := by
      rcases List.mem_append.mp (hleft.mem_iff.mp htop) with h | h
      · obtain ⟨x, hx, y, hy, e⟩ := crs_of h
        have hy2 := hrm y hy
        have := ab_le (L := topI gs) ⟨hge y hy2.1, hle y hy2.1⟩ (S.ge x hx)
        rw [ab_swap] at this
        have := hfar y hy
        exact ⟨y, hy, by omega⟩
      · obtain ⟨x, hx, y, hy, e⟩ := prs_of h
        have hx2 := hrm x hx
        have hy2 := hrm y hy
        have := ab_le (L := topI gs) ⟨hge x hx2.1, hle x hx2.1⟩ ⟨hge y hy2.1, hle y hy2.1⟩
        have := hfar x hx
        exact ⟨x, hx, by omega⟩
    obtain ⟨a, ha, hda⟩ := hex
    have ha2 := hrm a ha
    have hnext : a ∈ nextP gs here := by
      refine (next_of hu hp S).mpr ⟨hln, ?_, ha2.2⟩
      rw [hd]
      omega
    have S2 := S.next hu hp hnext
    have hs2 : ∀ x ∈ here ++ [a], x ∈ r := fun x hx => by
      rcases List.mem_append.mp hx with hx | hx
      · exact hs x hx
      · rw [List.mem_singleton.mp hx]
        exact ha2.1
    rw [subs_on hlack, rf_fo]
    refine ⟨a, hnext, ?_⟩
    have hlen : (here ++ [a]).length = here.length + 1 := by rw [List.length_append]; rfl
    by_cases c : here.length + 1 = r.length
    · left
      have hsp2 := split_r S2.nd hrn hs2
      have h0 : (r.filter fun x => !decide (x ∈ here ++ [a])) = [] := by
        have := hsp2.length_eq
        rw [List.length_append] at this
        exact List.eq_nil_of_length_eq_zero (by omega)
      rw [h0, List.append_nil] at hsp2
      refine ⟨?_, ?_, up_unique (hsp2.trans (sortI_perm _).symm) (hg.2.2.1.imp fun h => by omega) (sortI_up _)⟩
      · refine wo_sub _ _ [] ?_
        rw [List.append_nil, ← btw_perm hsp2, hg.2.2.2]
      · have := btw_len2 r
        rw [hg.2.2.2, ← c, Nat.add_mul, Nat.mul_add, Nat.one_mul, Nat.mul_one] at this
        rw [Nat.add_mul, Nat.one_mul]
        omega
    · exact .inr (good_rf hp hg h2 n S2 hs2 (by omega) (by omega))
theorem ends_spot {gs : List Int} (h : gs ≠ []) (hp : ∀ d ∈ gs, 1 ≤ d) : Spot gs (ends gs) := by
  have := hp _ (topI_mem h)
  refine ⟨ends_nodup h hp, fun x hx => ?_, by simp [ends], by simp [ends]⟩
  simp [ends] at hx
  omega
theorem trialsF_subs {gs : List Int} (h : gs ≠ []) (hp : ∀ d ∈ gs, 1 ≤ d) : trialsF gs = subs gs 5 (ends gs) := by
  rw [trialsF, if_neg h, subs_on (ends_lack h hp)]
theorem good_len {gs r : List Int} (h : Good gs r) : r.length * r.length = 2 * gs.length + r.length := by
  have := btw_len2 r
  rw [h.2.2.2] at this
  omega
/-- what the search finds: with two distances or more -/
theorem found_iff {gs r : List Int} (hu : gs.Pairwise (· ≤ ·)) (hp : ∀ d ∈ gs, 1 ≤ d) (h2 : 2 ≤ gs.length) (h21 : gs.length ≤ 21) : r ∈ rf gs.length (trialsF gs) (ends gs) ↔ Good gs r := by
  have hne : gs ≠ [] := fun z => by
    rw [z] at h2
    simp at h2
  rw [trialsF_subs hne hp]
  refine ⟨rf_good hu hp 5 (ends_spot hne hp), fun h => ?_⟩
  have hl := good_len h
  have h7 : r.length ≤ 7 := Nat.le_of_not_lt fun c => by
    have := Nat.mul_le_mul (show 8 ≤ r.length from c) (Nat.le_refl r.length)
    omega
  have h3 : 3 ≤ r.length := Nat.le_of_not_lt fun c => by
    have := Nat.mul_le_mul (show r.length ≤ 2 by omega) (Nat.le_refl r.length)
    omega
  obtain ⟨ht, hle⟩ := good_top h (by omega)
  refine good_rf hp h (by omega) 5 (ends_spot hne hp) (fun x hx => ?_) (by show 2 < _; omega) (by show _ ≤ 2 + 5; omega)
  simp [ends] at hx
  rcases hx with rfl | rfl
  · have := gi_mem (ns := r) (k := 0) (by omega)
    rw [h.2.1] at this
    exact this
  · exact ht
end Rg

set_option Elab.async false
set_option linter.all false
set_option maxRecDepth 100000
set_option maxHeartbeats 1000000
/-! Rg, part L: lists of lists of ints: sorted, none twice; the rule for sorted(). -/
namespace Rg
theorem ll_total (a b : List Int) : a ≤ b ∨ b ≤ a := List.le_total a b
theorem ll_anti {a b : List Int} (h1 : a ≤ b) (h2 : b ≤ a) : a = b := List.le_antisymm h1 h2
theorem ll_trans {a b c : List Int} (h1 : a ≤ b) (h2 : b ≤ c) : a ≤ c := List.le_trans h1 h2
theorem ll_lt {a b : List Int} : a < b ↔ a ≤ b ∧ a ≠ b := by
  constructor
  · intro h
    exact ⟨List.le_of_lt h, fun e => by rw [e] at h; exact List.lt_irrefl b h⟩
  · rintro ⟨h1, h2⟩
    exact Classical.byContradiction fun c => h2 (ll_anti h1 (List.not_lt.mp c))
def sortL (ls : List (List Int)) : List (List Int) := ls.mergeSort fun a b => decide (a ≤ b)
theorem sortL_perm (ls : List (List Int)) : (sortL ls).Perm ls := List.mergeSort_perm ls _
theorem sortL_up (ls : List (List Int)) : (sortL ls).Pairwise (· ≤ ·) := by
  have h := List.pairwise_mergeSort (le := fun a b : List Int => decide (a ≤ b)) (fun a b c h1 h2 => by simp only [decide_eq_true_eq] at *; exact ll_trans h1 h2) (fun a b => by simp only [Bool.or_eq_true, decide_eq_true_eq]; exact ll_total a b) ls
  exact h.imp fun h => by simpa using h
theorem upL_unique {a b : List (List Int)} (h : a.Perm b) (ha : a.Pairwise (· ≤ ·)) (hb : b.Pairwise (· ≤ ·)) : a = b :=
  h.eq_of_pairwise (le := (· ≤ ·)) (fun x y _ _ h1 h2 => ll_anti h1 h2) ha hb
theorem sortL_eq {a ns : List (List Int)} (h : a.Perm ns) (ha : a.Pairwise (· ≤ ·)) : a = sortL ns := upL_unique (h.trans (sortL_perm ns).symm) ha (sortL_up ns)
theorem sortL_id {ls : List (List Int)} (h : ls.Pairwise (· ≤ ·)) : sortL ls = ls := (sortL_eq (.refl _) h).symm
theorem upL_nodup {ls : List (List Int)} (h : ls.Pairwise (· < ·)) : ls.Nodup := h.imp fun h => (ll_lt.mp h).2
theorem upL_le {ls : List (List Int)} (h : ls.Pairwise (· < ·)) : ls.Pairwise (· ≤ ·) := h.imp fun h => (ll_lt.mp h).1
/-- two rising lists of the same rows are one -/
theorem upL_same {a b : List (List Int)} (ha : a.Pairwise (· < ·)) (hb : b.Pairwise (· < ·)) (h : ∀ z, z ∈ a ↔ z ∈ b) : a = b :=
  upL_unique ((List.perm_ext_iff_of_nodup (upL_nodup ha) (upL_nodup hb)).mpr h) (upL_le ha) (upL_le hb)
/-! ### of a sorted list, each row once -/
def newAt (S : List (List Int)) (k : Nat) : Bool := !decide (S.getD k [] ∈ S.take k)
def once (S : List (List Int)) (k : Nat) : List (List Int) := ((List.range k).filter (newAt S)).map fun k => S.getD k []
theorem once_step (S : List (List Int)) (k : Nat) : once S (k + 1) = once S k ++ if newAt S k then [S.getD k []] else [] := by
  unfold once
  rw [List.range_succ, List.filter_append, List.map_append]
  congr 1
  cases h : newAt S k <;> simp [h]
theorem once_mem {S : List (List Int)} {z : List Int} : ∀ {k : Nat}, k ≤ S.length → (z ∈ once S k ↔ z ∈ S.take k)
  | 0, _ => by simp [once]
  | k + 1, h => by
    have hk : S[k]? = some (S.getD k []) := by simp [List.getD_eq_getElem?_getD, List.getElem?_eq_getElem (show k < S.length by omega)]
    rw [once_step, List.mem_append, once_mem (by omega), take_more hk, List.mem_append]
    cases c : newAt S k with
    | true => simp
    | false =>
      have c : S.getD k [] ∈ S.take k := by simpa [newAt] using c
      simp only [Bool.false_eq_true, if_false, List.not_mem_nil, or_false, List.mem_singleton]
      exact ⟨.inl, fun h => h.elim id fun e => e ▸ c⟩
theorem once_up {S : List (List Int)} (hS : S.Pairwise (· ≤ ·)) : ∀ {k : Nat}, k ≤ S.length → (once S k).Pairwise (· < ·)
  | 0, _ => .nil
  | k + 1, h => by
    rw [once_step]
    cases c : newAt S k with
    | false =>
      rw [if_neg Bool.false_ne_true, List.append_nil]
      exact once_up hS (by omega)
    | true =>
      rw [if_pos rfl]
      refine List.pairwise_append.mpr ⟨once_up hS (by omega), List.pairwise_singleton _ _, fun x hx y hy => ?_⟩
      rw [List.mem_singleton.mp hy]
      have hx := (once_mem (by omega)).mp hx
      have c : S.getD k [] ∉ S.take k := by simpa [newAt] using c
      refine ll_lt.mpr ⟨?_, fun e => c (e ▸ hx)⟩
      obtain ⟨j, hj, rfl⟩ := List.getElem_of_mem hx
      rw [List.length_take] at hj
      have := List.pairwise_iff_getElem.mp hS j k (by omega) (by omega) (by omega)
      simpa [List.getD_eq_getElem?_getD, List.getElem?_eq_getElem (show k < S.length by omega)] using this
/-- all roads with these distances, in order -/
def roadsF (gs : List Int) : List (List Int) := if gs = [] then [[0]] else if gs.length = 1 then [[0, gi gs 0]] else
  let S := sortL (rf gs.length (trialsF gs) (ends gs))
  once S S.length
theorem roadsF_up (gs : List Int) : (roadsF gs).Pairwise (· < ·) := by
  unfold roadsF
  split
  · exact List.pairwise_singleton _ _
  · split
    · exact List.pairwise_singleton _ _
    · exact once_up (sortL_up _) (Nat.le_refl _)
theorem roadsF_iff {gs r : List Int} (hu : gs.Pairwise (· ≤ ·)) (hp : ∀ d ∈ gs, 1 ≤ d) (h21 : gs.length ≤ 21) : r ∈ roadsF gs ↔ Good gs r := by
  unfold roadsF
  split
  · rename_i h
    subst h
    constructor
    · intro h
      rw [List.mem_singleton.mp h]
      exact ⟨by simp, rfl, List.pairwise_singleton _ _, by simp [btw, allD, rowD, sortI]⟩
    · intro h
      have hl := good_len h
      obtain ⟨h1, h2, _⟩ := h
      match r, h1, h2, hl with
      | [x], _, h2, _ =>
        have h2 : x = 0 := h2
        rw [h2]
        exact List.mem_singleton_self _
      | x :: y :: t, _, _, hl =>
        simp [Nat.add_mul, Nat.mul_add] at hl
  · rename_i hne
    split
    · rename_i h1
      match gs, h1, hp with
      | [d], _, hp =>
        have hd := hp d List.mem_cons_self
        show r ∈ [[0, d]] ↔ _
        rw [List.mem_singleton]
        constructor
        · rintro rfl
          refine ⟨by simp, rfl, ?_, btw_two d (by omega)⟩
          simp
          omega
        · intro h
          have hl := good_len h
          obtain ⟨h1, h2, h3, h4⟩ := h
          match r, h1, h2, h3, h4, hl with
          | [x], _, h2, _, _, hl => simp at hl
          | [x, y], _, h2, h3, h4, _ =>
            have h2 : x = 0 := h2
            subst h2
            have h3 : 0 < y := by simpa using h3
            rw [btw_two y (by omega)] at h4
            rw [h4]
          | x :: y :: z :: t, _, _, _, _, hl =>
            simp [Nat.add_mul, Nat.mul_add] at hl
            omega
    · rename_i h1
      have h2 : 2 ≤ gs.length := by
        have := List.length_pos_iff.mpr hne
        omega
      show r ∈ once _ _ ↔ _
      rw [once_mem (Nat.le_refl _), List.take_length, (sortL_perm _).mem_iff]
      exact found_iff hu hp h2 h21
/-! ### how many there are at most -/
theorem rf_fo_len {many m : Nat} {f : Int → Option Int × Fo} {places : List Int} : ∀ {xs : List Int}, (∀ x ∈ xs, (rf many (f x).2 (places ++ [x])).length ≤ m) → (rf many (fo f xs) places).length ≤ xs.length * (m + 1)
  | [], _ => Nat.zero_le _
  | x :: xs, h => by
    have h1 := h x List.mem_cons_self
    have h2 := rf_fo_len (xs := xs) fun y hy => h y (List.mem_cons_of_mem _ hy)
    rw [fo, rf, List.length_append, List.length_append, List.length_cons, Nat.succ_mul xs.length]
    have : (if (f x).1 = none ∧ (places.length + 1) * places.length = 2 * many then [sortI (places ++ [x])] else []).length ≤ 1 := by
      split <;> simp
    have h5 : ∀ u : List (List Int), u.length ≤ 1 → u.length + (rf many (f x).2 (places ++ [x])).length + (rf many (fo f xs) places).length ≤ xs.length * (m + 1) + (m + 1) := fun u hu => by omega
    exact h5 _ this
theorem rf_len (many : Nat) (gs : List Int) : ∀ (n : Nat) (here : List Int), (rf many (subs gs n here) here).length + 2 ≤ 2 ^ (n + 1)
  | 0, _ => Nat.le_refl _
  | n + 1, here => by
    by_cases c : lackP gs here = none
    · rw [subs_on c]
      have h1 := rf_fo_len (many := many) (f := trF gs n here) (places := here) (xs := nextP gs here) (m := 2 ^ (n + 1) - 2) fun x _ => by
        have := rf_len many gs n (here ++ [x])
        show (rf many (subs gs n (here ++ [x])) (here ++ [x])).length ≤ _
        omega
      have h2 := Nat.mul_le_mul (nextP_len gs here) (Nat.le_refl (2 ^ (n + 1) - 2 + 1))
      have h3 : 2 ≤ 2 ^ (n + 1) := by
        rw [Nat.pow_succ]
        have := Nat.one_le_two_pow (n := n)
        omega
      have h4 : 2 ^ (n + 1 + 1) = 2 * 2 ^ (n + 1) := by rw [Nat.pow_succ, Nat.mul_comm]
      omega
    · rw [subs_lack c]
      have : 2 ≤ 2 ^ (n + 1 + 1) := by
        rw [Nat.pow_succ]
        have := Nat.one_le_two_pow (n := n + 1)
        omega
      simpa [rf] using this
theorem rf_trials_len {gs : List Int} (h : gs ≠ []) (hp : ∀ d ∈ gs, 1 ≤ d) : (rf gs.length (trialsF gs) (ends gs)).length ≤ 62 := by
  rw [trialsF_subs h hp]
  have := rf_len gs.length gs 5 (ends gs)
  omega
theorem once_len (S : List (List Int)) : (once S S.length).length ≤ S.length := by
  unfold once
  rw [List.length_map]
  have := List.length_filter_le (newAt S) (List.range S.length)
  rw [List.length_range] at this
  exact this
theorem roadsF_len {gs : List Int} (hp : ∀ d ∈ gs, 1 ≤ d) : (roadsF gs).length ≤ 100 := by
  unfold roadsF
  split
  · decide
  · split
    · show (1 : Nat) ≤ 100
      decide
    · rename_i h0 _
      have h1 := once_len (sortL (rf gs.length (trialsF gs) (ends gs)))
      have h2 := rf_trials_len h0 hp
      rw [(sortL_perm _).length_eq] at h1
      show (once _ _).length ≤ 100
      rw [(sortL_perm _).length_eq]
      omega
end Rg

set_option Elab.async false
set_option linter.all false
set_option maxRecDepth 100000
set_option maxHeartbeats 1000000
/-! Rg, part LL: lists of lists of ints in the heap; sorted() of them. -/
namespace Rg
open PySem PySem.Spec PyProof.Rows L2 Evl
theorem hD1_of {k : Nat} {A : Around} (hr : Room k A) : A.units + 65 < cLine := by have := hr.un; omega
section
variable {K : PySem.W.Frag} {H H' : Hp}
theorem ILs.len {vs : List V} {ls : List (List Int)} (h : ILs H vs ls) : vs.length = ls.length := by
  induction h with
  | nil => rfl
  | cons _ _ ih => exact congrArg Nat.succ ih
theorem ILs.at {vs : List V} {ls : List (List Int)} (h : ILs H vs ls) : ∀ {k : Nat} {v : V}, vs[k]? = some v → ∃ a ns, v = .ref a ∧ ls[k]? = some ns ∧ IL H a ns := by
  induction h with
  | nil => exact fun h => by cases h
  | @cons a ns vs ls h1 _ ih =>
    intro k v hk
    cases k with
    | zero => exact ⟨a, ns, (Option.some.inj hk).symm, rfl, h1⟩
    | succ k => exact ih hk
theorem ILs.zip {vs : List V} {ls : List (List Int)} (h : ILs H vs ls) : ∀ b ∈ vs.zip ls, ∃ a, b.1 = .ref a ∧ IL H a b.2 := by
  induction h with
  | nil => exact fun b h => by cases h
  | @cons a ns vs ls h1 _ ih =>
    intro b hb
    rcases List.mem_cons.mp hb with rfl | hb
    · exact ⟨a, rfl, h1⟩
    · exact ih b hb
theorem ILs.of_pairs : ∀ {bs : List (V × List Int)}, (∀ b ∈ bs, ∃ a, b.1 = .ref a ∧ IL H a b.2) → ILs H (bs.map (·.1)) (bs.map (·.2))
  | [], _ => .nil
  | b :: bs, h => by
    obtain ⟨a, e, h1⟩ := h b List.mem_cons_self
    show ILs H (b.1 :: _) _
    rw [e]
    exact .cons h1 (ILs.of_pairs fun c hc => h c (List.mem_cons_of_mem _ hc))
/-- sorted(xs) of lists of ints -/
def rSortedL (K : PySem.W.Frag) : List V → Hp → VK → Prop := fun xs H Q => ∃ (a : Addr) (vs : List V) (ls : List (List Int)), xs = [.ref a] ∧ SqL K H a vs ∧ ILs H vs ls ∧
  ∀ (us : List V) (p : Addr), (∀ u ∈ us, u ∈ vs) → ILs H us (sortL ls) → H p = none → Q (.ref p) (upd H p (.lst us))
end
theorem each_rel {vs : List V} {its : List Value} {ls : List (List Int)} (r : Vals vs its) (hl : vs.length = ls.length) : PySem.W.EachIs (fun (u : Value) (b : V × List Int) => RelV b.1 u) its (vs.zip ls) := by
  induction r generalizing ls with
  | nil => exact .nil
  | cons h _ ih =>
    cases ls with
    | nil => cases hl
    | cons n ls => exact .cons h (ih (Nat.succ.inj hl))
theorem rel_each {bs : List (V × List Int)} {out : List Value} (h : PySem.W.EachIs (fun (u : Value) (b : V × List Int) => RelV b.1 u) out bs) : Vals (bs.map (·.1)) out := by
  induction h with
  | nil => exact .nil
  | cons h _ ih => exact .cons h ih
theorem each_and {R : Value → V × List Int → Prop} {S : V × List Int → Prop} {its : List Value} {bs : List (V × List Int)} (h : PySem.W.EachIs R its bs) (hs : ∀ b ∈ bs, S b) : PySem.W.EachIs (fun u b => R u b ∧ S b) its bs := by
  induction h with
  | nil => exact .nil
  | cons h _ ih => exact .cons ⟨h, hs _ List.mem_cons_self⟩ (ih fun b hb => hs b (List.mem_cons_of_mem _ hb))
theorem each_imp {R S : Value → V × List Int → Prop} {its : List Value} {bs : List (V × List Int)} (h : PySem.W.EachIs R its bs) (hs : ∀ u b, R u b → S u b) : PySem.W.EachIs S its bs := by
  induction h with
  | nil => exact .nil
  | cons h _ ih => exact .cons (hs _ _ h) ih
theorem map_zip1 : ∀ {vs : List V} {ls : List (List Int)}, vs.length = ls.length → (vs.zip ls).map (·.1) = vs ∧ (vs.zip ls).map (·.2) = ls
  | [], [], _ => ⟨rfl, rfl⟩
  | v :: vs, l :: ls, h => by
    obtain ⟨h1, h2⟩ := map_zip1 (vs := vs) (ls := ls) (Nat.succ.inj h)
    exact ⟨congrArg (v :: ·) h1, congrArg (l :: ·) h2⟩
theorem cr_sortedL {X : Cx} (hu : X.A.units + 65 < cLine) : CallR X (.builtin "sorted") (rSortedL X.K) := by
  intro pins s σ H xs us Q I r h
  obtain ⟨a, vs, ls, rfl, hs, hl, q⟩ := h
  obtain ⟨its, rv, pl, hz⟩ := I.list hs
  rw [Vals.ref1 r]
  have hlen := hl.len
  obtain ⟨z1, z2⟩ := map_zip1 hlen
  have hzip := hl.zip
  refine PySem.W.sorted_data (β := V × List Int) (bs := vs.zip ls) (enc := fun b => .list (b.2.map .int)) (R := fun u b => RelV b.1 u) pl.isList (each_rel rv hlen) ?_ ?_ ?_ ?_ ?_ fun out ho eo => ?_
  · refine each_imp (each_and (each_rel rv hlen) hzip) fun u b h => ?_
    obtain ⟨h1, a, e, h2⟩ := h
    have hd : Dp X.K H b.1 (dI b.2) := by
      rw [e]
      exact dp_I h2
    exact Dp.reads I _ _ _ hd h1
  · refine PySem.W.AllAlike.of fun b b' => ?_
    show PySem.W.alike (.list _) (.list _) = true
    rw [PySem.W.alike]
    exact PySem.W.alike_ints _ _
  · exact PySem.W.Sortable.others fun b => ⟨(fun z => by cases z), (fun xs z => by cases z)⟩
  · rw [List.length_zip, ← hlen, Nat.min_self]
    exact hz
  · intro b _
    have : (PyData.list (b.2.map .int)).depth ≤ 1 := by
      simp [PyData.depth, PySem.W.depth_ints]
    omega
  · rw [PySem.W.dataLe_rows] at eo
    have hp : ((vs.zip ls).mergeSort fun p q => decide (p.2 ≤ q.2)).Perm (vs.zip ls) := List.mergeSort_perm _ _
    have hup : ((vs.zip ls).mergeSort fun p q => decide (p.2 ≤ q.2)).Pairwise fun p q => p.2 ≤ q.2 := by
      have h := List.pairwise_mergeSort (le := fun p q : V × List Int => decide (p.2 ≤ q.2)) (fun a b c h1 h2 => by simp only [decide_eq_true_eq] at *; exact ll_trans h1 h2) (fun a b => by simp only [Bool.or_eq_true, decide_eq_true_eq]; exact ll_total a.2 b.2) (vs.zip ls)
      exact h.imp fun h => by simpa using h
    generalize ((vs.zip ls).mergeSort fun p q => decide (p.2 ≤ q.2)) = bs at eo hp hup
    have e2 : bs.map (·.2) = sortL ls := by
      refine sortL_eq ?_ (List.pairwise_map.mpr hup)
      have := hp.map (·.2)
      rw [z2] at this
      exact this
    have hv := rel_each eo
    obtain ⟨ep, he'⟩ := PyProof.Rows.sortedAll_at s.heap its out.toArray
    have hb : ∀ b ∈ bs, ∃ a, b.1 = .ref a ∧ IL H a b.2 := fun b hb => hzip b (hp.mem_iff.mp hb)
    have hlen2 : (bs.map (·.1)).length ≤ sizeLine := by
      rw [List.length_map, hp.length_eq, List.length_zip, ← hlen, Nat.min_self]
      exact hz
    have hIL := ILs.of_pairs hb
    rw [e2] at hIL
    refine ⟨.ref _, upd H (s.heap.objs.size + 1) (.lst (bs.map (·.1))), I.laid (t' := s.toks) (fun _ _ => PyProof.Rows.sortedAll_old) (Nat.le_succ _) ⟨hlen2, out, ep, hv, he'⟩, rfl, q _ _ (fun u hu => ?_) hIL (I.hok.fresh (Nat.le_succ _))⟩
    obtain ⟨b, hb, rfl⟩ := List.mem_map.mp hu
    have := List.mem_map_of_mem (f := Prod.fst) (hp.mem_iff.mp hb)
    rw [show (vs.zip ls).map Prod.fst = vs from z1] at this
    exact this
section
variable {K : PySem.W.Frag} {σ : L2.St} {H H' : Hp} {ta tb te tl : TE} {tt : TT}
/-! ### lists of ints, all new beside B -/
inductive IFs (B H : Hp) : List V → List (List Int) → Prop where
  | nil : IFs B H [] []
  | cons {a : Addr} {ns : List Int} {vs : List V} {ls : List (List Int)} : B a = none → IL H a ns → IFs B H vs ls → IFs B H (.ref a :: vs) (ns :: ls)
theorem IFs.il {B H : Hp} {vs : List V} {ls : List (List Int)} (h : IFs B H vs ls) : ILs H vs ls := by
  induction h with
  | nil => exact .nil
  | cons _ h _ ih => exact .cons h ih
theorem IFs.go {B H B' H' : Hp} {vs : List V} {ls : List (List Int)} (h : IFs B H vs ls) (b : ∀ a, B a = none → B' a = none) (e : ∀ a o, B a = none → H a = some o → H' a = some o) : IFs B' H' vs ls := by
  induction h with
  | nil => exact .nil
  | cons h1 h2 _ ih => exact .cons (b _ h1) (e _ _ h1 h2) ih
theorem IFs.ex {B H H' : Hp} {vs : List V} {ls : List (List Int)} (h : IFs B H vs ls) (e : Ex H H') : IFs B H' vs ls := h.go (fun _ z => z) fun a o _ z => e a o z
theorem IFs.base {B B' H : Hp} {vs : List V} {ls : List (List Int)} (h : IFs B H vs ls) (e : Ex B' B) : IFs B' H vs ls := h.go (fun _ z => fresh_back e z) fun _ _ _ z => z
theorem IFs.app {B H : Hp} {vs ws : List V} {ls ms : List (List Int)} (h : IFs B H vs ls) (h2 : IFs B H ws ms) : IFs B H (vs ++ ws) (ls ++ ms) := by
  induction h with
  | nil => exact h2
  | cons a b _ ih => exact .cons a b ih
theorem IFs.one {B H : Hp} {a : Addr} {ns : List Int} (h1 : B a = none) (h2 : IL H a ns) : IFs B H [.ref a] [ns] := .cons h1 h2 .nil
theorem IFs.len {B H : Hp} {vs : List V} {ls : List (List Int)} (h : IFs B H vs ls) : vs.length = ls.length := h.il.len
theorem IFs.new {B H : Hp} {vs : List V} {ls : List (List Int)} (h : IFs B H vs ls) : ∀ v ∈ vs, ∃ a, v = .ref a ∧ B a = none := by
  induction h with
  | nil => exact fun v h => by cases h
  | @cons a ns vs ls h1 _ _ ih =>
    intro v hv
    rcases List.mem_cons.mp hv with rfl | hv
    · exact ⟨a, rfl, h1⟩
    · exact ih v hv
theorem ILs.new {B H : Hp} {vs : List V} {ls : List (List Int)} (h : ILs H vs ls) (hn : ∀ v ∈ vs, ∃ a, v = .ref a ∧ B a = none) : IFs B H vs ls := by
  induction h with
  | nil => exact .nil
  | @cons a ns vs ls h1 _ ih =>
    obtain ⟨b, e, hb⟩ := hn _ List.mem_cons_self
    cases e
    exact .cons hb h1 (ih fun v hv => hn v (List.mem_cons_of_mem _ hv))
/-- what evaluates to a new list of new lists -/
def EvLL (te : TE) (σ : L2.St) (H : Hp) (ls : List (List Int)) : Prop := ∀ H1, Ex H H1 → ∀ Q : VK, (∀ p vs H2 B, H1 p = none → Ex H1 H2 → H2 p = some (.lst vs) → Ex H1 B → B p ≠ none → IFs B H2 vs ls → Q (.ref p) H2) → te σ H1 Q
/-- .. of lists that stand already -/
def EvLO (te : TE) (σ : L2.St) (H : Hp) (old : List V) (ls : List (List Int)) : Prop := ∀ H1, Ex H H1 → ∀ Q : VK, (∀ p vs H2, H1 p = none → Ex H1 H2 → H2 p = some (.lst vs) → ILs H2 vs ls → (∀ v ∈ vs, v ∈ old) → Q (.ref p) H2) → te σ H1 Q
theorem eo_sorted {a : Addr} {vs : List V} {ls : List (List Int)} (h : Ev ta σ H (.ref a)) (hx : Lst H a vs) (hl : ILs H vs ls) : EvLO (tCB (rSortedL K) (tCons ta tNil)) σ H vs (sortL ls) := fun H1 e Q q =>
  h H1 e _ fun H2 e2 => ⟨a, vs, ls, rfl, sq_of ((e.trans e2) a _ hx), hl.ex (e.trans e2), fun us p hu hi hp => q p us _ (fresh_back e2 hp) (e2.trans (Ex.new hp)) upd_same (hi.ex (Ex.new hp)) hu⟩
theorem mul_ {i j : Int} (ha : Ev ta σ H (.int i)) (hb : Ev tb σ H (.int j)) (hc : CMul i j) : Ev (tOp (rI CMul fun i j => .int (i * j)) ta tb) σ H (.int (i * j)) := ev_op ha hb (rv_I (C := CMul) (g := fun i j => .int (i * j)) hc)
theorem cmul {i j : Int} (h1 : -1000000 ≤ i) (h2 : i ≤ 1000000) : CMul i j := .inl ⟨by omega, by omega⟩
/-- return [[0]] and [[0, d]] -/
theorem s_retLL1 {D : Ends} {t : TA} {ns : List Int} (h : EvA t σ H (Ints ns)) (hz : ns.length ≤ 100000) (k : ∀ p a H1 B, H p = none → Ex H H1 → H1 p = some (.lst [.ref a]) → Ex H B → B p ≠ none → IFs B H1 [.ref a] [ns] → D.rt (.ref p) H1) : tRet (tLst (tCons (tLst t) tNil)) D σ H :=
  (el_lst h (by rw [List.length_map]; exact hz)) H (Ex.refl H) (fun x H1 => [x].length ≤ sizeLine ∧ ∀ p, H1 p = none → D.rt (.ref p) (upd H1 p (.lst [x]))) fun a H1 ha e1 h1 => ⟨(by show (1 : Nat) ≤ sizeLine; decide), fun p hp => by
    have hpa : a ≠ p := ne_of_none h1 hp
    refine k p a _ (upd H p (.lst [])) (fresh_back e1 hp) (e1.trans (Ex.new hp)) upd_same (Ex.new (fresh_back e1 hp)) (by rw [upd_same]; exact fun z => by cases z) (IFs.one ?_ ((Ex.new hp) a _ h1))
    rw [upd_ne hpa]
    exact ha⟩
/-- nothing was lost -/
def Gr (B H : Hp) : Prop := ∀ x, H x = none → B x = none
theorem Gr.of (e : Ex H H') : Gr H H' := fun x h => fresh_back e h
theorem Gr.ex {B : Hp} (g : Gr B H) (e : Ex H H') : Gr B H' := fun x h => g x (fresh_back e h)
theorem Gr.upd {B : Hp} {l : Addr} {o : HO} (g : Gr B H) : Gr B H → B l ≠ none → Gr B (upd H l o) := fun _ hl x h => by
  by_cases c : x = l
  · rw [c, upd_same] at h
    cases h
  · rw [upd_ne c] at h
    exact g x h
theorem IFs.upd {B : Hp} {vs : List V} {ls : List (List Int)} {l : Addr} {o : HO} (h : IFs B H vs ls) (hl : B l ≠ none) : IFs B (upd H l o) vs ls := h.go (fun _ z => z) fun a o' hb h => by
  rw [upd_ne (fun w => hl (by subst w; exact hb))]
  exact h
/-- xs.extend(e), e a new list -/
theorem s_extX {D : Ends} {l : Addr} {xs : List V} (P : Addr → List V → Hp → Prop) (hl : H l = some (.lst xs)) (ha : Ev ta σ H (.ref l)) (h : ∀ H1, Ex H H1 → ∀ Q : VK, (∀ p ys H2, Ex H1 H2 → H2 p = some (.lst ys) → P p ys H2 → Q (.ref p) H2) → te σ H1 Q)
    (k : ∀ p ys H1, Ex H H1 → H1 p = some (.lst ys) → P p ys H1 → xs.length + ys.length ≤ 100000 ∧ D.nx σ (L2.upd H1 l (.lst (xs ++ ys)))) : tDrop (tBM K "list" rExtend ta (tCons te tNil)) D σ H := ha H (Ex.refl H) _ fun H1 e1 =>
  ⟨Or.inl ⟨rfl, xs, sq_of (e1 l _ hl)⟩, h H1 e1 _ fun p ys H2 e2 h2 hP => by
    obtain ⟨k1, k2⟩ := k p ys H2 (e1.trans e2) h2 hP
    exact ⟨l, p, xs, ys, rfl, rfl, e2 l _ (e1 l _ hl), h2, sz_of k1, k2⟩⟩
theorem cut_to (xs : List V) (k : Nat) : cutV xs none (some (k : Int)) = xs.take k := by
  unfold cutV
  rw [HT.sIx_none, HT.sIx_nat, List.drop_zero, Nat.sub_zero, Nat.min_comm]
  by_cases h : k ≤ xs.length
  · rw [Nat.min_eq_right h]
  · rw [Nat.min_eq_left (by omega), List.take_length, List.take_of_length_le (by omega)]
theorem cut_from (xs : List V) (k : Nat) : cutV xs (some (k : Int)) none = xs.drop k := by
  unfold cutV
  rw [HT.sIx_none, HT.sIx_nat]
  by_cases h : k ≤ xs.length
  · rw [Nat.min_eq_left h]
    exact List.take_of_length_le (by rw [List.length_drop]; omega)
  · rw [Nat.min_eq_right (by omega), Nat.sub_self, List.take_zero, List.drop_eq_nil_of_le (by omega)]
theorem ILs.take {vs : List V} {ls : List (List Int)} (h : ILs H vs ls) : ∀ k, ILs H (vs.take k) (ls.take k) := by
  induction h with
  | nil => exact fun k => by simp; exact .nil
  | cons h1 _ ih =>
    intro k
    cases k with
    | zero => exact .nil
    | succ k => exact .cons h1 (ih k)
theorem any_dI (row : List Int) : ∀ ls : List (List Int), ((ls.map dI).any fun z => PyData.eqv z (dI row)) = decide (row ∈ ls)
  | [] => by simp
  | l :: ls => by
    rw [List.map_cons, List.any_cons, any_dI row ls, eqv_I, Bool.eq_iff_iff]
    simp only [Bool.or_eq_true, decide_eq_true_eq, List.mem_cons]
    exact ⟨fun h => h.imp Eq.symm id, fun h => h.imp Eq.symm id⟩
/-- row not in xs[:k], xs new of old rows -/
theorem et_newAt {tx ts tk : TE} {r : Addr} {row : List Int} {old : List V} {S : List (List Int)} {k : Nat} (hx : Ev tx σ H (.ref r)) (hr : IL H r row) (hs : EvLO ts σ H old S) (hk : Ev tk σ H (.int (k : Int))) :
    EvT (tTest (tOp (rNotInD K) tx (L2.tSl (rSlL K) ts tNoPart (tPart tk)))) σ H (!decide (row ∈ S.take k)) := fun H1 e Q q =>
  hx H1 e _ fun H2 e2 => hs H2 (e.trans e2) _ fun p vs H3 hp e3 h3 hi _ => by
    show tk σ H3 _
    refine hk H3 ((e.trans e2).trans e3) _ fun H4 e4 => ⟨_, rfl, p, vs, rfl, sq_of (e4 p _ h3), fun c hc => ?_⟩
    have e5 := e4.trans (Ex.new (o := .lst (cutV vs none (some (k : Int)))) hc)
    refine ⟨dI row, (S.take k).map dI, dp_I (((e.trans e2).trans e3).trans e5 r _ hr), ?_, sh_I _, sh_LL _, _, rfl, ?_⟩
    · have := (hi.ex e5).take k
      rw [← cut_to] at this
      exact dp_LL upd_same this
    · rw [any_dI]
      exact q _ ((e2.trans e3).trans e5)
theorem ILs.pick {vs : List V} {ls : List (List Int)} (h : ILs H vs ls) : ∀ is : List Nat, (∀ i ∈ is, i < vs.length) → ILs H (is.map fun i => vs.getD i .non) (is.map fun i => ls.getD i [])
  | [], _ => .nil
  | i :: is, hs => by
    have hi := hs i List.mem_cons_self
    obtain ⟨a, ns, e1, e2, h1⟩ := h.at (List.getElem?_eq_getElem hi)
    show ILs H (vs.getD i .non :: _) (ls.getD i [] :: _)
    rw [List.getD_eq_getElem?_getD, List.getD_eq_getElem?_getD, e2, List.getElem?_eq_getElem hi, e1]
    exact .cons h1 (ILs.pick h is fun j hj => hs j (List.mem_cons_of_mem _ hj))
/-- [row for k, row in enumerate(xs) if ..], xs new of old rows -/
theorem eo_lcE {tA : TA} {j0 j1 : Nat} {vs : List Nat} {old : List V} {S : List (List Int)} (f : Nat → Bool) (h : ∀ H1, Ex H H1 → ∀ Q : List V → Hp → Prop, (∀ p vs H2, H1 p = none → Ex H1 H2 → H2 p = some (.lst vs) → ILs H2 vs S → (∀ v ∈ vs, v ∈ old) → Q [.ref p] H2) → tA σ H1 Q) (hz : S.length ≤ 40000) (hw : ∀ x y, wipe (((wipe σ vs).set j0 (some x)).set j1 (some y)) vs = wipe σ vs)
    (ht : ∀ (i : Nat) (r : Addr) (row : List Int) H1, Ex H H1 → S[i]? = some row → IL H1 r row → EvT tt (((wipe σ vs).set j0 (some (.int (i : Nat)))).set j1 (some (.ref r))) H1 (f i))
    (he : ∀ (i : Nat) (x : V) H1, Ex H H1 → Ev te (((wipe σ vs).set j0 (some (.int (i : Nat)))).set j1 (some x)) H1 x) :
    EvLO (tLc (iEnum K tA) (gTup K 2 (gCons (gName j0) (gCons (gName j1) gNil))) tt te vs) σ H old (((List.range S.length).filter f).map fun i => S.getD i []) := fun H0 e Q q => h H0 e _ fun a xs H1 ha e1 hx hi hold => ⟨a, xs, rfl, sq_of hx, fun Dl hD => by
  have hlen := hi.len
  refine lc_it (walk_enum (xs := xs)) (Cw H1 f (fun i => xs.getD i .non) Dl) ⟨hD, Ex.new hD, upd_same⟩ (fun i H' _ p => sq_of (p.2.1 a _ hx)) (fun i z H2 H3 hil p y => ?_) (fun H' p => ?_)
  · obtain ⟨T, x, y, rfl, nT, rfl, h1, h2⟩ := y
    cases (Option.some.inj h1)
    have p3 : Cw H1 f (fun i => xs.getD i .non) Dl i (L2.upd H2 T (.tup [.int (i : Nat), y])) := cw_ex p (Ex.new nT)
    obtain ⟨r, row, rfl, h3, h4⟩ := hi.at h2
    refine ⟨T, [.int (i : Nat), .ref r], rfl, st_of upd_same, rfl, _, _, rfl, _, _, rfl, rfl, hw _ _, ?_⟩
    refine cw_turn p3 (by omega) (ht i r row H1 (e.trans e1) h3 h4) (fun hf => ?_)
    have h2 : xs[i]? = some (.ref r) := h2
    have hv : xs.getD i .non = .ref r := by rw [List.getD_eq_getElem?_getD, h2] <;> rfl
    show Ev te _ H1 (xs.getD i .non)
    rw [hv]
    exact he i _ H1 (e.trans e1)
  · obtain ⟨p1, p2, p3⟩ := p
    refine q Dl _ H' (fresh_back e1 p1) (e1.trans p2) p3 ?_ ?_
    · unfold given
      rw [hlen]
      exact (hi.ex p2).pick _ fun i hi => by
        rw [hlen]
        exact List.mem_range.mp (List.mem_filter.mp hi).1
    · intro v hv
      unfold given at hv
      obtain ⟨i, hi2, rfl⟩ := List.mem_map.mp hv
      have hi3 := List.mem_range.mp (List.mem_filter.mp hi2).1
      rw [List.getD_eq_getElem?_getD, List.getElem?_eq_getElem hi3]
      exact hold _ (List.getElem_mem hi3)⟩
theorem EvLO.args {ta : TE} {old : List V} {S : List (List Int)} (h : EvLO ta σ H old S) : ∀ H1, Ex H H1 → ∀ Q : List V → Hp → Prop, (∀ p vs H2, H1 p = none → Ex H1 H2 → H2 p = some (.lst vs) → ILs H2 vs S → (∀ v ∈ vs, v ∈ old) → Q [.ref p] H2) → (tCons ta tNil) σ H1 Q := fun H1 e Q q =>
  h H1 e _ fun p vs H2 hp e2 h2 hi ho => q p vs H2 hp e2 h2 hi ho
theorem s_retLO {D : Ends} {old : List V} {ls : List (List Int)} (h : EvLO te σ H old ls) (k : ∀ p vs H1, H p = none → Ex H H1 → H1 p = some (.lst vs) → ILs H1 vs ls → (∀ v ∈ vs, v ∈ old) → D.rt (.ref p) H1) : tRet te D σ H := h H (Ex.refl H) _ k
/-- what hands back a new list of new lists -/
def RLL (ls : List (List Int)) (H : Hp) (Q : VK) : Prop := ∀ p us H' B, H p = none → Ex H H' → H' p = some (.lst us) → Ex H B → B p ≠ none → IFs B H' us ls → Q (.ref p) H'
/-- old rows in a new list -/
theorem base_new {B : Hp} {old us : List V} {ls ms : List (List Int)} {p : Addr} {H1 H2 : Hp} (hp : H1 p = none) (e : Ex H1 H2) (hB : Ex H B) (e0 : Ex H H1) (h1 : IFs B H1 old ls) (hi : ILs H2 us ms) (ho : ∀ u ∈ us, u ∈ old) : Ex H (L2.upd B p (.lst [])) ∧ L2.upd B p (.lst []) p ≠ none ∧ IFs (L2.upd B p (.lst [])) H2 us ms := by
  refine ⟨fun x o hx => ?_, by rw [upd_same]; exact fun z => (by cases z), ILs.new hi fun v hv => ?_⟩
  · have : x ≠ p := fun w => by
      rw [w, fresh_back e0 hp] at hx
      cases hx
    rw [upd_ne this]
    exact hB x o hx
  · have hv2 := ho v hv
    obtain ⟨k, hk, hkv⟩ := List.getElem_of_mem hv2
    obtain ⟨a, ns, e1, _, h3⟩ := h1.il.at (List.getElem?_eq_getElem hk)
    obtain ⟨a', e2, h4⟩ := h1.new _ hv2
    rw [hkv] at e1
    rw [e1] at e2
    cases e2
    have : a ≠ p := fun w => by
      rw [IL, w, hp] at h3
      cases h3
    exact ⟨a, e1, by rw [upd_ne this]; exact h4⟩
/-- x = f([..], ..) -/
theorem s_setcallLX {D : Ends} {sp : Sp} {dvs vs : List V} {E : XK} {tr : TA} {i : Nat} {ns : List Int} (h : EvL te σ H (Ints ns)) (hr : ∀ p H1, H p = none → Ex H H1 → IL H1 p ns → EvA tr σ H1 vs) (hs : ∀ p H1, Ex H H1 → IL H1 p ns → sp ((.ref p :: vs) ++ dvs) H1 (fun x H2 => D.nx (σ.set i (some x)) H2) E) : tAsg (tCall sp dvs E (tCons te tr)) (gName i) D σ H :=
  h H (Ex.refl H) _ fun p H1 hp e1 h1 => hr p H1 hp e1 h1 H1 (Ex.refl H1) _ fun H2 e2 => hs p H2 (e1.trans e2) (e2 p _ h1)
end
/-! ### a forest from its k-th trial on -/
def Fo.drop : Fo → Nat → Fo
  | t, 0 => t
  | .nil, _ + 1 => .nil
  | .cons _ _ _ r, k + 1 => r.drop k
theorem Fo.drop_at {x : Int} {o : Option Int} {s : Fo} : ∀ {t : Fo} {k : Nat}, t.at k = some (x, o, s) → t.drop k = .cons x o s (t.drop (k + 1))
  | .nil, _, h => by cases h
  | .cons _ _ _ _, 0, h => by
    cases h
    rename_i r
    cases r <;> rfl
  | .cons _ _ _ r, k + 1, h => Fo.drop_at (t := r) h
theorem Fo.drop_len : ∀ t : Fo, t.drop t.len = .nil
  | .nil => rfl
  | .cons _ _ _ r => Fo.drop_len r
end Rg

set_option Elab.async false
set_option linter.all false
set_option maxRecDepth 100000
set_option maxHeartbeats 1000000
/-! Rg, part C: comprehensions that make or pick lists of ints. -/
namespace Rg
open PySem PySem.Spec PyProof.Rows L2 Evl
section
variable {K : PySem.W.Frag} {σ : L2.St} {H H' : Hp} {ta tb te tl : TE} {tt : TT}
/-- so far, the new lists in Dl -/
def Cl (H1 : Hp) (Dl : Addr) (ls : Nat → List (List Int)) (i : Nat) (H' : Hp) : Prop := ∃ us, Ex H1 H' ∧ H' Dl = some (.lst us) ∧ IFs (L2.upd H1 Dl (.lst [])) H' us (ls i)
theorem cl_turn {H1 H' : Hp} {Dl : Addr} {ls : Nat → List (List Int)} {i : Nat} {σ2 : L2.St} {row : List Int} (p : Cl H1 Dl ls i H') (hD : H1 Dl = none) (hi : (ls i).length < 50000) (ht : EvT tt σ2 H' true) (he : EvL te σ2 H1 (Ints row)) (hl : ls (i + 1) = ls i ++ [row]) :
    tt σ2 H' fun b H3 => if b = true then te σ2 H3 fun y H4 => ∃ acc, H4 Dl = some (.lst acc) ∧ acc.length < sizeLine ∧ Cl H1 Dl ls (i + 1) (L2.upd H4 Dl (.lst (acc ++ [y]))) else Cl H1 Dl ls (i + 1) H3 := by
  obtain ⟨us, p1, p2, p3⟩ := p
  refine ht H' (Ex.refl H') _ fun H3 e3 => ?_
  show te σ2 H3 _
  refine he H3 (p1.trans e3) _ fun v H4 hv e4 h4 => ⟨us, e4 Dl _ (e3 Dl _ p2), sz_lt (by rw [p3.len]; omega), us ++ [.ref v], Ex.mut ((p1.trans e3).trans e4) hD, upd_same, ?_⟩
  have hvD : v ≠ Dl := fun w => by
    rw [w, e3 Dl _ p2] at hv
    cases hv
  have hB : L2.upd H1 Dl (.lst []) Dl ≠ none := by rw [upd_same]; exact fun z => by cases z
  rw [hl]
  refine ((p3.ex (e3.trans e4)).app (IFs.one ?_ h4)).upd hB
  rw [upd_ne hvD]
  exact fresh_back (p1.trans e3) hv
/-- [.. for x in range(lo, n)], each a new list -/
theorem el_lcR2L {ta : TA} {j : Nat} {vs : List Nat} {lo n : Int} (row : Nat → List Int) (h : EvA ta σ H [.int lo, .int n]) (hn : 0 ≤ lo ∧ lo ≤ 40000 ∧ -40000 ≤ n ∧ n ≤ 40000) (hw : ∀ x, wipe ((wipe σ vs).set j (some x)) vs = wipe σ vs)
    (ht : ∀ (x : V) H1, EvT tt ((wipe σ vs).set j (some x)) H1 true) (he : ∀ (i : Nat) H1, Ex H H1 → lo + (i : Int) < n → EvL te ((wipe σ vs).set j (some (.int (lo + (i : Int))))) H1 (Ints (row i))) :
    EvLL (tLc (iRng2 ta) (gName j) tt te vs) σ H ((List.range (n - lo).toNat).map row) := fun H0 e Q q => h H0 e _ fun H1 e1 => ⟨lo, n, rfl, ⟨by omega, by omega, by omega, by omega⟩, fun Dl hD =>
  lc_range (lo := lo) (n := (n - lo).toNat) (Cl H1 Dl fun i => (List.range i).map row) ⟨[], Ex.new hD, upd_same, .nil⟩ (fun i H' hi p => ⟨hw _, cl_turn p hD (by rw [List.length_map, List.length_range]; omega) (ht _ _) (he i H1 (e.trans e1) (by omega)) (by rw [List.range_succ, List.map_append] <;> rfl)⟩)
    (fun H' ⟨us, p1, p2, p3⟩ => q Dl us H' _ (fresh_back e1 hD) (e1.trans p1) p2 (e1.trans (Ex.new hD)) (by rw [upd_same]; exact fun z => by cases z) p3)⟩
/-- [.. for row in rows], each a new list -/
theorem el_lcLL {a : Addr} {us : List V} {S : List (List Int)} {j : Nat} {vs : List Nat} (g : List Int → List Int) (h : Ev tl σ H (.ref a)) (hx : Lst H a us) (hS : ILs H us S) (hz : S.length ≤ 40000) (hw : ∀ x, wipe ((wipe σ vs).set j (some x)) vs = wipe σ vs)
    (ht : ∀ (x : V) H1, EvT tt ((wipe σ vs).set j (some x)) H1 true) (he : ∀ (r : Addr) (row : List Int) H1, Ex H H1 → row ∈ S → IL H1 r row → EvL te ((wipe σ vs).set j (some (.ref r))) H1 (Ints (g row))) :
    EvLL (tLc (iList K tl) (gName j) tt te vs) σ H (S.map g) := fun H0 e Q q => h H0 e _ fun H1 e1 => ⟨a, rfl, ⟨us, sq_of ((e.trans e1) a _ hx)⟩, fun Dl hD =>
  lc_list (xs := us) (Cl H1 Dl fun i => (S.take i).map g) ⟨[], Ex.new hD, upd_same, by simp; exact .nil⟩ (fun i H' _ ⟨_, p, _⟩ => sq_of ((e.trans e1).trans p a _ hx)) (fun i x H' hi p => by
    obtain ⟨r, row, rfl, h3, h4⟩ := hS.at hi
    refine ⟨hw _, cl_turn p hD ?_ (ht _ _) (he r row H1 (e.trans e1) (List.mem_of_getElem? h3) ((e.trans e1) r _ h4)) ?_⟩
    · have : (S.take i).length ≤ S.length := List.length_take_le' i S
      rw [List.length_map]
      omega
    · show (S.take (i + 1)).map g = _
      rw [take_more h3, List.map_append] <;> rfl)
    (fun H' ⟨ws, p1, p2, p3⟩ => by
      have hl := hS.len
      simp only [hl, List.take_length] at p3
      exact q Dl ws H' _ (fresh_back e1 hD) (e1.trans p1) p2 (e1.trans (Ex.new hD)) (by rw [upd_same]; exact fun z => by cases z) p3)⟩
/-- what evaluates to a list of rows that satisfies P -/
def EvLP (te : TE) (σ : L2.St) (H : Hp) (S : List (List Int)) (P : Hp → List V → Hp → Prop) : Prop := ∀ H1, Ex H H1 → ∀ Q : VK, (∀ p us H2, H1 p = none → Ex H1 H2 → H2 p = some (.lst us) → ILs H2 us S → P H1 us H2 → Q (.ref p) H2) → te σ H1 Q
theorem given_pick {us : List V} {S : List (List Int)} {f : List Int → Bool} (hS : ILs H us S) : ILs H (given us.length (fun i => f (S.getD i [])) (fun i => us.getD i .non)) (S.filter f) ∧ ∀ v ∈ given us.length (fun i => f (S.getD i [])) (fun i => us.getD i .non), v ∈ us := by
  constructor
  · have h1 := hS.pick ((List.range us.length).filter fun i => f (S.getD i [])) fun i hi => List.mem_range.mp (List.mem_filter.mp hi).1
    have e : (List.range S.length).map (fun i => S.getD i []) = S := by
      refine List.ext_getElem (by simp) fun k h1 h2 => ?_
      simp [List.getD_eq_getElem?_getD, List.getElem?_eq_getElem h2]
    have e2 : ((List.range us.length).filter fun i => f (S.getD i [])).map (fun i => S.getD i []) = S.filter f := by
      rw [hS.len]
      have h := congrArg (List.filter f) e
      rw [List.filter_map] at h
      exact h
    rw [e2] at h1
    exact h1
  · intro v hv
    unfold given at hv
    obtain ⟨i, hi2, rfl⟩ := List.mem_map.mp hv
    have hi3 := List.mem_range.mp (List.mem_filter.mp hi2).1
    rw [List.getD_eq_getElem?_getD, List.getElem?_eq_getElem hi3]
    exact List.getElem_mem hi3
/-- [row for row in rows if f row] -/
theorem eo_lcF {S : List (List Int)} {P : Hp → List V → Hp → Prop} {j : Nat} {vs : List Nat} (f : List Int → Bool) (h : EvLP tl σ H S P) (hz : S.length ≤ 40000) (hw : ∀ x, wipe ((wipe σ vs).set j (some x)) vs = wipe σ vs)
    (ht : ∀ (r : Addr) (row : List Int) H1, Ex H H1 → row ∈ S → IL H1 r row → EvT tt ((wipe σ vs).set j (some (.ref r))) H1 (f row)) (he : ∀ (x : V) H1, Ev te ((wipe σ vs).set j (some x)) H1 x) :
    ∀ H1, Ex H H1 → ∀ Q : VK, (∀ p2 us2 H3 us H2, Ex H1 H2 → Ex H2 H3 → H2 p2 = none → H3 p2 = some (.lst us2) → ILs H3 us2 (S.filter f) → (∀ v ∈ us2, v ∈ us) → ILs H2 us S → P H1 us H2 → Q (.ref p2) H3) → tLc (iList K tl) (gName j) tt te vs σ H1 Q := fun H0 e Q q => h H0 e _ fun a us H1 ha e1 hx hS hP => ⟨a, rfl, ⟨us, sq_of hx⟩, fun Dl hD => by
  have hlen := hS.len
  obtain ⟨g1, g2⟩ := given_pick (f := f) hS
  refine lc_list (xs := us) (Cw H1 (fun i => f (S.getD i [])) (fun i => us.getD i .non) Dl) ⟨hD, Ex.new hD, upd_same⟩ (fun i H' _ p => sq_of (p.2.1 a _ hx)) (fun i x H' hi p => ?_) (fun H' p => ?_)
  · obtain ⟨r, row, rfl, h3, h4⟩ := hS.at hi
    have hf : f (S.getD i []) = f row := by rw [List.getD_eq_getElem?_getD, h3] <;> rfl
    refine ⟨hw _, cw_turn p (by have := (List.getElem?_eq_some_iff.mp hi).1; omega) ?_ fun hf => ?_⟩
    · show EvT tt _ H1 (f (S.getD i []))
      rw [hf]
      exact ht r row H1 (e.trans e1) (List.mem_of_getElem? h3) h4
    · have hv : us.getD i .non = .ref r := by rw [List.getD_eq_getElem?_getD, hi] <;> rfl
      show Ev te _ H1 (us.getD i .non)
      rw [hv]
      exact he _ H1
  · obtain ⟨p1, p2, p3⟩ := p
    exact q Dl _ H' us H1 e1 p2 p1 p3 (g1.ex p2) g2 hS hP⟩
theorem EvLL.lp {S : List (List Int)} (h : EvLL te σ H S) : EvLP te σ H S fun H1 us H2 => ∃ B, Ex H1 B ∧ IFs B H2 us S := fun H1 e Q q => h H1 e _ fun p us H2 B hp e2 h2 eB hB hI => q p us H2 hp e2 h2 hI.il ⟨B, eB, hI⟩
theorem s_asgLL1 {D : Ends} {t : TA} {ns : List Int} {i : Nat} (h : EvA t σ H (Ints ns)) (hz : ns.length ≤ 100000) (k : ∀ p a H1, H p = none → Ex H H1 → H1 p = some (.lst [.ref a]) → ILs H1 [.ref a] [ns] → D.nx (σ.set i (some (.ref p))) H1) : tAsg (tLst (tCons (tLst t) tNil)) (gName i) D σ H :=
  (el_lst h (by rw [List.length_map]; exact hz)) H (Ex.refl H) (fun x H1 => [x].length ≤ sizeLine ∧ ∀ p, H1 p = none → D.nx (σ.set i (some (.ref p))) (L2.upd H1 p (.lst [x]))) fun a H1 ha e1 h1 => ⟨(by show (1 : Nat) ≤ sizeLine; decide), fun p hp =>
    k p a _ (fresh_back e1 hp) (e1.trans (Ex.new hp)) upd_same (.cons ((Ex.new hp) a _ h1) .nil)⟩
theorem s_retXL {D : Ends} {ls : List (List Int)} (h : EvLL te σ H ls) (k : ∀ p us H1 B, H p = none → Ex H H1 → H1 p = some (.lst us) → Ex H B → B p ≠ none → IFs B H1 us ls → D.rt (.ref p) H1) : tRet te D σ H := h H (Ex.refl H) _ k
theorem s_retX {D : Ends} (h : te σ H D.rt) : tRet te D σ H := h
theorem s_asgX {D : Ends} {i : Nat} (h : te σ H fun v H1 => D.nx (σ.set i (some v)) H1) : tAsg te (gName i) D σ H := h
/-- xs == ys, the left one new -/
theorem eqXLL {b : Addr} {us : List V} {S S2 : List (List Int)} (ha : EvLL ta σ H S) (hb : Ev tb σ H (.ref b)) (h2 : Lst H b us) (h3 : ILs H us S2) : Ev (tOp (rEqD K) ta tb) σ H (.bl (decide (S = S2))) := fun H1 e Q q =>
  ha H1 e _ fun p vs H2 B _ e2 hp _ _ hI => hb H2 (e.trans e2) _ fun H3 e3 => ⟨dLL S, dLL S2, dp_LL (e3 p _ hp) (hI.il.ex e3), dp_LL (((e.trans e2).trans e3) b _ h2) (h3.ex ((e.trans e2).trans e3)), sh_LL _, sh_LL _, by
    rw [eqv_LL]
    exact q H3 (e2.trans e3)⟩
theorem eqXI {b : Addr} {r s : List Int} (ha : EvL ta σ H (Ints r)) (hb : Ev tb σ H (.ref b)) (h2 : IL H b s) : Ev (tOp (rEqD K) ta tb) σ H (.bl (decide (r = s))) := fun H1 e Q q =>
  ha H1 e _ fun p H2 _ e2 hp => hb H2 (e.trans e2) _ fun H3 e3 => ⟨dI r, dI s, dp_I (e3 p _ hp), dp_I (((e.trans e2).trans e3) b _ h2), sh_I _, sh_I _, by
    rw [eqv_I]
    exact q H3 (e2.trans e3)⟩
theorem neXI {b : Addr} {r s : List Int} (ha : EvL ta σ H (Ints r)) (hb : Ev tb σ H (.ref b)) (h2 : IL H b s) : Ev (tOp (rNeD K) ta tb) σ H (.bl (!decide (r = s))) := fun H1 e Q q =>
  ha H1 e _ fun p H2 _ e2 hp => hb H2 (e.trans e2) _ fun H3 e3 => ⟨dI r, dI s, dp_I (e3 p _ hp), dp_I (((e.trans e2).trans e3) b _ h2), sh_I _, sh_I _, by
    rw [eqv_I]
    exact q H3 (e2.trans e3)⟩
end
theorem good_short {gs r : List Int} (h : Good gs r) (h21 : gs.length ≤ 21) : r.length ≤ 7 := by
  have hl := good_len h
  exact Nat.le_of_not_lt fun c => by
    have := Nat.mul_le_mul (show 8 ≤ r.length from c) (Nat.le_refl r.length)
    omega
section
variable {K : PySem.W.Frag} {σ : L2.St} {H H' : Hp} {ta tb te tl : TE} {tt : TT}
/-- lists that may be changed: each new beside B, none longer than n -/
def Free (B H : Hp) (us : List V) (n : Nat) : Prop := ∀ v ∈ us, ∃ (a : Addr) (ns : List V), v = .ref a ∧ B a = none ∧ H a = some (.lst ns) ∧ ns.length ≤ n
theorem IFs.free {B : Hp} {us : List V} {ls : List (List Int)} {n : Nat} (h : IFs B H us ls) (hn : ∀ r ∈ ls, r.length ≤ n) : Free B H us n := by
  induction h with
  | nil => exact fun v hv => by cases hv
  | @cons a ns vs ls h1 h2 _ ih =>
    intro v hv
    rcases List.mem_cons.mp hv with rfl | hv
    · exact ⟨a, Ints ns, rfl, h1, h2, by rw [List.length_map]; exact hn ns List.mem_cons_self⟩
    · exact ih (fun r hr => hn r (List.mem_cons_of_mem _ hr)) v hv
theorem Free.ex {B : Hp} {us : List V} {n : Nat} (h : Free B H us n) (e : Ex H H') : Free B H' us n := fun v hv => by
  obtain ⟨a, ns, h1, h2, h3, h4⟩ := h v hv
  exact ⟨a, ns, h1, h2, e a _ h3, h4⟩
theorem Free.put {B : Hp} {us : List V} {n : Nat} {b : Addr} {ms : List V} (h : Free B H us n) (hm : ms.length ≤ n + 1) : Free B (L2.upd H b (.lst ms)) us (n + 1) := fun v hv => by
  obtain ⟨a, ns, h1, h2, h3, h4⟩ := h v hv
  by_cases c : a = b
  · subst c
    exact ⟨a, ms, h1, h2, upd_same, hm⟩
  · exact ⟨a, ns, h1, h2, by rw [upd_ne c]; exact h3, by omega⟩
theorem eqLLN_ {a : Addr} {vs : List V} {ns : List (List Int)} (ha : Ev ta σ H (.ref a)) (h1 : Lst H a vs) (l1 : ILs H vs ns) (hb : EvL tb σ H []) : Ev (tOp (rEqD K) ta tb) σ H (.bl (decide (ns = []))) := fun H1 e Q q =>
  ha H1 e _ fun H2 e2 => hb H2 (e.trans e2) _ fun b H3 _ e3 h2 => ⟨dLL ns, dLL [], dp_LL (((e.trans e2).trans e3) a _ h1) (l1.ex ((e.trans e2).trans e3)), dp_LL h2 .nil, sh_LL _, sh_LL _, by
    rw [eqv_LL]
    exact q H3 (e2.trans e3)⟩
end
end Rg

set_option Elab.async false
set_option linter.all false
set_option maxRecDepth 100000
set_option maxHeartbeats 1000000
/-! Rg, part P: the road seen from its other end; more comparisons. -/
namespace Rg
open PySem PySem.Spec PyProof.Rows L2 Evl
def mirP (r : List Int) : List Int := r.reverse.map fun x => topI r - x
theorem prs_flip (c : Int) : ∀ xs : List Int, prs (xs.map fun x => c - x) = prs xs
  | [] => rfl
  | x :: xs => by
    have e : ∀ y : Int, ab (c - x - (c - y)) = ab (x - y) := fun y => by
      rw [show c - x - (c - y) = y - x by omega, ab_swap]
    show ((xs.map fun x => c - x).map fun y => ab (c - x - y)) ++ prs (xs.map fun x => c - x) = (xs.map fun y => ab (x - y)) ++ prs xs
    rw [prs_flip c xs, List.map_map]
    congr 1
    refine List.map_congr_left fun y _ => ?_
    exact e y
theorem mirP_btw (r : List Int) : btw (mirP r) = btw r := by
  rw [btw_prs, btw_prs, mirP, prs_flip]
  exact sortI_congr (prs_perm (List.reverse_perm r))
theorem mirP_len (r : List Int) : (mirP r).length = r.length := by
  rw [mirP, List.length_map, List.length_reverse]
theorem mirP_up {r : List Int} (h : r.Pairwise (· < ·)) : (mirP r).Pairwise (· < ·) := by
  rw [mirP, List.pairwise_map, List.pairwise_reverse]
  exact h.imp fun h => by omega
theorem mirP_first {r : List Int} (h : r ≠ []) : gi (mirP r) 0 = 0 := by
  have hl := List.length_pos_iff.mpr h
  have : mirP r ≠ [] := fun z => by
    have := mirP_len r
    rw [z] at this
    simp at this
    omega
  unfold mirP topI
  cases hr : r.reverse with
  | nil =>
    have : r.reverse.length = 0 := by rw [hr]; rfl
    rw [List.length_reverse] at this
    omega
  | cons y ys =>
    have e : r = ys.reverse ++ [y] := by
      have := congrArg List.reverse hr
      rw [List.reverse_reverse, List.reverse_cons] at this
      exact this
    show gi r (r.length - 1) - y = 0
    rw [e, List.length_append]
    have := gi_snoc (xs := ys.reverse) (y := y)
    show gi (ys.reverse ++ [y]) (ys.reverse.length + 1 - 1) - y = 0
    rw [Nat.add_sub_cancel, this]
    omega
theorem Good.mir {gs r : List Int} (h : Good gs r) : Good gs (mirP r) := by
  obtain ⟨h1, h2, h3, h4⟩ := h
  refine ⟨fun z => ?_, mirP_first h1, mirP_up h3, by rw [mirP_btw, h4]⟩
  have := mirP_len r
  rw [z] at this
  exact h1 (List.eq_nil_of_length_eq_zero this.symm)
theorem mirP_range (r : List Int) : (List.range r.length).map (fun i => topI r - gi r (r.length - 1 - i)) = mirP r := by
  refine List.ext_getElem (by simp [mirP]) fun k h1 h2 => ?_
  simp at h1
  simp [mirP, gi, List.getD_eq_getElem?_getD, List.getElem?_eq_getElem (show r.length - 1 - k < r.length by omega)]
theorem Good.road {gs r : List Int} (h : Good gs r) (hg : ∀ d ∈ gs, d ≤ 4000) (h21 : gs.length ≤ 21) : roadOk r := by
  have hs := good_short h h21
  refine roadOk_of h.1 (by omega) h.2.1 (fun x hx => ?_) h.2.2.1
  by_cases c : 2 ≤ r.length
  · obtain ⟨t1, t2⟩ := good_top h c
    have hne : gs ≠ [] := fun z => by
      have hl := good_len h
      have := Nat.mul_le_mul c (Nat.le_refl r.length)
      rw [z] at hl
      simp at hl
      omega
    have := t2 x hx
    have := hg _ (topI_mem hne)
    omega
  · obtain ⟨h1, h2, h3, h4⟩ := h
    match r, h1, h2, c, hx with
    | [y], _, h2, _, hx =>
      have h2 : y = 0 := h2
      rw [List.mem_singleton.mp hx]
      omega
    | y :: z :: t, _, _, c, _ => simp at c
section
variable {K : PySem.W.Frag} {σ : L2.St} {H H' : Hp} {ta tb te tl : TE} {tt : TT}
/-- xs != ys, ys new of old rows -/
theorem neLO {a : Addr} {us old : List V} {S S2 : List (List Int)} (ha : Ev ta σ H (.ref a)) (h1 : Lst H a us) (h2 : ILs H us S) (hb : EvLO tb σ H old S2) : Ev (tOp (rNeD K) ta tb) σ H (.bl (!decide (S = S2))) := fun H1 e Q q =>
  ha H1 e _ fun H2 e2 => hb H2 (e.trans e2) _ fun p vs H3 _ e3 hp hI _ => ⟨dLL S, dLL S2, dp_LL (((e.trans e2).trans e3) a _ h1) (h2.ex ((e.trans e2).trans e3)), dp_LL hp hI, sh_LL _, sh_LL _, by
    rw [eqv_LL]
    exact q H3 (e2.trans e3)⟩
theorem neLLN_ {a : Addr} {vs : List V} {ns : List (List Int)} (ha : Ev ta σ H (.ref a)) (h1 : Lst H a vs) (l1 : ILs H vs ns) (hb : EvL tb σ H []) : Ev (tOp (rNeD K) ta tb) σ H (.bl (!decide (ns = []))) := fun H1 e Q q =>
  ha H1 e _ fun H2 e2 => hb H2 (e.trans e2) _ fun b H3 _ e3 h2 => ⟨dLL ns, dLL [], dp_LL (((e.trans e2).trans e3) a _ h1) (l1.ex ((e.trans e2).trans e3)), dp_LL h2 .nil, sh_LL _, sh_LL _, by
    rw [eqv_LL]
    exact q H3 (e2.trans e3)⟩
/-- row not in rows -/
theorem niLL {r a : Addr} {us : List V} {row : List Int} {S : List (List Int)} (hx : Ev ta σ H (.ref r)) (hr : IL H r row) (ha : Ev tb σ H (.ref a)) (h1 : Lst H a us) (h2 : ILs H us S) : Ev (tOp (rNotInD K) ta tb) σ H (.bl (!decide (row ∈ S))) := fun H1 e Q q =>
  hx H1 e _ fun H2 e2 => ha H2 (e.trans e2) _ fun H3 e3 => ⟨dI row, S.map dI, dp_I (((e.trans e2).trans e3) r _ hr), dp_LL (((e.trans e2).trans e3) a _ h1) (h2.ex ((e.trans e2).trans e3)), sh_I _, sh_LL _, by
    rw [any_dI]
    exact q H3 (e2.trans e3)⟩
/-- row not in rows, row new -/
theorem niXL {a : Addr} {us : List V} {row : List Int} {S : List (List Int)} (hx : EvL ta σ H (Ints row)) (ha : Ev tb σ H (.ref a)) (h1 : Lst H a us) (h2 : ILs H us S) : Ev (tOp (rNotInD K) ta tb) σ H (.bl (!decide (row ∈ S))) := fun H1 e Q q =>
  hx H1 e _ fun p H2 _ e2 hp => ha H2 (e.trans e2) _ fun H3 e3 => ⟨dI row, S.map dI, dp_I (e3 p _ hp), dp_LL (((e.trans e2).trans e3) a _ h1) (h2.ex ((e.trans e2).trans e3)), sh_I _, sh_LL _, by
    rw [any_dI]
    exact q H3 (e2.trans e3)⟩
/-- row in [a, b] -/
theorem dp_two {a b : Addr} {r s : List Int} (h1 : IL H a r) (h2 : IL H b s) : DpAll K H [.ref a, .ref b] ([r, s].map dI) := .cons (dp_I h1) (.cons (dp_I h2) .nil)
theorem in2 {r a b : Addr} {row s t : List Int} {tx ty : TE} (hx : Ev ta σ H (.ref r)) (hr : IL H r row) (h1 : Ev tx σ H (.ref a)) (k1 : IL H a s) (h2 : Ev ty σ H (.ref b)) (k2 : IL H b t) : Ev (tOp (rInD K) ta (tLst (tCons tx (tCons ty tNil)))) σ H (.bl (decide (row ∈ [s, t]))) := fun H1 e Q q =>
  hx H1 e _ fun H2 e2 => el_lst (ea_cons h1 (ea_cons h2 ea_nil)) (by show (2 : Nat) ≤ 100000; decide) H2 (e.trans e2) _ fun p H3 _ e3 hp => ⟨dI row, [s, t].map dI, dp_I (((e.trans e2).trans e3) r _ hr), .lst (sq_of hp) (dp_two (((e.trans e2).trans e3) a _ k1) (((e.trans e2).trans e3) b _ k2)), sh_I _, sh_LL _, by
    rw [any_dI]
    exact q H3 (e2.trans e3)⟩
theorem ni2 {r a b : Addr} {row s t : List Int} {tx ty : TE} (hx : Ev ta σ H (.ref r)) (hr : IL H r row) (h1 : Ev tx σ H (.ref a)) (k1 : IL H a s) (h2 : Ev ty σ H (.ref b)) (k2 : IL H b t) : Ev (tOp (rNotInD K) ta (tLst (tCons tx (tCons ty tNil)))) σ H (.bl (!decide (row ∈ [s, t]))) := fun H1 e Q q =>
  hx H1 e _ fun H2 e2 => el_lst (ea_cons h1 (ea_cons h2 ea_nil)) (by show (2 : Nat) ≤ 100000; decide) H2 (e.trans e2) _ fun p H3 _ e3 hp => ⟨dI row, [s, t].map dI, dp_I (((e.trans e2).trans e3) r _ hr), .lst (sq_of hp) (dp_two (((e.trans e2).trans e3) a _ k1) (((e.trans e2).trans e3) b _ k2)), sh_I _, sh_LL _, by
    rw [any_dI]
    exact q H3 (e2.trans e3)⟩
/-- row not in [new, new] -/
theorem niX2 {r : Addr} {row s t : List Int} {tx ty : TE} (hx : Ev ta σ H (.ref r)) (hr : IL H r row) (h1 : EvL tx σ H (Ints s)) (h2 : EvL ty σ H (Ints t)) : Ev (tOp (rNotInD K) ta (tLst (tCons tx (tCons ty tNil)))) σ H (.bl (!decide (row ∈ [s, t]))) := fun H1 e Q q =>
  hx H1 e _ fun H2 e2 => h1 H2 (e.trans e2) _ fun a H3 _ e3 k1 => h2 H3 ((e.trans e2).trans e3) _ fun b H4 _ e4 k2 => ⟨(by show (2 : Nat) ≤ sizeLine; decide), fun p hp => ⟨dI row, [s, t].map dI, dp_I (((e.trans e2).trans (e3.trans e4)).trans (Ex.new hp) r _ hr), .lst (sq_of upd_same) (dp_two ((e4.trans (Ex.new hp)) a _ k1) ((Ex.new hp) b _ k2)), sh_I _, sh_LL _, by
    rw [any_dI]
    exact q _ (((e2.trans e3).trans e4).trans (Ex.new hp))⟩⟩
theorem neXX {r s : List Int} (ha : EvL ta σ H (Ints r)) (hb : EvL tb σ H (Ints s)) : Ev (tOp (rNeD K) ta tb) σ H (.bl (!decide (r = s))) := fun H1 e Q q =>
  ha H1 e _ fun a H2 _ e2 h1 => hb H2 (e.trans e2) _ fun b H3 _ e3 h2 => ⟨dI r, dI s, dp_I (e3 a _ h1), dp_I h2, sh_I _, sh_I _, by
    rw [eqv_I]
    exact q H3 (e2.trans e3)⟩
/-- xs[:1] -/
theorem el_to {a : Addr} {ns : List Int} {k : Nat} (ha : Ev ta σ H (.ref a)) (h : IL H a ns) (hk : Ev tb σ H (.int (k : Int))) : EvL (L2.tSl (rSlL K) ta tNoPart (tPart tb)) σ H (Ints (ns.take k)) := by
  have := el_sl (K := K) ha eo_none (eo_some hk) (sq_of h)
  rw [cut_to, ← List.map_take] at this
  exact this
theorem el_fromI {a : Addr} {ns : List Int} {k : Nat} (ha : Ev ta σ H (.ref a)) (h : IL H a ns) (hk : Ev tb σ H (.int (k : Int))) : EvL (L2.tSl (rSlL K) ta (tPart tb) tNoPart) σ H (Ints (ns.drop k)) := by
  have := el_sl (K := K) ha (eo_some hk) eo_none (sq_of h)
  rw [cut_from, ← List.map_drop] at this
  exact this
/-- [xs[-1] - x for x in reversed(xs)] -/
theorem el_mir {a : Addr} {ns : List Int} {j : Nat} {vs : List Nat} (h : Ev tl σ H (.ref a)) (hx : IL H a ns) (hn : ns ≠ []) (hz : ns.length ≤ 40000) (hw : ∀ x, wipe ((wipe σ vs).set j (some x)) vs = wipe σ vs) (ht : ∀ (x : V) H1, EvT tt ((wipe σ vs).set j (some x)) H1 true)
    (he : ∀ (d : Int) H1, Ex H H1 → Ev te ((wipe σ vs).set j (some (.int d))) H1 (.int (topI ns - d))) : EvL (tLc (iRev K (tCons tl tNil)) (gName j) tt te vs) σ H (Ints (mirP ns)) := by
  have hl : (Ints ns).length = ns.length := List.length_map _
  have e : Ints (mirP ns) = given (Ints ns).length (fun _ => true) fun i => .int (topI ns - gi ns (ns.length - 1 - i)) := by
    rw [given_all, hl, ← mirP_range, Ints, List.map_map]
    rfl
  rw [e]
  refine el_lcRev _ _ (ea_cons h ea_nil) hx (by rw [hl]; exact hz) hw (fun i x H1 e1 _ _ => ht x H1) (fun i x H1 e1 hi hx2 _ => ?_)
  obtain ⟨d, hd, rfl⟩ := ints_at hx2
  rw [hl] at hd
  rw [gi_of hd]
  exact he d H1 e1
/-- d not in [..], d in [..] -/
theorem niN_ {ns : List Int} {d : Int} (hd : Ev ta σ H (.int d)) (hb : EvL tb σ H (Ints ns)) : Ev (tOp (rIn K true) ta tb) σ H (.bl (!decide (d ∈ ns))) := by
  have z := ev_opL hd hb fun p H1 h _ => rv_niL (K := K) (sq_of h) rfl (flats ns)
  rw [dIn] at z
  exact z
/-- sorted(set(xs)), xs stands -/
theorem el_sortSetV {w : World} {a : Addr} {ns : List Int} (h : Ev ta σ H (.ref a)) (hx : IL H a ns) (hz : ns.length < 64) : EvL (tCB (rSortedSet w) (tCons (tCB (rSetI K w) (tCons ta tNil)) tNil)) σ H (Ints (sortD ns)) := fun H1 e Q q =>
  h H1 e _ fun H2 e2 => ⟨a, ns, rfl, sq_of ((e.trans e2) a _ hx), by omega, fun b c hb ⟨ks, nd, hm, hc⟩ => ⟨b, _, c, rfl, upd_same, by
    have := set_many nd hm
    have := sortD_len ns
    omega, fun ms r up mem _ hr => by
    obtain rfl : ms = sortD ns := sortD_eq up (fun z => by rw [mem, decide_eq_true_eq])
    exact q r _ (fresh_back (e2.trans (Ex.new hb)) hr) ((e2.trans (Ex.new hb)).trans (Ex.new hr)) upd_same⟩⟩
/-- xs != ys, ys new -/
theorem neLP {a : Addr} {us : List V} {S S2 : List (List Int)} {P : Hp → List V → Hp → Prop} (ha : Ev ta σ H (.ref a)) (h1 : Lst H a us) (h2 : ILs H us S) (hb : EvLP tb σ H S2 P) : Ev (tOp (rNeD K) ta tb) σ H (.bl (!decide (S = S2))) := fun H1 e Q q =>
  ha H1 e _ fun H2 e2 => hb H2 (e.trans e2) _ fun p vs H3 _ e3 hp hI _ => ⟨dLL S, dLL S2, dp_LL (((e.trans e2).trans e3) a _ h1) (h2.ex ((e.trans e2).trans e3)), dp_LL hp hI, sh_LL _, sh_LL _, by
    rw [eqv_LL]
    exact q H3 (e2.trans e3)⟩
theorem atI_pred {us : List V} {i : Nat} {v : V} (h0 : 0 < i) (h : us[i - 1]? = some v) : atI us ((i : Int) - 1) = some v := by
  rw [show (i : Int) - 1 = ((i - 1 : Nat) : Int) by omega]
  exact atI_nat h
end
end Rg

set_option Elab.async false
set_option linter.all false
set_option maxRecDepth 100000
set_option maxHeartbeats 1000000
/-! Rg, part V: twins. -/
namespace Rg
open PySem PySem.Spec PyProof.Rows L2 Evl
theorem ab_mul {t z : Int} (ht : 0 ≤ t) : ab (t * z) = t * ab z := by
  unfold ab
  by_cases hz : z < 0
  · rw [if_pos hz]
    by_cases h : t * z < 0
    · rw [if_pos h, Int.mul_neg]
    · rw [if_neg h]
      have h1 := Int.mul_nonneg ht (show 0 ≤ -z by omega)
      rw [Int.mul_neg] at h1 ⊢
      omega
  · rw [if_neg hz]
    have h1 := Int.mul_nonneg ht (show 0 ≤ z by omega)
    rw [if_neg (by omega)]
theorem prs_mul {t : Int} (ht : 0 ≤ t) : ∀ xs : List Int, prs (xs.map fun x => t * x) = (prs xs).map fun x => t * x
  | [] => rfl
  | x :: xs => by
    show ((xs.map fun x => t * x).map fun y => ab (t * x - y)) ++ prs (xs.map fun x => t * x) = ((xs.map fun y => ab (x - y)) ++ prs xs).map fun x => t * x
    rw [List.map_append, prs_mul ht xs, List.map_map, List.map_map]
    congr 1
    refine List.map_congr_left fun y _ => ?_
    show ab (t * x - t * y) = t * ab (x - y)
    rw [← Int.mul_sub, ab_mul ht]
def rdT (t : Int) : List Int := [0, 1, 4, 10, 12, 17].map fun x => t * x
def twT (t : Int) : List Int := [0, 1, 8, 11, 13, 17].map fun x => t * x
theorem tw_btw {t : Int} (ht : 0 ≤ t) : btw (twT t) = btw (rdT t) := by
  rw [btw_prs, btw_prs, rdT, twT, prs_mul ht, prs_mul ht]
  exact sortI_congr ((show (prs [0, 1, 8, 11, 13, 17]).Perm (prs [0, 1, 4, 10, 12, 17]) by decide).map _)
theorem rdT_eq (t : Int) : rdT t = [0, t, 4 * t, 10 * t, 12 * t, 17 * t] := by
  simp [rdT, Int.mul_comm]
theorem twT_eq (t : Int) : twT t = [0, t, 8 * t, 11 * t, 13 * t, 17 * t] := by
  simp [twT, Int.mul_comm]
theorem mirT_eq (t : Int) : mirP (rdT t) = [0, 5 * t, 7 * t, 13 * t, 16 * t, 17 * t] := by
  rw [rdT_eq]
  simp [mirP, topI, gi]
  omega
theorem mirT2_eq (t : Int) : mirP (mirP (rdT t)) = rdT t := by
  rw [mirT_eq, rdT_eq]
  simp [mirP, topI, gi]
  omega
theorem up6 {a b c d e : Int} (h : 0 < a ∧ a < b ∧ b < c ∧ c < d ∧ d < e) : ([0, a, b, c, d, e] : List Int).Pairwise (· < ·) := by
  simp
  omega
theorem road6 {a b c d e : Int} (h : 0 < a ∧ a < b ∧ b < c ∧ c < d ∧ d < e ∧ e ≤ 4000) : roadOk [0, a, b, c, d, e] := roadOk_of (by simp) (by simp) rfl (fun x hx => by simp at hx; omega) (up6 (by omega))
/-- the road and its known twin -/
def t7 (ns : List Int) : Int := 1 + cell ns 1 / 6 % 20
def st7 (ns : List Int) : Int := gi [2, 5, 40] (cell ns 0 / 7 % 3).toNat
def lr7 (ns : List Int) : List Int := lroad ns 2 (st7 ns) (cell ns 0 % 7).toNat
def rd7 (ns : List Int) : List Int := if cell ns 1 % 3 = 1 then (if cell ns 1 / 3 % 2 = 1 then mirP (rdT (t7 ns)) else rdT (t7 ns)) else lr7 ns
def tw7 (ns : List Int) : Option (List Int) := if cell ns 1 % 3 = 1 then some (twT (t7 ns)) else none
theorem t7_ok (ns : List Int) : 1 ≤ t7 ns ∧ t7 ns ≤ 20 := by
  unfold t7
  omega
theorem st7_ok (ns : List Int) : 0 < st7 ns ∧ st7 ns ≤ 40 := by
  have := gi3 (x := 2) (y := 5) (z := 40) (i := cell ns 0 / 7 % 3) (by omega) (by omega)
  unfold st7
  omega
theorem lr7_ok (ns : List Int) : roadOk (lr7 ns) ∧ (lr7 ns).length ≤ 7 := by
  obtain ⟨h1, h2⟩ := st7_ok ns
  have hm := Int.mul_le_mul (show (((cell ns 0 % 7).toNat : Nat) : Int) ≤ 6 by omega) h2 (by omega) (by decide)
  refine ⟨lroad_ok ns 2 h1 (by omega) (by omega), ?_⟩
  rw [lr7, lroad_len]
  omega
theorem rdT_ok {t : Int} (h : 1 ≤ t ∧ t ≤ 20) : roadOk (rdT t) ∧ roadOk (mirP (rdT t)) := by
  rw [mirT_eq, rdT_eq]
  exact ⟨road6 (by omega), road6 (by omega)⟩
theorem rd7_ok (ns : List Int) : roadOk (rd7 ns) ∧ (rd7 ns).length ≤ 7 := by
  obtain ⟨h1, h2⟩ := rdT_ok (t7_ok ns)
  unfold rd7
  split
  · split
    · exact ⟨h2, by rw [mirT_eq]; simp⟩
    · exact ⟨h1, by rw [rdT_eq]; simp⟩
  · exact lr7_ok ns
theorem tw7_ok {ns tw : List Int} (h : tw7 ns = some tw) : Good (btw (rd7 ns)) tw ∧ tw ∉ [rd7 ns, mirP (rd7 ns)] := by
  obtain ⟨ht1, ht2⟩ := t7_ok ns
  unfold tw7 at h
  split at h
  · rename_i hc
    cases h
    have hb : btw (twT (t7 ns)) = btw (rd7 ns) := by
      rw [tw_btw (by omega), rd7, if_pos hc]
      split
      · rw [mirP_btw]
      · rfl
    refine ⟨⟨by rw [twT_eq]; simp, by rw [twT_eq]; rfl, by rw [twT_eq]; exact up6 (by omega), hb⟩, ?_⟩
    rw [rd7, if_pos hc]
    split
    · rw [mirT2_eq, mirT_eq, rdT_eq, twT_eq]
      simp
      omega
    · rw [mirT_eq, rdT_eq, twT_eq]
      simp
      omega
  · cases h
theorem road_gaps {r : List Int} (h : roadOk r) (h7 : r.length ≤ 7) : (btw r).length ≤ 21 ∧ gapsOk (btw r) := by
  have hl := btw_len2 r
  have hn := up_nodup h.up
  have hne := h.ne
  refine ⟨?_, gapsOk_of (btw_up r) fun d hd => ?_⟩
  · have hm := Nat.mul_le_mul (show r.length - 1 ≤ 6 by omega) h7
    have e : r.length * r.length = (r.length - 1) * r.length + r.length := by
      have hp := h.1
      obtain ⟨k, hk⟩ : ∃ k, r.length = k + 1 := ⟨r.length - 1, by omega⟩
      rw [hk, Nat.add_sub_cancel, ← Nat.succ_mul]
    omega
  · have h1 : 1 ≤ d := lbw_pos (by rw [lbw_btw hn]; exact hd)
    have h2 : d ≤ 4000 := by
      have hd := (btw_perm_prs r).mem_iff.mp hd
      refine prs_le (fun x hx => ⟨?_, ?_⟩) d hd
      · exact Good.le ⟨hne, h.2.2.1, h.up, rfl⟩ x hx
      · have := top_le (h.up.imp fun h => by omega) x hx
        have := h.2.2.2.1
        unfold topI at *
        omega
    exact ⟨h1, h2⟩
theorem road_good {r : List Int} (h : roadOk r) : Good (btw r) r := ⟨h.ne, h.2.2.1, h.up, rfl⟩
def twins (r : List Int) : List (List Int) := (roadsF (btw r)).filter fun x => !decide (x ∈ [r, mirP r])
theorem twins_mem {r : List Int} (h : roadOk r) (h7 : r.length ≤ 7) {x : List Int} : x ∈ twins r ↔ Good (btw r) x ∧ x ∉ [r, mirP r] := by
  obtain ⟨h1, h2⟩ := road_gaps h h7
  rw [twins, List.mem_filter, roadsF_iff (btw_up r) h2.pos h1]
  simp
/-- all that is told, counted -/
theorem filter_two {S : List (List Int)} {r m : List Int} (hn : S.Nodup) (h1 : r ∈ S) (h2 : m ∈ S) : (S.filter fun x => !decide (x ∈ [r, m])).length + 1 + (if r = m then 0 else 1) = S.length := by
  have hp : S.Perm ((if r = m then [r] else [r, m]) ++ S.filter fun x => !decide (x ∈ [r, m])) := by
    refine (List.perm_ext_iff_of_nodup hn ?_).mpr fun z => ?_
    · refine List.nodup_append.mpr ⟨?_, hn.filter _, fun x hx y hy e => ?_⟩
      · split
        · simp
        · rename_i h
          simp [h]
      · have := (List.mem_filter.mp hy).2
        simp at this
        rw [← e] at this
        split at hx <;> simp at hx <;> rcases hx with rfl | rfl <;> simp at this
    · rw [List.mem_append, List.mem_filter]
      by_cases hz : z ∈ [r, m]
      · have hzS : z ∈ S := by
          simp at hz
          rcases hz with rfl | rfl <;> assumption
        have : z ∈ (if r = m then [r] else [r, m]) := by
          split
          · rename_i h
            simp at hz
            rcases hz with rfl | rfl
            · simp
            · rw [h]; simp
          · exact hz
        simp [hzS, this]
      · have : z ∉ (if r = m then [r] else [r, m]) := by
          simp at hz
          split <;> simp [hz]
        simp only [this, false_or]
        simp [hz]
  have hl := hp.length_eq
  rw [List.length_append] at hl
  split at hl
  · rename_i h
    rw [if_pos h]
    simp at hl ⊢
    omega
  · rename_i h
    rw [if_neg h]
    simp at hl ⊢
    omega
end Rg

set_option Elab.async false
set_option linter.all false
set_option maxRecDepth 100000
set_option maxHeartbeats 1000000
/-! Rg, part Y: roads crossed. -/
namespace Rg
open PySem PySem.Spec PyProof.Rows L2 Evl
def addR (ys : List Int) (x : Int) : List Int := ys.map fun y => x + y
def sumsP (xs ys : List Int) : List Int := sortI (xs.flatMap (addR ys))
def manyP (one other : List Int) : Prop := 50 < one.length * other.length ∨ 4000 < topI one + topI other
def twice (r : List Int) : Prop := (sortD r).length < r.length
def meetP (one other : List Int) : Prop := twice (sumsP one other) ∨ twice (sumsP one (mirP other))
instance (r : List Int) : Decidable (twice r) := by unfold twice; exact inferInstance
instance (a b : List Int) : Decidable (manyP a b) := by unfold manyP; exact inferInstance
instance (a b : List Int) : Decidable (meetP a b) := by unfold meetP; exact inferInstance
open Classical in
noncomputable def refX (one other : List Int) : Option String := if ¬ (roadOk one ∧ roadOk other) then some "NoRoad" else if manyP one other then some "TooMany" else if meetP one other then some "Meets" else none
theorem refX_1 {one other : List Int} (h : ¬ (roadOk one ∧ roadOk other)) : refX one other = some "NoRoad" := if_pos h
theorem refX_2 {one other : List Int} (h1 : roadOk one) (h2 : roadOk other) (h : manyP one other) : refX one other = some "TooMany" := by
  rw [refX, if_neg (fun z => z ⟨h1, h2⟩), if_pos h]
theorem refX_3 {one other : List Int} (h1 : roadOk one) (h2 : roadOk other) (h : ¬ manyP one other) (h3 : meetP one other) : refX one other = some "Meets" := by
  rw [refX, if_neg (fun z => z ⟨h1, h2⟩), if_neg h, if_pos h3]
theorem refX_4 {one other : List Int} (h1 : roadOk one) (h2 : roadOk other) (h : ¬ manyP one other) (h3 : ¬ meetP one other) : refX one other = none := by
  rw [refX, if_neg (fun z => z ⟨h1, h2⟩), if_neg h, if_neg h3]
theorem flat_addR (ys : List Int) : ∀ xs : List Int, (xs.flatMap (addR ys)).length = xs.length * ys.length
  | [] => by simp
  | x :: xs => by
    rw [List.flatMap_cons, List.length_append, flat_addR ys xs, addR, List.length_map, List.length_cons, Nat.succ_mul]
    omega
theorem sumsP_len (xs ys : List Int) : (sumsP xs ys).length = xs.length * ys.length := by
  rw [sumsP, sortI_len, flat_addR]
theorem sumsP_perm {xs ys zs : List Int} (h : ys.Perm zs) : sumsP xs ys = sumsP xs zs := by
  refine sortI_congr ?_
  induction xs with
  | nil => exact .refl _
  | cons x xs ih =>
    rw [List.flatMap_cons, List.flatMap_cons]
    exact (h.map _).append ih
/-- the other road seen from its end, not turned round -/
theorem mir_perm (r : List Int) : (r.map fun x => topI r - x).Perm (mirP r) := by
  unfold mirP
  exact (List.reverse_perm r).symm.map _
section
variable {K : PySem.W.Frag} {σ : L2.St} {H H' : Hp} {ta tb te tl : TE} {tt : TT}
/-- for x in one: row.extend([x + y for y in other]) -/
theorem s_sums {D : Ends} {a b l : Addr} {xs ys : List Int} {v3 v4 : Option V} {H0 : Hp} (ha : IL H a xs) (hb : IL H b ys) (hl : Lst H l []) (h0 : Ex H0 H) (hln : H0 l = none) (hn : xs.length * ys.length ≤ 40000) (hn2 : ys.length ≤ 10000) (hal : a ≠ l) (hbl : b ≠ l)
    (k : ∀ v3 H', Ex H0 H' → IL H' l (xs.flatMap (addR ys)) → IL H' a xs → D.nx [some (.ref a), some (.ref b), some (.ref l), v3, v4] H') :
    tFor (iList K (tVar 0)) (gName 3) (tDrop (tBM K "list" rExtend (tVar 2) (tCons (tLc (iList K (tVar 1)) (gName 4) tYes (tOp (rI0 fun i j => .int (i + j)) (tVar 3) (tVar 4)) [4]) tNil))) D [some (.ref a), some (.ref b), some (.ref l), v3, v4] H := by
  refine s_forL v_ (sq_of ha) (fun i σ H' => ∃ v3, σ = [some (.ref a), some (.ref b), some (.ref l), v3, v4] ∧ Ex H0 H' ∧ IL H' a xs ∧ IL H' b ys ∧ IL H' l ((xs.take i).flatMap (addR ys)))
    (fun H1 e1 => ⟨v3, rfl, h0.trans e1, e1 a _ ha, e1 b _ hb, e1 l _ hl⟩) (fun i σ H' _ ⟨_, _, _, e, _⟩ => sq_of e) ?_ ?_
  · rintro i x σ H1 hi ⟨v3, rfl, e1, h1a, h1b, h1l⟩
    obtain ⟨x, hx, rfl⟩ := ints_at hi
    have hlen : ((xs.take i).flatMap (addR ys)).length + ys.length ≤ 50000 := by
      rw [flat_addR]
      have := Nat.mul_le_mul (List.length_take_le' i xs) (Nat.le_refl ys.length)
      omega
    have hadd : addR ys x = (ys.filter fun _ => true).map fun y => x + y := by rw [List.filter_eq_self.mpr fun _ _ => rfl] <;> rfl
    refine s_extX (fun _ zs _ => zs = Ints (addR ys x)) h1l v_ (fun H2 e2 Q q => (by
      rw [hadd] at q
      exact el_lcI (K := K) (fun _ => true) (fun y => x + y) v_ (e2 b _ h1b) (by omega) (fun _ => rfl) (fun _ _ _ _ => et_yes) (fun y _ _ _ _ => add_ v_ v_) H2 (Ex.refl H2) _ fun p H3 _ e3 h3 => q p _ H3 e3 h3 rfl)) fun p zs H2 e2 h2 hz => ?_
    subst hz
    refine ⟨by simp only [List.length_map, addR] at hlen ⊢; omega, _, rfl, Ex.mut (e1.trans e2) hln, ?_, ?_, ?_⟩
    · show L2.upd H2 l _ a = _
      rw [upd_ne hal]
      exact e2 a _ h1a
    · show L2.upd H2 l _ b = _
      rw [upd_ne hbl]
      exact e2 b _ h1b
    · refine il_upd ?_
      rw [take_more hx, List.flatMap_append, List.flatMap_singleton]
      simp [Ints]
  · rintro σ H1 ⟨v3, rfl, e1, h1a, h1b, h1l⟩
    rw [List.length_map, List.take_length] at h1l
    exact k v3 H1 e1 h1l h1a
/-- x = (new list, new list) -/
theorem s_asgXT {D : Ends} {i : Nat} {xs ys : List V} (h1 : EvL ta σ H xs) (h2 : ∀ H1, Ex H H1 → EvL tb σ H1 ys) (k : ∀ p f g H1, H p = none → H f = none → H g = none → g ≠ f → Ex H H1 → H1 p = some (.tup [.ref f, .ref g]) → Lst H1 f xs → Lst H1 g ys → D.nx (σ.set i (some (.ref p))) H1) :
    tAsg (tTup (tCons ta (tCons tb tNil))) (gName i) D σ H := h1 H (Ex.refl H) _ fun f H1 hf e1 hf1 => h2 H1 e1 H1 (Ex.refl H1) _ fun g H2 hg e2 hg2 => ⟨(by show (2 : Nat) ≤ sizeLine; decide), fun p hp =>
  k p f g _ (fresh_back (e1.trans e2) hp) hf (fresh_back e1 hg) (fun z => by rw [z, hf1] at hg; cases hg) ((e1.trans e2).trans (Ex.new hp)) upd_same ((Ex.new hp) f _ (e2 f _ hf1)) ((Ex.new hp) g _ hg2)⟩
/-- f(x, new list) -/
theorem el_callN2 {sp : Sp} {dvs : List V} {E : XK} {v : V} {ns : List Int} {xs : List V} (h1 : Ev ta σ H v) (h2 : EvL tb σ H (Ints ns)) (hs : ∀ c H1, Ex H H1 → IL H1 c ns → ∀ Q : VK, (∀ p H2, H1 p = none → Ex H1 H2 → H2 p = some (.lst xs) → Q (.ref p) H2) → ∀ E : XK, sp ([v, .ref c] ++ dvs) H1 Q E) :
    EvL (tCall sp dvs E (tCons ta (tCons tb tNil))) σ H xs := fun H1 e Q q => h1 H1 e _ fun H2 e2 => h2 H2 (e.trans e2) _ fun c H3 _ e3 hc => hs c H3 ((e.trans e2).trans e3) hc Q (fun p H4 hp e4 h4 => q p H4 (fresh_back (e2.trans e3) hp) ((e2.trans e3).trans e4) h4) E
/-! ### texts of which class: lists of truth values as data -/
def dB (bs : List Bool) : PyData := .list (bs.map .bool)
abbrev Bools (bs : List Bool) : List V := bs.map V.bl
theorem dp_B {a : Addr} {bs : List Bool} (h : Lst H a (Bools bs)) : Dp K H (.ref a) (dB bs) := .lst (sq_of h) (by
  induction bs generalizing a with
  | nil => exact .nil
  | cons b bs ih =>
    have : ∀ bs : List Bool, DpAll K H (Bools bs) (bs.map .bool) := fun bs => by
      induction bs with
      | nil => exact .nil
      | cons b bs ih => exact .cons (.bl b) ih
    exact this (b :: bs))
theorem lay_Bs (bs : List Bool) : PyData.canLayAll0 (bs.map .bool) = true := by
  induction bs with
  | nil => rfl
  | cons x xs ih => simp [PyData.canLayAll0, PyData.canLay0, ih]
theorem depth_Bs (bs : List Bool) : PyData.depthAll (bs.map .bool) = 0 := by
  induction bs with
  | nil => rfl
  | cons x xs ih => simp [PyData.depthAll, PyData.depth, ih]
theorem sh_B (bs : List Bool) : SeqAt.shaped (dB bs) = true := by
  simp [SeqAt.shaped, dB, PyData.canLay0, PyData.depth, lay_Bs, depth_Bs]
theorem eqvs_B : ∀ bs cs : List Bool, PyData.eqvAll (bs.map .bool) (cs.map .bool) = decide (bs = cs)
  | [], [] => by simp [PyData.eqvAll]
  | [], _ :: _ => by simp [PyData.eqvAll]
  | _ :: _, [] => by simp [PyData.eqvAll]
  | x :: xs, y :: ys => by
    rw [Bool.eq_iff_iff]
    simp [PyData.eqvAll, PyData.eqv, eqvs_B xs ys]
theorem eqv_B (bs cs : List Bool) : PyData.eqv (dB bs) (dB cs) = decide (bs = cs) := by
  simp [dB, PyData.eqv, eqvs_B]
/-- kinds != [], == [..] -/
theorem neBN {a : Addr} {bs cs : List Bool} (ha : Ev ta σ H (.ref a)) (h1 : Lst H a (Bools bs)) (hb : EvL tb σ H (Bools cs)) : Ev (tOp (rNeD K) ta tb) σ H (.bl (!decide (bs = cs))) := fun H1 e Q q =>
  ha H1 e _ fun H2 e2 => hb H2 (e.trans e2) _ fun b H3 _ e3 h2 => ⟨dB bs, dB cs, dp_B (((e.trans e2).trans e3) a _ h1), dp_B h2, sh_B _, sh_B _, by
    rw [eqv_B]
    exact q H3 (e2.trans e3)⟩
theorem eqBB {a b : Addr} {bs cs : List Bool} (ha : Ev ta σ H (.ref a)) (h1 : Lst H a (Bools bs)) (hb : Ev tb σ H (.ref b)) (h2 : Lst H b (Bools cs)) : Ev (tOp (rEqD K) ta tb) σ H (.bl (decide (bs = cs))) := fun H1 e Q q =>
  ha H1 e _ fun H2 e2 => hb H2 (e.trans e2) _ fun H3 e3 => ⟨dB bs, dB cs, dp_B (((e.trans e2).trans e3) a _ h1), dp_B (((e.trans e2).trans e3) b _ h2), sh_B _, sh_B _, by
    rw [eqv_B]
    exact q H3 (e2.trans e3)⟩
def dNB (bs : List Bool) : PyData := .tuple [.none, dB bs]
theorem sh_NB (bs : List Bool) : SeqAt.shaped (dNB bs) = true := by
  simp [SeqAt.shaped, dNB, dB, PyData.canLay0, PyData.canLayAll0, PyData.depth, PyData.depthAll, lay_Bs, depth_Bs]
theorem eqv_NB (bs cs : List Bool) : PyData.eqv (dNB bs) (dNB cs) = decide (bs = cs) := by
  have := eqv_B bs cs
  simp [dNB, PyData.eqv, PyData.eqvAll] at this ⊢
  exact this
theorem dp_NB {p a : Addr} {bs : List Bool} (hp : H p = some (.tup [.non, .ref a])) (h : Lst H a (Bools bs)) : Dp K H (.ref p) (dNB bs) := .tup (st_of hp) (.cons .non (.cons (dp_B h) .nil))
/-- (None, kinds) == (None, kinds) -/
theorem eqNB {p a b : Addr} {bs cs : List Bool} {tc : TE} (ha : Ev ta σ H (.ref p)) (hp : H p = some (.tup [.non, .ref a])) (h1 : Lst H a (Bools bs)) (hb : Ev tb σ H .non) (hc : Ev tc σ H (.ref b)) (h2 : Lst H b (Bools cs)) : Ev (tOp (rEqD K) ta (tTup (tCons tb (tCons tc tNil)))) σ H (.bl (decide (bs = cs))) := fun H1 e Q q =>
  ha H1 e _ fun H2 e2 => eu_tup (ea_cons hb (ea_cons hc ea_nil)) (by show (2 : Nat) ≤ 100000; decide) H2 (e.trans e2) _ fun r H3 hr e3 h3 => ⟨dNB bs, dNB cs, dp_NB (((e.trans e2).trans e3) p _ hp) (((e.trans e2).trans e3) a _ h1), dp_NB h3 (((e.trans e2).trans e3) b _ h2), sh_NB _, sh_NB _, by
    rw [eqv_NB]
    exact q H3 (e2.trans e3)⟩
theorem neNBN {p a : Addr} {bs cs : List Bool} {tc : TE} (ha : Ev ta σ H (.ref p)) (hp : H p = some (.tup [.non, .ref a])) (h1 : Lst H a (Bools bs)) (hb : Ev tb σ H .non) (hc : EvL tc σ H (Bools cs)) : Ev (tOp (rNeD K) ta (tTup (tCons tb (tCons tc tNil)))) σ H (.bl (!decide (bs = cs))) := fun H1 e Q q =>
  ha H1 e _ fun H2 e2 => hb H2 (e.trans e2) _ fun H3 e3 => hc H3 ((e.trans e2).trans e3) _ fun b H4 _ e4 h4 => ⟨(by show (2 : Nat) ≤ sizeLine; decide), fun r hr => by
    have e5 := (((e.trans e2).trans e3).trans e4).trans (Ex.new (o := .tup [.non, .ref b]) hr)
    refine ⟨dNB bs, dNB cs, dp_NB (e5 p _ hp) (e5 a _ h1), dp_NB upd_same ((Ex.new hr) b _ h4), sh_NB _, sh_NB _, ?_⟩
    rw [eqv_NB]
    exact q _ (((e2.trans e3).trans e4).trans (Ex.new hr))⟩
/-- xs + [..], any values -/
theorem el_catV {a : Addr} {xs ys : List V} (h : Ev ta σ H (.ref a)) (hx : Lst H a xs) (hb : EvL tb σ H ys) (hz : xs.length + ys.length ≤ 100000) : EvL (tOp rCat ta tb) σ H (xs ++ ys) := fun H1 e Q q =>
  h H1 e _ fun H2 e2 => hb H2 (e.trans e2) _ fun b H3 hb e3 h3 => ⟨a, b, xs, ys, rfl, rfl, ((e.trans e2).trans e3) a _ hx, h3, sz_of hz, fun p hp =>
    q p _ (fresh_back (e2.trans e3) hp) ((e2.trans e3).trans (Ex.new hp)) upd_same⟩
/-- x = [new list, new list] -/
theorem s_asgXL {D : Ends} {i : Nat} {xs ys : List V} (h1 : EvL ta σ H xs) (h2 : ∀ H1, Ex H H1 → EvL tb σ H1 ys) (k : ∀ p f g H1, H p = none → Ex H H1 → Lst H1 p [.ref f, .ref g] → Lst H1 f xs → Lst H1 g ys → D.nx (σ.set i (some (.ref p))) H1) :
    tAsg (tLst (tCons ta (tCons tb tNil))) (gName i) D σ H := h1 H (Ex.refl H) _ fun f H1 hf e1 hf1 => h2 H1 e1 H1 (Ex.refl H1) _ fun g H2 hg e2 hg2 => ⟨(by show (2 : Nat) ≤ sizeLine; decide), fun p hp =>
  k p f g _ (fresh_back (e1.trans e2) hp) ((e1.trans e2).trans (Ex.new hp)) upd_same ((Ex.new hp) f _ (e2 f _ hf1)) ((Ex.new hp) g _ hg2)⟩
end
/-! ### the law's two roads -/
def kindB (x : Str) : List Bool := [decide (x = "NoRoad"), decide (x = "NoGaps"), decide (x = "TooMany"), decide (x = "Meets"), decide (x = "BadText"), true]
/-- from nought, rising -/
structure Rise (r : List Int) : Prop where
  ne : r ≠ []
  z : gi r 0 = 0
  up : r.Pairwise (· < ·)
theorem Rise.ok {r : List Int} (h : Rise r) (hl : r.length ≤ 50) : roadOk r ↔ topI r ≤ 4000 := by
  constructor
  · intro k
    exact k.2.2.2.1
  · intro k
    exact roadOk_of h.ne hl h.z (fun x hx => by have := top_le (h.up.imp fun h => by omega) x hx; omega) h.up
theorem lroad_rise (ns : List Int) (first : Int) {steps : Int} (hs : 0 < steps) (n : Nat) : Rise (lroad ns first steps n) := by
  obtain ⟨h1, _, h3, _⟩ := lroad_facts ns first hs n
  refine ⟨fun z => ?_, h1, h3⟩
  have := lroad_len ns first steps n
  rw [z] at this
  cases this
theorem Rise.take {r : List Int} (h : Rise r) {n : Nat} (hn : 1 ≤ n) : Rise (r.take n) := by
  obtain ⟨k, rfl⟩ : ∃ k, n = k + 1 := ⟨n - 1, by omega⟩
  obtain ⟨h1, h2, h3⟩ := h
  match r, h1, h2, h3 with
  | x :: xs, _, h2, h3 => exact ⟨by simp, h2, h3.sublist (List.take_sublist _ _)⟩
theorem Rise.mul {r : List Int} (h : Rise r) {c : Int} (hc : 0 < c) : Rise (r.map fun x => x * c) := by
  obtain ⟨h1, h2, h3⟩ := h
  refine ⟨by simpa using h1, ?_, ?_⟩
  · match r, h1, h2 with
    | x :: xs, _, h2 =>
      have h2 : x = 0 := h2
      show x * c = 0
      rw [h2, Int.zero_mul]
  · rw [List.pairwise_map]
    exact h3.imp fun h => Int.mul_lt_mul_of_pos_right h hc
theorem Rise.top0 {r : List Int} (h : Rise r) : 0 ≤ topI r := by
  have := top_le (h.up.imp fun h => by omega) (gi r 0) (gi_mem (List.length_pos_iff.mpr h.ne))
  rw [h.z] at this
  exact this
def st8 (ns : List Int) : Int := gi [9, 9, 9, 400] (cell ns 1 % 4).toNat
def wd8 (ns : List Int) : Int := gi [9, 60, 900] (cell ns 1 / 4 % 3).toNat
def oneA (ns : List Int) : List Int := lroad ns 2 (st8 ns) (cell ns 0 % 9).toNat
def othA (ns : List Int) : List Int := lroad ns 11 (wd8 ns) (cell ns 0 / 9 % 10).toNat
def othB (ns : List Int) : List Int := if cell ns 1 / 12 % 2 = 1 then ((othA ns).take 5).map fun x => x * (topI (oneA ns) + 1) else othA ns
def bad8 (ns : List Int) : Prop := cell ns 1 / 24 % 4 = 1
instance (ns : List Int) : Decidable (bad8 ns) := by unfold bad8; exact inferInstance
def oneC (ns : List Int) : List Int := if bad8 ns then (oneA ns).map fun x => x + 2 else oneA ns
theorem st8_pos (ns : List Int) : 0 < st8 ns := by
  have := gi4 (x := 9) (y := 9) (z := 9) (u := 400) (i := cell ns 1 % 4) (by omega) (by omega)
  unfold st8
  omega
theorem wd8_pos (ns : List Int) : 0 < wd8 ns := by
  have := gi3 (x := 9) (y := 60) (z := 900) (i := cell ns 1 / 4 % 3) (by omega) (by omega)
  unfold wd8
  omega
theorem oneA_ok (ns : List Int) : Rise (oneA ns) ∧ (oneA ns).length ≤ 9 := by
  refine ⟨lroad_rise ns 2 (st8_pos ns) _, ?_⟩
  rw [oneA, lroad_len]
  omega
theorem othB_ok (ns : List Int) : Rise (othB ns) ∧ (othB ns).length ≤ 10 := by
  have h1 := lroad_rise ns 11 (wd8_pos ns) (cell ns 0 / 9 % 10).toNat
  have h2 := (oneA_ok ns).1.top0
  have h3 : (othA ns).length ≤ 10 := by
    rw [othA, lroad_len]
    omega
  unfold othB
  split
  · refine ⟨(h1.take (by decide)).mul (by omega), ?_⟩
    rw [List.length_map, List.length_take]
    omega
  · exact ⟨h1, h3⟩
theorem oneC_len (ns : List Int) : (oneC ns).length ≤ 9 ∧ oneC ns ≠ [] := by
  obtain ⟨h1, h2⟩ := oneA_ok ns
  unfold oneC
  split
  · exact ⟨by rw [List.length_map]; exact h2, by simpa using h1.ne⟩
  · exact ⟨h2, h1.ne⟩
/-- where one of them is none -/
theorem noRoad8 (ns : List Int) : (bad8 ns ∨ 4000 < (if topI (othB ns) > topI (oneC ns) then topI (othB ns) else topI (oneC ns))) ↔ ¬ (roadOk (oneC ns) ∧ roadOk (othB ns)) := by
  obtain ⟨h1, h2⟩ := oneA_ok ns
  obtain ⟨h3, h4⟩ := othB_ok ns
  rw [h3.ok (by omega)]
  by_cases hb : bad8 ns
  · have : ¬ roadOk (oneC ns) := fun z => by
      have hz := z.2.2.1
      obtain ⟨k1, k2, _⟩ := h1
      unfold oneC at hz
      rw [if_pos hb] at hz
      match oneA ns, k1, k2, hz with
      | x :: xs, _, k2, hz =>
        have k2 : x = 0 := k2
        have hz : x + 2 = 0 := hz
        omega
    simp [hb, this]
  · have e : oneC ns = oneA ns := by rw [oneC, if_neg hb]
    rw [e, h1.ok (by omega)]
    simp only [hb, false_or]
    split <;> omega
section
variable {K : PySem.W.Frag} {σ : L2.St} {H H' : Hp} {ta tb te tl : TE} {tt : TT}
end
end Rg

set_option Elab.async false
set_option linter.all false
set_option maxRecDepth 100000
set_option maxHeartbeats 2000000
/-! Rg, part X: an exception that is caught and handed to a def that asks its class. -/
namespace Rg
open PySem PySem.Spec PyProof.Rows L2 Evl
/-! ### a def that is called within an except clause, its argument the exception caught -/
structure FnP (P : Program) (w : World) (K : PySem.W.Frag) (mg : Str → Option Value) (base : Heap) (CX : CXT) (k : Nat) (f : Addr) (fd : FuncData) (ps : List Str) (p : Addr × Obj) (sp : Sp) : Prop where
  len : ∀ vs H Q E, sp vs H Q E → vs.length = ps.length
  run : ∀ (A : Around) (outer : List Env) (s : Shared) (H : Hp) (args : Args) (us : List Value) (vs : List V) (Q : VK) (E : XK), L2H.RoomH k A → L2H.PinOk outer H s p → Env0 P w K mg base A outer s H → BindsTo s fd args (ps.zip us) → Vals vs us → sp vs H Q E →
    codeAny (model P w) A (.call (.ref f) args) (CR CX outer P w H s Q E) s
theorem fn_ofP {CX : CXT} {P : Program} {w : World} {K : PySem.W.Frag} {mg : Str → Option Value} {base : Heap} {k : Nat} {f : Addr} {name qual : Str} {params : Arguments} {body : List Stmt} {scope : Scope} {dV kV doc pm cdv ct oc : Value} {an od : Option Addr}
    {osl : Array (Option Value)} {N ps : List Str} {sp : Sp} {p : Addr × Obj} (lk : K.lookup f = some ⟨oc, od, .func (PySem.W.fnOf name qual params body scope dV kV doc pm an cdv ct), osl⟩) (hcd : PySem.W.codeIn K cdv qual = true) (S : FnScope N ps scope)
    (len : ∀ vs H Q E, sp vs H Q E → vs.length = ps.length)
    (hbody : ∀ (A : Around) (outer : List Env) (s : Shared) (H : Hp) (vs : List V) (Q : VK) (E : XK), L2H.RoomH k (A.deeper (envOfC qual scope s.heap.objs.size f cdv)) → sp vs H Q E →
      ∃ t, PSs (L2H.cxH CX P w K mg base N qual scope f cdv A outer s H E p) body t ∧ t { nx := fun _ H' => Q .non H', rt := Q } (L2.start N vs) H) :
    FnP P w K mg base CX (k + 1) f (PySem.W.fnOf name qual params body scope dV kV doc pm an cdv ct) ps p sp := by
  refine ⟨len, fun A outer s H args us vs Q E hr hpin e0 hb r hsp => ?_⟩
  have hl := len _ _ _ _ hsp
  have KX : K.In s.heap := e0.mod.kin.keeps fun b o e => (e0.bs b o e).1
  have lim : s.heap.NoLimit := e0.mod.nolimit.keeps fun b o e => (e0.bs b o e).1
  have hkind : ∀ y ∈ ps.zip us, scope.names.lookup y.1 = some .local ∨ (scope.names.lookup y.1 = some .cell ∧ ((cellsFrom (s.heap.objs.size + 1) scope.names []).lookup y.1).isSome = true) := fun ⟨n, v⟩ hy => by
    rcases S.par n (List.of_mem_zip hy).1 with q | q
    · exact .inl q
    · exact .inr ⟨q, PySem.W.cellsFrom_some _ _ _ (.inl q)⟩
  refine codeAny_call_function hr.depth (KX _ _ lk) rfl S.co S.gen rfl (PySem.W.codeRec_of KX hcd) (hb _ _ _ _ ?_)
  refine wpAny_newFunctionEnv_cells S.kind hkind fun env he s1 x => ?_
  subst he
  refine ⟨lim.keeps x.toInCall.keep, codeAny_func ?_⟩
  obtain ⟨t, ht, hq⟩ := hbody A outer s H vs Q E (hr.deeper _) hsp
  have I : Inv (L2H.cxH CX P w K mg base N qual scope f cdv A outer s H E p) [] (L2.start N vs) H s1 := L2H.inv_startH S hpin e0 hl r x
  refine wpAny_mono (ht.run [] s1 (L2.start N vs) H _ I hq) (fun fl s' hs => ?_) fun e s' hs => hs
  have fin : ∀ {σ' : L2.St} {H' : Hp} {v : V} {u : Value}, Inv (L2H.cxH CX P w K mg base N qual scope f cdv A outer s H E p) [] σ' H' s' → RelV v u → Q v H' → CE outer P w H s Q u s' :=
    fun {σ' H' v u} J rv q => ⟨v, H', J.os, J.bare, J.base, J.hok, rv, q⟩
  cases fl with
  | ret u =>
    obtain ⟨v, σ', H', J, rv, q⟩ := hs
    exact fin J rv q
  | next =>
    obtain ⟨σ', H', J, q⟩ := hs
    exact fin (v := V.non) (u := Value.none) J rfl q
  | brk =>
    obtain ⟨_, _, _, q⟩ := hs
    exact False.elim q
  | cont =>
    obtain ⟨_, _, _, q⟩ := hs
    exact False.elim q
section
variable {X : Cx} {CX : CXT} {k : Nat} {f : Addr} {fd : FuncData} {ps : List Str} {sp : Sp} {E : XK} {x : Str} {q pos : Pos} {e : Expr} {es : List Expr} {t : TA}
theorem pe_callP {p : Addr × Obj} (F : FnP X.prog X.w X.K X.mg X.base CX k f fd ps p sp) (hr : L2H.RoomH k X.A) (hp : p ∈ X.pn) (hg : Gl X x) (hm : X.mg x = some (.ref f)) (hk : PySem.W.keepIn X.K (.ref f) = true) (hb : Binds X.K fd ps []) (hx : Passes CX X E)
    (ha : PA X (e :: es) t) (hdb : (x == ("__debug__" : Str)) = false := by decide) (he : starEach (e :: es) X.env = (false, eval e X.env) :: starEach es X.env := by rfl) (hpl : (backTo pos (starEach es X.env)).any (·.1) = false := by rfl) :
    PE X (.Call (.Name x q) (e :: es) [] pos) (fun σ H Q => t σ H fun vs H1 => sp vs H1 Q E) := by
  refine ⟨fun pins s σ H Q I h => ?_⟩
  refine wpAny_Call_Name_kw (ld_glob I hg hm ?_ hdb)
  refine PySem.W.callWith_K (h₀ := X.base) I.ok.mod.kin hk (thn (ha.run pos pins s σ H _ I h) fun us s1 ⟨vs, H1, I1, r, q⟩ => ⟨I1.kIn, ?_⟩) he hpl
  have hl : us.length = ps.length := by rw [← r.length]; exact F.len _ _ _ _ q
  have b := hb s1 us I1.kIn (by rw [List.append_nil]; exact hl)
  rw [List.append_nil] at b
  have P1 := I1.pin p (List.mem_append_left _ hp)
  have hpin : L2H.PinOk X.stack H1 s1 p := ⟨P1.1, P1.2.1, fun hm => (List.mem_cons.mp (I1.stkSub p.1 hm)).elim P1.2.2.1 P1.2.2.2.1, P1.2.2.2.2⟩
  refine wpAny_call (codeAny_mono (F.run X.A X.stack s1 H1 ⟨us, []⟩ us vs Q E hr hpin I1.env0 b r q) fun r s' hq => ?_)
  cases r with
  | error e => exact hx pins σ H1 s1 e s' I1 hq
  | ok fl =>
    cases fl with
    | ret u => exact I1.after hq
    | next => exact False.elim hq
    | brk => exact False.elim hq
    | cont => exact False.elim hq
end
/-- isinstance(e, c), e a pinned exception -/
theorem call_isP {X : Cx} {a D : Addr} {oe : Obj} (hp : (a, oe) ∈ X.pn) (C : ExcC X.K D) (hz : Zc (.ref D) none oe) (hf : ∃ vs, oe.data = .fields vs) : CallR X (.builtin "isinstance") (rIsE X.K D a) := by
  intro pins s σ H xs us Q I r h
  obtain ⟨c, cv, b, rfl, hcv, e, q⟩ := h
  cases r with
  | cons rx rr =>
    cases rr with
    | cons rt rr =>
      cases rr
      cases rx
      have ec := hcv _ rt
      subst ec
      obtain ⟨hget, _⟩ := I.pin (a, oe) (List.mem_append.mpr (.inl hp))
      obtain ⟨vs, hv⟩ := hf
      have J : PySem.W.InstAt s.heap a oe D none := by
        obtain ⟨oc, od, oda, osl⟩ := oe
        obtain ⟨h1, h2⟩ := hz
        dsimp only at h1 h2 hv
        subst h1 h2 hv
        exact ⟨hget, rfl, rfl, trivial⟩
      exact PySem.W.kia_one (PySem.W.handS_kitx_exc C.hg C.hk C.hs C.hd C.ha C.hn C.ht C.hm) I.kIn J e (fun z => nomatch z) fun tk => ⟨.bl b, H, I.kept (t' := tk) fun _ _ z => z, rfl, q⟩
/-! ### what the program's top says of its own exception classes -/
def excNames : List Str := ["NoRoad", "NoGaps", "TooMany", "Meets", "BadText"]
def excB (K : PySem.W.Frag) (D : Addr) : Bool :=
  decide (PySem.W.findIn K (.ref D) "__getattribute__" = some (some (.builtin "BaseException.__getattribute__"))) && (decide (PySem.W.findIn K (.ref D) "__getattr__" = some none) && (decide (PySem.W.subIn K (.ref D) (.type "BaseException") = some true) && (PySem.W.hasDictIn K D &&
  (decide (PySem.W.findIn K (.ref D) "__class__" = some (some (.builtin "object.__class__"))) && (decide (PySem.W.specialIn K (.builtin "object.__class__") "__get__" = some (some (.builtin "getset_descriptor.__get__"))) && (decide (PySem.W.takesIn K (.builtin "object.__class__") = some true) && decide (PySem.W.mroIn K D (.type "object") = some true)))))))
theorem excB_ok {K : PySem.W.Frag} {D : Addr} (h : excB K D = true) : ExcC K D := by
  obtain ⟨h1, h⟩ := He.ba h
  obtain ⟨h2, h⟩ := He.ba h
  obtain ⟨h3, h⟩ := He.ba h
  obtain ⟨h4, h⟩ := He.ba h
  obtain ⟨h5, h⟩ := He.ba h
  obtain ⟨h6, h⟩ := He.ba h
  obtain ⟨h7, h8⟩ := He.ba h
  exact ⟨of_decide_eq_true h1, of_decide_eq_true h2, of_decide_eq_true h3, h4, of_decide_eq_true h5, of_decide_eq_true h6, of_decide_eq_true h7, of_decide_eq_true h8⟩
/-- of the class x: which of the classes it is -/
def oneB (K : PySem.W.Frag) (x : Str) : Bool := excB K (He.ga K x) && ((excNames.all fun y => decide (PySem.W.kitOne K (.ref (He.ga K x)) (.ref (He.ga K y)) = some (decide (x = y)))) && (decide (PySem.W.kitOne K (.ref (He.ga K x)) (.type "ValueError") = some true) && decide (PySem.W.exmOne K (.ref (He.ga K x)) (.ref (He.ga K "RoadError")) = some true)))
def kindsB (K : PySem.W.Frag) : Bool := excNames.all fun x => oneB K x
structure Kinds (K : PySem.W.Frag) : Prop where
  ok : kindsB K = true
theorem Kinds.one {K : PySem.W.Frag} (k : Kinds K) {x : Str} (hx : x ∈ excNames) : ExcC K (He.ga K x) ∧ (∀ y ∈ excNames, PySem.W.kitOne K (.ref (He.ga K x)) (.ref (He.ga K y)) = some (decide (x = y))) ∧ PySem.W.kitOne K (.ref (He.ga K x)) (.type "ValueError") = some true ∧ PySem.W.exmOne K (.ref (He.ga K x)) (.ref (He.ga K "RoadError")) = some true := by
  have h : oneB K x = true := List.all_eq_true.mp k.ok x hx
  obtain ⟨h1, h⟩ := He.ba h
  obtain ⟨h2, h⟩ := He.ba h
  obtain ⟨h3, h4⟩ := He.ba h
  exact ⟨excB_ok h1, fun y hy => of_decide_eq_true (List.all_eq_true.mp h2 y hy), of_decide_eq_true h3, of_decide_eq_true h4⟩
/-! ### the Hook by that Bool more -/
def obsKE (n : Nat) (fa : List He.Fa) (fn : List He.DefD) (ex : PySem.W.Frag → Bool) (g : Addr → Option Obj) : He.AlD × Bool := (He.obsDG n fa fn g, ex (He.frG g (He.asD g n)))
def hookKE (n : Nat) (fa : List He.Fa) (fn : List He.DefD) (ex : PySem.W.Frag → Bool) : PySem.W.Hook where
  α := He.AlD × Bool
  obs := fun s => obsKE n fa fn ex s.heap.get?
  val := fun _ => (He.valD fn, true)
  says := fun _ h => ∃ K : PySem.W.Frag, K.In h ∧ He.SaysD fa fn K ∧ ex K = true
  of := fun _ _ e => ⟨_, He.frG_in, congrArg Prod.fst e, congrArg Prod.snd e⟩
  keeps := fun _ _ _ ⟨K, hK, c⟩ k => ⟨K, PySem.W.Frag.In.keeps hK k, c⟩
theorem obsKE_eq {n : Nat} {fa : List He.Fa} {fn : List He.DefD} {ex : PySem.W.Frag → Bool} {g : Addr → Option Obj} {s : Shared} (h : ∀ a, g a = s.heap.get? a) : obsKE n fa fn ex g = (hookKE n fa fn ex).obs s := by
  have e : g = s.heap.get? := funext h
  rw [e] <;> rfl
/-! ### _law_kind's promise -/
def kindsV (x : Str) : List V := [.bl (decide (x = "NoRoad")), .bl (decide (x = "NoGaps")), .bl (decide (x = "TooMany")), .bl (decide (x = "Meets")), .bl (decide (x = "BadText")), .bl true]
def sp_law_kind (K : PySem.W.Frag) (a : Addr) (cls : Value) (d : Option Addr) : Sp := fun vs H Q _ => ∃ x : Str, x ∈ excNames ∧ vs = [.ref a] ∧ cls = .ref (He.ga K x) ∧ d = none ∧ RL (kindsV x) H Q
section
variable {P : Program} {w : World} {K : PySem.W.Frag} {mg : Str → Option Value} {base : Heap}
structure HasP (P : Program) (w : World) (K : PySem.W.Frag) (mg : Str → Option Value) (base : Heap) (k : Nat) (x : Str) (ps : List Str) (sp : Addr → Value → Option Addr → Sp) : Prop where
  ex : ∃ f fd, (∀ (a : Addr) (oe : Obj) (cls : Value) (d : Option Addr), Zc cls d oe → (∃ vs, oe.data = .fields vs) → FnP P w K mg base CX0 k f fd ps (a, oe) (sp a cls d)) ∧ mg x = some (.ref f) ∧ PySem.W.keepIn K (.ref f) = true ∧ Binds K fd ps []
theorem Df.hasP {x : Str} {st : Stmt} {N ps : List Str} {k : Nat} {sp : Addr → Value → Option Addr → Sp} (D : Df K mg x st) (S : FnScope N ps (defScope st)) (hb : BindOk x st ps) (len : ∀ a cls d vs H Q E, sp a cls d vs H Q E → vs.length = ps.length)
    (hbody : ∀ (f : Addr) (cdv : Value) (a : Addr) (oe : Obj) (cls : Value) (d : Option Addr) (A : Around) (outer : List Env) (s : Shared) (H : Hp) (vs : List V) (Q : VK) (E : XK), Zc cls d oe → (∃ vs, oe.data = .fields vs) → L2H.RoomH k (A.deeper (envOfC x (defScope st) s.heap.objs.size f cdv)) → sp a cls d vs H Q E →
      ∃ t, PSs (L2H.cxH CX0 P w K mg base N x (defScope st) f cdv A outer s H E (a, oe)) (defBody st) t ∧ t { nx := fun _ H' => Q .non H', rt := Q } (L2.start N vs) H) : HasP P w K mg base (k + 1) x ps sp := by
  obtain ⟨f, fd, F, g⟩ := D.ex
  refine ⟨f, fd, fun a oe cls d hz hf => ?_, g, F.kp, F.bindsN hb⟩
  obtain ⟨oc, od, dV, kV, doc, pm, an, cdv, ct, osl, rfl, lk, hcd, _, _⟩ := F.ex
  exact fn_ofP lk hcd S (len a cls d) fun A outer s H vs Q E hr h => hbody f cdv a oe cls d A outer s H vs Q E hz hf hr h
end
section
variable {X : Cx}
theorem pe_callHP {k : Nat} {x : Str} {ps : List Str} {sp : Addr → Value → Option Addr → Sp} {E : XK} {p pos : Pos} {e : Expr} {es : List Expr} {t : TA} {a : Addr} {oe : Obj} {cls : Value} {d : Option Addr} (F : HasP X.prog X.w X.K X.mg X.base k x ps sp) (hz : Zc cls d oe) (hf : ∃ vs, oe.data = .fields vs) (hp : (a, oe) ∈ X.pn) (hr : L2H.RoomH k X.A) (hg : Gl X x) (hx : Passes CX0 X E)
    (ha : PA X (e :: es) t) (hdb : (x == ("__debug__" : Str)) = false := by decide) (he : starEach (e :: es) X.env = (false, eval e X.env) :: starEach es X.env := by rfl) (hpl : (backTo pos (starEach es X.env)).any (·.1) = false := by rfl) :
    PE X (.Call (.Name x p) (e :: es) [] pos) (fun σ H Q => t σ H fun vs H1 => sp a cls d vs H1 Q E) := by
  obtain ⟨f, fd, F, hm, hk, hb⟩ := F.ex
  exact pe_callP (F a oe cls d hz hf) hr hp hg hm hk hb hx ha hdb he hpl
/-- a call within a try -/
theorem pe_callHS {CX : CXT} {k : Nat} {x : Str} {ps : List Str} {sp : Sp} {E : L2.St → XK} {p pos : Pos} {e : Expr} {es : List Expr} {t : TA} (F : Has X.prog X.w X.K X.mg X.base CX k x ps sp) (hr : Room k X.A) (hg : Gl X x) (hx : ∀ σ, PassesAt CX X σ (E σ))
    (ha : PA X (e :: es) t) (hdb : (x == ("__debug__" : Str)) = false := by decide) (he : starEach (e :: es) X.env = (false, eval e X.env) :: starEach es X.env := by rfl) (hpl : (backTo pos (starEach es X.env)).any (·.1) = false := by rfl) :
    PE X (.Call (.Name x p) (e :: es) [] pos) (tCallS sp E t) := by
  obtain ⟨f, fd, F, hm, hk, hb, _⟩ := F.ex
  exact pe_callS F hr hg hm hk hb hx ha hdb he hpl
end
end Rg

set_option Elab.async false
set_option linter.all false
set_option maxRecDepth 100000
set_option maxHeartbeats 1000000
/-! Rg, part Tx: roads and distances as texts. -/
namespace Rg
open PySem PySem.Spec PyProof.Rows L2 Evl
def strI (i : Int) : Str := Str.ofString (toString i)
theorem strI_len {i : Int} (h0 : 0 ≤ i) (h1 : i < 10000) : (strI i).length ≤ 4 := PyProof.Rows.toString_length_le h0 (by decide) (by
  show i < (10 : Int) ^ 4
  have : (10 : Int) ^ 4 = 10000 := by decide
  omega)
def shownP (h : Str) (ns : List Int) : Str := Txt.join (Str.ofString " ") (h :: ns.map strI)
section
variable {K : PySem.W.Frag} {σ : L2.St} {H H' : Hp} {ta tb te tl to : TE} {tt : TT}
/-- [v x for x in xs], ints to any values -/
theorem el_lcIV {a : Addr} {j : Nat} {vs : List Nat} {xs : List Int} (g : Int → V) (h : Ev tl σ H (.ref a)) (hx : IL H a xs) (hz : xs.length ≤ 40000) (hw : ∀ x, wipe ((wipe σ vs).set j (some x)) vs = wipe σ vs)
    (ht : ∀ (x : V) H1, EvT tt ((wipe σ vs).set j (some x)) H1 true) (he : ∀ x ∈ xs, ∀ H1, Ex H H1 → Ev te ((wipe σ vs).set j (some (.int x))) H1 (g x)) : EvL (tLc (iList K tl) (gName j) tt te vs) σ H (xs.map g) := by
  have e : xs.map g = given (Ints xs).length (fun _ => true) fun i => g (gi xs i) := by
    rw [given_all, List.length_map]
    have := congrArg (List.map g) (range_gi xs)
    rw [List.map_map] at this
    exact this.symm
  rw [e]
  refine el_lcL _ _ h (sq_of hx) (by rw [List.length_map]; exact hz) hw (fun i x H1 e1 hi => ht x H1) (fun i x H1 e1 hi _ => ?_)
  obtain ⟨d, hd, rfl⟩ := ints_at hi
  rw [gi_of hd]
  exact he d (List.mem_of_getElem? hd) H1 e1
/-- [..] + [..], both new -/
theorem el_catNN {xs ys : List V} (ha : EvL ta σ H xs) (hb : EvL tb σ H ys) (hz : xs.length + ys.length ≤ 100000) : EvL (tOp rCat ta tb) σ H (xs ++ ys) := fun H1 e Q q =>
  ha H1 e _ fun a H2 _ e2 h2 => hb H2 (e.trans e2) _ fun b H3 _ e3 h3 => ⟨a, b, xs, ys, rfl, rfl, e3 a _ h2, h3, sz_of hz, fun p hp => q p _ (fresh_back (e2.trans e3) hp) ((e2.trans e3).trans (Ex.new hp)) upd_same⟩
theorem ev_strI {i : Int} (h : Ev ta σ H (.int i)) (h0 : i.natAbs < 2 ^ 100) : Ev (tCB (fun xs H Q => ∃ i, xs = [.int i] ∧ i.natAbs.log2 < 1920 ∧ Q (.str (Str.ofString (toString i))) H) (tCons ta tNil)) σ H (.str (strI i)) := fun H1 e Q q =>
  h H1 e _ fun H2 e2 => ⟨i, rfl, by
    by_cases z : i.natAbs = 0
    · rw [z]
      decide
    · have := (Nat.log2_lt z).mpr h0
      omega, q H2 e2⟩
/-- sep.join([..]) -/
theorem ev_join {sep : Str} {ys : List Str} (hs : Ev to σ H (.str sep)) (hy : EvL te σ H (ys.map V.str)) (hz : (ys.map (·.length)).sum + ys.length * sep.length ≤ 16777216) :
    Ev (tM1 (fun x xs H Q => ∃ a p, ∃ ys : List Str, x = .str a ∧ xs = [.ref p] ∧ (SqL K H p (ys.map V.str) ∨ SqT K H p (ys.map V.str)) ∧ (ys.map (·.length)).sum + ys.length * a.length ≤ 16777216 ∧ Q (.str (Txt.join a ys)) H) to te) σ H (.str (Txt.join sep ys)) := fun H1 e Q q =>
  hs H1 e _ fun H2 e2 => ⟨⟨sep, rfl⟩, hy H2 (e.trans e2) _ fun p H3 _ e3 h3 => ⟨sep, p, ys, rfl, rfl, .inl (sq_of h3), hz, q H3 (e2.trans e3)⟩⟩
end
theorem sum_le {ys : List Str} {k : Nat} (h : ∀ y ∈ ys, y.length ≤ k) : (ys.map (·.length)).sum ≤ ys.length * k := by
  induction ys with
  | nil => exact Nat.zero_le _
  | cons y ys ih =>
    have h1 := h y List.mem_cons_self
    have h2 := ih fun z hz => h z (List.mem_cons_of_mem _ hz)
    rw [List.map_cons, List.sum_cons, List.length_cons, Nat.succ_mul]
    omega
end Rg

set_option Elab.async false
set_option linter.all false
set_option maxRecDepth 100000
set_option maxHeartbeats 1000000
/-! Rg, part Tn: words read as numbers, texts split. -/
namespace Rg
open PySem PySem.Spec PyProof.Rows L2 Evl TL
/-! ### the number that a word writes -/
def digs (l : List Nat) : Bool := l.all fun c => decide (48 ≤ c) && decide (c ≤ 57)
theorem digs_iff {l : List Nat} : digs l = true ↔ NumText.AllDigits l := by
  simp [digs, NumText.AllDigits]
def numBad (w : Str) : Bool := decide (tl w = []) || (decide (4 < (tl w).length) || (decide ((tl w)[0]? = some 48) && !decide (tl w = [48]))) || !digs (tl w)
def refNum (w : Str) : Option String := if numBad w then some "BadText" else none
def numV (w : Str) : Int := ((NumText.digitsVal (tl w) : Nat) : Int)
theorem num_int {w : Str} (h : digs (tl w) = true) (h0 : tl w ≠ []) (h1 : (tl w).length ≤ 4) : PySem.intText? w = some (numV w) :=
  intText_digits (digs_iff.mp h) h0 (by rw [len_tl]; omega)
theorem str_eq {a b : Str} : V.str a = V.str b ↔ tl a = tl b := ⟨fun h => by cases h; rfl, fun h => by rw [ext_tl h]⟩
theorem figs_iff {c : Nat} : c ∈ (Str.ofString "0123456789").cps.toList ↔ 48 ≤ c ∧ c ≤ 57 := by
  have e : (Str.ofString "0123456789").cps.toList = [48, 49, 50, 51, 52, 53, 54, 55, 56, 57] := by rfl
  rw [e]
  simp
  omega
/-- str(i) of a number that has at most four figures -/
theorem tl_strI {i : Int} (h : 0 ≤ i) : tl (strI i) = numL i.toNat := by
  have e : i = ((i.toNat : Nat) : Int) := by omega
  rw [strI, e]
  exact tl_num _
theorem numL_head : ∀ n : Nat, 0 < n → (numL n)[0]? ≠ some 48 := by
  intro n
  induction n using Nat.strongRecOn with
  | _ n ih =>
    intro h0
    by_cases h : n < 10
    · rw [numL_lt h]
      simp
      omega
    · rw [numL_step (by omega)]
      have := ih (n / 10) (by omega) (by omega)
      have hne := numL_ne (n / 10)
      cases e : numL (n / 10) with
      | nil => exact absurd e hne
      | cons x xs =>
        rw [e] at this
        exact this
theorem strI_good {i : Int} (h0 : 0 ≤ i) (h1 : i < 10000) : numBad (strI i) = false ∧ numV (strI i) = i := by
  have e := tl_strI h0
  have hl := strI_len h0 h1
  rw [len_tl, e] at hl
  refine ⟨?_, ?_⟩
  · unfold numBad
    rw [e, digs_iff.mpr (numL_digits _), decide_eq_false (numL_ne _), decide_eq_false (show ¬ 4 < (numL i.toNat).length by omega)]
    by_cases z : i.toNat = 0
    · rw [z]
      rfl
    · rw [decide_eq_false (numL_head _ (by omega))]
      rfl
  · unfold numV
    rw [e, numL_val]
    omega
theorem strI_free {i : Int} (h0 : 0 ≤ i) : 32 ∉ tl (strI i) := by
  rw [tl_strI h0]
  exact numL_free (.inl (by decide))
/-! ### texts put together -/
abbrev blankS : Str := Str.ofString " "
theorem tl_blank : tl blankS = [32] := by rfl
theorem shown_split {h : Str} {ns : List Int} (hh : 32 ∉ tl h) (h0 : ∀ x ∈ ns, 0 ≤ x) : Txt.split (shownP h ns) blankS = h :: ns.map strI :=
  split_join (y := blankS) (s := 32) (S := []) tl_blank (by
    rw [Array.all_eq_true_iff_forall_mem]
    intro c hc
    have hc : c ∈ tl blankS := Array.mem_toList_iff.mpr hc
    rw [tl_blank, List.mem_singleton] at hc
    exact decide_eq_true (by omega)) (by simp) fun p hp => by
    rcases List.mem_cons.mp hp with rfl | hp
    · exact hh
    · obtain ⟨x, hx, rfl⟩ := List.mem_map.mp hp
      exact strI_free (h0 x hx)
theorem joinL_snoc (S : List Nat) : ∀ (ps : List (List Nat)) (q : List Nat), ps ≠ [] → joinL S (ps ++ [q]) = joinL S ps ++ (S ++ q)
  | [], q, h => absurd rfl h
  | [p], q, _ => by
    show p ++ (S ++ joinL S [q]) = p ++ (S ++ q)
    rfl
  | p :: r :: ps, q, _ => by
    show p ++ (S ++ joinL S (r :: ps ++ [q])) = p ++ (S ++ joinL S (r :: ps)) ++ (S ++ q)
    rw [joinL_snoc S (r :: ps) q (by simp)]
    simp
theorem shown_nil (h : Str) : shownP h [] = h := ext_tl (by
  show tl (Txt.join blankS [h]) = _
  rw [join_eq, tl_join]
  rfl)
theorem shown_snoc (h : Str) (ns : List Int) (x : Int) : shownP h (ns ++ [x]) = shownP h ns ++ blankS ++ strI x := ext_tl (by
  show tl (Txt.join blankS (h :: (ns ++ [x]).map strI)) = tl (Txt.join blankS (h :: ns.map strI) ++ blankS ++ strI x)
  rw [tl_append, tl_append, join_eq, join_eq, tl_join, tl_join, List.map_append, ← List.cons_append, List.map_append]
  rw [show ([x].map strI).map tl = [tl (strI x)] from rfl, joinL_snoc _ _ _ (by simp), tl_blank]
  simp)
theorem joinL_len (S : List Nat) : ∀ ps : List (List Nat), (joinL S ps).length ≤ (ps.map List.length).sum + ps.length * S.length
  | [] => Nat.zero_le _
  | [p] => by
    show p.length ≤ _
    simp
  | p :: q :: r => by
    have h := joinL_len S (q :: r)
    show (p ++ (S ++ joinL S (q :: r))).length ≤ _
    rw [List.length_append, List.length_append, List.map_cons, List.sum_cons, List.length_cons, Nat.add_mul]
    rw [List.map_cons] at h ⊢
    omega
theorem shown_len {h : Str} {ns : List Int} (hh : h.length ≤ 4) (h0 : ∀ x ∈ ns, 0 ≤ x ∧ x < 10000) : (shownP h ns).length ≤ (ns.length + 1) * 5 := by
  rw [len_tl]
  show (tl (Txt.join blankS (h :: ns.map strI))).length ≤ _
  rw [join_eq, tl_join]
  have e1 := joinL_len (tl blankS) ((h :: ns.map strI).map tl)
  have e2 := sum_le (k := 4) (ys := h :: ns.map strI) fun y hy => by
    rcases List.mem_cons.mp hy with rfl | hy
    · exact hh
    · obtain ⟨x, hx, rfl⟩ := List.mem_map.mp hy
      exact strI_len (h0 x hx).1 (h0 x hx).2
  have e3 : (((h :: ns.map strI).map tl).map List.length) = (h :: ns.map strI).map (·.length) := by
    rw [List.map_map]
    exact List.map_congr_left fun y _ => (len_tl y).symm
  rw [tl_blank] at e1 ⊢
  rw [e3, List.length_map] at e1
  simp only [List.length_cons, List.length_map, List.length_nil] at e1 e2 ⊢
  omega
theorem joinL_mem (S : List Nat) (c : Nat) : ∀ ps : List (List Nat), c ∈ joinL S ps → c ∈ S ∨ ∃ p ∈ ps, c ∈ p
  | [], h => by cases h
  | [p], h => .inr ⟨p, List.mem_cons_self, h⟩
  | p :: q :: r, h => by
    have h : c ∈ p ++ (S ++ joinL S (q :: r)) := h
    rcases List.mem_append.mp h with h | h
    · exact .inr ⟨p, List.mem_cons_self, h⟩
    · rcases List.mem_append.mp h with h | h
      · exact .inl h
      · rcases joinL_mem S c (q :: r) h with h | ⟨z, hz, h⟩
        · exact .inl h
        · exact .inr ⟨z, List.mem_cons_of_mem _ hz, h⟩
theorem strOk_tl {w : Str} (h : ∀ c ∈ tl w, c < 1114112) : PyData.strOk w = true := by
  unfold PyData.strOk
  rw [Array.all_eq_true_iff_forall_mem]
  intro c hc
  exact decide_eq_true (h c (Array.mem_toList_iff.mpr hc))
theorem shown_ok {h : Str} {ns : List Int} (hh : ∀ c ∈ tl h, c < 1114112) (h0 : ∀ x ∈ ns, 0 ≤ x) : PyData.strOk (shownP h ns) = true := strOk_tl fun c hc => by
  have hc : c ∈ tl (Txt.join blankS (h :: ns.map strI)) := hc
  rw [join_eq, tl_join, tl_blank] at hc
  rcases joinL_mem _ _ _ hc with hc | ⟨p, hp, hc⟩
  · have := List.mem_singleton.mp hc
    omega
  · obtain ⟨y, hy, rfl⟩ := List.mem_map.mp hp
    rcases List.mem_cons.mp hy with e | hy
    · rw [e] at hc
      exact hh c (by assumption)
    · obtain ⟨x, hx, rfl⟩ := List.mem_map.mp hy
      rw [tl_strI (h0 x hx)] at hc
      have := numL_digits _ c hc
      omega
/-! ### walked -/
abbrev Strs (ws : List Str) : List V := ws.map V.str
section
variable {K : PySem.W.Frag} {σ : L2.St} {H H' : Hp} {ta tb te tl to : TE} {tt : TT} {D : Ends} {tu : TS} {g : TG}
theorem ev_intS {w : Str} {n : Int} (h : Ev ta σ H (.str w)) (hn : PySem.intText? w = some n) (hl : w.length ≤ 640) : Ev (tCB (fun xs H Q => ∃ a n, xs = [.str a] ∧ PySem.intText? a = some n ∧ a.length ≤ 640 ∧ Q (.int n) H) (tCons ta tNil)) σ H (.int n) := fun H1 e Q q =>
  h H1 e _ fun H2 e2 => ⟨w, n, rfl, hn, hl, q H2 e2⟩
theorem ev_lenZ {w : Str} (h : Ev ta σ H (.str w)) (hz : w.length ≤ 100000) : Ev (tCB (fun xs H Q => ∃ z, xs = [.str z] ∧ z.length ≤ sizeLine ∧ Q (.int z.length) H) (tCons ta tNil)) σ H (.int (w.length : Int)) := fun H1 e Q q =>
  h H1 e _ fun H2 e2 => ⟨w, rfl, sz_of hz, q H2 e2⟩
/-- for over a text -/
theorem s_forS {z : Str} (h : Ev te σ H (.str z)) (Pv : Nat → L2.St → Hp → Prop) (h0 : ∀ H1, Ex H H1 → Pv 0 σ H1)
    (hs : ∀ i c σ' H', (TL.tl z)[i]? = some c → Pv i σ' H' → g (.str ⟨#[c]⟩) σ' H' fun σ2 H2 => tu { D with nx := Pv (i + 1), ct := Pv (i + 1), bk := D.nx } σ2 H2) (hd : ∀ σ' H', Pv (TL.tl z).length σ' H' → D.nx σ' H') : tFor (iStr te) g tu D σ H :=
  h H (Ex.refl H) _ fun H1 e => ⟨z, rfl, for_it walk_str Pv (h0 H1 e) (fun _ _ _ _ _ => trivial) (fun i x σ' H1 H2 _ p y => by
    obtain ⟨rfl, c, hc, rfl⟩ := y
    exact hs i c σ' H2 (by simpa using hc) p) (fun σ' H' p => hd σ' H' (by simpa using p))⟩
theorem ev_niSign {c : Nat} {z : Str} (ha : Ev ta σ H (.str ⟨#[c]⟩)) (hb : Ev tb σ H (.str z)) : Ev (tOp (fun x y H Q => ∃ (c : Nat) (z : Str), x = .str ⟨#[c]⟩ ∧ y = .str z ∧ Q (.bl (!decide (c ∈ z.cps.toList))) H) ta tb) σ H (.bl (!decide (c ∈ z.cps.toList))) := fun H1 e Q q =>
  ha H1 e _ fun H2 e2 => hb H2 (e.trans e2) _ fun H3 e3 => ⟨c, z, rfl, rfl, q H3 (e2.trans e3)⟩
theorem ev_catS {a b : Str} (ha : Ev ta σ H (.str a)) (hb : Ev tb σ H (.str b)) (hz : a.length + b.length ≤ 16777216) : Ev (tOp (fun x y H Q => ∃ i j, x = .str i ∧ y = .str j ∧ i.length + j.length ≤ sizeLine ∧ Q (.str (i ++ j)) H) ta tb) σ H (.str (a ++ b)) := fun H1 e Q q =>
  ha H1 e _ fun H2 e2 => hb H2 (e.trans e2) _ fun H3 e3 => ⟨a, b, rfl, rfl, by show _ ≤ (16777216 : Nat); omega, q H3 (e2.trans e3)⟩
/-- text.split(sep) -/
theorem el_split {a b : Str} (ha : Ev to σ H (.str a)) (hb : Ev te σ H (.str b)) (h0 : (b.length == 0) = false) (hz : a.length + 2 ≤ 16777216) :
    EvL (tM1 (fun x xs H Q => ∃ a b, x = .str a ∧ xs = [.str b] ∧ (b.length == 0) = false ∧ a.length + 2 ≤ sizeLine ∧ rNewStrs (Txt.split a b) H Q) to te) σ H (Strs (Txt.split a b)) := fun H1 e Q q =>
  ha H1 e _ fun H2 e2 => ⟨⟨a, rfl⟩, hb H2 (e.trans e2) _ fun H3 e3 => ⟨a, b, rfl, rfl, h0, by show _ ≤ (16777216 : Nat); omega, fun p hp => q p _ (fresh_back (e2.trans e3) hp) ((e2.trans e3).trans (Ex.new hp)) upd_same⟩⟩
/-- xs[k:], any list -/
theorem el_fromV {a : Addr} {xs : List V} {k : Nat} (ha : Ev ta σ H (.ref a)) (h : Lst H a xs) (hk : Ev tb σ H (.int (k : Int))) : EvL (L2.tSl (rSlL K) ta (tPart tb) tNoPart) σ H (xs.drop k) := by
  have := el_sl (K := K) ha (eo_some hk) eo_none (sq_of h)
  rw [cut_from] at this
  exact this
/-- [v x for x in ws], texts of a new list to ints -/
theorem el_lcSN {j : Nat} {vs : List Nat} {ws : List Str} (g : Str → Int) (h : EvL tl σ H (Strs ws)) (hz : ws.length ≤ 40000) (hw : ∀ x, wipe ((wipe σ vs).set j (some x)) vs = wipe σ vs)
    (he : ∀ w ∈ ws, ∀ H1, Ex H H1 → Ev te ((wipe σ vs).set j (some (.str w))) H1 (.int (g w))) : EvL (tLc (iList K tl) (gName j) tYes te vs) σ H (Ints (ws.map g)) := fun H1 e Q q =>
  h H1 e _ fun a H2 ha e2 h2 => by
    have hz2 : (Strs ws).length ≤ 40000 := by rw [List.length_map]; exact hz
    have z : EvL (tLc (iList K (tC (.ref a))) (gName j) tYes te vs) σ H2 (given (Strs ws).length (fun _ => true) fun i => .int (g (ws.getD i blankS))) :=
      el_lcL _ _ ev_c (sq_of h2) hz2 hw (fun i x H3 e3 hi => et_yes) (fun i x H3 e3 hi _ => by
        rw [List.getElem?_map] at hi
        cases hw2 : ws[i]? with
        | none =>
          rw [hw2] at hi
          cases hi
        | some w =>
          rw [hw2] at hi
          cases hi
          have hd : ws.getD i blankS = w := by rw [List.getD_eq_getElem?_getD, hw2]; rfl
          rw [hd]
          exact he w (List.mem_of_getElem? hw2) H3 ((e.trans e2).trans e3))
    have e5 : (given (Strs ws).length (fun _ => true) fun i => V.int (g (ws.getD i blankS))) = Ints (ws.map g) := by
      rw [given_all, List.length_map]
      apply List.ext_getElem
      · simp
      · intro i h3 h4
        simp at h3
        simp [List.getD_eq_getElem?_getD, List.getElem?_eq_getElem h3]
    rw [e5] at z
    exact z H2 (Ex.refl H2) Q fun p H3 hp e3 h3 => q p H3 (fresh_back e2 hp) (e2.trans e3) h3
/-! ### lists of texts as data -/
def dS (ws : List Str) : PyData := .list (ws.map .str)
theorem dpAll_S (ws : List Str) : DpAll K H (Strs ws) (ws.map .str) := by
  induction ws with
  | nil => exact .nil
  | cons x xs ih => exact .cons (.str x) ih
theorem dp_S {a : Addr} {ws : List Str} (h : Lst H a (Strs ws)) : Dp K H (.ref a) (dS ws) := .lst (sq_of h) (dpAll_S ws)
theorem lay_Ss {ws : List Str} (h : ∀ w ∈ ws, PyData.strOk w = true) : PyData.canLayAll0 (ws.map .str) = true := by
  induction ws with
  | nil => rfl
  | cons x xs ih => simp [PyData.canLayAll0, PyData.canLay0, ih fun w hw => h w (List.mem_cons_of_mem _ hw), h x List.mem_cons_self]
theorem depth_Ss (ws : List Str) : PyData.depthAll (ws.map .str) = 0 := by
  induction ws with
  | nil => rfl
  | cons x xs ih => simp [PyData.depthAll, PyData.depth, ih]
theorem sh_S {ws : List Str} (h : ∀ w ∈ ws, PyData.strOk w = true) : SeqAt.shaped (dS ws) = true := by
  simp [SeqAt.shaped, dS, PyData.canLay0, PyData.depth, lay_Ss h, depth_Ss]
theorem eqv_SS (ws : List Str) : PyData.eqv (dS ws) (dS ws) = true := by
  have : ∀ ws : List Str, PyData.eqvAll (ws.map .str) (ws.map .str) = true := by
    intro ws
    induction ws with
    | nil => simp [PyData.eqvAll]
    | cons x xs ih => simp [PyData.eqvAll, PyData.eqv, ih]
  simp [dS, PyData.eqv, this]
/-- two lists of the same texts -/
theorem neSS {a b : Addr} {ws : List Str} (ho : ∀ w ∈ ws, PyData.strOk w = true) (ha : Ev ta σ H (.ref a)) (h1 : Lst H a (Strs ws)) (hb : Ev tb σ H (.ref b)) (h2 : Lst H b (Strs ws)) : Ev (tOp (rNeD K) ta tb) σ H (.bl false) := fun H1 e Q q =>
  ha H1 e _ fun H2 e2 => hb H2 (e.trans e2) _ fun H3 e3 => ⟨dS ws, dS ws, dp_S (((e.trans e2).trans e3) a _ h1), dp_S (((e.trans e2).trans e3) b _ h2), sh_S ho, sh_S ho, by
    rw [eqv_SS]
    exact q H3 (e2.trans e3)⟩
end
end Rg

set_option Elab.async false
set_option linter.all false
set_option maxRecDepth 100000
set_option maxHeartbeats 1000000
/-! Rg, part E: an exception that leaves a list comprehension. -/
namespace Rg
open PySem PySem.Spec PyProof.Rows L2 Evl
section
variable {M : Model} {A : Around} {E : Value → Shared → Prop} {s : Shared} {Z : Obj → Prop} {G : Heap} {en : Env} {up : List Env} {F x : Addr} {fl : Value}
/-- a traced exception, whatever flight it tells of, is noted at a frame -/
theorem note_any {Q : Unit → Shared → Prop} (zs : HandSPX.Steady Z) (af : A.frames = some (en :: up)) (ef : en.frame = some F) (g1 : G.StaysIn s.heap) (g2 : G.get? x = none) (g3 : s.heap.FunFrames G (en :: up))
    (tr : HandSPX.TracedZ s.heap G x Z fl) (k : ∀ h2, HandSPX.HeldZ G (en :: up) x Z F h2 → s.heap.UpToSlots h2 → Q () { s with heap := h2 }) : wpAny M A (noteFrame (.ref x) en) Q E s := by
  by_cases same : fl = rawInt F
  · rw [same] at tr
    exact HandSPX.againZ ef tr (k s.heap ⟨g1, g2, g3, tr⟩ (Heap.UpToSlots.refl _))
  obtain ⟨ox, fs, T, oT, tf, hx, zx, dx, f1, gT, Tx, hT, dT, t3⟩ := tr
  have len3 : 3 < tf.size := (Array.getElem?_eq_some_iff.mp t3).1
  have len1 : 1 < fs.size := (Array.getElem?_eq_some_iff.mp f1).1
  unfold noteFrame
  simp only [ef]
  refine wpAny_bind (wpAny_field hx dx f1 ?_)
  rw [if_pos (by simp : (Value.ref T != Value.none) = true)]
  refine wpAny_bind (wpAny_field hT dT t3 ?_)
  rw [if_neg (by simpa using same : ¬ (fl == rawInt F) = true)]
  refine wpAny_bind (wpAny_setField hT dT len3 ?_)
  have far : ∀ b, b ≠ T → (s.heap.update T (Obj.mapFields (·.setIfInBounds 3 Value.none))).get? b = s.heap.get? b := fun b hb => Heap.get?_update_other _ _ hb.symm
  have plain : ∀ b u, s.heap.get? b = some u → (∀ v, u.data ≠ .fields v) → b ≠ T := fun b u e n q => by
    subst q
    rw [hT] at e
    cases e
    exact n tf dT
  refine HandSPX.wpAny_entryZ zs af (g3.of_keeps fun b u e n => ⟨u, (far b (plain b u e n)).trans e, rfl⟩) ef ((far x Tx.symm).trans hx) (fun b u e => (far b fun q => by
    subst q
    rw [gT] at e
    cases e).trans (g1 b u e)) g2 dx len1 zx fun h2 ⟨n1, n2, n3, n4⟩ => ?_
  exact k h2 ⟨n1, g2, n2, n3⟩ fun b u e n => n4 b u ((far b (plain b u e n)).trans e) n
/-- .. and leaves the def -/
theorem leave_any {Q : Unit → Shared → Prop} (zs : HandSPX.Steady Z) (af : A.frames = some (en :: up)) (ef : en.frame = some F) (g1 : G.StaysIn s.heap) (g2 : G.get? x = none) (g3 : s.heap.FunFrames G (en :: up))
    (tr : HandSPX.TracedZ s.heap G x Z fl) (k : ∀ h2, HandSPX.FlyingZ G up x Z h2 → s.heap.UpToSlots h2 → Q () { s with heap := h2 }) : wpAny M A (leaving en (.ref x)) Q E s := by
  unfold leaving
  exact wpAny_bind (note_any zs af ef g1 g2 g3 tr fun h2 held u2 => HandSPX.landsZ held fun h3 ⟨a1, a2, a3, a4⟩ u3 => k h3 ⟨a1, a2, a3.2.2, a4⟩ (u2.trans u3))
end
/-- what is noted of a frame asks for the frame alone -/
theorem note_frame {e : Value} {en en2 : Env} (h : en2.frame = en.frame) : noteFrame e en2 = noteFrame e en := by
  unfold noteFrame PySem.frameOf
  rw [h]
section
variable {X : Cx} {σ : L2.St} {H : Hp} {s s1 : Shared} {pins : List (Addr × Obj)} {E : XK} {E1 : Value → Shared → Prop} {C : Addr} {ce : Env} {u : Value}
/-- a call within a comprehension's block lets an exception out: it leaves the block, whose dict stands at C, and the def -/
theorem comp_err (hx : X.xe = fun e s' => wpAny (model X.prog X.w) X.A (leaving X.env e) (fun _ s'' => L2.CX X.prog X.w X.outer X.H_0 X.s_0 E e s'') E1 s') (hs : X.stack = X.env :: X.outer) (hf : X.env.frame = some X.env.locals) (hex : X.ex = [])
    (I : Inv X pins σ H s) (hC : ∃ m, s.heap.Ns C m) (nC : FpOk X pins H C) (c : L2.CX X.prog X.w X.stack H s E u s1) (cf : ce.frame = X.env.frame) :
    notedBy (model X.prog X.w) X.A ce (fun e s2 => ∃ m, s2.heap.Ns C m ∧ ∀ h3, Heap.SameBut C s2.heap h3 → ∀ ce2 : Env, ce2.locals = C → wpAny (model X.prog X.w) X.A (passOn "comprehension.variables-let-go" e ce2 : Sem Value) (fun _ _ => False) X.xe { s2 with heap := h3 }) u s1 := by
  obtain ⟨x, G, H', cls, d, rfl, fly, hok, ub, nx, os, ag, w⟩ := c
  obtain ⟨f0, f1, f2, f3, f4, f5⟩ := nC
  have af : X.A.frames = some (X.env :: X.outer) := by rw [I.ok.frames, hs]
  have old : X.s_0.heap.objs.size ≤ C := by
    rw [hex] at f3
    rcases f3 with z | z
    · cases z
    · exact z
  have off : C ∉ frs X.stack := fun z => by
    rcases List.mem_cons.mp (I.stkSub C z) with z | z
    · exact f1 z
    · exact f2 z
  obtain ⟨m, oC, es, ep, hoC, dC, rC⟩ := hC
  have gC : G.get? C = some oC := ub.keep C oC hoC f0 off
  rw [hs] at fly
  show wpAny (model X.prog X.w) X.A (noteFrame (.ref x) ce) _ _ _
  rw [note_frame cf]
  refine HandSPX.looks_onZ Zc.steady af hf fly fun h2 held up2 => ?_
  obtain ⟨s2, x2, fr2, tr2⟩ := held
  refine ⟨m, ⟨oC, es, ep, s2 C oC gC, dC, rC⟩, fun h3 sb ce2 hce => ?_⟩
  -- the ground without the block's dict
  have g9 : ∀ b o, (PySem.W.hideAll G [C]).get? b = some o → b ≠ C ∧ G.get? b = some o := fun b o e => ⟨fun z => (by
    rw [z, PySem.W.hideAll_none [C] List.mem_cons_self] at e
    cases e), PySem.W.of_hideAll _ e⟩
  have n9 : ∀ b, G.get? b = none → (PySem.W.hideAll G [C]).get? b = none := fun b e => by
    cases q : (PySem.W.hideAll G [C]).get? b with
    | none => rfl
    | some o =>
      rw [(g9 b o q).2] at e
      cases e
  have k9 : ∀ b o, b ≠ C → G.get? b = some o → (PySem.W.hideAll G [C]).get? b = some o := fun b o n e => PySem.W.hideAll_get _ e fun z => n (List.mem_singleton.mp z)
  have st9 : (PySem.W.hideAll G [C]).StaysIn h3 := fun b o e => (sb.2 b (g9 b o e).1).trans (s2 b o (g9 b o e).2)
  have hC2 : h2.get? C = some oC := s2 C oC gC
  have offC : ∀ b o, h2.get? b = some o → (∃ v, o.data = .fields v) → b ≠ C := fun b o e ⟨v, dv⟩ z => by
    rw [z, hC2] at e
    cases e
    rw [dC] at dv
    cases dv
  have fr9 : h3.FunFrames (PySem.W.hideAll G [C]) (X.env :: X.outer) := by
    have hn : ∀ L ∈ frs (X.env :: X.outer), (PySem.W.hideAll G [C]).get? L = none := fun L hL => n9 L (fr2.mem hL).1
    have e3 : ∀ l : List Env, (∀ L ∈ frs l, L ≠ C) → h2.FunFrames G l → h3.FunFrames G l := by
      intro l
      induction l with
      | nil => intro _ _; trivial
      | cons e0 l ih =>
        intro hl ⟨a1, ⟨L, o, a2, a3, a4, a5⟩, a6⟩
        refine ⟨a1, ⟨L, o, a2, a3, (sb.2 L (hl L (List.mem_filterMap.mpr ⟨e0, List.mem_cons_self, a2⟩))).trans a4, a5⟩, ih (fun L hL => hl L ?_) a6⟩
        obtain ⟨e1, he1, q⟩ := List.mem_filterMap.mp hL
        exact List.mem_filterMap.mpr ⟨e1, List.mem_cons_of_mem _ he1, q⟩
    rw [hs] at off
    exact funFrames_none (e3 _ (fun L hL z => off (z ▸ hL)) fr2) hn
  have tr9 : HandSPX.TracedZ h3 (PySem.W.hideAll G [C]) x (Zc cls d) (rawInt X.env.locals) := by
    obtain ⟨ox, fs, T, oT, tf, hx2, zx, dx, q1, gT, Tx, hT, dT, t3⟩ := tr2
    exact ⟨ox, fs, T, oT, tf, (sb.2 x (offC x ox hx2 ⟨_, dx⟩)).trans hx2, zx, dx, q1, n9 T gT, Tx, (sb.2 T (offC T oT hT ⟨_, dT⟩)).trans hT, dT, t3⟩
  have fin : wpAny (model X.prog X.w) X.A (setFlight (.ref x) ce2.frame) (fun _ s4 => wpAny (model X.prog X.w) X.A (throw (.ref x) : Sem Value) (fun _ _ => False) X.xe s4) X.xe { s1 with heap := h3 } := by
    refine HandSPX.setFlight_anyZ st9 fr9 tr9 fun h4 st4 fr4 tr4 up4 => wpAny_throw ?_
    rw [hx]
    refine leave_any Zc.steady af hf st4 (n9 x x2) fr4 tr4 fun h5 fly5 up5 => ?_
    -- from the def's entry to here
    have chain : ∀ b o, X.s_0.heap.get? b = some o → b ≠ C := fun b o e z => by
      have := Heap.lt_size e
      rw [z] at this
      exact absurd (Nat.lt_of_lt_of_le this old) (Nat.lt_irrefl _)
    have none_ex : ∀ b, b ∉ X.ex := fun b hb => by
      rw [hex] at hb
      cases hb
    have nofr : ∀ b o, X.s_0.heap.get? b = some o → b ∉ X.fs → b ∉ frs X.stack := fun b o e hb z => by
      rcases List.mem_cons.mp (I.stkSub b z) with z | z
      · have h1 := Heap.lt_size e
        rw [z] at h1
        exact absurd (Nat.lt_of_lt_of_le h1 I.ok.above) (Nat.lt_irrefl _)
      · exact hb z
    refine ⟨x, PySem.W.hideAll G [C], H', cls, d, rfl, fly5, fun b o e => (hok b o e).stay (fun b2 v hb2 q => k9 b2 v (fun z => ?_) q) (fun _ q => q) (fun _ _ q => q), ⟨fun b o e n hb => ?_, fun b o e hb => ?_, fun b o e n => ?_, fun b o e hb => ?_, fun b xs e => ?_, fun b o xs e => ?_, fun b ps e => ?_⟩, nx, os.trans I.os, ag, w⟩
    · have fC : H' C = none := ub.free C oC hoC f0
      rw [z] at hb2
      rcases hb2 with hb2 | hb2
      · rw [← hb2, fC] at e
        cases e
      · rw [fC] at hb2
        cases hb2
    · have b1 := I.base.keep b o e n hb (none_ex b)
      exact k9 b o (chain b o e) (ub.keep b o b1 (I.base.free b o e n (none_ex b)) (nofr b o e hb))
    · obtain ⟨_, o0, e0, hnf⟩ := I.ok.funs.mem hb
      rw [e] at e0
      cases e0
      obtain ⟨l1, q1⟩ := I.base.slot b o e (I.ok.frf b hb) hb (none_ex b)
      have hb2 : b ∈ frs X.stack := by
        rw [hs]
        obtain ⟨e1, he1, q⟩ := List.mem_filterMap.mp hb
        exact List.mem_filterMap.mpr ⟨e1, List.mem_cons_of_mem _ he1, q⟩
      obtain ⟨l2, q2⟩ := ub.slot b _ q1 hb2
      obtain ⟨l3, q3⟩ := up2 b _ q2 hnf
      have q4 := (sb.2 b (chain b o e)).trans q3
      obtain ⟨l5, q5⟩ := up4 b _ q4 hnf
      obtain ⟨l6, q6⟩ := up5 b _ q5 hnf
      exact ⟨l6, q6⟩
    · have b1 := I.base.free b o e n (none_ex b)
      by_cases hb : b ∈ X.fs
      · obtain ⟨l1, q1⟩ := I.base.slot b o e n hb (none_ex b)
        exact ub.free b _ q1 b1
      · exact ub.free b o (I.base.keep b o e n hb (none_ex b)) b1
    · obtain ⟨o2, q2⟩ := I.base.there b o e (none_ex b)
      obtain ⟨o3, q3⟩ := ub.there b o2 q2 (nofr b o e hb)
      exact ⟨o3, k9 b o3 (chain b o e) q3⟩
    · exact ub.tups b xs (I.base.tups b xs e)
    · exact ub.frzs b o xs (I.base.frzs b o xs e)
    · obtain ⟨m1, q1⟩ := I.base.tbls b ps e
      obtain ⟨m2, q2⟩ := ub.tbls b _ q1
      exact ⟨m1 ++ m2, by rw [q2, Array.append_assoc]⟩
  obtain ⟨ox, fs, T, oT, tf, hx9, zx, dx, q1, _⟩ := id tr9
  unfold PySem.passOn
  refine wpAny_bind (wpAny_field hx9 dx q1 ?_)
  rw [if_neg (by simp : ¬ ((Value.ref T == Value.none) = true))]
  first
    | exact wpAny_bind (wpAny_pure (wpAny_bind fin))
    | exact wpAny_bind fin
end
section
variable {X : Cx}
theorem pe_lcX {E : XK} {E1 : Value → Shared → Prop} {elt tg iter : Expr} {scope : Scope} {own : List (Str × Nat)} {pos : Pos} {wi : TI} {g : TG} {te : TE}
    (hx : X.xe = fun e s' => wpAny (model X.prog X.w) X.A (leaving X.env e) (fun _ s'' => L2.CX X.prog X.w X.outer X.H_0 X.s_0 E e s'') E1 s') (hs : X.stack = X.env :: X.outer) (hf : X.env.frame = some X.env.locals) (hex : X.ex = [])
    (hc : X.calm = true) (hN : X.N.Nodup) (hi : PI X tg iter wi) (ok : BlkOk X.N X.env.scope scope own)
    (hg : ∀ (s : Shared) (H : Hp) (C : Addr) (cl : List (Str × Addr)) (fp : List Addr), PG (X.blk s H scope (compEnvC scope cl C X.env) fp) tg g)
    (he : ∀ (s : Shared) (H : Hp) (C : Addr) (cl : List (Str × Addr)) (fp : List Addr) (Y : Value → Shared → Prop), Passes (L2.CX X.prog X.w) ((X.blk s H scope (compEnvC scope cl C X.env) fp).wish Y) E → PE ((X.blk s H scope (compEnvC scope cl C X.env) fp).wish Y) elt te)
    (hq : ∀ x, foldedSetIterable iter X.env x = pure x := by intro _; rfl) : PE X (.ListComp elt [⟨tg, iter, [], 0⟩] scope pos) (tLc wi g tYes te (own.map (·.2))) := by
  refine ⟨fun pins s σ H Q I reading => ?_⟩
  rw [eval_ListComp]
  have caught : ∀ y ∈ scope.names, y.2 = .free → ∃ c, X.env.cells.lookup y.1 = some c := fun y hy e => I.ok.has _ (ok.free y hy e)
  refine wpAny_comprehension_free (use := none) rfl hq (closure_ok caught) ok.kind (fun y hy e => (ok.uniq y hy).trans (by rw [e])) (thn (hi.run pins s σ H _ I reading) fun xv sA hA => thn hA fun iv sB hB => ?_)
  obtain ⟨it, fp, tn, J, HB, eit, IB, T, tnB, fB, rest⟩ := hB
  subst eit
  refine wpAny_newObj_type (newEnv_comp ?_) (Nat.zero_le _)
  -- the new list at D, the block's dict at C
  obtain ⟨D, hD⟩ : ∃ D, D = sB.heap.objs.size := ⟨_, rfl⟩
  have freeD : HB D = none := IB.hok.fresh (Nat.le_of_eq hD.symm)
  obtain ⟨W, ⟨m0, w0⟩, turn⟩ := rest D freeD
  obtain ⟨sC, hsC⟩ : ∃ sC : Shared, sC = { sB with heap := sB.heap.push { cls := .type "list", data := .seq ([] : List Value).toArray } } := ⟨_, rfl⟩
  have IC : Inv X pins σ (upd HB D (.lst [])) sC := by
    subst hsC
    exact IB.laid (t' := sB.toks) (fun b o e => Heap.get?_push_of_some _ e) (Nat.le_of_eq hD.symm) ⟨Nat.zero_le _, [], 0, .nil, by rw [hD]; exact Heap.get?_push_size _ rfl⟩
  have keepC : ∀ b o, sB.heap.get? b = some o → sC.heap.get? b = some o := fun b o e => by
    rw [hsC]
    exact Heap.get?_push_of_some _ e
  have fpC : ∀ b ∈ fp, FpOk X pins (upd HB D (.lst [])) b ∧ b < sC.heap.objs.size := fun b hb => by
    obtain ⟨o, e, _⟩ := T.obj _ _ tnB b hb
    have lt := Heap.lt_size e
    refine ⟨⟨(upd_ne (show b ≠ D by rw [hD]; exact Nat.ne_of_lt lt)).trans (fB b hb).1, (fB b hb).2⟩, Heap.lt_size (keepC b o e)⟩
  have tnC : tn 0 sC.heap := T.keep _ _ _ tnB fun b _ o e => keepC b o e
  have nilC : ∀ b ∈ fp, (upd HB D (.lst [])) b = none := fun b hb => (fpC b hb).1.1
  have IS := block_start IC ok hN fpC
  rw [← hD, ← hsC]
  obtain ⟨HC, hHC⟩ : ∃ HC, HC = upd HB D (.lst []) := ⟨_, rfl⟩
  obtain ⟨C, eC⟩ : ∃ C, C = sC.heap.objs.size := ⟨_, rfl⟩
  obtain ⟨cl, ecl⟩ : ∃ cl, cl = cellsFrom (sC.heap.objs.size + 1) scope.names (cloFrom X.env.cells scope.names []) := ⟨_, rfl⟩
  rw [← hHC] at IC fpC nilC w0 IS
  rw [← ecl, ← eC] at IS ⊢
  obtain ⟨ce, ece⟩ : ∃ ce, ce = compEnvC scope cl C X.env := ⟨_, rfl⟩
  obtain ⟨Y, eY⟩ : ∃ Y : Value → Shared → Prop, Y = notedBy (model X.prog X.w) X.A ce (fun e s2 => compPost (model X.prog X.w) X.A X.xe none (EP X pins σ Q) (.ref D) C (.error e) s2) := ⟨_, rfl⟩
  -- from the block back to the def
  have back : ∀ {p2 : List (Addr × Obj)} {σ2 : L2.St} {H2 : Hp} {s2 : Shared}, Inv (X.blk sC HC scope ce fp) p2 σ2 H2 s2 → Inv X pins σ H2 s2 ∧ FpOk X pins H2 C ∧ ∃ m, s2.heap.Ns C m := fun {p2 σ2 H2 s2} I2 => by
    have lC : ce.locals = C := by rw [ece]; rfl
    have free2 : H2 C = none := by
      have z : H2 ce.locals = none := I2.free
      rw [lC] at z
      exact z
    obtain ⟨m, hm, _⟩ := I2.loc
    have hm : s2.heap.Ns ce.locals m := hm
    rw [lC] at hm
    exact ⟨IC.call' (ch := fp) I2.os I2.base I2.hok I2.bare fun b hb => ⟨(fpC b hb).1.2.2.2.1, (fpC b hb).1.2.1, (fpC b hb).1.2.2.2.2.1, (fpC b hb).1.2.2.2.2.2⟩, IC.fpOk (Nat.le_of_eq eC.symm) free2, m, hm⟩
  have pe : PE ((X.blk sC HC scope ce fp).wish Y) elt te := by
    subst ece
    refine he sC HC C cl fp Y fun p2 σ2 H2 s2 e s2' I2 c => ?_
    obtain ⟨I3, fC, hm⟩ := back I2.unwish
    rw [eY]
    exact comp_err hx hs hf hex I3 hm fC c rfl
  have pg : PG (X.blk sC HC scope ce fp) tg g := by
    subst ece
    exact hg sC HC C cl fp
  rw [← ece] at IS
  show codeAny _ _ (.compStart (.ListComp elt [⟨tg, iter, [], 0⟩] scope pos) 0 (.ref it) (.ref D) (compEnvC scope cl C X.env)) (compPost (model X.prog X.w) X.A X.xe none (EP X pins σ Q) (.ref D) C) { sC with heap := pushCells (sC.heap.push { cls := .type "dict", data := .dict #[] }) scope.names }
  rw [← ece]
  obtain ⟨sS, hsS⟩ : ∃ sS : Shared, sS = { sC with heap := pushCells (sC.heap.push { cls := .type "dict", data := .dict #[] }) scope.names } := ⟨_, rfl⟩
  rw [← hsS] at IS ⊢
  have tnS : tn 0 sS.heap := T.keep _ _ _ tnC fun b _ o e => by
    rw [hsS]
    exact pushCells_keeps _ _ _ _ (Heap.get?_push_of_some _ e)
  have okF : ∀ {σ2 : L2.St} {H2 : Hp} {s2 : Shared}, Inv (X.blk sC HC scope ce fp) [] σ2 H2 s2 → (∀ b ∈ fp, H2 b = none) → ∀ b ∈ fp, FpOk (X.blk sC HC scope ce fp) [] H2 b := fun {σ2 H2 s2} I2 hn b hb =>
    ⟨hn b hb, (I2.ok.exf b hb).1, I2.ok.exfs b hb, .inl hb, (I2.ok.exf b hb).2, fun p hp => by cases hp⟩
  have whole : codeAny (model X.prog X.w) X.A (.compLoop (.ListComp elt [⟨tg, iter, [], 0⟩] scope pos) 0 (.ref it) (.ref D) ce) (compPost (model X.prog X.w) X.A X.xe none (EP X pins σ Q) (.ref D) C) sS := by
    refine compLoop_any (fun n s2 => ∃ i H2, Inv (X.blk sC HC scope ce fp) [] (wipe σ (own.map (·.2))) H2 s2 ∧ tn i s2.heap ∧ (∀ b ∈ fp, H2 b = none) ∧ W i n H2) ?_ m0 ⟨0, HC, IS, tnS, nilC, w0⟩
    rintro n s2 ⟨i, H2, I2, tn2, n2, w2⟩
    rcases turn i n H2 w2 with ⟨stop, qD⟩ | ⟨go, Nx, hNx, step⟩
    · refine thnF (T.done (X.blk sC HC scope ce fp) rfl rfl rfl hc i [] s2 _ H2 (fun _ _ => False) I2 (okF I2 n2) tn2 stop) fun r s3 ⟨er, I3⟩ => ?_
      subst er
      obtain ⟨IX, ⟨f0, f1, f2, f3, f4, f5⟩, m, hm⟩ := back I3
      exact ⟨m, hm, fun h4 sb => ⟨.ref D, H2, IX.turned (t' := s3.toks) (fun b o hb e => (sb.2 b hb).trans e) f0 f1 f3 f4 f5, rfl, qD⟩⟩
    · refine thnF (T.item (X.blk sC HC scope ce fp) rfl rfl rfl hc i [] s2 _ H2 (fun _ _ => False) I2 (okF I2 n2) tn2 go) fun r s3 ⟨v, er, h3⟩ => ?_
      subst er
      refine thnF h3 fun _ s4 ⟨x, H4, I4, r4, y4, tn4, n4⟩ => ?_
      have P4 := I4.pinned (okF I4 n4) (T.obj _ _ tn4)
      refine thnF (pg.run _ s4 _ H4 x v _ P4 r4 (step x H4 y4)) fun _ s5 ⟨σ5, H5, I5, hw5, q5⟩ => ?_
      refine wpAny_tests_nil ?_
      simp only [if_true]
      have q5 : te σ5 H5 fun y H4 => ∃ acc, H4 D = some (.lst acc) ∧ acc.length < sizeLine ∧ Nx (upd H4 D (.lst (acc ++ [y]))) := q5
      refine wpAny_mono (pe.run _ s5 σ5 H5 _ (I5.wish Y) q5) (fun z s6 ⟨yv, H6, I6, r6, acc, hD6, hz6, nx⟩ => ?_) (fun e s6 y6 => by rw [eY] at y6; exact y6)
      refine app_ok (X := X.blk sC HC scope ce fp) I6.unwish hD6 hz6 r6 fun s7 I7 => ?_
      obtain ⟨m2, lt, w7⟩ := hNx _ nx
      have pinned : ∀ b ∈ fp, ∀ o, s4.heap.get? b = some o → s7.heap.get? b = some o ∧ (upd H6 D (.lst (acc ++ [yv]))) b = none := fun b hb o e => by
        have z := I7.pin (b, o) (List.mem_append_right _ (List.mem_append_right _ (mem_pinsAt hb e)))
        exact ⟨z.1, z.2.1⟩
      have len5 : (wipe σ (own.map (·.2))).length = σ5.length := by
        have := congrArg List.length hw5
        rw [wipe_length] at this
        exact this.symm
      refine ⟨m2, lt, i + 1, _, (I7.unpinned (pins := [])).weak len5 (fun j v e => ?_), T.keep _ _ _ tn4 fun b hb o e => (pinned b hb o e).1, fun b hb => ?_, w7⟩
      · rw [← hw5] at e
        exact (wipe_some e).1
      · obtain ⟨o, e, _⟩ := T.obj _ _ tn4 b hb
        exact (pinned b hb o e).2
  exact codeAny_compStart_list whole (T.self X.A 0 _ _ _ tnS whole)
end
end Rg

set_option Elab.async false
set_option linter.all false
set_option maxRecDepth 100000
set_option maxHeartbeats 1000000
/-! Rg, part F: except (A, B): raise .. -/
namespace Rg
open PySem PySem.Spec PyProof.Rows L2 Evl
theorem fly_push {G h : Heap} {l : List Env} {x : Addr} {Z : Obj → Prop} (f : HandSPX.FlyingZ G l x Z h) (o : Obj) : HandSPX.FlyingZ G l x Z (h.push o) := by
  obtain ⟨a1, a2, a3, ox, fs, T, oT, tf, hx, zx, dx, q1, gT, Tx, hT, dT, t3⟩ := f
  exact ⟨fun b v e => Heap.get?_push_of_some _ (a1 b v e), a2, a3.of_keeps fun b v e _ => ⟨v, Heap.get?_push_of_some _ e, rfl⟩, ox, fs, T, oT, tf, Heap.get?_push_of_some _ hx, zx, dx, q1, gT, Tx, Heap.get?_push_of_some _ hT, dT, t3⟩
section
variable {X : Cx} {x1 x2 : Str} {c1 c2 : Value} {body suite : List Stmt} {b0 : Stmt} {p1 p2 tpos pos2 pos : Pos} {kk : Nat} {tb : WX → TS} {ts : Addr → Value → Option Addr → TS} {Wout : WX}
/-- what the clause wishes: one of its classes is met, and the suite's reading -/
def wTup (K : PySem.W.Frag) (cs : List Value) (ts : Addr → Value → Option Addr → TS) (D : Ends) : WX := fun cls d σ H => PySem.W.exmAny K cls cs = some true ∧ ∀ a, H a = none → ts a cls d D σ H
theorem name_runs {h : Heap} {s : Shared} {a : Addr} {oe : Obj} {pn pins : List (Addr × Obj)} {σ : L2.St} {H : Hp} {x : Str} {c : Value} {np : Pos} {Q : Value → Shared → Prop} {E : Value → Shared → Prop} (nm : Names X x c)
    (S : Inv (X.suite a ((a, oe) :: pn)) pins σ H s) (q : Q c s) : wpAny (model X.prog X.w) (X.A.mark (some (.ref a))) (eval (.Name x np) X.env) Q E s := by
  obtain ⟨g1, g2, g3 | ⟨g3, g4, g5⟩⟩ := nm
  · exact ld_glob (X := X.suite a ((a, oe) :: pn)) S g1 g3 q g2
  · exact ld_blt (X := X.suite a ((a, oe) :: pn)) S g1 g3 g4 q g5 g2
theorem ps_try_tup (hs : X.stack = X.env :: X.outer) (hf : X.env.frame = some X.env.locals) (n1 : Names X x1 c1) (n2 : Names X x2 c2) (hpa : ∀ hd : Option Value, PassesOwnAt (model X.prog X.w) (X.A.mark hd) X.A X.env X.xe) (tk : L2.Takes X Wout)
    (hb : ∀ (W : WX) (pn : List (Addr × Obj)) (xe : Value → Shared → Prop), L2N.Takes (X.tr pn xe) W → PassesOwn (model X.prog X.w) X.A X.env xe → PSs (X.tr pn xe) body (tb W))
    (hsu : ∀ (a : Addr) (oe : Obj) (cls : Value) (d : Option Addr) (pn : List (Addr × Obj)), L2N.Zn cls d oe → (∃ vs, oe.data = .fields vs) → L2.Takes (L2H.suiteX X a ((a, oe) :: pn)) Wout → L2H.HotC (L2H.suiteX X a ((a, oe) :: pn)) →
      PSs (L2H.suiteX X a ((a, oe) :: pn)) (b0 :: suite) (ts a cls d)) :
    PS X (.Try body [.ExceptHandler (some (.Tuple [.Name x1 p1, .Name x2 p2] kk tpos)) none (b0 :: suite) pos2] [] [] pos) (fun D σ H => tb (wTup X.K [c1, c2] ts D) D σ H) := by
  refine ⟨fun pins s σ H D I reading => ?_⟩
  have ok := I.ok
  have af : X.A.frames = some (X.env :: X.outer) := ok.frames.trans (by rw [hs])
  refine wpAny_Try_except ?_
  obtain ⟨xe, exe⟩ : ∃ xe : Value → Shared → Prop, xe = fun e sA => wpAny (model X.prog X.w) X.A (noteFrame e X.env) (fun _ sB => wpAny (model X.prog X.w) X.A (setFlight e none) (fun _ sC =>
    wpAny (model X.prog X.w) X.A (handleBy e X.env [.ExceptHandler (some (.Tuple [.Name x1 p1, .Name x2 p2] kk tpos)) none (b0 :: suite) pos2]) (SP X pins D) X.xe sC) X.xe sB) X.xe sA := ⟨_, rfl⟩
  have took : L2N.Takes (X.tr (X.pn ++ pins) xe) (wTup X.K [c1, c2] ts D) := by
    rintro u sE ⟨a, G, sI, pins2, σ2, H2, cls, d, rfl, IT, nb, up, sky, na, os, ag, hit, run⟩
    have J : Inv X pins σ2 H2 sI := IT.ofTry ok
    have sky : Sky G (X.env :: X.outer) a (L2N.Zn cls d) X.env.locals sE.heap := hs ▸ sky
    rw [exe]
    refine L2N.Sky.land L2N.Zn.steady af hf sky fun h3 fl3 up3 => ?_
    have J3 : Inv X pins σ2 H2 { sE with heap := h3 } := J.landed nb fl3.1 (up.trans up3) os ag
    obtain ⟨oe, vs, hoe, zoe, doe⟩ := fl3.there
    have nofr : a ∉ frs (X.env :: X.outer) := fun hm => by
      obtain ⟨_, o2, e2, hnf⟩ := fl3.2.2.1.mem hm
      rw [hoe] at e2
      cases e2
      exact hnf _ doe
    have nL : a ≠ X.env.locals := fun z => nofr (List.mem_filterMap.mpr ⟨X.env, List.mem_cons_self, by rw [hf, z]⟩)
    have nF : a ∉ X.fs := fun hm => by
      obtain ⟨e1, he1, q⟩ := List.mem_filterMap.mp hm
      exact nofr (List.mem_filterMap.mpr ⟨e1, List.mem_cons_of_mem _ he1, q⟩)
    have S3 := J3.suite hoe doe na nL nF
    refine wpAny_handleBy_cons (codeAny_handlers_test (Tuple_ (spliced_more (name_runs (h := h3) n1 S3 (spliced_more (name_runs (h := h3) n2 S3 (spliced_none ?_))))))) (by intro q; cases q)
    refine wpAny_newObj_type ?_ (by show 2 ≤ sizeLine; decide)
    have up4 : h3.UpToSlots (h3.push { cls := .type "tuple", data := .seq [c1, c2].toArray }) := Heap.UpToSlots.of_keeps fun b o e => Heap.get?_push_of_some _ e
    have fl4 := fly_push fl3 { cls := .type "tuple", data := .seq [c1, c2].toArray }
    have kin : X.K.In (h3.push { cls := .type "tuple", data := .seq [c1, c2].toArray }) := J3.kIn.keeps fun b o e => Heap.get?_push_of_some _ e
    have ty : PySem.W.Looks (model X.prog X.w) (h3.push { cls := .type "tuple", data := .seq [c1, c2].toArray }) (typeOf (.ref a)) cls := fun A Q E s k q => wpAny_typeOf_ref (k _ _ (Heap.get?_push_of_some _ hoe)) (by rw [zoe.1]; exact q)
    have look := PySem.W.exm_tup2 (M := model X.prog X.w) kin ty (Heap.get?_push_size _ rfl) hit
    refine look.here ?_
    refine codeAny_handlers_suite ?_
    refine HandSPX.lands_againZ fl4 fun h5 fl5 up5 => ?_
    have J5 : Inv X pins σ2 H2 { sE with heap := h5 } := J.landed nb fl5.1 (((up.trans up3).trans up4).trans up5) os ag
    obtain ⟨o5, v5, ho5, z5, d5⟩ := fl5.there
    have tkS : L2.Takes (L2H.suiteX X a ((a, o5) :: (X.pn ++ pins))) Wout := fun u2 s2 ⟨a2, G2, sI2, pn2, σ6, H6, cls6, d6, e2, I2, nb2, rest⟩ => tk u2 s2 ⟨a2, G2, sI2, pins, σ6, H6, cls6, d6, e2, L2H.unsuiteX I2 ok, nb2, rest⟩
    have hot : L2H.HotC (L2H.suiteX X a ((a, o5) :: (X.pn ++ pins))) := ⟨(a, o5), ⟨rfl, v5, d5, z5.2.2 v5 d5⟩, List.mem_cons_self⟩
    refine wpAny_mono ((hsu a o5 cls d (X.pn ++ pins) z5 ⟨_, d5⟩ tkS hot).run [] _ _ H2 _ (L2H.suiteX_of (J5.suite ho5 d5 na nL nF)) (run a na)) (fun f s6 out => ?_) (fun e6 s6 z => hpa (some (.ref a)) e6 s6 z)
    cases f with
    | next => exact let ⟨σ6, H6, S6, q6⟩ := out; ⟨σ6, H6, L2H.unsuiteX S6 ok, q6⟩
    | brk => exact let ⟨σ6, H6, S6, q6⟩ := out; ⟨σ6, H6, L2H.unsuiteX S6 ok, q6⟩
    | cont => exact let ⟨σ6, H6, S6, q6⟩ := out; ⟨σ6, H6, L2H.unsuiteX S6 ok, q6⟩
    | ret u => exact let ⟨v6, σ6, H6, S6, r6, q6⟩ := out; ⟨v6, σ6, H6, L2H.unsuiteX S6 ok, r6, q6⟩
  have own : PassesOwn (model X.prog X.w) X.A X.env xe := by
    rw [exe]
    exact PassesOwn.looking
  refine wpAny_mono ((hb (wTup X.K [c1, c2] ts D) (X.pn ++ pins) xe took own).run [] s σ H D (I.toTry _) reading) (fun f s1 out => ?_) (fun e s1 he => by rw [exe] at he; exact he)
  cases f with
  | next => exact let ⟨σ6, H6, S6, q6⟩ := out; wpAny_execs_nil ⟨σ6, H6, S6.ofTry ok, q6⟩
  | brk => exact let ⟨σ6, H6, S6, q6⟩ := out; ⟨σ6, H6, S6.ofTry ok, q6⟩
  | cont => exact let ⟨σ6, H6, S6, q6⟩ := out; ⟨σ6, H6, S6.ofTry ok, q6⟩
  | ret u => exact let ⟨v6, σ6, H6, S6, r6, q6⟩ := out; ⟨v6, σ6, H6, S6.ofTry ok, r6, q6⟩
end
end Rg

set_option Elab.async false
set_option linter.all false
set_option maxRecDepth 100000
set_option maxHeartbeats 1000000
/-! Rg, part R5: all roads of a length and so many places, gone through. -/
namespace Rg
def ext1 (L : Int) (row : List Int) : List (List Int) := (List.range (L - (topI row + 1)).toNat).map fun (i : Nat) => row ++ [topI row + 1 + (i : Int)]
def rowsN (L : Int) : Nat → List (List Int)
  | 0 => [[0]]
  | n + 1 => (rowsN L n).flatMap (ext1 L)
def lrows (L : Int) (many : Nat) : List (List Int) := if many = 1 then [[0]] else (rowsN L (many - 2)).map fun row => row ++ [L]
theorem ext1_mem {L : Int} {row r : List Int} : r ∈ ext1 L row ↔ ∃ x, topI row < x ∧ x < L ∧ r = row ++ [x] := by
  unfold ext1
  rw [List.mem_map]
  constructor
  · rintro ⟨i, hi, rfl⟩
    have := List.mem_range.mp hi
    exact ⟨_, by omega, by omega, rfl⟩
  · rintro ⟨x, h1, h2, rfl⟩
    refine ⟨(x - topI row - 1).toNat, List.mem_range.mpr (by omega), ?_⟩
    rw [show topI row + 1 + ((x - topI row - 1).toNat : Int) = x by omega]
theorem topI_snoc (row : List Int) (x : Int) : topI (row ++ [x]) = x := by
  rw [topI, List.length_append]
  exact gi_snoc
theorem up_snoc {row : List Int} {x : Int} (h : row ≠ []) : (row ++ [x]).Pairwise (· < ·) ↔ row.Pairwise (· < ·) ∧ topI row < x := by
  rw [List.pairwise_append]
  constructor
  · rintro ⟨h1, _, h3⟩
    exact ⟨h1, h3 _ (topI_mem h) x (List.mem_singleton_self x)⟩
  · rintro ⟨h1, h2⟩
    refine ⟨h1, List.pairwise_singleton _ _, fun a ha b hb => ?_⟩
    have := top_le (h1.imp fun h => by omega) a ha
    rw [List.mem_singleton] at hb
    omega
theorem rowsN_iff {L : Int} (hL : 1 ≤ L) : ∀ {n : Nat} {r : List Int}, r ∈ rowsN L n ↔ r.length = n + 1 ∧ gi r 0 = 0 ∧ r.Pairwise (· < ·) ∧ topI r < L
  | 0, r => by
    rw [rowsN, List.mem_singleton]
    constructor
    · rintro rfl
      exact ⟨rfl, rfl, List.pairwise_singleton _ _, by show (0 : Int) < L; omega⟩
    · rintro ⟨h1, h2, _⟩
      match r, h1, h2 with
      | [x], _, h2 =>
        have h2 : x = 0 := h2
        rw [h2]
  | n + 1, r => by
    rw [rowsN, List.mem_flatMap]
    constructor
    · rintro ⟨row, hr, h⟩
      obtain ⟨x, h1, h2, rfl⟩ := ext1_mem.mp h
      obtain ⟨k1, k2, k3, k4⟩ := (rowsN_iff hL).mp hr
      have hne : row ≠ [] := fun z => by
        rw [z] at k1
        simp at k1
      refine ⟨by rw [List.length_append, k1]; rfl, ?_, (up_snoc hne).mpr ⟨k3, h1⟩, by rw [topI_snoc]; exact h2⟩
      rw [gi_snoc_lt (by omega), k2]
    · rintro ⟨h1, h2, h3, h4⟩
      have hne : r ≠ [] := fun z => by
        rw [z] at h1
        simp at h1
      have e : r = r.dropLast ++ [r.getLast hne] := (List.dropLast_concat_getLast hne).symm
      have hl : r.dropLast.length = n + 1 := by rw [List.length_dropLast]; omega
      generalize r.getLast hne = x at e
      generalize r.dropLast = row at e hl
      subst e
      have hne2 : row ≠ [] := fun z => by
        rw [z] at hl
        simp at hl
      obtain ⟨k1, k2⟩ := (up_snoc hne2).mp h3
      rw [topI_snoc] at h4
      rw [gi_snoc_lt (by omega)] at h2
      exact ⟨row, (rowsN_iff hL).mpr ⟨hl, h2, k1, by omega⟩, ext1_mem.mpr ⟨x, k2, h4, rfl⟩⟩
theorem lrows_iff {L : Int} (hL : 1 ≤ L) {many : Nat} (hm : 2 ≤ many) {r : List Int} : r ∈ lrows L many ↔ r.length = many ∧ gi r 0 = 0 ∧ r.Pairwise (· < ·) ∧ topI r = L := by
  rw [lrows, if_neg (by omega), List.mem_map]
  constructor
  · rintro ⟨row, hr, rfl⟩
    obtain ⟨k1, k2, k3, k4⟩ := (rowsN_iff hL).mp hr
    have hne : row ≠ [] := fun z => by
      rw [z] at k1
      simp at k1
    refine ⟨by rw [List.length_append, k1]; show many - 2 + 1 + 1 = many; omega, ?_, (up_snoc hne).mpr ⟨k3, k4⟩, topI_snoc _ _⟩
    rw [gi_snoc_lt (by omega), k2]
  · rintro ⟨h1, h2, h3, h4⟩
    have hne : r ≠ [] := fun z => by
      rw [z] at h1
      simp at h1
      omega
    have e : r = r.dropLast ++ [r.getLast hne] := (List.dropLast_concat_getLast hne).symm
    have hl : r.dropLast.length = many - 2 + 1 := by rw [List.length_dropLast]; omega
    generalize r.getLast hne = x at e
    generalize r.dropLast = row at e hl
    subst e
    have hne2 : row ≠ [] := fun z => by
      rw [z] at hl
      simp at hl
    obtain ⟨k1, k2⟩ := (up_snoc hne2).mp h3
    rw [topI_snoc] at h4
    rw [gi_snoc_lt (by omega)] at h2
    exact ⟨row, (rowsN_iff hL).mpr ⟨hl, h2, k1, by omega⟩, by rw [h4]⟩
theorem lt_app : ∀ {r s : List Int} (a b : List Int), r.length = s.length → r < s → r ++ a < s ++ b
  | [], [], _, _, _, h => absurd h (List.lt_irrefl _)
  | x :: r, y :: s, a, b, hl, h => by
    rw [List.cons_append, List.cons_append]
    rcases List.cons_lt_cons_iff.mp h with h | ⟨h1, h2⟩
    · exact List.cons_lt_cons_iff.mpr (.inl h)
    · exact List.cons_lt_cons_iff.mpr (.inr ⟨h1, lt_app a b (Nat.succ.inj hl) h2⟩)
theorem lt_app_same : ∀ (r : List Int) {a b : List Int}, a < b → r ++ a < r ++ b
  | [], _, _, h => h
  | x :: r, _, _, h => List.cons_lt_cons_iff.mpr (.inr ⟨rfl, lt_app_same r h⟩)
theorem rowsN_len {L : Int} : ∀ {n : Nat} {r : List Int}, r ∈ rowsN L n → r.length = n + 1
  | 0, r, h => by
    rw [rowsN, List.mem_singleton] at h
    rw [h]
    rfl
  | n + 1, r, h => by
    obtain ⟨row, hr, h⟩ := List.mem_flatMap.mp h
    obtain ⟨x, _, _, rfl⟩ := ext1_mem.mp h
    rw [List.length_append, rowsN_len hr]
    rfl
theorem pairwise_mem {α : Type} {R S : α → α → Prop} {l : List α} (h : l.Pairwise R) (hs : ∀ a ∈ l, ∀ b ∈ l, R a b → S a b) : l.Pairwise S := by
  induction h with
  | nil => exact .nil
  | @cons x l h1 h2 ih => exact .cons (fun b hb => hs x List.mem_cons_self b (List.mem_cons_of_mem _ hb) (h1 b hb)) (ih fun a ha b hb => hs a (List.mem_cons_of_mem _ ha) b (List.mem_cons_of_mem _ hb))
theorem rowsN_up (L : Int) : ∀ n, (rowsN L n).Pairwise (· < ·)
  | 0 => List.pairwise_singleton _ _
  | n + 1 => by
    rw [rowsN, List.pairwise_flatMap]
    refine ⟨fun row _ => ?_, pairwise_mem (rowsN_up L n) fun a ha b hb h x hx y hy => ?_⟩
    · unfold ext1
      rw [List.pairwise_map]
      refine (List.pairwise_lt_range (n := _)).imp fun {i j} h => lt_app_same _ ?_
      exact List.cons_lt_cons_iff.mpr (.inl (by omega))
    · obtain ⟨p, _, _, rfl⟩ := ext1_mem.mp hx
      obtain ⟨q, _, _, rfl⟩ := ext1_mem.mp hy
      exact lt_app _ _ (by rw [rowsN_len ha, rowsN_len hb]) h
theorem lrows_up (L : Int) (many : Nat) : (lrows L many).Pairwise (· < ·) := by
  unfold lrows
  split
  · exact List.pairwise_singleton _ _
  · rw [List.pairwise_map]
    exact pairwise_mem (rowsN_up L _) fun a ha b hb h => lt_app _ _ (by rw [rowsN_len ha, rowsN_len hb]) h
theorem sq_lt {m j : Nat} (h1 : 1 ≤ m) (hj : 1 ≤ j) : m * m + (m + j) < (m + j) * (m + j) + m := by
  have e : (m + j) * (m + j) = m * m + 2 * (m * j) + j * j := by
    rw [Nat.add_mul, Nat.mul_add, Nat.mul_add, Nat.mul_comm j m]
    omega
  have h3 := Nat.mul_le_mul h1 (Nat.le_refl j)
  have h5 := Nat.mul_le_mul hj (Nat.le_refl j)
  omega
theorem sq_inj {m n : Nat} (h : m * m + n = n * n + m) (h1 : 1 ≤ m) (h2 : 1 ≤ n) : m = n := by
  rcases Nat.lt_trichotomy m n with c | c | c
  · obtain ⟨j, rfl⟩ : ∃ j, n = m + j := ⟨n - m, by omega⟩
    have := sq_lt h1 (show 1 ≤ j by omega)
    omega
  · exact c
  · obtain ⟨j, rfl⟩ : ∃ j, m = n + j := ⟨m - n, by omega⟩
    have := sq_lt h2 (show 1 ≤ j by omega)
    omega
/-- gone through, those that fit: all that are told -/
def due5 (gs : List Int) (many : Nat) : List (List Int) := if gs = [] then [[0]] else (lrows (topI gs) many).filter fun row => decide (lbw row = gs)
theorem due5_eq {gs : List Int} {many : Nat} (hu : gs.Pairwise (· ≤ ·)) (hp : ∀ d ∈ gs, 1 ≤ d) (h21 : gs.length ≤ 21) (h1 : 1 ≤ many) (hm : 2 * gs.length + many = many * many) : due5 gs many = roadsF gs := by
  unfold due5
  split
  · rename_i h
    rw [roadsF, if_pos h]
  · rename_i hne
    have hpos := List.length_pos_iff.mpr hne
    have h2 : 2 ≤ many := by
      rcases Nat.lt_or_ge many 2 with c | c
      · have : many = 1 := by omega
        subst this
        omega
      · exact c
    have hL := hp _ (topI_mem hne)
    refine upL_same ((lrows_up _ _).filter _) (roadsF_up gs) fun r => ?_
    rw [roadsF_iff hu hp h21, List.mem_filter, lrows_iff hL h2, decide_eq_true_eq]
    constructor
    · rintro ⟨⟨a1, a2, a3, a4⟩, a5⟩
      rw [lbw_btw (up_nodup a3)] at a5
      exact ⟨fun z => by rw [z] at a1; simp at a1; omega, a2, a3, a5⟩
    · intro hg
      have hl := good_len hg
      obtain ⟨b1, b2, b3, b4⟩ := hg
      have hr1 := List.length_pos_iff.mpr b1
      have hlen : r.length = many := sq_inj (by omega) hr1 h1
      obtain ⟨t1, t2⟩ := good_top ⟨b1, b2, b3, b4⟩ (by omega)
      refine ⟨⟨hlen, b2, b3, ?_⟩, by rw [lbw_btw (up_nodup b3)]; exact b4⟩
      have c1 := t2 _ (topI_mem b1)
      have c2 := top_le (b3.imp fun h => by omega) _ t1
      omega
theorem ext1_len {L : Int} {row : List Int} (h : 0 ≤ topI row) (hL : L ≤ 20) : (ext1 L row).length ≤ 20 := by
  rw [ext1, List.length_map, List.length_range]
  omega
theorem flat_len {L : Int} : ∀ {rows : List (List Int)}, L ≤ 20 → (∀ r ∈ rows, 0 ≤ topI r) → (rows.flatMap (ext1 L)).length ≤ rows.length * 20
  | [], _, _ => Nat.zero_le _
  | r :: rows, hL, h => by
    have h1 := ext1_len (h r List.mem_cons_self) hL
    have h2 := flat_len (rows := rows) hL fun x hx => h x (List.mem_cons_of_mem _ hx)
    rw [List.flatMap_cons, List.length_append, List.length_cons]
    omega
theorem rowsN_pos {L : Int} (hL : 1 ≤ L) {n : Nat} {r : List Int} (h : r ∈ rowsN L n) : 0 ≤ topI r := by
  obtain ⟨k1, k2, k3, _⟩ := (rowsN_iff hL).mp h
  have hne : r ≠ [] := fun z => by
    rw [z] at k1
    simp at k1
  have := top_le (k3.imp fun h => by omega) _ (gi_mem (k := 0) (show 0 < r.length by omega))
  omega
theorem rowsN_many {L : Int} (h1 : 1 ≤ L) (hL : L ≤ 20) : ∀ n, n ≤ 3 → (rowsN L n).length ≤ 8000 := by
  have step : ∀ n m, (rowsN L n).length ≤ m → (rowsN L (n + 1)).length ≤ m * 20 := fun n m h => by
    have := flat_len (rows := rowsN L n) hL fun r hr => rowsN_pos h1 hr
    have h2 := Nat.mul_le_mul h (Nat.le_refl 20)
    rw [rowsN]
    omega
  have a0 : (rowsN L 0).length ≤ 1 := Nat.le_refl _
  have a1 := step 0 1 a0
  have a2 := step 1 20 a1
  have a3 := step 2 400 a2
  have a1' : (rowsN L 1).length ≤ 20 := a1
  have a2' : (rowsN L 2).length ≤ 400 := a2
  have a3' : (rowsN L 3).length ≤ 8000 := a3
  intro n hn
  rcases (show n = 0 ∨ n = 1 ∨ n = 2 ∨ n = 3 by omega) with rfl | rfl | rfl | rfl <;> omega
/-- the law's list of distances -/
def g5 (c : Int) (g : List Int) : List Int := if g ≠ [] ∧ c % 2 = 1 then g.set (c / 2 % g.length).toNat (if gi g (c / 2 % g.length).toNat + c / 20 % 7 - 3 > 1 then gi g (c / 2 % g.length).toNat + c / 20 % 7 - 3 else 1) else g
def road5 (ns : List Int) : List Int := lroad ns 1 (gi [2, 3] (cell ns 0 / 5 % 2).toNat) (cell ns 0 % 5).toNat
def gaps5 (ns : List Int) : List Int := sortI (g5 (cell ns 6) (lbw (road5 ns)))
theorem road5_ok (ns : List Int) : roadOk (road5 ns) ∧ (∀ x ∈ road5 ns, 0 ≤ x ∧ x ≤ 12) ∧ (road5 ns).length = (cell ns 0 % 5).toNat + 1 := by
  have hs : gi [2, 3] (cell ns 0 / 5 % 2).toNat = 2 ∨ gi [2, 3] (cell ns 0 / 5 % 2).toNat = 3 := by
    have : (cell ns 0 / 5 % 2).toNat = 0 ∨ (cell ns 0 / 5 % 2).toNat = 1 := by omega
    rcases this with e | e <;> rw [e] <;> simp [gi]
  unfold road5
  generalize gi [2, 3] (cell ns 0 / 5 % 2).toNat = st at *
  have hm := Int.mul_le_mul (show (((cell ns 0 % 5).toNat : Nat) : Int) ≤ 4 by omega) (show st ≤ 3 by omega) (by omega) (by decide)
  refine ⟨lroad_ok ns 1 (by omega) (by omega) (by omega), fun x hx => ?_, lroad_len _ _ _ _⟩
  have := (lroad_facts ns 1 (show 0 < st by omega) (cell ns 0 % 5).toNat).2.1 x hx
  omega
theorem gaps5_ok (ns : List Int) : (gaps5 ns).Pairwise (· ≤ ·) ∧ (∀ d ∈ gaps5 ns, 1 ≤ d ∧ d ≤ 18) ∧ 2 * (gaps5 ns).length + ((cell ns 0 % 5).toNat + 1) = ((cell ns 0 % 5).toNat + 1) * ((cell ns 0 % 5).toNat + 1) := by
  obtain ⟨h1, h2, h3⟩ := road5_ok ns
  have hn := up_nodup h1.up
  have hp0 : ∀ d ∈ lbw (road5 ns), 1 ≤ d := fun d hd => lbw_pos hd
  have hp1 := lbw_le hn h2
  have hl := btw_len2 (road5 ns)
  rw [← lbw_btw hn, h3] at hl
  refine ⟨sortI_up _, fun d hd => ?_, ?_⟩
  · have hd := (sortI_perm _).mem_iff.mp hd
    unfold g5 at hd
    split at hd
    · rename_i hc
      have hlen := List.length_pos_iff.mpr hc.1
      have hx : gi (lbw (road5 ns)) (cell ns 6 / 2 % (lbw (road5 ns)).length).toNat ∈ lbw (road5 ns) := gi_mem (by
        have := Int.emod_lt_of_pos (cell ns 6 / 2) (b := ((lbw (road5 ns)).length : Int)) (by omega)
        omega)
      have b1 := hp1 _ hx
      rcases List.mem_or_eq_of_mem_set hd with z | z
      · have := hp0 d z
        have := hp1 d z
        omega
      · rw [z]
        split <;> omega
    · have := hp0 d hd
      have := hp1 d hd
      omega
  · have : (gaps5 ns).length = (lbw (road5 ns)).length := by
      rw [gaps5, sortI_len, g5]
      split
      · exact List.length_set
      · rfl
    rw [this]
    exact hl
theorem gaps5_21 (ns : List Int) : (gaps5 ns).length ≤ 21 := by
  have h := (gaps5_ok ns).2.2
  have := Nat.mul_le_mul (show (cell ns 0 % 5).toNat + 1 ≤ 5 by omega) (show (cell ns 0 % 5).toNat + 1 ≤ 5 by omega)
  omega
end Rg

set_option Elab.async false
set_option linter.all false
set_option maxRecDepth 100000
set_option maxHeartbeats 1000000
/-! Rg, part K3: the law's changed list, its road that is none. -/
namespace Rg
open PySem PySem.Spec PyProof.Rows L2 Evl
/-- what is asked of a list of distances, by its order, its least, its greatest -/
theorem gapsOk_iff {gs : List Int} : gapsOk gs ↔ gs = sortI gs ∧ ¬ minD 1 gs < 1 ∧ ¬ 4000 < maxD 1 gs := by
  constructor
  · intro h
    have hp : ∀ k, k + 1 < gs.length → gi gs k ≤ gi gs (k + 1) := fun k hk => by
      have := (h (k + 1) hk).2.2 (by omega)
      simpa using this
    have hu : gs.Pairwise (· ≤ ·) := by
      have far : ∀ d i, i + d < gs.length → gi gs i ≤ gi gs (i + d) := by
        intro d
        induction d with
        | zero => exact fun i _ => Int.le_refl _
        | succ d ih => exact fun i hi => Int.le_trans (ih i (by omega)) (hp (i + d) (by omega))
      refine List.pairwise_iff_getElem.mpr fun i j hi hj hij => ?_
      have := far (j - i) i (by omega)
      rw [show i + (j - i) = j by omega] at this
      simpa [gi, List.getD_eq_getElem?_getD, List.getElem?_eq_getElem hj, List.getElem?_eq_getElem hi] using this
    have hm : ∀ d ∈ gs, 1 ≤ d ∧ d ≤ 4000 := fun d hd => by
      obtain ⟨k, hk, rfl⟩ := List.getElem_of_mem hd
      have := h k hk
      simp [gi, List.getD_eq_getElem?_getD, List.getElem?_eq_getElem hk] at this
      omega
    refine ⟨(sortI_id hu).symm, fun z => ?_, fun z => ?_⟩
    · by_cases hn : gs = []
      · subst hn
        simp [minD] at z
      · have := hm _ (minD_spec 1 gs hn).1
        omega
    · by_cases hn : gs = []
      · subst hn
        simp [maxD] at z
      · have := hm _ (maxD_spec 1 gs hn).1
        omega
  · rintro ⟨h1, h2, h3⟩
    have hu := sortI_up gs
    rw [← h1] at hu
    refine gapsOk_of hu fun d hd => ?_
    have hn : gs ≠ [] := List.ne_nil_of_mem hd
    have := (minD_spec 1 gs hn).2 d hd
    have := (maxD_spec 1 gs hn).2 d hd
    omega
theorem bad_first {r : List Int} (h : gi r 0 ≠ 0) : ¬ roadOk r := fun z => h z.2.2.1
theorem bad_nil : ¬ roadOk [] := fun z => by
  have := z.1
  simp at this
theorem bad_two {r : List Int} (hn : r ≠ []) : ¬ roadOk (r ++ [topI r]) := fun z => by
  have := ((up_snoc hn).mp z.up).2
  omega
theorem bad_fall : ¬ roadOk [0, 2, 1] := fun z => by
  have := z.up
  simp at this
section
variable {K : PySem.W.Frag} {σ : L2.St} {H H' : Hp} {ta tb te tl : TE} {tt : TT}
/-- x = [new, new, new, new], then one of them -/
theorem s_asgL4 {D : Ends} {i : Nat} {t1 t2 t3 t4 : TE} {r1 r2 r3 r4 : List Int} (h1 : EvL t1 σ H (Ints r1)) (h2 : EvL t2 σ H (Ints r2)) (h3 : EvL t3 σ H (Ints r3)) (h4 : EvL t4 σ H (Ints r4)) (k : ∀ p us H1, H p = none → Ex H H1 → Lst H1 p us → ILs H1 us [r1, r2, r3, r4] → D.nx (σ.set i (some (.ref p))) H1) :
    tAsg (tLst (tCons t1 (tCons t2 (tCons t3 (tCons t4 tNil))))) (gName i) D σ H := h1 H (Ex.refl H) _ fun a1 H1 _ e1 k1 => h2 H1 e1 _ fun a2 H2 _ e2 k2 => h3 H2 (e1.trans e2) _ fun a3 H3 _ e3 k3 => h4 H3 ((e1.trans e2).trans e3) _ fun a4 H4 _ e4 k4 => ⟨(by show (4 : Nat) ≤ sizeLine; decide), fun p hp => by
  have en := Ex.new (o := .lst [V.ref a1, .ref a2, .ref a3, .ref a4]) hp
  exact k p _ _ (fresh_back (((e1.trans e2).trans e3).trans e4) hp) ((((e1.trans e2).trans e3).trans e4).trans en) upd_same (.cons ((((e2.trans e3).trans e4).trans en) a1 _ k1) (.cons (((e3.trans e4).trans en) a2 _ k2) (.cons ((e4.trans en) a3 _ k3) (.cons (en a4 _ k4) .nil))))⟩
end
end Rg

set_option Elab.async false
set_option linter.all false
set_option maxRecDepth 100000
set_option maxHeartbeats 1000000
/-! Rg, part G: defs whose exceptions are told with their context; words of a text. -/
namespace Rg
open PySem PySem.Spec PyProof.Rows L2 Evl TL
section
variable {P : Program} {w : World} {K : PySem.W.Frag} {mg : Str → Option Value} {base : Heap}
/-- a def that may raise, the exception's context told -/
theorem Df.hasN {x : Str} {st : Stmt} {N ps : List Str} {k : Nat} {sp : Sp} (D : Df K mg x st) (S : FnScope N ps (defScope st)) (hb : BindOk x st ps) (len : ∀ vs H Q E, sp vs H Q E → vs.length = ps.length)
    (hbody : ∀ (f : Addr) (cdv : Value) (A : Around) (outer : List Env) (s : Shared) (H : Hp) (vs : List V) (Q : VK) (E : XK), Room k (A.deeper (envOfC x (defScope st) s.heap.objs.size f cdv)) → sp vs H Q E →
      ∃ t, PSs (cxOf (L2N.CX P w) P w K mg base N x (defScope st) f cdv A outer s H E) (defBody st) t ∧ t { nx := fun _ H' => Q .non H', rt := Q } (start N vs) H) : Has P w K mg base (L2N.CX P w) (k + 1) x ps sp := by
  obtain ⟨f, fd, F, g⟩ := D.ex
  exact ⟨f, fd, F.ok S len (hbody f), g, F.kp, F.bindsN hb, F.look⟩
end
section
variable {X : Cx} {W : WX} {x m : Str} {j : Nat} {p p2 pos pos2 : Pos}
theorem ps_raiseN (C : Ec X.K X.mg x) (hc : X.calm = true) (tk : L2N.Takes X W) (hg : Gl X x) (hdb : (x == ("__debug__" : Str)) = false := by decide) :
    PS X (.Raise (some (.Call (.Name x p) [.Constant (.str m) j p2] [] pos)) none pos2) (tRz (.ref (He.ga X.K x)) W) :=
  L2N.ps_raise hc tk (L2N.pmk_own PySem.F.excBase_ValueError C.ex C.g C.k (raises_own C.b C.t) hg hdb)
/-- within an except suite -/
theorem ps_raiseS (C : Ec X.K X.mg x) (hot : L2H.HotC X) (tk : L2.Takes X W) (hg : Gl X x) (hdb : (x == ("__debug__" : Str)) = false := by decide) :
    PS X (.Raise (some (.Call (.Name x p) [.Constant (.str m) j p2] [] pos)) none pos2) (tRz (.ref (He.ga X.K x)) W) :=
  L2H.ps_raiseH hot tk (L2N.pmk_own PySem.F.excBase_ValueError C.ex C.g C.k (raises_own C.b C.t) hg hdb)
end
/-! ### the words of a text -/
theorem spl_blank : ∀ (l acc : List Nat), spl [32] 0 acc l ≠ [] ∧ ((spl [32] 0 acc l).map List.length).sum + (spl [32] 0 acc l).length = acc.length + l.length + 1
  | [], acc => by
    rw [spl_nil]
    simp
  | c :: r, acc => by
    by_cases h : c = 32
    · have hp : pre [32] (c :: r) = true := by
        subst h
        exact pre_self [32] r
      obtain ⟨h1, h2⟩ := spl_blank r []
      rw [spl_hit hp]
      refine ⟨by simp, ?_⟩
      show (((acc :: spl [32] 0 [] r).map List.length).sum + (acc :: spl [32] 0 [] r).length) = _
      rw [List.map_cons, List.sum_cons, List.length_cons, List.length_cons]
      rw [List.length_nil] at h2
      omega
    · obtain ⟨h1, h2⟩ := spl_blank r (acc ++ [c])
      rw [spl_miss (pre_of_head [] r h)]
      refine ⟨h1, ?_⟩
      rw [h2, List.length_append, List.length_cons, List.length_cons, List.length_nil]
      omega
def wordsP (t : Str) : List Str := Txt.split t blankS
theorem words_spl (t : Str) : (wordsP t).map tl = spl [32] 0 [] (tl t) := by
  have := split_spl t blankS (by rw [tl_blank]; simp) (kind_ok (by
    rw [Array.all_eq_true_iff_forall_mem]
    intro c hc
    have hc : c ∈ tl blankS := Array.mem_toList_iff.mpr hc
    rw [tl_blank, List.mem_singleton] at hc
    exact decide_eq_true (by omega)))
  rw [tl_blank] at this
  exact this
theorem words_ne (t : Str) : wordsP t ≠ [] := fun z => by
  have h := words_spl t
  rw [z] at h
  exact (spl_blank (tl t) []).1 h.symm
theorem words_sum (t : Str) : ((wordsP t).map (·.length)).sum + (wordsP t).length = t.length + 1 := by
  have h := (spl_blank (tl t) []).2
  rw [← words_spl, List.length_map, List.map_map, List.length_nil, ← len_tl] at h
  have e : (wordsP t).map (List.length ∘ tl) = (wordsP t).map (·.length) := List.map_congr_left fun y _ => (len_tl y).symm
  rw [e] at h
  omega
theorem sum_mem {ws : List Str} {x : Str} (h : x ∈ ws) : x.length ≤ (ws.map (·.length)).sum := by
  induction ws with
  | nil => cases h
  | cons y ys ih =>
    rw [List.map_cons, List.sum_cons]
    rcases List.mem_cons.mp h with rfl | h
    · omega
    · have := ih h
      omega
theorem words_len {t : Str} {x : Str} (h : x ∈ wordsP t) : x.length ≤ t.length := by
  have h1 := words_sum t
  have h2 := sum_mem h
  have h3 := List.length_pos_of_mem h
  omega
theorem words_many (t : Str) : (wordsP t).length ≤ t.length + 1 := by
  have := words_sum t
  omega
theorem sum_take (ws : List Str) (k : Nat) : ((ws.take k).map (·.length)).sum + ((ws.drop k).map (·.length)).sum = (ws.map (·.length)).sum := by
  rw [← List.sum_append, ← List.map_append, List.take_append_drop]
/-- what the words write -/
def headP (t : Str) : Str := (wordsP t).headD blankS
theorem head_at (t : Str) : atI (Strs (wordsP t)) 0 = some (.str (headP t)) := by
  have h := words_ne t
  unfold headP
  cases e : wordsP t with
  | nil => exact absurd e h
  | cons x xs =>
    have := atI_nat (xs := Strs (x :: xs)) (j := 0) (v := .str x) rfl
    exact this
def numsP (t : Str) : List Str := (wordsP t).drop 1
def badNs (t h : Str) : Bool := !decide (headP t = h) || (numsP t).any numBad
def numsV (t : Str) : List Int := (numsP t).map numV
def refNs (t h : Str) : Option String := if badNs t h then some "BadText" else none
open Classical in
noncomputable def refRd (t : Str) : Option String := if badNs t (Str.ofString "road") = true ∨ ¬ roadOk (numsV t) then some "BadText" else none
open Classical in
noncomputable def refGp (t : Str) : Option String := if badNs t (Str.ofString "gaps") = true ∨ ¬ ((numsV t).length ≤ 21 ∧ gapsOk (numsV t)) then some "BadText" else none
theorem nums_mem {t : Str} {x : Str} (h : x ∈ numsP t) : x.length ≤ t.length := words_len (List.mem_of_mem_drop h)
theorem nums_len (t : Str) : (numsP t).length ≤ t.length := by
  have := words_many t
  unfold numsP
  rw [List.length_drop]
  omega
section
variable {K : PySem.W.Frag} {σ : L2.St} {H H' : Hp} {ta tb te tl to : TE} {tt : TT} {D : Ends}
/-- [v x for x in ws], texts of a new list to any values -/
theorem el_lcSV {j : Nat} {vs : List Nat} {ws : List Str} (g : Str → V) (h : EvL tl σ H (Strs ws)) (hz : ws.length ≤ 40000) (hw : ∀ x, wipe ((wipe σ vs).set j (some x)) vs = wipe σ vs)
    (he : ∀ w ∈ ws, ∀ H1, Ex H H1 → Ev te ((wipe σ vs).set j (some (.str w))) H1 (g w)) : EvL (tLc (iList K tl) (gName j) tYes te vs) σ H (ws.map g) := fun H1 e Q q =>
  h H1 e _ fun a H2 ha e2 h2 => by
    have hz2 : (Strs ws).length ≤ 40000 := by rw [List.length_map]; exact hz
    have z : EvL (tLc (iList K (tC (.ref a))) (gName j) tYes te vs) σ H2 (given (Strs ws).length (fun _ => true) fun i => g (ws.getD i blankS)) :=
      el_lcL _ _ ev_c (sq_of h2) hz2 hw (fun i x H3 e3 hi => et_yes) (fun i x H3 e3 hi _ => by
        rw [List.getElem?_map] at hi
        cases hw2 : ws[i]? with
        | none =>
          rw [hw2] at hi
          cases hi
        | some w =>
          rw [hw2] at hi
          cases hi
          have hd : ws.getD i blankS = w := by rw [List.getD_eq_getElem?_getD, hw2]; rfl
          rw [hd]
          exact he w (List.mem_of_getElem? hw2) H3 ((e.trans e2).trans e3))
    have e5 : (given (Strs ws).length (fun _ => true) fun i => g (ws.getD i blankS)) = ws.map g := by
      rw [given_all, List.length_map]
      apply List.ext_getElem
      · simp
      · intro i h3 h4
        simp at h3
        simp [List.getD_eq_getElem?_getD, List.getElem?_eq_getElem h3]
    rw [e5] at z
    exact z H2 (Ex.refl H2) Q fun p H3 hp e3 h3 => q p H3 (fresh_back e2 hp) (e2.trans e3) h3
end
end Rg

set_option maxHeartbeats 8000000
namespace Lw
open PySem PySem.Spec PyProof.Rows L2 Evl Rg
def top (i : Nat) : Stmt := PySem.Challenge.pw_roadgaps_k11_read.main.body.getD i (.Pass ⟨0, 0, 0, 0⟩)
section
variable {P : Program} {w : World} {K : PySem.W.Frag} {mg : Str → Option Value} {base : Heap}
abbrev s_see_road : Stmt := top 8
abbrev nm_see_road : List Str := ["road", "k"]
theorem sc_see_road : FnScope nm_see_road ["road"] (defScope s_see_road) := ⟨rfl, rfl, rfl, by decide +kernel, rfl, by decide +kernel, by decide +kernel⟩
def sp_see_road (K : PySem.W.Frag) : Sp := fun vs H Q E => ∃ (a : Addr) (ns : List Int), vs = [.ref a] ∧ IL H a ns ∧ Out K (refRoad ns) H E (RVal .non H Q)
theorem h_see_road (D : Df K mg "see_road" s_see_road) (T : Bs mg) (C_NoRoad : Ec K mg "NoRoad") : Has P w K mg base (L2N.CX P w) 1 "see_road" ["road"] (sp_see_road K) := by
  refine D.hasN sc_see_road (fun _ _ _ _ _ _ us hl => match us, hl with | [_], _ => rfl) (fun vs H Q E h => ?_) (fun f cdv A outer s H vs Q E hr h => ?_)
  · obtain ⟨a, ns, rfl, _⟩ := h
    rfl
  obtain ⟨a, ns, rfl, ha, q⟩ := h
  refine ⟨_, (pss_cons (ps_if (PW.pt (pw_or (pt_not (pt_chain op_le op_le pe_int (pe_callB call_len_seq (by rfl) T.n_len (by decide +kernel) (pa_cons (pv 0) pa_nil)) pe_int)) (pw_or (pt_cmpR op_ne (pe_ix ix_list (pv 0) pe_int (fun _ _ => rfl)) pe_int (nomark _)) (pw_or1 (pt_cmpR op_gt (pe_ix ix_list (pv 0) (pe_un un_neg pe_int) (fun _ _ => rfl)) pe_int (nomark _))))))
    (pss_one (ps_raiseN C_NoRoad rfl (L2N.takes_of rfl rfl rfl rfl) rfl))
    pss_nil)
    (pss_one (ps_for (passes_of rfl) rfl (pi_range2 rfl T.n_range (pa_cons pe_int (pa_cons (pe_callB call_len_seq (by rfl) T.n_len (by decide +kernel) (pa_cons (pv 0) pa_nil)) pa_nil))) (pg_name (i := 1) sc_see_road.nd rfl (Or.inl rfl))
    (pss_one (ps_if (pt_cmpR op_ge (pe_ix ix_list (pv 0) (pe_op op_sub (pv 1) pe_int) (fun _ _ => rfl)) (pe_ix ix_list (pv 0) (pv 1) (fun _ _ => rfl)) (nomark _))
    (pss_one (ps_raiseN C_NoRoad rfl (L2N.takes_of rfl rfl rfl rfl) rfl))
    pss_nil))))), ?_⟩
  refine s_if (b := !(decide (1 ≤ (ns.length : Int)) && decide ((ns.length : Int) ≤ 50)) || (!decide (V.int (gi ns 0) = V.int 0) || decide (4000 < gi ns (ns.length - 1))))
    (et_or (et_not (et_test (ev_chain ev_c (ev_lenI v_ ha) rv_I0 (fun _ => ev_c) fun _ => rv_I0))) fun hb => ?_) (fun hb H1 e1 => ?_) (fun hb H1 e1 => ?_)
  · have hp : ns ≠ [] := by
      rintro rfl
      simp at hb
    refine et_or (et_test (ev_op (ixN_ (i := 0) ha v_ ev_c (List.length_pos_iff.mpr hp)) ev_c (rv_ne rfl))) fun _ => et_test (o_ (ixL_ ha v_ hp) ev_c)
  · refine q.bad (refRoad_no fun ok => ?_) e1
    obtain ⟨k1, k2, k3, k4, _⟩ := ok
    rw [k3] at hb
    simp at hb
    omega
  · have h1 : 1 ≤ ns.length ∧ ns.length ≤ 50 ∧ gi ns 0 = 0 ∧ gi ns (ns.length - 1) ≤ 4000 := by
      simp at hb
      refine ⟨by omega, by omega, hb.2.1, by omega⟩
    refine s_forR2 (lo := 1) (n := (ns.length : Int)) (ea_cons ev_c (ea_cons (ev_lenI v_ (e1 a _ ha)) ea_nil)) ⟨by omega, by omega, by omega, by omega⟩
      (fun i σ H' => ∃ v, σ = [some (.ref a), v] ∧ Ex H H' ∧ ∀ k, k < i → gi ns k < gi ns (k + 1)) (fun H2 e2 => ⟨none, rfl, e1.trans e2, fun k hk => by omega⟩) ?_ ?_
    · rintro i σ H2 hi ⟨v, rfl, e2, up⟩
      have j1 : (1 + (i : Int) - 1).toNat = i := by omega
      have j2 : (1 + (i : Int)).toNat = i + 1 := by omega
      refine s_if (et_test (o_ (ixI_ (e2 a _ ha) v_ (o_ v_ ev_c) (by omega) (by omega)) (ixI_ (e2 a _ ha) v_ v_ (by omega) (by omega)))) (fun hb H3 e3 => ?_) (fun hb H3 e3 => ?_)
      · refine q.bad (refRoad_no fun ok => ?_) (e2.trans e3)
        have k5 := ok.2.2.2.2 i (by omega)
        rw [j1, j2] at hb
        simp at hb
        omega
      · refine ⟨_, rfl, e2.trans e3, fun k hk => ?_⟩
        rw [j1, j2] at hb
        simp at hb
        by_cases e : k = i
        · subst e
          omega
        · exact up k (by omega)
    · rintro σ H2 ⟨v, rfl, e2, up⟩
      exact q.get (refRoad_ok ⟨h1.1, h1.2.1, h1.2.2.1, h1.2.2.2, fun k hk => up k (by omega)⟩) H2 e2

abbrev s_see_gaps : Stmt := top 10
abbrev nm_see_gaps : List Str := ["gaps", "k"]
theorem sc_see_gaps : FnScope nm_see_gaps ["gaps"] (defScope s_see_gaps) := ⟨rfl, rfl, rfl, by decide +kernel, rfl, by decide +kernel, by decide +kernel⟩
def sp_see_gaps (K : PySem.W.Frag) : Sp := fun vs H Q E => ∃ (a : Addr) (ns : List Int), vs = [.ref a] ∧ IL H a ns ∧ Out K (refGaps ns) H E (RVal .non H Q)
theorem h_see_gaps (D : Df K mg "see_gaps" s_see_gaps) (T : Bs mg) (C_NoGaps : Ec K mg "NoGaps") (C_TooMany : Ec K mg "TooMany") : Has P w K mg base (L2N.CX P w) 1 "see_gaps" ["gaps"] (sp_see_gaps K) := by
  refine D.hasN sc_see_gaps (fun _ _ _ _ _ _ us hl => match us, hl with | [_], _ => rfl) (fun vs H Q E h => ?_) (fun f cdv A outer s H vs Q E hr h => ?_)
  · obtain ⟨a, ns, rfl, _⟩ := h
    rfl
  obtain ⟨a, ns, rfl, ha, q⟩ := h
  refine ⟨_, (pss_cons (ps_if (pt_cmpR op_gt (pe_callB call_len_seq (by rfl) T.n_len (by decide +kernel) (pa_cons (pv 0) pa_nil)) pe_int (nomark _))
    (pss_one (ps_raiseN C_TooMany rfl (L2N.takes_of rfl rfl rfl rfl) rfl))
    pss_nil)
    (pss_one (ps_for (passes_of rfl) rfl (pi_range1 rfl T.n_range (pa_cons (pe_callB call_len_seq (by rfl) T.n_len (by decide +kernel) (pa_cons (pv 0) pa_nil)) pa_nil)) (pg_name (i := 1) sc_see_gaps.nd rfl (Or.inl rfl))
    (pss_one (ps_if (PW.pt (pw_or (pt_not (pt_chain op_le op_le pe_int (pe_ix ix_list (pv 0) (pv 1) (fun _ _ => rfl)) pe_int)) (pw_or1 (PW.pt (pw_and (pt_cmpR op_gt (pv 1) pe_int (nomark _)) (pw_and1 (pt_cmpR op_gt (pe_ix ix_list (pv 0) (pe_op op_sub (pv 1) pe_int) (fun _ _ => rfl)) (pe_ix ix_list (pv 0) (pv 1) (fun _ _ => rfl)) (nomark _))))))))
    (pss_one (ps_raiseN C_NoGaps rfl (L2N.takes_of rfl rfl rfl rfl) rfl))
    pss_nil))))), ?_⟩
  refine s_if (et_test (o_ (ev_lenI v_ ha) ev_c)) (fun hb H1 e1 => ?_) (fun hb H1 e1 => ?_)
  · simp at hb
    exact q.bad (refGaps_many (by omega)) e1
  · simp at hb
    have h21 : ns.length ≤ 21 := by omega
    refine s_forR1 (n := (ns.length : Int)) (ea_cons (ev_lenI v_ (e1 a _ ha)) ea_nil) ⟨by omega, by omega⟩
      (fun i σ H' => ∃ v, σ = [some (.ref a), v] ∧ Ex H H' ∧ ∀ k, k < i → 1 ≤ gi ns k ∧ gi ns k ≤ 4000 ∧ (0 < k → gi ns (k - 1) ≤ gi ns k)) (fun H2 e2 => ⟨none, rfl, e1.trans e2, fun k hk => by omega⟩) ?_ ?_
    · rintro i σ H2 hi ⟨v, rfl, e2, up⟩
      refine s_if (b := !(decide (1 ≤ gi ns i) && decide (gi ns i ≤ 4000)) || (decide (0 < (i : Int)) && decide (gi ns i < gi ns ((i : Int) - 1).toNat)))
        (et_or (et_not (et_test (ev_chain ev_c (ixN_ (e2 a _ ha) v_ v_ (by omega)) rv_I0 (fun _ => ev_c) fun _ => rv_I0))) fun _ => et_and (et_test (o_ v_ ev_c)) fun hp => ?_) (fun hb H3 e3 => ?_) (fun hb H3 e3 => ?_)
      · have hp : 0 < (i : Int) := of_decide_eq_true hp
        exact et_test (o_ (ixI_ (e2 a _ ha) v_ (o_ v_ ev_c) (by omega) (by omega)) (ixN_ (e2 a _ ha) v_ v_ (by omega)))
      · refine q.bad (refGaps_no h21 fun ok => ?_) (e2.trans e3)
        obtain ⟨k1, k2, k3⟩ := ok i (by omega)
        have j1 : ((i : Int) - 1).toNat = i - 1 := by omega
        rw [j1] at hb
        simp at hb
        rcases hb with hb | hb
        · omega
        · have := k3 (by omega)
          omega
      · refine ⟨_, rfl, e2.trans e3, fun k hk => ?_⟩
        have j1 : ((i : Int) - 1).toNat = i - 1 := by omega
        rw [j1] at hb
        simp at hb
        by_cases e : k = i
        · subst e
          exact ⟨by omega, by omega, fun h0 => by have := hb.2; omega⟩
        · exact up k (by omega)
    · rintro σ H2 ⟨v, rfl, e2, up⟩
      exact q.get (refGaps_ok h21 fun k hk => up k (by omega)) H2 e2

abbrev s_number_of : Stmt := top 13
abbrev nm_number_of : List Str := ["word", "sign"]
theorem sc_number_of : FnScope nm_number_of ["word"] (defScope s_number_of) := ⟨rfl, rfl, rfl, by decide +kernel, rfl, by decide +kernel, by decide +kernel⟩
def sp_number_of (K : PySem.W.Frag) : Sp := fun vs H Q E => ∃ w : Str, vs = [.str w] ∧ w.length ≤ 100000 ∧ Out K (refNum w) H E (RVal (.int (numV w)) H Q)
theorem h_number_of (D : Df K mg "number_of" s_number_of) (T : Bs mg) (C_BadText : Ec K mg "BadText") (F : ∃ t, mg "FIGURES" = some (.str "0123456789" t)) : Has P w K mg base (L2.CX P w) 1 "number_of" ["word"] (sp_number_of K) := by
  obtain ⟨tf, F_FIGURES⟩ := F
  refine D.hasX sc_number_of (fun _ _ _ _ _ _ us hl => match us, hl with | [_], _ => rfl) (fun vs H Q E h => ?_) (fun f cdv A outer s H vs Q E hr h => ?_)
  · obtain ⟨w, rfl, _⟩ := h
    rfl
  obtain ⟨w, rfl, hw, q⟩ := h
  refine ⟨_, (pss_cons (ps_if (PW.pt (pw_or (pt_cmpR op_eq (pv 0) pe_str (nomark _)) (pw_or (pt_cmpR op_gt (pe_callB call_len_str (by rfl) T.n_len (by decide +kernel) (pa_cons (pv 0) pa_nil)) pe_int (nomark _)) (pw_or1 (PW.pt (pw_and (pt_cmpR op_eq (pe_ix ix_str (pv 0) pe_int (fun _ _ => rfl)) pe_str (nomark _)) (pw_and1 (pt_cmpR op_ne (pv 0) pe_str (nomark _)))))))))
    (pss_one (ps_raiseC C_BadText rfl (takes_of rfl rfl rfl rfl) rfl))
    pss_nil)
    (pss_cons (ps_for (passes_of rfl) rfl (pi_str (pv 0)) (pg_name (i := 1) sc_number_of.nd rfl (Or.inl rfl))
    (pss_one (ps_if (pt_cmpR op_notIn_sign (pv 1) (pe_glob (v := .str "0123456789") (by rfl) F_FIGURES ⟨_, rfl⟩) rfl)
    (pss_one (ps_raiseC C_BadText rfl (takes_of rfl rfl rfl rfl) rfl))
    pss_nil)))
    (pss_one (ps_ret (pe_callTy call_int_str (by rfl) T.n_int (by decide +kernel) (pa_cons (pv 0) pa_nil)))))), ?_⟩
  have hl : w.length = (TL.tl w).length := TL.len_tl w
  have k0 : decide (V.str w = V.str (Str.ofString "")) = decide (TL.tl w = []) := decide_eq_decide.mpr str_eq
  have k1 : decide ((4 : Int) < (w.length : Int)) = decide (4 < (TL.tl w).length) := decide_eq_decide.mpr (by omega)
  have k3 : decide (V.str w = V.str (Str.ofString "0")) = decide (TL.tl w = [48]) := decide_eq_decide.mpr str_eq
  refine s_if (b := decide (V.str w = V.str (Str.ofString "")) || (decide ((4 : Int) < (w.length : Int)) || (decide ((TL.tl w)[0]? = some 48) && !decide (V.str w = V.str (Str.ofString "0")))))
    (et_or (et_test (ev_op v_ ev_c (rv_eq rfl))) fun h0 => et_or (et_test (o_ (ev_lenZ v_ hw) ev_c)) fun _ => et_and ?_ fun _ => et_test (ev_op v_ ev_c (rv_ne rfl))) (fun hb H1 e1 => ?_) (fun hb H1 e1 => ?_)
  · rw [k0] at h0
    have hne : TL.tl w ≠ [] := of_decide_eq_false h0
    obtain ⟨c, hc⟩ : ∃ c, (TL.tl w)[0]? = some c := by
      cases e : TL.tl w with
      | nil => exact absurd e hne
      | cons c cs => exact ⟨c, rfl⟩
    have k2 : decide (V.str ⟨#[c]⟩ = V.str (Str.ofString "0")) = decide ((TL.tl w)[0]? = some 48) := decide_eq_decide.mpr (by
      rw [str_eq, hc]
      show [c] = [48] ↔ some c = some 48
      simp)
    rw [← k2]
    exact et_test (ev_op (ev_op v_ ev_c (rv_ixS hw (by
      have := atI_nat (xs := TL.tl w) (j := 0) hc
      exact this))) ev_c (rv_eq rfl))
  · rw [k0, k1, k3] at hb
    exact q.bad (by
      unfold refNum numBad
      rw [hb]
      rfl) e1
  · rw [k0, k1, k3] at hb
    have hq : refNum w = if digs (TL.tl w) then none else some "BadText" := by
      unfold refNum numBad
      rw [hb]
      cases digs (TL.tl w) <;> rfl
    refine s_forS v_ (fun i σ H' => ∃ v, σ = [some (.str w), v] ∧ Ex H H' ∧ ∀ k c, k < i → (TL.tl w)[k]? = some c → 48 ≤ c ∧ c ≤ 57) (fun H2 e2 => ⟨none, rfl, e1.trans e2, fun k c hk => by omega⟩) ?_ ?_
    · rintro i c σ H2 hc ⟨v, rfl, e2, up⟩
      refine s_if (et_test (ev_niSign v_ ev_c)) (fun hb2 H3 e3 => ?_) (fun hb2 H3 e3 => ?_)
      · have hno : ¬ (48 ≤ c ∧ c ≤ 57) := fun z => by
          rw [decide_eq_true (figs_iff.mpr z)] at hb2
          cases hb2
        exact q.bad (by
          rw [hq, if_neg]
          intro z
          exact hno (digs_iff.mp z c (List.mem_of_getElem? hc))) (e2.trans e3)
      · refine ⟨_, rfl, e2.trans e3, fun k d hk hd => ?_⟩
        by_cases e : k = i
        · subst e
          rw [hc] at hd
          cases hd
          have : decide (c ∈ (Str.ofString "0123456789").cps.toList) = true := by simpa using hb2
          exact figs_iff.mp (of_decide_eq_true this)
        · exact up k d (by omega) hd
    · rintro σ H2 ⟨v, rfl, e2, up⟩
      have hd : digs (TL.tl w) = true := digs_iff.mpr fun c hc => by
        obtain ⟨k, hk, rfl⟩ := List.getElem_of_mem hc
        exact up k _ hk (List.getElem?_eq_getElem hk)
      have hq : refNum w = none := by rw [hq, if_pos hd]
      have h1 : TL.tl w ≠ [] := fun z => by
        rw [decide_eq_true z] at hb
        cases hb
      have h2 : ¬ 4 < (TL.tl w).length := fun z => by
        rw [decide_eq_true z] at hb
        simp at hb
      exact s_ret (ev_intS v_ (num_int hd h1 (by omega)) (by omega)) fun H3 e3 => q.get hq H3 (e2.trans e3)

abbrev s_numbers_of : Stmt := top 14
abbrev nm_numbers_of : List Str := ["text", "head", "words", "word"]
theorem sc_numbers_of : FnScope nm_numbers_of ["text", "head"] (defScope s_numbers_of) := ⟨rfl, rfl, rfl, by decide +kernel, rfl, by decide +kernel, by decide +kernel⟩
def sp_numbers_of (K : PySem.W.Frag) : Sp := fun vs H Q E => ∃ t h : Str, vs = [.str t, .str h] ∧ t.length ≤ 10000 ∧ Out K (refNs t h) H E (RL (Ints (numsV t)) H Q)
theorem h_numbers_of (D : Df K mg "numbers_of" s_numbers_of) (T : Bs mg) (C_BadText : Ec K mg "BadText") (G_number_of : Has P w K mg base (L2.CX P w) 1 "number_of" ["word"] (sp_number_of K)) : Has P w K mg base (L2.CX P w) 2 "numbers_of" ["text", "head"] (sp_numbers_of K) := by
  refine D.hasX sc_numbers_of (fun _ _ _ _ _ _ us hl => match us, hl with | [_, _], _ => rfl) (fun vs H Q E h => ?_) (fun f cdv A outer s H vs Q E hr h => ?_)
  · obtain ⟨t, h, rfl, _⟩ := h
    rfl
  obtain ⟨t, hd, rfl, ht, q⟩ := h
  refine ⟨_, (pss_cons (ps_set (i := 2) sc_numbers_of.nd rfl (Or.inl rfl) (pe_split (pv 0) pe_str))
    (pss_cons (ps_if (pt_cmpR op_ne (pe_ix ix_list (pv 2) pe_int (fun _ _ => rfl)) (pv 1) (nomark _))
    (pss_one (ps_raiseC C_BadText rfl (takes_of rfl rfl rfl rfl) rfl))
    pss_nil)
    (pss_one (ps_ret (pe_lcX (own := [("word", 3)]) rfl rfl rfl rfl rfl sc_numbers_of.nd (pi_list (pe_slice sl_list (pv 2) (po_some pe_int) po_none)) (blkOk_by (own := [("word", 3)]) (N := nm_numbers_of) (sc := defScope s_numbers_of) (by decide +kernel)) (fun _ _ _ _ _ => (pg_name (i := 3) sc_numbers_of.nd rfl (Or.inl rfl))) (fun _ _ _ _ _ _ px => (pe_callH G_number_of (by first | exact hr | exact hr.mono (by omega)) (by rfl) px (pa_cons (pv 3) pa_nil)))))))), ?_⟩
  refine s_asgL (xs := Strs (wordsP t)) (el_split v_ ev_c (by rfl) (by omega)) fun p H1 hp e1 h1 => ?_
  have hbad : decide (V.str (headP t) = V.str hd) = decide (headP t = hd) := decide_eq_decide.mpr ⟨fun z => by cases z; rfl, fun z => by rw [z]⟩
  dsimp only
  refine s_if (b := !decide (V.str (headP t) = V.str hd)) (et_test (ev_op (ixV_ h1 v_ ev_c (head_at t)) v_ (rv_ne rfl))) (fun hb H2 e2 => ?_) (fun hb H2 e2 => ?_)
  · rw [hbad] at hb
    exact q.bad (by
      unfold refNs badNs
      rw [hb]
      rfl) (e1.trans e2)
  rw [hbad] at hb
  have hq : refNs t hd = if (numsP t).any numBad then some "BadText" else none := by
    unfold refNs badNs
    rw [hb, Bool.false_or]
  have e12 := e1.trans e2
  have hn := nums_len t
  have h2 := e2 p _ h1
  -- the comprehension, word by word; a bad one lets go
  refine el_fromV (K := K) (xs := Strs (wordsP t)) (k := 1) (ta := tVar 2) (tb := tC (.int 1)) (σ := [some (.str t), some (.str hd), some (.ref p), none]) v_ h2 ev_c H2 (Ex.refl H2) _ fun a H3 ha e3 h3 => ?_
  have ew : (Strs (wordsP t)).drop 1 = Strs (numsP t) := by rw [numsP, Strs, Strs, List.map_drop]
  rw [ew] at h3
  have e13 := e12.trans e3
  refine ⟨a, rfl, ⟨Strs (numsP t), sq_of h3⟩, fun Dl hD => ?_⟩
  have hDH : H Dl = none := fresh_back e13 hD
  refine lc_list (K := K) (a := a) (xs := Strs (numsP t)) (fun i H' => Ex H3 H' ∧ H' Dl = some (.lst (Ints (((numsP t).take i).map numV))) ∧ ∀ x ∈ (numsP t).take i, numBad x = false)
    ⟨Ex.new hD, upd_same, fun x hx => by rw [List.take_zero] at hx; cases hx⟩ (fun i H' _ ⟨e, _⟩ => sq_of (e a _ h3)) ?_ ?_
  · rintro i x H4 hi ⟨e4, h4, good⟩
    rw [List.getElem?_map] at hi
    cases hw : (numsP t)[i]? with
    | none =>
      rw [hw] at hi
      cases hi
    | some wd =>
      rw [hw] at hi
      cases hi
      have hm := List.mem_of_getElem? hw
      refine ⟨rfl, ?_⟩
      show tCall (sp_number_of K) [] E (tCons (tVar 3) tNil) [some (.str t), some (.str hd), some (.ref p), some (.str wd)] H4 _
      refine t_args (ea_cons v_ ea_nil) fun H5 e5 => ⟨wd, rfl, by have := nums_mem hm; omega, ?_⟩
      cases hbw : numBad wd with
      | true =>
        rw [show refNum wd = some "BadText" by unfold refNum; rw [hbw]; rfl]
        intro H6 e6
        refine q.bad ?_ (((e13.trans e4).trans e5).trans e6)
        rw [hq, if_pos (List.any_eq_true.mpr ⟨wd, hm, hbw⟩)]
      | false =>
        rw [show refNum wd = none by unfold refNum; rw [hbw]; rfl]
        intro H6 e6
        have h6 := (e5.trans e6) Dl _ h4
        have ek : (numsP t).take (i + 1) = (numsP t).take i ++ [wd] := by
          rw [List.take_succ, hw]
          rfl
        refine ⟨_, h6, ?_, ?_, ?_, ?_⟩
        · have := List.length_take_le' i (numsP t)
          rw [List.length_map, List.length_map]
          exact sz_lt (by omega)
        · exact Ex.mut ((e4.trans e5).trans e6) hD
        · show upd H6 Dl _ Dl = _
          rw [upd_same, ek, List.map_append]
          simp [Ints]
        · rw [ek]
          intro x hx
          rcases List.mem_append.mp hx with hx | hx
          · exact good x hx
          · rw [List.mem_singleton.mp hx]
            exact hbw
  · rintro H4 ⟨e4, h4, good⟩
    rw [List.length_map, List.take_length] at h4 good
    refine q.get ?_ Dl H4 hDH (e13.trans e4) h4
    rw [hq, if_neg]
    intro z
    obtain ⟨x, hx, hb2⟩ := List.any_eq_true.mp z
    rw [good x hx] at hb2
    cases hb2

abbrev s_read_road : Stmt := top 15
abbrev nm_read_road : List Str := ["text", "road"]
theorem sc_read_road : FnScope nm_read_road ["text"] (defScope s_read_road) := ⟨rfl, rfl, rfl, by decide +kernel, rfl, by decide +kernel, by decide +kernel⟩
def sp_read_road (K : PySem.W.Frag) : Sp := fun vs H Q E => ∃ t : Str, vs = [.str t] ∧ t.length ≤ 10000 ∧ Out K (refRd t) H E (RL (Ints (numsV t)) H Q)
theorem refNs_some {t h : Str} {x : String} (e : refNs t h = some x) : x = "BadText" ∧ badNs t h = true := by
  unfold refNs at e
  split at e
  · cases e
    exact ⟨rfl, by assumption⟩
  · cases e
theorem refNs_none {t h : Str} (e : refNs t h = none) : badNs t h = false := by
  unfold refNs at e
  split at e
  · cases e
  · rename_i z
    simpa using z
theorem h_read_road (D : Df K mg "read_road" s_read_road) (T : Bs mg) (X1 : PySem.W.exmOne K (.ref (He.ga K "NoRoad")) (.ref (He.ga K "NoRoad")) = some true) (C_NoRoad : Ec K mg "NoRoad") (C_BadText : Ec K mg "BadText") (G_see_road : Has P w K mg base (L2N.CX P w) 1 "see_road" ["road"] (sp_see_road K)) (G_numbers_of : Has P w K mg base (L2.CX P w) 2 "numbers_of" ["text", "head"] (sp_numbers_of K)) :
    Has P w K mg base (L2.CX P w) 3 "read_road" ["text"] (sp_read_road K) := by
  refine D.hasX sc_read_road (fun _ _ _ _ _ _ us hl => match us, hl with | [_], _ => rfl) (fun vs H Q E h => ?_) (fun f cdv A outer s H vs Q E hr h => ?_)
  · obtain ⟨t, rfl, _⟩ := h
    rfl
  obtain ⟨t, rfl, ht, q⟩ := h
  refine ⟨_, (pss_cons (ps_set (i := 1) sc_read_road.nd rfl (Or.inl rfl) (pe_callH G_numbers_of (by first | exact hr | exact hr.mono (by omega)) (by rfl) (passX (takes_of rfl rfl rfl rfl)) (pa_cons (pv 0) (pa_cons pe_str pa_nil))))
    (pss_cons (L2H.ps_try_onlyX (tb := fun W => tDrop (tCallS (sp_see_road K) (WE W) (tCons (tVar 1) tNil))) (ts := fun _ _ _ => tRz (.ref (He.ga K "BadText")) (fun cls d _ H => E cls d H)) (Wout := fun cls d _ H => E cls d H) rfl rfl ⟨rfl, by decide, .inl C_NoRoad.g⟩ (L2H.passesAt_of rfl) (takes_of rfl rfl rfl rfl) (fun W pn xe tk _ _ => pss_one (ps_expr (by exact (pe_callHS G_see_road (by first | exact hr | exact hr.mono (by omega)) (by rfl) (fun σ => L2N.passAt tk σ) (by exact (pa_cons (pv 1) pa_nil)))))) (fun a oe cls d pn hz hf tk hot => pss_one (ps_raiseS C_BadText hot tk rfl)))
    (pss_one (ps_ret (pv 1))))), ?_⟩
  refine s_setcall (ea_cons v_ (ea_cons ev_c ea_nil)) fun H1 e1 => ⟨t, _, rfl, ht, ?_⟩
  cases hN : refNs t (Str.ofString "road") with
  | some x =>
    obtain ⟨rfl, hb⟩ := refNs_some hN
    intro H2 e2
    exact q.bad (if_pos (.inl hb)) (e1.trans e2)
  | none =>
    have hb := refNs_none hN
    intro p H2 hp e2 h2
    have h2 : IL H2 p (numsV t) := h2
    have e12 := e1.trans e2
    have hp0 := fresh_back e1 hp
    dsimp only
    show tDrop _ _ _ _
    refine t_args (ea_cons v_ ea_nil) fun H3 e3 => ⟨p, numsV t, rfl, e3 p _ h2, ?_⟩
    by_cases ok : roadOk (numsV t)
    · rw [refRoad_ok ok]
      intro H4 e4
      dsimp only
      have hq : refRd t = none := if_neg (fun z => z.elim (fun z => by rw [hb] at z; cases z) (fun z => z ok))
      exact s_ret v_ fun H5 e5 => q.get hq p H5 hp0 ((e12.trans e3).trans (e4.trans e5)) ((e3.trans (e4.trans e5)) p _ h2)
    · rw [refRoad_no ok]
      intro H4 e4
      have hq : refRd t = some "BadText" := if_pos (.inr ok)
      exact ⟨true, X1, fun _ a na => q.bad hq ((e12.trans e3).trans e4), fun z => by cases z⟩

abbrev s_read_gaps : Stmt := top 16
abbrev nm_read_gaps : List Str := ["text", "gaps"]
theorem sc_read_gaps : FnScope nm_read_gaps ["text"] (defScope s_read_gaps) := ⟨rfl, rfl, rfl, by decide +kernel, rfl, by decide +kernel, by decide +kernel⟩
def sp_read_gaps (K : PySem.W.Frag) : Sp := fun vs H Q E => ∃ t : Str, vs = [.str t] ∧ t.length ≤ 10000 ∧ Out K (refGp t) H E (RL (Ints (numsV t)) H Q)
theorem h_read_gaps (D : Df K mg "read_gaps" s_read_gaps) (T : Bs mg) (X1 : PySem.W.exmAny K (.ref (He.ga K "NoGaps")) [.ref (He.ga K "NoGaps"), .ref (He.ga K "TooMany")] = some true) (X2 : PySem.W.exmAny K (.ref (He.ga K "TooMany")) [.ref (He.ga K "NoGaps"), .ref (He.ga K "TooMany")] = some true)
    (C_NoGaps : Ec K mg "NoGaps") (C_TooMany : Ec K mg "TooMany") (C_BadText : Ec K mg "BadText") (G_see_gaps : Has P w K mg base (L2N.CX P w) 1 "see_gaps" ["gaps"] (sp_see_gaps K)) (G_numbers_of : Has P w K mg base (L2.CX P w) 2 "numbers_of" ["text", "head"] (sp_numbers_of K)) :
    Has P w K mg base (L2.CX P w) 3 "read_gaps" ["text"] (sp_read_gaps K) := by
  refine D.hasX sc_read_gaps (fun _ _ _ _ _ _ us hl => match us, hl with | [_], _ => rfl) (fun vs H Q E h => ?_) (fun f cdv A outer s H vs Q E hr h => ?_)
  · obtain ⟨t, rfl, _⟩ := h
    rfl
  obtain ⟨t, rfl, ht, q⟩ := h
  refine ⟨_, (pss_cons (ps_set (i := 1) sc_read_gaps.nd rfl (Or.inl rfl) (pe_callH G_numbers_of (by first | exact hr | exact hr.mono (by omega)) (by rfl) (passX (takes_of rfl rfl rfl rfl)) (pa_cons (pv 0) (pa_cons pe_str pa_nil))))
    (pss_cons (ps_try_tup (tb := fun W => tDrop (tCallS (sp_see_gaps K) (WE W) (tCons (tVar 1) tNil))) (ts := fun _ _ _ => tRz (.ref (He.ga K "BadText")) (fun cls d _ H => E cls d H)) (Wout := fun cls d _ H => E cls d H) rfl rfl ⟨rfl, by decide, .inl C_NoGaps.g⟩ ⟨rfl, by decide, .inl C_TooMany.g⟩ (L2H.passesAt_of rfl) (takes_of rfl rfl rfl rfl) (fun W pn xe tk _ => pss_one (ps_expr (by exact (pe_callHS G_see_gaps (by first | exact hr | exact hr.mono (by omega)) (by rfl) (fun σ => L2N.passAt tk σ) (by exact (pa_cons (pv 1) pa_nil)))))) (fun a oe cls d pn hz hf tk hot => pss_one (ps_raiseS C_BadText hot tk rfl)))
    (pss_one (ps_ret (pv 1))))), ?_⟩
  refine s_setcall (ea_cons v_ (ea_cons ev_c ea_nil)) fun H1 e1 => ⟨t, _, rfl, ht, ?_⟩
  cases hN : refNs t (Str.ofString "gaps") with
  | some x =>
    obtain ⟨rfl, hb⟩ := refNs_some hN
    intro H2 e2
    exact q.bad (if_pos (.inl hb)) (e1.trans e2)
  | none =>
    have hb := refNs_none hN
    intro p H2 hp e2 h2
    have h2 : IL H2 p (numsV t) := h2
    have e12 := e1.trans e2
    have hp0 := fresh_back e1 hp
    dsimp only
    show tDrop _ _ _ _
    refine t_args (ea_cons v_ ea_nil) fun H3 e3 => ⟨p, numsV t, rfl, e3 p _ h2, ?_⟩
    by_cases h21 : (numsV t).length ≤ 21
    rotate_left
    · rw [refGaps_many (by omega)]
      intro H4 e4
      have hq : refGp t = some "BadText" := if_pos (.inr fun z => h21 z.1)
      exact ⟨X2, fun a na => q.bad hq ((e12.trans e3).trans e4)⟩
    by_cases ok : gapsOk (numsV t)
    · rw [refGaps_ok h21 ok]
      intro H4 e4
      dsimp only
      have hq : refGp t = none := if_neg (fun z => z.elim (fun z => by rw [hb] at z; cases z) (fun z => z ⟨h21, ok⟩))
      exact s_ret v_ fun H5 e5 => q.get hq p H5 hp0 ((e12.trans e3).trans (e4.trans e5)) ((e3.trans (e4.trans e5)) p _ h2)
    · rw [refGaps_no h21 ok]
      intro H4 e4
      have hq : refGp t = some "BadText" := if_pos (.inr fun z => ok z.2)
      exact ⟨X1, fun a na => q.bad hq ((e12.trans e3).trans e4)⟩

abbrev s_law_number : Stmt := top 25
abbrev nm_law_number : List Str := ["word", "sign"]
theorem sc_law_number : FnScope nm_law_number ["word"] (defScope s_law_number) := ⟨rfl, rfl, rfl, by decide +kernel, rfl, by decide +kernel, by decide +kernel⟩
def numO (w : Str) : V := if numBad w then .non else .int (numV w)
def sp_law_number : Sp := fun vs H Q _ => ∃ w : Str, vs = [.str w] ∧ w.length ≤ 100000 ∧ RVal (numO w) H Q
theorem h_law_number (D : Df K mg "_law_number" s_law_number) (T : Bs mg) : Has P w K mg base CX0 1 "_law_number" ["word"] sp_law_number := by
  refine D.has0 sc_law_number (fun _ _ _ _ _ _ us hl => match us, hl with | [_], _ => rfl) (fun vs H Q E h => ?_) (fun f cdv A outer s H vs Q E hr h => ?_)
  · obtain ⟨w, rfl, _⟩ := h
    rfl
  obtain ⟨w, rfl, hw, q⟩ := h
  refine ⟨_, (pss_cons (ps_if (PW.pt (pw_or (pt_cmpR op_eq (pv 0) pe_str (nomark _)) (pw_or (pt_cmpR op_gt (pe_callB call_len_str (by rfl) T.n_len (by decide +kernel) (pa_cons (pv 0) pa_nil)) pe_int (nomark _)) (pw_or1 (PW.pt (pw_and (pt_cmpR op_eq (pe_ix ix_str (pv 0) pe_int (fun _ _ => rfl)) pe_str (nomark _)) (pw_and1 (pt_cmpR op_ne (pv 0) pe_str (nomark _)))))))))
    (pss_one (ps_ret pe_non))
    pss_nil)
    (pss_cons (ps_for PassesOwn.never rfl (pi_str (pv 0)) (pg_name (i := 1) sc_law_number.nd rfl (Or.inl rfl))
    (pss_one (ps_if (pt_cmpR op_notIn_sign (pv 1) pe_str rfl)
    (pss_one (ps_ret pe_non))
    pss_nil)))
    (pss_one (ps_ret (pe_callTy call_int_str (by rfl) T.n_int (by decide +kernel) (pa_cons (pv 0) pa_nil)))))), ?_⟩
  have hl : w.length = (TL.tl w).length := TL.len_tl w
  have k0 : decide (V.str w = V.str (Str.ofString "")) = decide (TL.tl w = []) := decide_eq_decide.mpr str_eq
  have k1 : decide ((4 : Int) < (w.length : Int)) = decide (4 < (TL.tl w).length) := decide_eq_decide.mpr (by omega)
  have k3 : decide (V.str w = V.str (Str.ofString "0")) = decide (TL.tl w = [48]) := decide_eq_decide.mpr str_eq
  refine s_if (b := decide (V.str w = V.str (Str.ofString "")) || (decide ((4 : Int) < (w.length : Int)) || (decide ((TL.tl w)[0]? = some 48) && !decide (V.str w = V.str (Str.ofString "0")))))
    (et_or (et_test (ev_op v_ ev_c (rv_eq rfl))) fun h0 => et_or (et_test (o_ (ev_lenZ v_ hw) ev_c)) fun _ => et_and ?_ fun _ => et_test (ev_op v_ ev_c (rv_ne rfl))) (fun hb H1 e1 => ?_) (fun hb H1 e1 => ?_)
  · rw [k0] at h0
    have hne : TL.tl w ≠ [] := of_decide_eq_false h0
    obtain ⟨c, hc⟩ : ∃ c, (TL.tl w)[0]? = some c := by
      cases e : TL.tl w with
      | nil => exact absurd e hne
      | cons c cs => exact ⟨c, rfl⟩
    have k2 : decide (V.str ⟨#[c]⟩ = V.str (Str.ofString "0")) = decide ((TL.tl w)[0]? = some 48) := decide_eq_decide.mpr (by
      rw [str_eq, hc]
      show [c] = [48] ↔ some c = some 48
      simp)
    rw [← k2]
    exact et_test (ev_op (ev_op v_ ev_c (rv_ixS hw (by
      have := atI_nat (xs := TL.tl w) (j := 0) hc
      exact this))) ev_c (rv_eq rfl))
  · rw [k0, k1, k3] at hb
    have hq : numO w = .non := by
      unfold numO numBad
      rw [hb]
      rfl
    exact s_ret (v := .non) ev_c fun H2 e2 => by
      rw [hq] at q
      exact q H2 (e1.trans e2)
  · rw [k0, k1, k3] at hb
    have hq : numO w = if digs (TL.tl w) then .int (numV w) else .non := by
      unfold numO numBad
      rw [hb]
      cases digs (TL.tl w) <;> rfl
    rw [hq] at q
    refine s_forS v_ (fun i σ H' => ∃ v, σ = [some (.str w), v] ∧ Ex H H' ∧ ∀ k c, k < i → (TL.tl w)[k]? = some c → 48 ≤ c ∧ c ≤ 57) (fun H2 e2 => ⟨none, rfl, e1.trans e2, fun k c hk => by omega⟩) ?_ ?_
    · rintro i c σ H2 hc ⟨v, rfl, e2, up⟩
      refine s_if (et_test (ev_niSign v_ ev_c)) (fun hb2 H3 e3 => ?_) (fun hb2 H3 e3 => ?_)
      · have hno : ¬ (48 ≤ c ∧ c ≤ 57) := fun z => by
          rw [decide_eq_true (figs_iff.mpr z)] at hb2
          cases hb2
        rw [if_neg (fun z => hno (digs_iff.mp z c (List.mem_of_getElem? hc)))] at q
        exact s_ret (v := .non) ev_c fun H4 e4 => q H4 ((e2.trans e3).trans e4)
      · refine ⟨_, rfl, e2.trans e3, fun k d hk hd => ?_⟩
        by_cases e : k = i
        · subst e
          rw [hc] at hd
          cases hd
          have : decide (c ∈ (Str.ofString "0123456789").cps.toList) = true := by simpa using hb2
          exact figs_iff.mp (of_decide_eq_true this)
        · exact up k d (by omega) hd
    · rintro σ H2 ⟨v, rfl, e2, up⟩
      have hd : digs (TL.tl w) = true := digs_iff.mpr fun c hc => by
        obtain ⟨k, hk, rfl⟩ := List.getElem_of_mem hc
        exact up k _ hk (List.getElem?_eq_getElem hk)
      rw [if_pos hd] at q
      have h1 : TL.tl w ≠ [] := fun z => by
        rw [decide_eq_true z] at hb
        cases hb
      have h2 : ¬ 4 < (TL.tl w).length := fun z => by
        rw [decide_eq_true z] at hb
        simp at hb
      exact s_ret (ev_intS v_ (num_int hd h1 (by omega)) (by omega)) fun H3 e3 => q H3 (e2.trans e3)

abbrev s_law_due : Stmt := top 26
abbrev nm_law_due : List Str := ["text", "head", "words", "row", "word"]
theorem sc_law_due : FnScope nm_law_due ["text", "head"] (defScope s_law_due) := ⟨rfl, rfl, rfl, by decide +kernel, rfl, by decide +kernel, by decide +kernel⟩
open Classical in
noncomputable def dueV (t h : Str) : Option (List Int) := if badNs t h then none else if h = Str.ofString "road" then (if roadOk (numsV t) then some (numsV t) else none) else (if (numsV t).length ≤ 21 ∧ gapsOk (numsV t) then some (numsV t) else none)
theorem due_bad {t h : Str} (hb : badNs t h = true) : dueV t h = none := if_pos hb
theorem due_road {t h : Str} (hb : badNs t h = false) (e : h = Str.ofString "road") : (roadOk (numsV t) → dueV t h = some (numsV t)) ∧ (¬ roadOk (numsV t) → dueV t h = none) := by
  unfold dueV
  rw [if_neg (by rw [hb]; simp), if_pos e]
  exact ⟨fun z => if_pos z, fun z => if_neg z⟩
theorem due_gaps {t h : Str} (hb : badNs t h = false) (e : h ≠ Str.ofString "road") : ((numsV t).length ≤ 21 ∧ gapsOk (numsV t) → dueV t h = some (numsV t)) ∧ (¬ ((numsV t).length ≤ 21 ∧ gapsOk (numsV t)) → dueV t h = none) := by
  unfold dueV
  rw [if_neg (by rw [hb]; simp), if_neg e]
  exact ⟨fun z => if_pos z, fun z => if_neg z⟩
def sp_law_due (K : PySem.W.Frag) : Sp := fun vs H Q _ => ∃ t h : Str, vs = [.str t, .str h] ∧ t.length ≤ 10000 ∧ (dueV t h = none → RVal .non H Q) ∧ (∀ row, dueV t h = some row → RL (Ints row) H Q)
theorem in_non {ws : List Str} : inV .non (ws.map numO) = ws.any numBad := by
  unfold inV
  rw [List.any_map]
  congr 1
  funext w
  show eqV (numO w) .non = numBad w
  unfold numO
  cases numBad w <;> rfl
theorem flat_num {ws : List Str} : (ws.map numO).all flatV = true := by
  rw [List.all_map, List.all_eq_true]
  intro w _
  show flatV (numO w) = true
  unfold numO
  cases numBad w <;> rfl
theorem road_iff {row : List Int} : roadOk row ↔ (1 ≤ row.length ∧ row.length ≤ 50 ∧ gi row 0 = 0 ∧ topI row ≤ 4000 ∧ row = sortD row) := by
  constructor
  · intro h
    exact ⟨h.1, h.2.1, h.2.2.1, h.2.2.2.1, (sortD_id h.up).symm⟩
  · rintro ⟨h1, h2, h3, h4, h5⟩
    have hu : row.Pairwise (· < ·) := h5 ▸ sortD_up row
    exact roadOk_of (List.length_pos_iff.mp h1) h2 h3 (fun x hx => Int.le_trans (top_le (hu.imp fun h => by omega) x hx) h4) hu
theorem h_law_due (D : Df K mg "_law_due" s_law_due) (T : Bs mg) (G_law_number : Has P w K mg base CX0 1 "_law_number" ["word"] sp_law_number) : Has P w K mg base CX0 2 "_law_due" ["text", "head"] (sp_law_due K) := by
  refine D.has0 sc_law_due (fun _ _ _ _ _ _ us hl => match us, hl with | [_, _], _ => rfl) (fun vs H Q E h => ?_) (fun f cdv A outer s H vs Q E hr h => ?_)
  · obtain ⟨t, h, rfl, _⟩ := h
    rfl
  obtain ⟨t, hd, rfl, ht, q0, q1⟩ := h
  refine ⟨_, (pss_cons (ps_set (i := 2) sc_law_due.nd rfl (Or.inl rfl) (pe_split (pv 0) pe_str))
    (pss_cons (ps_if (pt_cmpR op_ne (pe_ix ix_list (pv 2) pe_int (fun _ _ => rfl)) (pv 1) (nomark _))
    (pss_one (ps_ret pe_non))
    pss_nil)
    (pss_cons (ps_setLc (i := 3) (own := [("word", 4)]) rfl sc_law_due.nd rfl rfl (sw_true rfl rfl rfl (by decide +kernel)) (pi_list (pe_slice sl_list (pv 2) (po_some pe_int) po_none)) (blkOk_by (own := [("word", 4)]) (N := nm_law_due) (sc := defScope s_law_due) (by decide +kernel)) (fun _ _ _ _ _ => (pg_name (i := 4) sc_law_due.nd rfl (Or.inl rfl))) (fun _ _ _ _ _ => pts_nil) (fun _ _ _ _ _ => (pe_callH G_law_number (by first | exact hr | exact hr.mono (by omega)) (by rfl) pass0 (pa_cons (pv 4) pa_nil))))
    (pss_cons (ps_if (pt_cmpR op_in_seq pe_non (pv 3) rfl)
    (pss_one (ps_ret pe_non))
    pss_nil)
    (pss_cut (ps_if (pt_cmpR op_eq (pv 1) pe_str (nomark _))
    (pss_one (ps_if (PW.pt (pw_or (pt_not (pt_chain op_le op_le pe_int (pe_callB call_len_seq (by rfl) T.n_len (by decide +kernel) (pa_cons (pv 3) pa_nil)) pe_int)) (pw_or (pt_cmpR op_ne (pe_ix ix_list (pv 3) pe_int (fun _ _ => rfl)) pe_int (nomark _)) (pw_or (pt_cmpR op_gt (pe_ix ix_list (pv 3) (pe_un un_neg pe_int) (fun _ _ => rfl)) pe_int (nomark _)) (pw_or1 (pt_cmpR (op_neD (hD_of hr)) (pv 3) (pe_callB (cr_sortedSet rfl) (by rfl) T.n_sorted (by decide +kernel) (pa_cons (pe_callTy (cr_setI rfl) (by rfl) T.n_set (by decide +kernel) (pa_cons (pv 3) pa_nil)) pa_nil)) (nomark _)))))))
    (pss_one (ps_ret pe_non))
    pss_nil))
    (pss_one (ps_if (PW.pt (pw_or (pt_cmpR op_gt (pe_callB call_len_seq (by rfl) T.n_len (by decide +kernel) (pa_cons (pv 3) pa_nil)) pe_int (nomark _)) (pw_or (pt_cmpR (op_neD (hD_of hr)) (pv 3) (pe_callB cr_sortedI (by rfl) T.n_sorted (by decide +kernel) (pa_cons (pv 3) pa_nil)) (nomark _)) (pw_or (pt_cmpR op_lt (pe_callBK (cr_minDf rfl) (by rfl) T.n_min (by decide +kernel) (pa_cons (pv 3) pa_nil) (pk_cons pe_int pk_nil)) pe_int (nomark _)) (pw_or1 (pt_cmpR op_gt (pe_callBK (cr_maxDf rfl) (by rfl) T.n_max (by decide +kernel) (pa_cons (pv 3) pa_nil) (pk_cons pe_int pk_nil)) pe_int (nomark _)))))))
    (pss_one (ps_ret pe_non))
    pss_nil)))
    (pss_one (ps_ret (pv 3)))))))), ?_⟩
  refine s_asgL (xs := Strs (wordsP t)) (el_split v_ ev_c (by rfl) (by omega)) fun p H1 hp e1 h1 => ?_
  have hbad : decide (V.str (headP t) = V.str hd) = decide (headP t = hd) := decide_eq_decide.mpr ⟨fun z => by cases z; rfl, fun z => by rw [z]⟩
  dsimp only
  refine s_if (b := !decide (V.str (headP t) = V.str hd)) (et_test (ev_op (ixV_ h1 v_ ev_c (head_at t)) v_ (rv_ne rfl))) (fun hb H2 e2 => ?_) (fun hb H2 e2 => ?_)
  · rw [hbad] at hb
    have hq : dueV t hd = none := due_bad (by
      unfold badNs
      rw [hb]
      rfl)
    exact s_ret (v := .non) ev_c fun H3 e3 => q0 hq H3 ((e1.trans e2).trans e3)
  rw [hbad] at hb
  have hbn : badNs t hd = (numsP t).any numBad := by
    unfold badNs
    rw [hb, Bool.false_or]
  have e12 := e1.trans e2
  have hn := nums_len t
  have h2 := e2 p _ h1
  have ew : (Strs (wordsP t)).drop 1 = Strs (numsP t) := by rw [numsP, Strs, Strs, List.map_drop]
  dsimp only [tNext]
  refine s_asgL (xs := (numsP t).map numO) (el_lcSV numO (by
    rw [← ew]
    exact el_fromV (k := 1) v_ h2 ev_c) (by omega) (fun _ => rfl) (fun wd hm H3 e3 => ev_call (ea_cons v_ ea_nil) fun H4 e4 Q q E => ⟨wd, rfl, by have := nums_mem hm; omega, q⟩)) fun r H3 hr3 e3 h3 => ?_
  have e13 := e12.trans e3
  have hr0 : H r = none := fresh_back e12 hr3
  dsimp only
  refine s_if (b := (numsP t).any numBad) (et_test (ev_is (ev_op ev_c v_ (rv_isL (K := K) (sq_of h3) rfl flat_num)) (by rw [in_non]))) (fun hb4 H4 e4 => ?_) (fun hb4 H4 e4 => ?_)
  · have hq : dueV t hd = none := due_bad (by rw [hbn, hb4])
    exact s_ret (v := .non) ev_c fun H5 e5 => q0 hq H5 ((e13.trans e4).trans e5)
  have good : ∀ x ∈ numsP t, numBad x = false := fun x hx => by
    cases hbx : numBad x with
    | false => rfl
    | true =>
      rw [List.any_eq_true.mpr ⟨x, hx, hbx⟩] at hb4
      cases hb4
  have en : (numsP t).map numO = Ints (numsV t) := by
    rw [numsV, Ints, List.map_map]
    refine List.map_congr_left fun x hx => ?_
    show numO x = V.int (numV x)
    unfold numO
    rw [good x hx]
    rfl
  rw [en] at h3
  have h4 : IL H4 r (numsV t) := e4 r _ h3
  have e14 := e13.trans e4
  have hnl : (numsV t).length ≤ 10000 := by
    unfold numsV
    rw [List.length_map]
    omega
  have hdr := due_road (t := t) (h := hd) (by rw [hbn, hb4])
  have hdg := due_gaps (t := t) (h := hd) (by rw [hbn, hb4])
  generalize numsV t = row at *
  have hhd : decide (V.str hd = V.str (Str.ofString "road")) = decide (hd = Str.ofString "road") := decide_eq_decide.mpr ⟨fun z => by cases z; rfl, fun z => by rw [z]⟩
  dsimp only [tNext]
  refine s_cutif (b := decide (V.str hd = V.str (Str.ofString "road"))) (fun σ H' => σ = [some (.str t), some (.str hd), some (.ref p), some (.ref r), none] ∧ Ex H4 H' ∧ dueV t hd = some row) (et_test (ev_op v_ ev_c (rv_eq rfl))) (fun hb5 H5 e5 => ?_) (fun hb5 H5 e5 => ?_) ?_
  · rw [hhd] at hb5
    have hdue := hdr (of_decide_eq_true hb5)
    have h5 := e5 r _ h4
    refine s_if (b := !(decide (1 ≤ (row.length : Int)) && decide ((row.length : Int) ≤ 50)) || (!decide (V.int (gi row 0) = V.int 0) || (decide (4000 < topI row) || !decide (row = sortD row))))
      (et_or (et_not (et_test (ev_chain ev_c (ev_lenI v_ h5) rv_I0 (fun _ => ev_c) fun _ => rv_I0))) fun hc => ?_) (fun hb6 H6 e6 => ?_) (fun hb6 H6 e6 => ?_)
    · have hne : row ≠ [] := by
        rintro rfl
        simp at hc
      exact et_or (et_test (ev_op (ixN_ (i := 0) h5 v_ ev_c (List.length_pos_iff.mpr hne)) ev_c (rv_ne rfl))) fun _ => et_or (et_test (o_ (ixL_ h5 v_ hne) ev_c)) fun _ => et_test (neIN_ v_ h5 (el_sortSetV v_ h5 (by
        simp at hc
        omega)))
    · have hno : ¬ roadOk row := fun z => by
        obtain ⟨k1, k2, k3, k4, k5⟩ := road_iff.mp z
        rw [k3, decide_eq_true k5] at hb6
        simp at hb6
        omega
      exact s_ret (v := .non) ev_c fun H7 e7 => q0 (hdue.2 hno) H7 (((e14.trans e5).trans e6).trans e7)
    · have hyes : roadOk row := road_iff.mpr (by
        simp at hb6
        exact ⟨by omega, by omega, hb6.2.1, by omega, hb6.2.2.2⟩)
      exact ⟨rfl, e5.trans e6, hdue.1 hyes⟩
  · rw [hhd] at hb5
    have hdue := hdg (of_decide_eq_false hb5)
    have h5 := e5 r _ h4
    refine s_if (b := decide (21 < (row.length : Int)) || (!decide (row = sortI row) || (decide (minD 1 row < 1) || decide (4000 < maxD 1 row))))
      (et_or (et_test (o_ (ev_lenI v_ h5) ev_c)) fun _ => et_or (et_test (neIN_ v_ h5 (el_sorted v_ h5))) fun _ => et_or (et_test (o_ (ev_minD v_ h5) ev_c)) fun _ => et_test (o_ (ev_maxD v_ h5) ev_c)) (fun hb6 H6 e6 => ?_) (fun hb6 H6 e6 => ?_)
    · have hno : ¬ (row.length ≤ 21 ∧ gapsOk row) := fun ⟨z0, z⟩ => by
        obtain ⟨z1, z2, z3⟩ := gapsOk_iff.mp z
        rw [decide_eq_true z1, decide_eq_false z2, decide_eq_false z3] at hb6
        simp at hb6
        omega
      exact s_ret (v := .non) ev_c fun H7 e7 => q0 (hdue.2 hno) H7 (((e14.trans e5).trans e6).trans e7)
    · have hyes : row.length ≤ 21 ∧ gapsOk row := by
        simp at hb6
        exact ⟨by omega, gapsOk_iff.mpr ⟨hb6.2.1, by omega, by omega⟩⟩
      exact ⟨rfl, e5.trans e6, hdue.1 hyes⟩
  rintro σ' H5 ⟨rfl, e5, hdue5⟩
  exact s_ret (v := .ref r) v_ fun H6 e6 => q1 row hdue5 r H6 hr0 ((e14.trans e5).trans e6) ((e5.trans e6) r _ h4)

abbrev s_law_turned : Stmt := top 24
abbrev nm_law_turned : List Str := ["text", "mode", "cell", "at", "sign", "words", "spot"]
theorem sc_law_turned : FnScope nm_law_turned ["text", "mode", "cell"] (defScope s_law_turned) := ⟨rfl, rfl, rfl, by decide +kernel, rfl, by decide +kernel, by decide +kernel⟩
theorem len_app (a b : Str) : (a ++ b).length = a.length + b.length := by
  rw [TL.len_tl, TL.tl_append, List.length_append, ← TL.len_tl, ← TL.len_tl]
theorem join_len {ys : List Str} {n : Nat} (h : (ys.map (·.length)).sum + ys.length ≤ n) : (Txt.join blankS ys).length ≤ n := by
  rw [TL.len_tl, TL.join_eq, TL.tl_join]
  have e := joinL_len (TL.tl blankS) (ys.map TL.tl)
  have e3 : ((ys.map TL.tl).map List.length) = ys.map (·.length) := by
    rw [List.map_map]
    exact List.map_congr_left fun y _ => (TL.len_tl y).symm
  rw [e3, List.length_map, tl_blank] at e
  rw [tl_blank]
  simp only [List.length_cons, List.length_nil] at e
  omega
theorem ev_slS {σ : L2.St} {H : Hp} {te : TE} {tl th : TO} {z : Str} {lo hi : Option Int} (h : Ev te σ H (.str z)) (hl : EvO tl σ H lo) (hh : EvO th σ H hi) (hz : z.length ≤ 100000) : Ev (L2.tSl rSlS te tl th) σ H (.str (cutS z lo hi)) := fun H1 e Q q =>
  h H1 e _ fun H2 e2 => hl H2 (e.trans e2) _ fun H3 e3 => hh H3 ((e.trans e2).trans e3) _ fun H4 e4 => ⟨z, rfl, sz_of hz, q H4 ((e2.trans e3).trans e4)⟩
theorem el_toS {σ : L2.St} {H : Hp} {ta tb : TE} {a : Addr} {ws : List Str} {k : Nat} (ha : Ev ta σ H (.ref a)) (h : Lst H a (Strs ws)) (hk : Ev tb σ H (.int (k : Int))) : EvL (L2.tSl (rSlL K) ta tNoPart (tPart tb)) σ H (Strs (ws.take k)) := by
  have := el_sl (K := K) ha eo_none (eo_some hk) (sq_of h)
  rw [cut_to, ← List.map_take] at this
  exact this
theorem el_frS {σ : L2.St} {H : Hp} {ta tb : TE} {a : Addr} {ws : List Str} {k : Nat} (ha : Ev ta σ H (.ref a)) (h : Lst H a (Strs ws)) (hk : Ev tb σ H (.int (k : Int))) : EvL (L2.tSl (rSlL K) ta (tPart tb) tNoPart) σ H (Strs (ws.drop k)) := by
  have := el_sl (K := K) ha (eo_some hk) eo_none (sq_of h)
  rw [cut_from, ← List.map_drop] at this
  exact this
theorem sum_part (ws : List Str) (k : Nat) : ((ws.take k).map (·.length)).sum ≤ (ws.map (·.length)).sum ∧ ((ws.drop k).map (·.length)).sum ≤ (ws.map (·.length)).sum := by
  have := sum_take ws k
  omega
def sp_law_turned : Sp := fun vs H Q _ => ∃ (t : Str) (mode cell : Int), vs = [.str t, .int mode, .int cell] ∧ t.length ≤ 300 ∧ ∀ (t2 : Str) H', t2.length ≤ 2000 → Ex H H' → Q (.str t2) H'
theorem h_law_turned (D : Df K mg "_law_turned" s_law_turned) (T : Bs mg) : Has P w K mg base CX0 1 "_law_turned" ["text", "mode", "cell"] sp_law_turned := by
  refine D.has0 sc_law_turned (fun _ _ _ _ _ _ us hl => match us, hl with | [_, _, _], _ => rfl) (fun vs H Q E h => ?_) (fun f cdv A outer s H vs Q E hr h => ?_)
  · obtain ⟨t, mode, cl, rfl, _⟩ := h
    rfl
  obtain ⟨t, mode, cl, rfl, ht, q⟩ := h
  refine ⟨_, (pss_cons (ps_set (i := 3) sc_law_turned.nd rfl (Or.inl rfl) (pe_op op_mod (pv 2) (pe_op op_add (pe_callB call_len_str (by rfl) T.n_len (by decide +kernel) (pa_cons (pv 0) pa_nil)) pe_int)))
    (pss_cons (ps_set (i := 4) sc_law_turned.nd rfl (Or.inl rfl) (pe_ix ix_str pe_str (pe_op op_mod (pe_op op_fdiv (pv 2) pe_int) pe_int) (fun _ _ => rfl)))
    (pss_cons (ps_if (pt_cmpR op_eq (pv 1) pe_int (nomark _))
    (pss_one (ps_ret (pe_op op_add_str (pe_op op_add_str (pe_slice sl_str (pv 0) po_none (po_some (pv 3))) (pv 4)) (pe_slice sl_str (pv 0) (po_some (pv 3)) po_none))))
    pss_nil)
    (pss_cons (ps_if (pt_cmpR op_eq (pv 1) pe_int (nomark _))
    (pss_one (ps_ret (pe_op op_add_str (pe_op op_add_str (pe_slice sl_str (pv 0) po_none (po_some (pv 3))) (pv 4)) (pe_slice sl_str (pv 0) (po_some (pe_op op_add (pv 3) pe_int)) po_none))))
    pss_nil)
    (pss_cons (ps_if (pt_cmpR op_eq (pv 1) pe_int (nomark _))
    (pss_one (ps_ret (pe_op op_add_str (pe_slice sl_str (pv 0) po_none (po_some (pv 3))) (pe_slice sl_str (pv 0) (po_some (pe_op op_add (pv 3) pe_int)) po_none))))
    pss_nil)
    (pss_cons (ps_set (i := 5) sc_law_turned.nd rfl (Or.inl rfl) (pe_split (pv 0) pe_str))
    (pss_cons (ps_set (i := 6) sc_law_turned.nd rfl (Or.inl rfl) (pe_op op_mod (pe_op op_fdiv (pv 2) pe_int) (pe_callB call_len_seq (by rfl) T.n_len (by decide +kernel) (pa_cons (pv 5) pa_nil))))
    (pss_cons (ps_if (pt_cmpR op_eq (pv 1) pe_int (nomark _))
    (pss_one (ps_ret (pe_join pe_str (pe_op op_cat (pe_slice sl_list (pv 5) po_none (po_some (pv 6))) (pe_slice sl_list (pv 5) (po_some (pe_op op_add (pv 6) pe_int)) po_none)))))
    pss_nil)
    (pss_cons (ps_if (pt_cmpR op_eq (pv 1) pe_int (nomark _))
    (pss_one (ps_ret (pe_join pe_str (pe_op op_cat (pe_slice sl_list (pv 5) po_none (po_some (pe_op op_add (pv 6) pe_int))) (pe_slice sl_list (pv 5) (po_some (pv 6)) po_none)))))
    pss_nil)
    (pss_one (ps_ret (pv 0)))))))))))), ?_⟩
  refine s_asg (v := .int (cl % ((t.length : Int) + 1))) (mod_ v_ (add_ (ev_lenZ v_ (by omega)) ev_c) (by omega)) fun H1 e1 => ?_
  have a0 := Int.emod_nonneg cl (b := (t.length : Int) + 1) (by omega)
  generalize cl % ((t.length : Int) + 1) = at_ at a0
  have hsl : (TL.tl (Str.ofString "0123456789 -+_.\n\t")).length = 17 := by rfl
  have hs0 := Int.emod_nonneg (cl / 1009) (b := 17) (by decide)
  have hs1 := Int.emod_lt_of_pos (cl / 1009) (b := 17) (by decide)
  obtain ⟨sg, hsg⟩ : ∃ c, (TL.tl (Str.ofString "0123456789 -+_.\n\t"))[(cl / 1009 % 17).toNat]? = some c := ⟨_, List.getElem?_eq_getElem (by rw [hsl]; omega)⟩
  dsimp only
  refine s_asg (v := .str ⟨#[sg]⟩) (ev_op ev_c (mod_ (div_ v_ ev_c ⟨by decide, by decide⟩) ev_c (by decide)) (rv_ixS (by decide) (by
    have := atI_nat (xs := TL.tl (Str.ofString "0123456789 -+_.\n\t")) (j := (cl / 1009 % 17).toNat) hsg
    rw [show (((cl / 1009 % 17).toNat : Nat) : Int) = cl / 1009 % 17 by omega] at this
    exact this))) fun H2 e2 => ?_
  have e12 := e1.trans e2
  have hl1 : (⟨#[sg]⟩ : Str).length = 1 := rfl
  have cl0 : ∀ lo hi, (cutS t lo hi).length ≤ 300 := fun lo hi => Nat.le_trans (cutS_length t lo hi) ht
  dsimp only
  refine s_if (et_test (ev_op v_ ev_c (rv_eq rfl))) (fun hb H3 e3 => ?_) (fun hb H3 e3 => ?_)
  · have l1 := cl0 none (some at_)
    have l2 := cl0 (some at_) none
    exact s_ret (ev_catS (ev_catS (ev_slS v_ eo_none (eo_some v_) (by omega)) v_ (by rw [hl1]; omega)) (ev_slS v_ (eo_some v_) eo_none (by omega)) (by rw [len_app, hl1]; omega)) fun H4 e4 => q _ H4 (by rw [len_app, len_app, hl1]; omega) ((e12.trans e3).trans e4)
  dsimp only [tNext]
  refine s_if (et_test (ev_op v_ ev_c (rv_eq rfl))) (fun hb H4 e4 => ?_) (fun hb H4 e4 => ?_)
  · have l1 := cl0 none (some at_)
    have l2 := cl0 (some (at_ + 1)) none
    exact s_ret (ev_catS (ev_catS (ev_slS v_ eo_none (eo_some v_) (by omega)) v_ (by rw [hl1]; omega)) (ev_slS v_ (eo_some (add_ v_ ev_c)) eo_none (by omega)) (by rw [len_app, hl1]; omega)) fun H5 e5 => q _ H5 (by rw [len_app, len_app, hl1]; omega) (((e12.trans e3).trans e4).trans e5)
  dsimp only [tNext]
  refine s_if (et_test (ev_op v_ ev_c (rv_eq rfl))) (fun hb H5 e5 => ?_) (fun hb H5 e5 => ?_)
  · have l1 := cl0 none (some at_)
    have l2 := cl0 (some (at_ + 1)) none
    exact s_ret (ev_catS (ev_slS v_ eo_none (eo_some v_) (by omega)) (ev_slS v_ (eo_some (add_ v_ ev_c)) eo_none (by omega)) (by omega)) fun H6 e6 => q _ H6 (by rw [len_app]; omega) ((((e12.trans e3).trans e4).trans e5).trans e6)
  have e15 := ((e12.trans e3).trans e4).trans e5
  have w1 := words_sum t
  have w2 := List.length_pos_iff.mpr (words_ne t)
  dsimp only [tNext]
  refine s_asgL (xs := Strs (wordsP t)) (el_split v_ ev_c (by rfl) (by omega)) fun p H6 hp e6 h6 => ?_
  have e16 := e15.trans e6
  have hwl : (Strs (wordsP t)).length = (wordsP t).length := List.length_map _
  dsimp only
  refine s_asg (v := .int (cl / 14 % ((wordsP t).length : Int))) (mod_ (div_ v_ ev_c ⟨by decide, by decide⟩) (ev_is (ev_len v_ (sq_of h6)) (by rw [hwl])) (by omega)) fun H7 e7 => ?_
  have s0 := Int.emod_nonneg (cl / 14) (b := ((wordsP t).length : Int)) (by omega)
  have es : cl / 14 % ((wordsP t).length : Int) = (((cl / 14 % ((wordsP t).length : Int)).toNat : Nat) : Int) := by omega
  rw [es]
  generalize (cl / 14 % ((wordsP t).length : Int)).toNat = sp
  have h7 := e7 p _ h6
  have e17 := e16.trans e7
  have hbl : (Str.ofString " ").length = 1 := by decide
  have es1 : ((sp : Int) + 1) = ((sp + 1 : Nat) : Int) := by omega
  dsimp only
  refine s_if (et_test (ev_op v_ ev_c (rv_eq rfl))) (fun hb H8 e8 => ?_) (fun hb H8 e8 => ?_)
  · have s1 := (sum_part (wordsP t) sp).1
    have s2 := (sum_part (wordsP t) (sp + 1)).2
    have l1 := List.length_take_le' sp (wordsP t)
    have l2 : ((wordsP t).drop (sp + 1)).length ≤ (wordsP t).length := by rw [List.length_drop]; omega
    have hsum : (((wordsP t).take sp ++ (wordsP t).drop (sp + 1)).map (·.length)).sum + ((wordsP t).take sp ++ (wordsP t).drop (sp + 1)).length ≤ 1300 := by
      rw [List.map_append, List.sum_append, List.length_append]
      omega
    have hj : EvL (tOp rCat (L2.tSl (rSlL K) (tVar 5) tNoPart (tPart (tVar 6))) (L2.tSl (rSlL K) (tVar 5) (tPart (tOp (rI0 fun i j => .int (i + j)) (tVar 6) (tC (.int 1)))) tNoPart)) [some (.str t), some (.int mode), some (.int cl), some (.int at_), some (.str ⟨#[sg]⟩), some (.ref p), some (.int (sp : Int))] H8 (((wordsP t).take sp ++ (wordsP t).drop (sp + 1)).map V.str) := by
      rw [List.map_append]
      exact el_catNN (el_toS v_ (e8 p _ h7) v_) (el_frS (k := sp + 1) v_ (e8 p _ h7) (by rw [← es1]; exact add_ v_ ev_c)) (by rw [List.length_map, List.length_map]; omega)
    exact s_ret (ev_join ev_c hj (by rw [hbl]; omega)) fun H9 e9 => q _ H9 (by have := join_len (n := 2000) (ys := (wordsP t).take sp ++ (wordsP t).drop (sp + 1)) (by omega); exact this) ((e17.trans e8).trans e9)
  dsimp only [tNext]
  refine s_if (et_test (ev_op v_ ev_c (rv_eq rfl))) (fun hb H9 e9 => ?_) (fun hb H9 e9 => ?_)
  · have s1 := (sum_part (wordsP t) (sp + 1)).1
    have s2 := (sum_part (wordsP t) sp).2
    have l1 := List.length_take_le' (sp + 1) (wordsP t)
    have l2 : ((wordsP t).drop sp).length ≤ (wordsP t).length := by rw [List.length_drop]; omega
    have hsum : (((wordsP t).take (sp + 1) ++ (wordsP t).drop sp).map (·.length)).sum + ((wordsP t).take (sp + 1) ++ (wordsP t).drop sp).length ≤ 1300 := by
      rw [List.map_append, List.sum_append, List.length_append]
      omega
    have h9 := (e8.trans e9) p _ h7
    have hj : EvL (tOp rCat (L2.tSl (rSlL K) (tVar 5) tNoPart (tPart (tOp (rI0 fun i j => .int (i + j)) (tVar 6) (tC (.int 1))))) (L2.tSl (rSlL K) (tVar 5) (tPart (tVar 6)) tNoPart)) [some (.str t), some (.int mode), some (.int cl), some (.int at_), some (.str ⟨#[sg]⟩), some (.ref p), some (.int (sp : Int))] H9 (((wordsP t).take (sp + 1) ++ (wordsP t).drop sp).map V.str) := by
      rw [List.map_append]
      exact el_catNN (el_toS (k := sp + 1) v_ h9 (by rw [← es1]; exact add_ v_ ev_c)) (el_frS v_ h9 v_) (by rw [List.length_map, List.length_map]; omega)
    exact s_ret (ev_join ev_c hj (by rw [hbl]; omega)) fun H10 e10 => q _ H10 (by have := join_len (n := 2000) (ys := (wordsP t).take (sp + 1) ++ (wordsP t).drop sp) (by omega); exact this) (((e17.trans e8).trans e9).trans e10)
  dsimp only [tNext]
  exact s_ret v_ fun H10 e10 => q t H10 (by omega) (((e17.trans e8).trans e9).trans e10)

abbrev s_law_kind : Stmt := top 23
abbrev nm_law_kind : List Str := ["e", "kinds"]
theorem sc_law_kind : FnScope nm_law_kind ["e"] (defScope s_law_kind) := ⟨rfl, rfl, rfl, by decide +kernel, rfl, by decide +kernel, by decide +kernel⟩
theorem h_law_kind (D : Df K mg "_law_kind" s_law_kind) (T : Bs mg) (KD : Kinds K) (C_NoRoad : Ec K mg "NoRoad") (C_NoGaps : Ec K mg "NoGaps") (C_TooMany : Ec K mg "TooMany") (C_Meets : Ec K mg "Meets") (C_BadText : Ec K mg "BadText") : HasP P w K mg base 1 "_law_kind" ["e"] (sp_law_kind K) := by
  refine D.hasP sc_law_kind (fun _ _ _ _ _ _ us hl => match us, hl with | [_], _ => rfl) (fun a cls d vs H Q E h => ?_) (fun f cdv a oe cls d A outer s H vs Q E hz hf hr h => ?_)
  · obtain ⟨x, _, rfl, _⟩ := h
    rfl
  obtain ⟨x, hx, rfl, rfl, rfl, q⟩ := h
  obtain ⟨XC, k1, k2, _⟩ := KD.one hx
  refine ⟨_, (pss_cons (ps_set (i := 1) sc_law_kind.nd rfl (Or.inl rfl) (pe_lst (pa_cons (pe_callB (call_isP List.mem_cons_self XC hz hf) (by rfl) T.n_isinstance (by decide +kernel) (pa_cons (pv 0) (pa_cons (pe_glob (v := .ref (He.ga K "NoRoad")) (by rfl) C_NoRoad.g rfl) pa_nil))) (pa_cons (pe_callB (call_isP List.mem_cons_self XC hz hf) (by rfl) T.n_isinstance (by decide +kernel) (pa_cons (pv 0) (pa_cons (pe_glob (v := .ref (He.ga K "NoGaps")) (by rfl) C_NoGaps.g rfl) pa_nil))) (pa_cons (pe_callB (call_isP List.mem_cons_self XC hz hf) (by rfl) T.n_isinstance (by decide +kernel) (pa_cons (pv 0) (pa_cons (pe_glob (v := .ref (He.ga K "TooMany")) (by rfl) C_TooMany.g rfl) pa_nil))) (pa_cons (pe_callB (call_isP List.mem_cons_self XC hz hf) (by rfl) T.n_isinstance (by decide +kernel) (pa_cons (pv 0) (pa_cons (pe_glob (v := .ref (He.ga K "Meets")) (by rfl) C_Meets.g rfl) pa_nil))) pa_nil))))))
    (pss_one (ps_ret (pe_op op_cat (pv 1) (pe_lst (pa_cons (pe_callB (call_isP List.mem_cons_self XC hz hf) (by rfl) T.n_isinstance (by decide +kernel) (pa_cons (pv 0) (pa_cons (pe_glob (v := .ref (He.ga K "BadText")) (by rfl) C_BadText.g rfl) pa_nil))) (pa_cons (pe_callB (call_isP List.mem_cons_self XC hz hf) (by rfl) T.n_isinstance (by decide +kernel) (pa_cons (pv 0) (pa_cons (pe_bltn (v := .ty "ValueError") (by rfl) T.n_ValueError (by decide +kernel) rfl) pa_nil))) pa_nil))))))), ?_⟩
  have isc : ∀ {y : Str} {σ : L2.St} {H1 : Hp} {tx : TE}, y ∈ excNames → Ev tx σ H1 (.ref a) → Ev (tCB (rIsE K (He.ga K x) a) (tCons tx (tCons (tC (.ref (He.ga K y))) tNil))) σ H1 (.bl (decide (x = y))) := fun hy hv H2 e Q q => hv H2 e _ fun H3 e3 =>
    ⟨_, _, _, rfl, (fun u hu => hu), k1 _ hy, q H3 e3⟩
  have isv : ∀ {σ : L2.St} {H1 : Hp} {tx : TE}, Ev tx σ H1 (.ref a) → Ev (tCB (rIsE K (He.ga K x) a) (tCons tx (tCons (tC (.ty "ValueError")) tNil))) σ H1 (.bl true) := fun hv H2 e Q q => hv H2 e _ fun H3 e3 =>
    ⟨_, _, _, rfl, (fun u hu => hu), k2, q H3 e3⟩
  refine s_asgL (el_lst (vs := [.bl (decide (x = "NoRoad")), .bl (decide (x = "NoGaps")), .bl (decide (x = "TooMany")), .bl (decide (x = "Meets"))]) (ea_cons (isc (by decide) v_) (ea_cons (isc (by decide) v_) (ea_cons (isc (by decide) v_) (ea_cons (isc (by decide) v_) ea_nil)))) (by show (4 : Nat) ≤ 100000; decide)) fun l H1 hl e1 h1 => ?_
  refine s_retL (xs := kindsV x) (el_catV v_ h1 (el_lst (vs := [.bl (decide (x = "BadText")), .bl true]) (ea_cons (isc (by decide) v_) (ea_cons (isv v_) ea_nil)) (by show (2 : Nat) ≤ 100000; decide)) (by show 6 ≤ 100000; decide)) fun p H2 hp e2 h2 => q p H2 (fresh_back e1 hp) (e1.trans e2) h2

abbrev s_law_tried : Stmt := top 27
abbrev nm_law_tried : List Str := ["text", "head", "found", "kinds", "e"]
theorem sc_law_tried : FnScope nm_law_tried ["text", "head"] (defScope s_law_tried) := ⟨rfl, rfl, rfl, by decide +kernel, rfl, by decide +kernel, by decide +kernel⟩
noncomputable def refTr (t h : Str) : Option String := if h = Str.ofString "road" then refRd t else refGp t
theorem refTr_bad {t h : Str} {x : String} (e : refTr t h = some x) : x = "BadText" := by
  unfold refTr refRd refGp at e
  split at e <;> split at e <;> cases e <;> rfl
def sp_law_tried (K : PySem.W.Frag) : Sp := fun vs H Q _ => ∃ t h : Str, vs = [.str t, .str h] ∧ t.length ≤ 10000 ∧
  (refTr t h = some "BadText" → ∀ p l H', H p = none → H l = none → Ex H H' → H' p = some (.tup [.non, .ref l]) → Lst H' l (kindsV (Str.ofString "BadText")) → Q (.ref p) H') ∧
  (refTr t h = none → ∀ p f l H', H p = none → H f = none → Ex H H' → H' p = some (.tup [.ref f, .ref l]) → Lst H' l [] → IL H' f (numsV t) → Q (.ref p) H')
theorem h_law_tried (D : Df K mg "_law_tried" s_law_tried) (T : Bs mg) (KD : Kinds K) (C_RoadError : Ec K mg "RoadError") (G_read_road : Has P w K mg base (L2.CX P w) 3 "read_road" ["text"] (sp_read_road K)) (G_read_gaps : Has P w K mg base (L2.CX P w) 3 "read_gaps" ["text"] (sp_read_gaps K)) (G_law_kind : HasP P w K mg base 1 "_law_kind" ["e"] (sp_law_kind K)) :
    Has P w K mg base CX0 4 "_law_tried" ["text", "head"] (sp_law_tried K) := by
  refine D.has0 sc_law_tried (fun _ _ _ _ _ _ us hl => match us, hl with | [_, _], _ => rfl) (fun vs H Q E h => ?_) (fun f cdv A outer s H vs Q E hr h => ?_)
  · obtain ⟨t, h, rfl, _⟩ := h
    rfl
  obtain ⟨t, hd, rfl, ht, q1, q2⟩ := h
  refine ⟨_, (pss_cons (ps_set (i := 2) sc_law_tried.nd rfl (Or.inl rfl) pe_non)
    (pss_cons (ps_set (i := 3) sc_law_tried.nd rfl (Or.inl rfl) (pe_lst pa_nil))
    (pss_cons (ps_try_as (i := 4) (tb := fun W => tIfS (tTest (tOp rEq (tVar 1) (tC (.str (Str.ofString "road"))))) (tAsg (tCallS (sp_read_road K) (WE W) (tCons (tVar 0) tNil)) (gName 2)) (tAsg (tCallS (sp_read_gaps K) (WE W) (tCons (tVar 0) tNil)) (gName 2))) (ts := fun a cls d => tAsg (fun σ H Q => (tCons (tVar 4) tNil) σ H fun vs H1 => sp_law_kind K a cls d vs H1 Q E0) (gName 3)) (Wout := fun _ _ _ _ => False) rfl rfl sc_law_tried.nd rfl rfl ⟨rfl, by decide, .inl C_RoadError.g⟩ takes0 (fun W pn xe tk _ => pss_one (ps_if (by exact (pt_cmpR op_eq (pv 1) pe_str (nomark _))) (pss_one (ps_set (i := 2) sc_law_tried.nd rfl (Or.inl rfl) (by exact (pe_callHS G_read_road (by first | exact hr | exact hr.mono (by omega)) (by rfl) (fun σ => passAt tk σ) (by exact (pa_cons (pv 0) pa_nil)))))) (pss_one (ps_set (i := 2) sc_law_tried.nd rfl (Or.inl rfl) (by exact (pe_callHS G_read_gaps (by first | exact hr | exact hr.mono (by omega)) (by rfl) (fun σ => passAt tk σ) (by exact (pa_cons (pv 0) pa_nil)))))))) (fun a oe cls d pn hz hf => pss_one (ps_set (i := 3) sc_law_tried.nd rfl (Or.inl rfl) (by exact (pe_callHP G_law_kind hz hf List.mem_cons_self (L2H.RoomH.mono (j := 1) (k := 3) ⟨hr.dp, hr.un⟩ (by decide)) (by rfl) pass0 (by exact (pa_cons (pv 4) pa_nil)))))))
    (pss_one (ps_ret (pe_tup (pa_cons (pv 2) (pa_cons (pv 3) pa_nil)))))))), ?_⟩
  refine s_asg ev_c fun H1 e1 => ?_
  refine s_asgL (el_lst ea_nil (by decide)) fun l H2 hl e2 h2 => ?_
  have e12 := e1.trans e2
  dsimp only
  obtain ⟨_, _, _, k3⟩ := KD.one (show (Str.ofString "BadText") ∈ excNames by decide)
  have hhd : decide (V.str hd = V.str (Str.ofString "road")) = decide (hd = Str.ofString "road") := decide_eq_decide.mpr ⟨fun z => by cases z; rfl, fun z => by rw [z]⟩
  refine s_if (b := decide (V.str hd = V.str (Str.ofString "road"))) (et_test (ev_op v_ ev_c (rv_eq rfl))) (fun hb H3 e3 => ?_) (fun hb H3 e3 => ?_)
  · rw [hhd] at hb
    have hr1 : refTr t hd = refRd t := if_pos (of_decide_eq_true hb)
    show tAsg _ _ _ _ _
    refine t_args (ea_cons v_ ea_nil) fun H4 e4 => ?_
    have e14 := (e12.trans e3).trans e4
    refine ⟨t, rfl, ht, ?_⟩
    cases hX : refRd t with
    | some x =>
      have hx : x = "BadText" := refTr_bad (t := t) (h := hd) (by rw [hr1, hX])
      subst hx
      intro H5 e5
      refine ⟨true, k3, fun _ ae na => ?_, fun z => by cases z⟩
      show tAsg _ _ _ _ _
      refine t_args (ea_cons v_ ea_nil) fun H6 e6 => ?_
      refine ⟨_, (show (Str.ofString "BadText") ∈ excNames by decide), rfl, rfl, rfl, fun p H7 hp e7 h7 => ?_⟩
      have e16 := (e14.trans e5).trans e6
      dsimp only
      refine s_retU (eu_tup (ea_cons v_ (ea_cons v_ ea_nil)) (by show (2 : Nat) ≤ 100000; decide)) fun r H8 hr8 e8 h8 => q1 (by rw [hr1, hX]) r p H8 (fresh_back (e16.trans e7) hr8) (fresh_back e16 hp) ((e16.trans e7).trans e8) h8 (e8 p _ h7)
    | none =>
      intro p H5 hp e5 h5
      have e15 := e14.trans e5
      dsimp only
      refine s_retU (eu_tup (ea_cons v_ (ea_cons v_ ea_nil)) (by show (2 : Nat) ≤ 100000; decide)) fun r H6 hr6 e6 h6 => q2 (by rw [hr1, hX]) r p l H6 (fresh_back e15 hr6) (fresh_back e14 hp) (e15.trans e6) h6 ((((e3.trans e4).trans e5).trans e6) l _ h2) (e6 p _ h5)
  · rw [hhd] at hb
    have hr1 : refTr t hd = refGp t := if_neg (of_decide_eq_false hb)
    show tAsg _ _ _ _ _
    refine t_args (ea_cons v_ ea_nil) fun H4 e4 => ?_
    have e14 := (e12.trans e3).trans e4
    refine ⟨t, rfl, ht, ?_⟩
    cases hX : refGp t with
    | some x =>
      have hx : x = "BadText" := refTr_bad (t := t) (h := hd) (by rw [hr1, hX])
      subst hx
      intro H5 e5
      refine ⟨true, k3, fun _ ae na => ?_, fun z => by cases z⟩
      show tAsg _ _ _ _ _
      refine t_args (ea_cons v_ ea_nil) fun H6 e6 => ?_
      refine ⟨_, (show (Str.ofString "BadText") ∈ excNames by decide), rfl, rfl, rfl, fun p H7 hp e7 h7 => ?_⟩
      have e16 := (e14.trans e5).trans e6
      dsimp only
      refine s_retU (eu_tup (ea_cons v_ (ea_cons v_ ea_nil)) (by show (2 : Nat) ≤ 100000; decide)) fun r H8 hr8 e8 h8 => q1 (by rw [hr1, hX]) r p H8 (fresh_back (e16.trans e7) hr8) (fresh_back e16 hp) ((e16.trans e7).trans e8) h8 (e8 p _ h7)
    | none =>
      intro p H5 hp e5 h5
      have e15 := e14.trans e5
      dsimp only
      refine s_retU (eu_tup (ea_cons v_ (ea_cons v_ ea_nil)) (by show (2 : Nat) ≤ 100000; decide)) fun r H6 hr6 e6 h6 => q2 (by rw [hr1, hX]) r p l H6 (fresh_back e15 hr6) (fresh_back e14 hp) (e15.trans e6) h6 ((((e3.trans e4).trans e5).trans e6) l _ h2) (e6 p _ h5)

abbrev s_law_cell_at : Stmt := top 18
abbrev nm_law_cell_at : List Str := ["script", "k"]
theorem sc_law_cell_at : FnScope nm_law_cell_at ["script", "k"] (defScope s_law_cell_at) := ⟨rfl, rfl, rfl, by decide +kernel, rfl, by decide +kernel, by decide +kernel⟩
def sp_law_cell_at (K : PySem.W.Frag) : Sp := fun vs H Q _ => ∃ (a : Addr) (ns : List Int) (k : Int), vs = [.ref a, .int k] ∧ SqL K H a (Ints ns) ∧ 0 ≤ k ∧ RVal (.int (cell ns k)) H Q
theorem h_law_cell_at (D : Df K mg "_law_cell_at" s_law_cell_at) (T : Bs mg) : Has P w K mg base CX0 1 "_law_cell_at" ["script", "k"] (sp_law_cell_at K) := by
  refine D.has0 sc_law_cell_at (fun _ _ _ _ _ _ us hl => match us, hl with | [_, _], _ => rfl) (fun vs H Q E h => ?_) (fun f cdv A outer s H vs Q E hr h => ?_)
  · obtain ⟨a, ns, k, rfl, _⟩ := h
    rfl
  obtain ⟨a, ns, k, rfl, ha, hk, q⟩ := h
  refine ⟨_, (pss_cons (ps_if (pt_cmpR op_lt (pv 1) (pe_callB call_len_seq (by rfl) T.n_len (by decide +kernel) (pa_cons (pv 0) pa_nil)) (nomark _))
    (pss_one (ps_ret (pe_ix ix_list (pv 0) (pv 1) (fun _ _ => rfl))))
    pss_nil)
    (pss_one (ps_ret pe_int))), ?_⟩
  refine s_if (et_test (o_ v_ (ev_len v_ ha))) (fun hb H1 e1 => ?_) (fun hb H1 e1 => ?_)
  · rw [List.length_map] at hb
    have hb : k < (ns.length : Int) := of_decide_eq_true hb
    exact s_ret (ev_op v_ v_ (rv_ixL (ex_l e1 ha) (atI_ints hk hb))) fun H2 e2 => q H2 (e1.trans e2)
  · rw [List.length_map] at hb
    have hb : ¬ k < (ns.length : Int) := of_decide_eq_false hb
    have e : cell ns k = 0 := by
      unfold cell gi
      rw [List.getD_eq_getElem?_getD, List.getElem?_eq_none (by omega)]
      rfl
    rw [e] at q
    dsimp only [tNext]
    exact s_ret ev_c fun H2 e2 => q H2 (e1.trans e2)

theorem ev_cell {σ : L2.St} {H : Hp} {a : Addr} {ns : List Int} {k : Int} {ta tb : TE} {E : XK} (ha : Ev ta σ H (.ref a)) (hk : Ev tb σ H (.int k)) (h : SqL K H a (Ints ns)) (h0 : 0 ≤ k) :
    Ev (tCall (sp_law_cell_at K) [] E (tCons ta (tCons tb tNil))) σ H (.int (cell ns k)) := ev_call (ea_cons ha (ea_cons hk ea_nil)) fun H3 e3 Q q E => ⟨a, ns, k, rfl, ex_l e3 h, h0, q⟩

abbrev s_law_whole : Stmt := top 19
abbrev nm_law_whole : List Str := ["found"]
theorem sc_law_whole : FnScope nm_law_whole ["found"] (defScope s_law_whole) := ⟨rfl, rfl, rfl, by decide +kernel, rfl, by decide +kernel, by decide +kernel⟩
def sp_law_whole : Sp := fun vs H Q _ => ∃ i : Int, vs = [.int i] ∧ RVal (.bl true) H Q
theorem h_law_whole (D : Df K mg "_law_whole" s_law_whole) (T : Bs mg) : Has P w K mg base CX0 1 "_law_whole" ["found"] sp_law_whole := by
  refine D.has0 sc_law_whole (fun _ _ _ _ _ _ us hl => match us, hl with | [_], _ => rfl) (fun vs H Q E h => ?_) (fun f cdv A outer s H vs Q E hr h => ?_)
  · obtain ⟨i, rfl, _⟩ := h
    rfl
  obtain ⟨i, rfl, q⟩ := h
  refine ⟨_, (pss_one (ps_ret (pe_and (pe_callB call_isi (by rfl) T.n_isinstance (by decide +kernel) (pa_cons (pv 0) (pa_cons (pe_bltn (v := .ty "int") (by rfl) T.n_int (by decide +kernel) rfl) pa_nil))) (pe_one (pe_not (pe_callB call_isi (by rfl) T.n_isinstance (by decide +kernel) (pa_cons (pv 0) (pa_cons (pe_bltn (v := .ty "bool") (by rfl) T.n_bool (by decide +kernel) rfl) pa_nil)))))))), ?_⟩
  exact s_ret (ev_andV (isi_ (t := .type "int") v_ ev_c (fun H1 _ => .base (.int i)) (kit_ty (b := "int") (r := true) (by decide +kernel)))
    fun _ => ev_notV (isi_ (t := .type "int") v_ ev_c (fun H1 _ => .base (.int i)) (kit_ty (b := "bool") (r := false) (by decide +kernel)))) q

abbrev s_law_list : Stmt := top 20
abbrev nm_law_list : List Str := ["found", "due", "k"]
theorem sc_law_list : FnScope nm_law_list ["found", "due"] (defScope s_law_list) := ⟨rfl, rfl, rfl, by decide +kernel, rfl, by decide +kernel, by decide +kernel⟩
def sp_law_list : Sp := fun vs H Q _ => ∃ (a b : Addr) (ns ms : List Int), vs = [.ref a, .ref b] ∧ IL H a ns ∧ IL H b ms ∧ ms.length ≤ 50000 ∧ RVal (.bl (decide (ns = ms))) H Q
theorem h_law_list (D : Df K mg "_law_list" s_law_list) (T : Bs mg) (G_law_whole : Has P w K mg base CX0 1 "_law_whole" ["found"] sp_law_whole) : Has P w K mg base CX0 2 "_law_list" ["found", "due"] sp_law_list := by
  refine D.has0 sc_law_list (fun _ _ _ _ _ _ us hl => match us, hl with | [_, _], _ => rfl) (fun vs H Q E h => ?_) (fun f cdv A outer s H vs Q E hr h => ?_)
  · obtain ⟨a, b, ns, ms, rfl, _⟩ := h
    rfl
  obtain ⟨a, b, ns, ms, rfl, ha, hb, hz, q⟩ := h
  refine ⟨_, (pss_cons (ps_if (PW.pt (pw_or (pt_not (pt_val (pe_callB call_isi (by rfl) T.n_isinstance (by decide +kernel) (pa_cons (pv 0) (pa_cons (pe_bltn (v := .ty "list") (by rfl) T.n_list (by decide +kernel) rfl) pa_nil))))) (pw_or1 (pt_cmpR op_ne (pe_callB call_len_seq (by rfl) T.n_len (by decide +kernel) (pa_cons (pv 0) pa_nil)) (pe_callB call_len_seq (by rfl) T.n_len (by decide +kernel) (pa_cons (pv 1) pa_nil)) (nomark _)))))
    (pss_one (ps_ret pe_bl))
    pss_nil)
    (pss_cons (ps_for PassesOwn.never rfl (pi_range1 rfl T.n_range (pa_cons (pe_callB call_len_seq (by rfl) T.n_len (by decide +kernel) (pa_cons (pv 1) pa_nil)) pa_nil)) (pg_name (i := 2) sc_law_list.nd rfl (Or.inl rfl))
    (pss_one (ps_if (PW.pt (pw_or (pt_not (pt_val (pe_callH G_law_whole (by first | exact hr | exact hr.mono (by omega)) (by rfl) pass0 (pa_cons (pe_ix ix_list (pv 0) (pv 2) (fun _ _ => rfl)) pa_nil)))) (pw_or1 (pt_cmpR op_ne (pe_ix ix_list (pv 0) (pv 2) (fun _ _ => rfl)) (pe_ix ix_list (pv 1) (pv 2) (fun _ _ => rfl)) (nomark _)))))
    (pss_one (ps_ret pe_bl))
    pss_nil)))
    (pss_one (ps_ret pe_bl)))), ?_⟩
  refine s_if (et_or (et_not (et_B (isi_ (t := .type "list") v_ ev_c (fun H1 e1 => .base (.lst (e1 a _ ha))) (kit_ty (b := "list") (r := true) (by decide +kernel))))) fun _ => et_test (ev_op (ev_lenI v_ ha) (ev_lenI v_ hb) (rv_ne rfl)))
    (fun h0 H1 e1 => ?_) (fun h0 H1 e1 => ?_)
  · have hn : ns ≠ ms := by
      rintro rfl
      simp at h0
    rw [decide_eq_false hn] at q
    exact s_ret ev_c fun H2 e2 => q H2 (e1.trans e2)
  · have hl : ns.length = ms.length := by
      simp at h0
      omega
    refine s_forR1 (n := (ms.length : Int)) (ea_cons (ev_lenI v_ (e1 b _ hb)) ea_nil) ⟨by omega, by omega⟩
      (fun i σ H' => ∃ v, σ = [some (.ref a), some (.ref b), v] ∧ Ex H H' ∧ ∀ k, k < i → gi ns k = gi ms k) (fun H2 e2 => ⟨none, rfl, e1.trans e2, fun k hk => by omega⟩) ?_ ?_
    · rintro i σ H2 hi ⟨v, rfl, e2, up⟩
      refine s_if (et_or (et_not (et_B (ev_call (z := .bl true) (ea_cons (ixN_ (e2 a _ ha) v_ v_ (by omega)) ea_nil) fun H3 e3 Q q E => ⟨_, rfl, q⟩))) fun _ => et_test (ev_op (ixN_ (e2 a _ ha) v_ v_ (by omega)) (ixN_ (e2 b _ hb) v_ v_ (by omega)) (rv_ne rfl)))
        (fun h1 H3 e3 => ?_) (fun h1 H3 e3 => ?_)
      · have hn : ns ≠ ms := by
          rintro rfl
          simp at h1
        rw [decide_eq_false hn] at q
        exact s_ret ev_c fun H4 e4 => q H4 ((e2.trans e3).trans e4)
      · refine ⟨_, rfl, e2.trans e3, fun k hk => ?_⟩
        simp at h1
        by_cases e : k = i
        · subst e
          exact h1
        · exact up k (by omega)
    · rintro σ H2 ⟨v, rfl, e2, up⟩
      have he : ns = ms := gi_ext hl fun k hk => up k (by omega)
      rw [decide_eq_true he] at q
      dsimp only [tNext]
      exact s_ret ev_c fun H4 e4 => q H4 (e2.trans e4)

abbrev s_law_road : Stmt := top 22
abbrev nm_law_road : List Str := ["script", "first", "many", "steps", "road", "k"]
theorem sc_law_road : FnScope nm_law_road ["script", "first", "many", "steps"] (defScope s_law_road) := ⟨rfl, rfl, rfl, by decide +kernel, rfl, by decide +kernel, by decide +kernel⟩
def sp_law_road (K : PySem.W.Frag) : Sp := fun vs H Q _ => ∃ (a : Addr) (ns : List Int) (first steps : Int) (n : Nat), vs = [.ref a, .int first, .int (1 + (n : Int)), .int steps] ∧ SqL K H a (Ints ns) ∧ 0 ≤ first ∧ 0 < steps ∧ n ≤ 1000 ∧ RL (Ints (lroad ns first steps n)) H Q
theorem h_law_road (D : Df K mg "_law_road" s_law_road) (T : Bs mg) (G_law_cell_at : Has P w K mg base CX0 1 "_law_cell_at" ["script", "k"] (sp_law_cell_at K)) : Has P w K mg base CX0 2 "_law_road" ["script", "first", "many", "steps"] (sp_law_road K) := by
  refine D.has0 sc_law_road (fun _ _ _ _ _ _ us hl => match us, hl with | [_, _, _, _], _ => rfl) (fun vs H Q E h => ?_) (fun f cdv A outer s H vs Q E hr h => ?_)
  · obtain ⟨a, ns, first, steps, n, rfl, _⟩ := h
    rfl
  obtain ⟨a, ns, first, steps, n, rfl, ha, hf, hst, hn, q⟩ := h
  refine ⟨_, (pss_cons (ps_set (i := 4) sc_law_road.nd rfl (Or.inl rfl) (pe_lst (pa_cons pe_int pa_nil)))
    (pss_cons (ps_for PassesOwn.never rfl (pi_range1 rfl T.n_range (pa_cons (pe_op op_sub (pv 2) pe_int) pa_nil)) (pg_name (i := 5) sc_law_road.nd rfl (Or.inl rfl))
    (pss_one (ps_expr (pe_bm PySem.F.plainAttrs_list PySem.F.slot_list_append PySem.F.type_list_append mt_append (pv 4) (pa_cons (pe_op op_add (pe_op op_add (pe_ix ix_list (pv 4) (pe_un un_neg pe_int) (fun _ _ => rfl)) pe_int) (pe_op op_mod (pe_callH G_law_cell_at (by first | exact hr | exact hr.mono (by omega)) (by rfl) pass0 (pa_cons (pv 0) (pa_cons (pe_op op_add (pv 1) (pv 5)) pa_nil))) (pv 3))) pa_nil)))))
    (pss_one (ps_ret (pv 4))))), ?_⟩
  refine s_asgL (el_lst (ea_cons ev_c ea_nil) (by show (1 : Nat) ≤ 100000; decide)) fun l H1 hl e1 h1 => ?_
  refine s_forR1 (n := 1 + (n : Int) - 1) (ea_cons (sub_ v_ ev_c) ea_nil) ⟨by omega, by omega⟩
    (fun i σ H' => ∃ v, σ = [some (.ref a), some (.int first), some (.int (1 + (n : Int))), some (.int steps), some (.ref l), v] ∧ Ex H H' ∧ IL H' l (lroad ns first steps i)) (fun H2 e2 => ⟨none, rfl, e1.trans e2, e2 l _ h1⟩) ?_ ?_
  · rintro i σ H2 hi ⟨v, rfl, e2, h2⟩
    have hne : lroad ns first steps i ≠ [] := fun z => by
      have := lroad_len ns first steps i
      rw [z] at this
      cases this
    refine s_app h2 v_ (add_ (add_ (ixL_ h2 v_ hne) ev_c) (mod_ (ev_call (z := .int (cell ns (first + i))) (ea_cons v_ (ea_cons (add_ v_ v_) ea_nil)) fun H3 e3 Q q E => ⟨a, ns, first + i, rfl, ex_l (e2.trans e3) ha, by omega, q⟩) v_ hst)) ?_ fun H3 e3 => ⟨_, rfl, Ex.mut (e2.trans e3) hl, ?_⟩
    · rw [List.length_map, lroad_len]
      omega
    · refine il_upd ?_
      rw [ints_app, lroad, lroad_len, Nat.add_sub_cancel]
  · rintro σ H2 ⟨v, rfl, e2, h2⟩
    have j : (1 + (n : Int) - 1).toNat = n := by omega
    rw [j] at h2
    exact s_ret v_ fun H3 e3 => q l H3 hl (e2.trans e3) (e3 l _ h2)

abbrev s_law : Stmt := top 28
abbrev nm_law : List Str := ["script", "head", "steps", "row", "text", "word", "due", "tried", "number"]
theorem sc_law : FnScope nm_law ["script"] (defScope s_law) := ⟨rfl, rfl, rfl, by decide +kernel, rfl, by decide +kernel, by decide +kernel⟩
theorem menuV {σ : L2.St} {H : Hp} {ta tb : TE} {xs : List V} {i : Int} {v : V} (h : EvL ta σ H xs) (hi : ∀ H1, Ex H H1 → Ev tb σ H1 (.int i)) (hv : atI xs i = some v) : Ev (tOp (rIxL K) ta tb) σ H v :=
  ev_opL1 h hi fun p H1 hp _ => rv_ixL (sq_of hp) hv
theorem both_due {t h : Str} (hh : h = Str.ofString "road" ∨ h = Str.ofString "gaps") : (dueV t h = none ∧ refTr t h = some "BadText") ∨ (dueV t h = some (numsV t) ∧ refTr t h = none) := by
  cases hb : badNs t h with
  | true =>
    refine .inl ⟨due_bad hb, ?_⟩
    rcases hh with rfl | rfl
    · exact (if_pos rfl).trans (if_pos (.inl hb))
    · exact (if_neg (by decide)).trans (if_pos (.inl hb))
  | false =>
    rcases hh with rfl | rfl
    · obtain ⟨k1, k2⟩ := due_road hb rfl
      by_cases ok : roadOk (numsV t)
      · refine .inr ⟨k1 ok, (if_pos rfl).trans (if_neg fun z => ?_)⟩
        rcases z with z | z
        · rw [hb] at z
          cases z
        · exact z ok
      · exact .inl ⟨k2 ok, (if_pos rfl).trans (if_pos (.inr ok))⟩
    · obtain ⟨k1, k2⟩ := due_gaps hb (by decide)
      by_cases ok : (numsV t).length ≤ 21 ∧ gapsOk (numsV t)
      · refine .inr ⟨k1 ok, (if_neg (by decide)).trans (if_neg fun z => ?_)⟩
        rcases z with z | z
        · rw [hb] at z
          cases z
        · exact z ok
      · exact .inl ⟨k2 ok, (if_neg (by decide)).trans (if_pos (.inr ok))⟩
theorem nums_ints (t : Str) (ht : t.length ≤ 10000) : (numsV t).length ≤ 10000 := by
  have := nums_len t
  unfold numsV
  rw [List.length_map]
  omega
def sp_law (K : PySem.W.Frag) : Sp := fun vs H Q _ => ∃ (a : Addr) (ns : List Int), vs = [.ref a] ∧ SqL K H a (Ints ns) ∧ ns.length ≤ 63 ∧ ∀ H', Q (.bl true) H'
theorem h_law (D : Df K mg "law" s_law) (T : Bs mg) (G_law_cell_at : Has P w K mg base CX0 1 "_law_cell_at" ["script", "k"] (sp_law_cell_at K)) (G_law_road : Has P w K mg base CX0 2 "_law_road" ["script", "first", "many", "steps"] (sp_law_road K))
    (G_law_list : Has P w K mg base CX0 2 "_law_list" ["found", "due"] sp_law_list) (G_law_turned : Has P w K mg base CX0 1 "_law_turned" ["text", "mode", "cell"] sp_law_turned) (G_law_due : Has P w K mg base CX0 2 "_law_due" ["text", "head"] (sp_law_due K))
    (G_law_tried : Has P w K mg base CX0 4 "_law_tried" ["text", "head"] (sp_law_tried K)) : Has P w K mg base CX0 5 "law" ["script"] (sp_law K) := by
  refine D.has0 sc_law (fun _ _ _ _ _ _ us hl => match us, hl with | [_], _ => rfl) (fun vs H Q E h => ?_) (fun f cdv A outer s H vs Q E hr h => ?_)
  · obtain ⟨a, ns, rfl, _⟩ := h
    rfl
  obtain ⟨a, ns, rfl, ha, _, q⟩ := h
  refine ⟨_, (pss_cons (ps_set (i := 1) sc_law.nd rfl (Or.inl rfl) (pe_ix ix_list (pe_lst (pa_cons pe_str (pa_cons pe_str pa_nil))) (pe_op op_mod (pe_callH G_law_cell_at (by first | exact hr | exact hr.mono (by omega)) (by rfl) pass0 (pa_cons (pv 0) (pa_cons pe_int pa_nil))) pe_int) (fun _ _ => rfl)))
    (pss_cons (ps_set (i := 2) sc_law.nd rfl (Or.inl rfl) (pe_ix ix_list (pe_lst (pa_cons pe_int (pa_cons pe_int (pa_cons pe_int pa_nil)))) (pe_op op_mod (pe_op op_fdiv (pe_callH G_law_cell_at (by first | exact hr | exact hr.mono (by omega)) (by rfl) pass0 (pa_cons (pv 0) (pa_cons pe_int pa_nil))) pe_int) pe_int) (fun _ _ => rfl)))
    (pss_cons (ps_set (i := 3) sc_law.nd rfl (Or.inl rfl) (pe_callH G_law_road (by first | exact hr | exact hr.mono (by omega)) (by rfl) pass0 (pa_cons (pv 0) (pa_cons pe_int (pa_cons (pe_op op_add pe_int (pe_op op_mod (pe_op op_fdiv (pe_callH G_law_cell_at (by first | exact hr | exact hr.mono (by omega)) (by rfl) pass0 (pa_cons (pv 0) (pa_cons pe_int pa_nil))) pe_int) pe_int)) (pa_cons (pv 2) pa_nil))))))
    (pss_cut (ps_if (pt_cmpR op_eq (pv 1) pe_str (nomark _))
    (pss_one (ps_set (i := 3) sc_law.nd rfl (Or.inl rfl) (pe_slice sl_list (pv 3) (po_some pe_int) po_none)))
    pss_nil)
    (pss_cons (ps_set (i := 4) sc_law.nd rfl (Or.inl rfl) (pe_join pe_str (pe_op op_cat (pe_lst (pa_cons (pv 1) pa_nil)) (pe_lc (own := [("number", 8)]) rfl sc_law.nd (pi_list (pv 3)) (blkOk_by (own := [("number", 8)]) (N := nm_law) (sc := defScope s_law) (by decide +kernel)) (fun _ _ _ _ _ => (pg_name (i := 8) sc_law.nd rfl (Or.inl rfl))) (fun _ _ _ _ _ => pts_nil) (fun _ _ _ _ _ => (pe_callTy call_str_int (by rfl) T.n_str (by decide +kernel) (pa_cons (pv 8) pa_nil)))))))
    (pss_cons (ps_set (i := 4) sc_law.nd rfl (Or.inl rfl) (pe_callH G_law_turned (by first | exact hr | exact hr.mono (by omega)) (by rfl) pass0 (pa_cons (pv 4) (pa_cons (pe_op op_mod (pe_callH G_law_cell_at (by first | exact hr | exact hr.mono (by omega)) (by rfl) pass0 (pa_cons (pv 0) (pa_cons pe_int pa_nil))) pe_int) (pa_cons (pe_callH G_law_cell_at (by first | exact hr | exact hr.mono (by omega)) (by rfl) pass0 (pa_cons (pv 0) (pa_cons pe_int pa_nil))) pa_nil)))))
    (pss_cons (ps_for PassesOwn.never rfl (pi_list (pe_lst (pa_cons pe_str (pa_cons pe_str pa_nil)))) (pg_name (i := 5) sc_law.nd rfl (Or.inl rfl))
    (pss_cut (ps_set (i := 6) sc_law.nd rfl (Or.inl rfl) (pe_callH G_law_due (by first | exact hr | exact hr.mono (by omega)) (by rfl) pass0 (pa_cons (pv 4) (pa_cons (pv 5) pa_nil))))
    (pss_cut (ps_set (i := 7) sc_law.nd rfl (Or.inl rfl) (pe_callH G_law_tried (by first | exact hr | exact hr.mono (by omega)) (by rfl) pass0 (pa_cons (pv 4) (pa_cons (pv 5) pa_nil))))
    (pss_one (ps_if (pt_cmpR op_isN (pv 6) pe_non (nomark _))
    (pss_one (ps_if (pt_cmpR (op_neD (hD_of hr)) (pv 7) (pe_tup (pa_cons pe_non (pa_cons (pe_lst (pa_cons pe_bl (pa_cons pe_bl (pa_cons pe_bl (pa_cons pe_bl (pa_cons pe_bl (pa_cons pe_bl pa_nil))))))) pa_nil))) (nomark _))
    (pss_one (ps_ret pe_bl))
    pss_nil))
    (pss_one (ps_if (PW.pt (pw_or (pt_cmpR (op_neD (hD_of hr)) (pe_ix ix_tup (pv 7) pe_int (fun _ _ => rfl)) (pe_lst pa_nil) (nomark _)) (pw_or1 (pt_not (pt_val (pe_callH G_law_list (by first | exact hr | exact hr.mono (by omega)) (by rfl) pass0 (pa_cons (pe_ix ix_tup (pv 7) pe_int (fun _ _ => rfl)) (pa_cons (pv 6) pa_nil))))))))
    (pss_one (ps_ret pe_bl))
    pss_nil)))))))
    (pss_one (ps_ret pe_bl))))))))), ?_⟩
  have hc2 : cell ns 0 % 2 = 0 ∨ cell ns 0 % 2 = 1 := by omega
  obtain ⟨hd, hhd, hat⟩ : ∃ hd : Str, (hd = Str.ofString "road" ∨ hd = Str.ofString "gaps") ∧ atI [V.str (Str.ofString "road"), V.str (Str.ofString "gaps")] (cell ns 0 % 2) = some (.str hd) := by
    rcases hc2 with e | e <;> rw [e]
    · exact ⟨_, .inl rfl, rfl⟩
    · exact ⟨_, .inr rfl, rfl⟩
  refine s_asg (v := .str hd) (menuV (xs := [V.str (Str.ofString "road"), V.str (Str.ofString "gaps")]) (el_lst (ea_cons ev_c (ea_cons ev_c ea_nil)) (by show (2 : Nat) ≤ 100000; decide)) (fun H2 e2 => mod_ (ev_cell v_ ev_c (ex_l e2 ha) (by decide)) ev_c (by decide)) hat) fun H1 e1 => ?_
  have hst := gi3 (x := 3) (y := 9) (z := 300) (i := cell ns 0 / 48 % 3) (by omega) (by omega)
  dsimp only
  refine s_asg (menu_ (ns := [3, 9, 300]) (el_lst (ea_cons ev_c (ea_cons ev_c (ea_cons ev_c ea_nil))) (by show (3 : Nat) ≤ 100000; decide)) (fun H2 e2 => mod_ (div_ (ev_cell v_ ev_c (ex_l (e1.trans e2) ha) (by decide)) ev_c ⟨by decide, by decide⟩) ev_c (by decide)) (by omega) (by show _ < (3 : Int); omega)) fun H2 e2 => ?_
  have e12 := e1.trans e2
  generalize gi [3, 9, 300] (cell ns 0 / 48 % 3).toNat = st at *
  dsimp only
  refine s_asgL (el_call (ea_cons v_ (ea_cons ev_c (ea_cons (add_ ev_c (mod_ (div_ (ev_cell v_ ev_c (ex_l e12 ha) (by decide)) ev_c ⟨by decide, by decide⟩) ev_c (by decide))) (ea_cons v_ ea_nil)))) fun H3 e3 Q q E =>
    ⟨a, ns, 3, st, (cell ns 0 / 2 % 24).toNat, by rw [show (((cell ns 0 / 2 % 24).toNat : Nat) : Int) = cell ns 0 / 2 % 24 by omega]; rfl, ex_l (e12.trans e3) ha, by decide, by omega, by omega, q⟩) fun r H3 hr3 e3 h3 => ?_
  have e13 := e12.trans e3
  obtain ⟨_, rb, _⟩ := lroad_facts ns 3 (steps := st) (by omega) (cell ns 0 / 2 % 24).toNat
  have rlen := lroad_len ns 3 st (cell ns 0 / 2 % 24).toNat
  have h3 : IL H3 r (lroad ns 3 st (cell ns 0 / 2 % 24).toNat) := h3
  have rval : ∀ x ∈ lroad ns 3 st (cell ns 0 / 2 % 24).toNat, 0 ≤ x ∧ x < 10000 := fun x hx => by
    have h1 := rb x hx
    have h2 := Int.mul_le_mul (show (((cell ns 0 / 2 % 24).toNat : Nat) : Int) ≤ 23 by omega) (show st ≤ 300 by omega) (by omega) (by decide)
    omega
  generalize lroad ns 3 st (cell ns 0 / 2 % 24).toNat = rd at *
  dsimp only
  refine s_cutif (fun σ H' => ∃ (r : Addr) (rw_ : List Int), σ = [some (.ref a), some (.str hd), some (.int st), some (.ref r), none, none, none, none, none] ∧ Ex H3 H' ∧ IL H' r rw_ ∧ rw_.length ≤ 24 ∧ ∀ x ∈ rw_, 0 ≤ x ∧ x < 10000)
    (et_test (ev_op v_ ev_c (rv_eq rfl))) (fun hb H4 e4 => ?_) (fun hb H4 e4 => ⟨r, rd, rfl, e4, e4 r _ h3, by omega, rval⟩) ?_
  · refine s_asgL (xs := Ints (rd.drop 1)) (el_fromI (k := 1) v_ (e4 r _ h3) ev_c) fun r2 H5 hr5 e5 h5 => ⟨r2, rd.drop 1, rfl, e4.trans e5, h5, by rw [List.length_drop]; omega, fun x hx => rval x (List.mem_of_mem_drop hx)⟩
  rintro σ' H4 ⟨r, row, rfl, e4, h4, l4, v4⟩
  have e14 := e13.trans e4
  have hdl : hd.length ≤ 4 := by
    rcases hhd with rfl | rfl <;> decide
  have hsl := shown_len hdl v4
  have hsum := sum_le (k := 4) (ys := hd :: row.map strI) fun y hy => by
    rcases List.mem_cons.mp hy with rfl | hy
    · exact hdl
    · obtain ⟨x, hx, rfl⟩ := List.mem_map.mp hy
      exact strI_len (v4 x hx).1 (v4 x hx).2
  have hl : (hd :: row.map strI).length = row.length + 1 := by rw [List.length_cons, List.length_map]
  have hsep : (Str.ofString " ").length = 1 := by decide
  have hj : EvL (tOp rCat (tLst (tCons (tVar 1) tNil)) (tLc (iList K (tVar 3)) (gName 8) tYes (tCB (fun xs H Q => ∃ i, xs = [.int i] ∧ i.natAbs.log2 < 1920 ∧ Q (.str (Str.ofString (toString i))) H) (tCons (tVar 8) tNil)) [8])) [some (.ref a), some (.str hd), some (.int st), some (.ref r), none, none, none, none, none] H4 ((hd :: row.map strI).map V.str) := by
    have e : (hd :: row.map strI).map V.str = [.str hd] ++ row.map fun i => .str (strI i) := by
      rw [List.map_cons, List.map_map] <;> rfl
    rw [e]
    exact el_catNN (el_lst (ea_cons v_ ea_nil) (by show (1 : Nat) ≤ 100000; decide)) (el_lcIV (fun i => .str (strI i)) v_ h4 (by omega) (fun _ => rfl) (fun _ _ => et_yes) (fun x hx H3 e3 => ev_strI v_ (by
      have h1 := v4 x hx
      exact Nat.lt_of_le_of_lt (m := 2 ^ 14) (by omega) (by decide)))) (by rw [List.length_map]; show 1 + row.length ≤ 100000; omega)
  refine s_asg (v := .str (shownP hd row)) (ev_join ev_c hj (by rw [hl] at hsum ⊢; rw [hsep]; omega)) fun H5 e5 => ?_
  have e15 := e14.trans e5
  dsimp only
  refine s_setcall (ea_cons v_ (ea_cons (mod_ (ev_cell v_ ev_c (ex_l e15 ha) (by decide)) ev_c (by decide)) (ea_cons (ev_cell v_ ev_c (ex_l e15 ha) (by decide)) ea_nil))) fun H6 e6 => ⟨shownP hd row, _, _, rfl, by omega, fun t H7 ht e7 => ?_⟩
  have ht2 : t.length ≤ 10000 := by omega
  have hnl := nums_ints t ht2
  dsimp only
  refine s_forNL (xs := Strs [Str.ofString "road", Str.ofString "gaps"]) (el_lst (ea_cons ev_c (ea_cons ev_c ea_nil)) (by show (2 : Nat) ≤ 100000; decide))
    (fun p i σ H' => ∃ v5 v6 v7, σ = [some (.ref a), some (.str hd), some (.int st), some (.ref r), some (.str t), v5, v6, v7, none] ∧ H' p = some (.lst (Strs [Str.ofString "road", Str.ofString "gaps"])))
    (fun p H8 _ _ h8 => ⟨none, none, none, rfl, h8⟩) (fun p i σ H' _ ⟨_, _, _, _, e⟩ => sq_of e) ?_ ?_
  · rintro p i x σ H8 hi ⟨v5, v6, v7, rfl, h8⟩
    have hm := List.mem_of_getElem? hi
    obtain ⟨wd, hwd, rfl⟩ := List.mem_map.mp hm
    have hw : wd = Str.ofString "road" ∨ wd = Str.ofString "gaps" := by
      rcases List.mem_cons.mp hwd with e | hwd
      · exact .inl e
      · exact .inr (List.mem_singleton.mp hwd)
    refine ⟨fun σ H' => ∃ d0 : V, σ = [some (.ref a), some (.str hd), some (.int st), some (.ref r), some (.str t), some (.str wd), some d0, v7, none] ∧ Ex H8 H' ∧ ((dueV t wd = none ∧ refTr t wd = some "BadText" ∧ d0 = .non) ∨ ∃ u, dueV t wd = some (numsV t) ∧ refTr t wd = none ∧ d0 = .ref u ∧ IL H' u (numsV t)), ?_, ?_⟩
    · refine s_setcall (ea_cons v_ (ea_cons v_ ea_nil)) fun H9 e9 => ⟨t, wd, rfl, ht2, fun hn H10 e10 => ?_, fun rw2 hn u H10 hu e10 h10 => ?_⟩
      · rcases both_due hw (t := t) with ⟨k1, k2⟩ | ⟨k1, k2⟩
        · exact ⟨.non, rfl, e9.trans e10, .inl ⟨k1, k2, rfl⟩⟩
        · rw [k1] at hn
          cases hn
      · rcases both_due hw (t := t) with ⟨k1, k2⟩ | ⟨k1, k2⟩
        · rw [k1] at hn
          cases hn
        · rw [k1] at hn
          cases hn
          exact ⟨.ref u, rfl, e9.trans e10, .inr ⟨u, k1, k2, rfl, h10⟩⟩
    rintro σ' H9 ⟨d0, rfl, e9, hdue⟩
    have h9 := e9 p _ h8
    refine ⟨fun σ H' => ∃ (y : Addr), σ = [some (.ref a), some (.str hd), some (.int st), some (.ref r), some (.str t), some (.str wd), some d0, some (.ref y), none] ∧ Ex H9 H' ∧
      ((refTr t wd = some "BadText" ∧ ∃ l, H' y = some (.tup [.non, .ref l]) ∧ Lst H' l (kindsV (Str.ofString "BadText"))) ∨ (refTr t wd = none ∧ ∃ f l, H' y = some (.tup [.ref f, .ref l]) ∧ Lst H' l [] ∧ IL H' f (numsV t))), ?_, ?_⟩
    · exact s_setcall (ea_cons v_ (ea_cons v_ ea_nil)) fun H10 e10 => ⟨t, wd, rfl, ht2, fun hn y l H11 hy hl e11 h11 h12 => ⟨y, rfl, e10.trans e11, .inl ⟨hn, l, h11, h12⟩⟩, fun hn y f l H11 hy hf e11 h11 h12 h13 => ⟨y, rfl, e10.trans e11, .inr ⟨hn, f, l, h11, h12, h13⟩⟩⟩
    rintro σ' H10 ⟨y, rfl, e10, htr⟩
    have h10 := e10 p _ h9
    dsimp only
    refine s_if (et_test (isN_ v_)) (fun hb H11 e11 => ?_) (fun hb H11 e11 => ?_)
    · have hd0 : d0 = .non := of_decide_eq_true hb
      have hbad : refTr t wd = some "BadText" := by
        rcases hdue with ⟨_, k2, _⟩ | ⟨u, _, _, k3, _⟩
        · exact k2
        · rw [hd0] at k3
          cases k3
      rcases htr with ⟨_, l, k1, k2⟩ | ⟨k0, _⟩
      rotate_left
      · rw [hbad] at k0
        cases k0
      have k2 : Lst H10 l (Bools [false, false, false, false, true, true]) := k2
      refine s_if (b := !decide ([false, false, false, false, true, true] = [false, false, false, false, true, true])) (et_test (neNBN (bs := [false, false, false, false, true, true]) (cs := [false, false, false, false, true, true]) v_ (e11 y _ k1) (e11 l _ k2) ev_c (el_lst (vs := Bools [false, false, false, false, true, true]) (ea_cons ev_c (ea_cons ev_c (ea_cons ev_c (ea_cons ev_c (ea_cons ev_c (ea_cons ev_c ea_nil)))))) (by show (6 : Nat) ≤ 100000; decide)))) (fun hb2 H12 e12 => ?_) (fun hb2 H12 e12 => ⟨_, _, _, rfl, (e11.trans e12) p _ h10⟩)
      simp at hb2
    · have hd0 : d0 ≠ .non := of_decide_eq_false hb
      rcases hdue with ⟨_, _, k3⟩ | ⟨u, _, k2, rfl, k4⟩
      · exact absurd k3 hd0
      rcases htr with ⟨k0, _⟩ | ⟨_, f, l, t1, t2, t3⟩
      · rw [k2] at k0
        cases k0
      have t2 : Lst H10 l (Bools []) := t2
      have k5 := (e10.trans e11) u _ k4
      refine s_if (b := !decide (([] : List Bool) = []) || !decide (numsV t = numsV t)) (et_or (et_test (neBN (bs := []) (cs := []) (ixT_ (e11 y _ t1) v_ ev_c rfl) (e11 l _ t2) (el_lst ea_nil (by decide)))) fun _ => et_not (et_B (ev_call (ea_cons (ixT_ (e11 y _ t1) v_ ev_c rfl) (ea_cons v_ ea_nil)) fun H12 e12 Q q E => ⟨f, u, numsV t, numsV t, rfl, (e11.trans e12) f _ t3, e12 u _ k5, by omega, q⟩))) (fun hb2 H12 e12 => ?_) (fun hb2 H12 e12 => ⟨_, _, _, rfl, (e11.trans e12) p _ h10⟩)
      simp at hb2
  rintro p σ' H8 ⟨v5, v6, v7, rfl, _⟩
  dsimp only
  exact s_ret ev_c fun H9 _ => q H9

end
def fn : List He.DefD := [⟨("see_road", none), "see_road", "see_road", defArgs s_see_road, defBody s_see_road, defScope s_see_road, [], []⟩,
  ⟨("see_gaps", none), "see_gaps", "see_gaps", defArgs s_see_gaps, defBody s_see_gaps, defScope s_see_gaps, [], []⟩,
  ⟨("number_of", none), "number_of", "number_of", defArgs s_number_of, defBody s_number_of, defScope s_number_of, [], []⟩,
  ⟨("numbers_of", none), "numbers_of", "numbers_of", defArgs s_numbers_of, defBody s_numbers_of, defScope s_numbers_of, [], []⟩,
  ⟨("read_road", none), "read_road", "read_road", defArgs s_read_road, defBody s_read_road, defScope s_read_road, [], []⟩,
  ⟨("read_gaps", none), "read_gaps", "read_gaps", defArgs s_read_gaps, defBody s_read_gaps, defScope s_read_gaps, [], []⟩,
  ⟨("_law_number", none), "_law_number", "_law_number", defArgs s_law_number, defBody s_law_number, defScope s_law_number, [], []⟩,
  ⟨("_law_due", none), "_law_due", "_law_due", defArgs s_law_due, defBody s_law_due, defScope s_law_due, [], []⟩,
  ⟨("_law_turned", none), "_law_turned", "_law_turned", defArgs s_law_turned, defBody s_law_turned, defScope s_law_turned, [], []⟩,
  ⟨("_law_kind", none), "_law_kind", "_law_kind", defArgs s_law_kind, defBody s_law_kind, defScope s_law_kind, [], []⟩,
  ⟨("_law_tried", none), "_law_tried", "_law_tried", defArgs s_law_tried, defBody s_law_tried, defScope s_law_tried, [], []⟩,
  ⟨("_law_cell_at", none), "_law_cell_at", "_law_cell_at", defArgs s_law_cell_at, defBody s_law_cell_at, defScope s_law_cell_at, [], []⟩,
  ⟨("_law_whole", none), "_law_whole", "_law_whole", defArgs s_law_whole, defBody s_law_whole, defScope s_law_whole, [], []⟩,
  ⟨("_law_list", none), "_law_list", "_law_list", defArgs s_law_list, defBody s_law_list, defScope s_law_list, [], []⟩,
  ⟨("_law_road", none), "_law_road", "_law_road", defArgs s_law_road, defBody s_law_road, defScope s_law_road, [], []⟩,
  ⟨("law", none), "law", "law", defArgs s_law, defBody s_law, defScope s_law, [], []⟩]
def fa : List He.Fa := [.glo "see_road", .glo "see_gaps", .glo "number_of", .glo "numbers_of", .glo "read_road", .glo "read_gaps", .glo "_law_number", .glo "_law_due", .glo "_law_turned", .glo "_law_kind", .glo "_law_tried", .glo "_law_cell_at", .glo "_law_whole", .glo "_law_list", .glo "_law_road", .glo "law", .free "len", .free "range", .free "sorted", .free "list", .free "set", .free "abs", .free "max", .free "min", .free "isinstance", .free "int", .free "bool", .free "enumerate", .free "reversed", .free "str", .free "tuple", .free "ValueError", .glo "RoadError", .exc "RoadError", .glo "NoRoad", .exc "NoRoad", .glo "NoGaps", .exc "NoGaps", .glo "TooMany", .exc "TooMany", .glo "Meets", .exc "Meets", .glo "BadText", .exc "BadText",  .str "FIGURES" "0123456789",  .exm "NoRoad" "NoRoad" true,  .exm "NoGaps" "NoGaps" true,  .exm "NoGaps" "TooMany" false,  .exm "TooMany" "NoGaps" false,  .exm "TooMany" "TooMany" true]
abbrev R : PySem.W.OpenRow := PySem.W.OpenLaw.row PySem.Challenge.rw_roadgaps_k11_read
abbrev hk : PySem.W.Hook := Rg.hookKE 4 fa fn Rg.kindsB
def ob (s : PySem.W.SharedT) : He.AlD × Bool := Rg.obsKE 4 fa fn Rg.kindsB (HandSHeadRun.getT s)
theorem ob_eq (s : PySem.W.SharedT) : ob s = hk.obs s.abs := Rg.obsKE_eq (HandSHeadRun.getT_eq s)
theorem run (w : World) : HandSHeadRun.RunEq R (PySem.W.view R.prog [28]) hk ob 4000 [("BadText" : PySem.Str), ("FIGURES" : PySem.Str), ("Meets" : PySem.Str), ("NoGaps" : PySem.Str), ("NoRoad" : PySem.Str), ("RoadError" : PySem.Str), ("TooMany" : PySem.Str), ("__name__" : PySem.Str), ("_law_between" : PySem.Str), ("_law_cell_at" : PySem.Str), ("_law_due" : PySem.Str), ("_law_kind" : PySem.Str), ("_law_list" : PySem.Str), ("_law_number" : PySem.Str), ("_law_road" : PySem.Str), ("_law_tried" : PySem.Str), ("_law_turned" : PySem.Str), ("_law_whole" : PySem.Str), ("number_of" : PySem.Str), ("numbers_of" : PySem.Str), ("read_gaps" : PySem.Str), ("read_road" : PySem.Str), ("see_gaps" : PySem.Str), ("see_road" : PySem.Str)] w := by
  intro os
  kernel_rfl
theorem facts {P : Program} {w : World} {K : PySem.W.Frag} {h : Heap} {mg : Str → Option Value} {f : Addr} (X : K.In h) (G : h.Ns mainGlobals mg) (hfa : mg ("law" : Str) = some (.ref f)) (c : He.SaysD fa fn K ∧ Rg.kindsB K = true) :
    ∃ fd : FuncData, (∀ (s : Shared) (v : Value), BindsTo s fd ⟨[v], []⟩ [("script", v)]) ∧ ∀ base : Heap, K.In base → base.Ns mainGlobals mg → FnOk P w K mg base CX0 5 f fd ["script"] (sp_law K) := by
  obtain ⟨c, kb⟩ := c
  have KD : Kinds K := ⟨kb⟩
  have D_see_road : Df K mg "see_road" s_see_road := by
    obtain ⟨fd, F⟩ := c.def_ 0 rfl
    exact ⟨_, fd, F, He.glo_ok X G (c.fact 0 (f := .glo "see_road") rfl)⟩
  have D_see_gaps : Df K mg "see_gaps" s_see_gaps := by
    obtain ⟨fd, F⟩ := c.def_ 1 rfl
    exact ⟨_, fd, F, He.glo_ok X G (c.fact 1 (f := .glo "see_gaps") rfl)⟩
  have D_number_of : Df K mg "number_of" s_number_of := by
    obtain ⟨fd, F⟩ := c.def_ 2 rfl
    exact ⟨_, fd, F, He.glo_ok X G (c.fact 2 (f := .glo "number_of") rfl)⟩
  have D_numbers_of : Df K mg "numbers_of" s_numbers_of := by
    obtain ⟨fd, F⟩ := c.def_ 3 rfl
    exact ⟨_, fd, F, He.glo_ok X G (c.fact 3 (f := .glo "numbers_of") rfl)⟩
  have D_read_road : Df K mg "read_road" s_read_road := by
    obtain ⟨fd, F⟩ := c.def_ 4 rfl
    exact ⟨_, fd, F, He.glo_ok X G (c.fact 4 (f := .glo "read_road") rfl)⟩
  have D_read_gaps : Df K mg "read_gaps" s_read_gaps := by
    obtain ⟨fd, F⟩ := c.def_ 5 rfl
    exact ⟨_, fd, F, He.glo_ok X G (c.fact 5 (f := .glo "read_gaps") rfl)⟩
  have D_law_number : Df K mg "_law_number" s_law_number := by
    obtain ⟨fd, F⟩ := c.def_ 6 rfl
    exact ⟨_, fd, F, He.glo_ok X G (c.fact 6 (f := .glo "_law_number") rfl)⟩
  have D_law_due : Df K mg "_law_due" s_law_due := by
    obtain ⟨fd, F⟩ := c.def_ 7 rfl
    exact ⟨_, fd, F, He.glo_ok X G (c.fact 7 (f := .glo "_law_due") rfl)⟩
  have D_law_turned : Df K mg "_law_turned" s_law_turned := by
    obtain ⟨fd, F⟩ := c.def_ 8 rfl
    exact ⟨_, fd, F, He.glo_ok X G (c.fact 8 (f := .glo "_law_turned") rfl)⟩
  have D_law_kind : Df K mg "_law_kind" s_law_kind := by
    obtain ⟨fd, F⟩ := c.def_ 9 rfl
    exact ⟨_, fd, F, He.glo_ok X G (c.fact 9 (f := .glo "_law_kind") rfl)⟩
  have D_law_tried : Df K mg "_law_tried" s_law_tried := by
    obtain ⟨fd, F⟩ := c.def_ 10 rfl
    exact ⟨_, fd, F, He.glo_ok X G (c.fact 10 (f := .glo "_law_tried") rfl)⟩
  have D_law_cell_at : Df K mg "_law_cell_at" s_law_cell_at := by
    obtain ⟨fd, F⟩ := c.def_ 11 rfl
    exact ⟨_, fd, F, He.glo_ok X G (c.fact 11 (f := .glo "_law_cell_at") rfl)⟩
  have D_law_whole : Df K mg "_law_whole" s_law_whole := by
    obtain ⟨fd, F⟩ := c.def_ 12 rfl
    exact ⟨_, fd, F, He.glo_ok X G (c.fact 12 (f := .glo "_law_whole") rfl)⟩
  have D_law_list : Df K mg "_law_list" s_law_list := by
    obtain ⟨fd, F⟩ := c.def_ 13 rfl
    exact ⟨_, fd, F, He.glo_ok X G (c.fact 13 (f := .glo "_law_list") rfl)⟩
  have D_law_road : Df K mg "_law_road" s_law_road := by
    obtain ⟨fd, F⟩ := c.def_ 14 rfl
    exact ⟨_, fd, F, He.glo_ok X G (c.fact 14 (f := .glo "_law_road") rfl)⟩
  have D_law : Df K mg "law" s_law := by
    obtain ⟨fd, F⟩ := c.def_ 15 rfl
    exact ⟨_, fd, F, He.glo_ok X G (c.fact 15 (f := .glo "law") rfl)⟩
  have T : Bs mg := ⟨He.free_ok X G (c.fact 16 (f := .free "len") rfl), He.free_ok X G (c.fact 17 (f := .free "range") rfl), He.free_ok X G (c.fact 18 (f := .free "sorted") rfl), He.free_ok X G (c.fact 19 (f := .free "list") rfl), He.free_ok X G (c.fact 20 (f := .free "set") rfl), He.free_ok X G (c.fact 21 (f := .free "abs") rfl), He.free_ok X G (c.fact 22 (f := .free "max") rfl), He.free_ok X G (c.fact 23 (f := .free "min") rfl), He.free_ok X G (c.fact 24 (f := .free "isinstance") rfl), He.free_ok X G (c.fact 25 (f := .free "int") rfl), He.free_ok X G (c.fact 26 (f := .free "bool") rfl), He.free_ok X G (c.fact 27 (f := .free "enumerate") rfl), He.free_ok X G (c.fact 28 (f := .free "reversed") rfl), He.free_ok X G (c.fact 29 (f := .free "str") rfl), He.free_ok X G (c.fact 30 (f := .free "tuple") rfl), He.free_ok X G (c.fact 31 (f := .free "ValueError") rfl)⟩
  have C_RoadError : Ec K mg "RoadError" := ec_mk X G (c.fact 32 (f := .glo "RoadError") rfl) (c.fact 33 (f := .exc "RoadError") rfl)
  have C_NoRoad : Ec K mg "NoRoad" := ec_mk X G (c.fact 34 (f := .glo "NoRoad") rfl) (c.fact 35 (f := .exc "NoRoad") rfl)
  have C_NoGaps : Ec K mg "NoGaps" := ec_mk X G (c.fact 36 (f := .glo "NoGaps") rfl) (c.fact 37 (f := .exc "NoGaps") rfl)
  have C_TooMany : Ec K mg "TooMany" := ec_mk X G (c.fact 38 (f := .glo "TooMany") rfl) (c.fact 39 (f := .exc "TooMany") rfl)
  have C_Meets : Ec K mg "Meets" := ec_mk X G (c.fact 40 (f := .glo "Meets") rfl) (c.fact 41 (f := .exc "Meets") rfl)
  have C_BadText : Ec K mg "BadText" := ec_mk X G (c.fact 42 (f := .glo "BadText") rfl) (c.fact 43 (f := .exc "BadText") rfl)
  have F_FIGURES : ∃ t, mg "FIGURES" = some (.str "0123456789" t) := He.str_ok X G (c.fact 44 (f := .str "FIGURES" "0123456789") rfl)
  have X_NoRoad_NoRoad : PySem.W.exmOne K (.ref (He.ga K "NoRoad")) (.ref (He.ga K "NoRoad")) = some true := He.exm_ok (c.fact 45 (f := .exm "NoRoad" "NoRoad" true) rfl)
  have X_NoGaps_NoGaps : PySem.W.exmOne K (.ref (He.ga K "NoGaps")) (.ref (He.ga K "NoGaps")) = some true := He.exm_ok (c.fact 46 (f := .exm "NoGaps" "NoGaps" true) rfl)
  have X_NoGaps_TooMany : PySem.W.exmOne K (.ref (He.ga K "NoGaps")) (.ref (He.ga K "TooMany")) = some false := He.exm_ok (c.fact 47 (f := .exm "NoGaps" "TooMany" false) rfl)
  have X_TooMany_NoGaps : PySem.W.exmOne K (.ref (He.ga K "TooMany")) (.ref (He.ga K "NoGaps")) = some false := He.exm_ok (c.fact 48 (f := .exm "TooMany" "NoGaps" false) rfl)
  have X_TooMany_TooMany : PySem.W.exmOne K (.ref (He.ga K "TooMany")) (.ref (He.ga K "TooMany")) = some true := He.exm_ok (c.fact 49 (f := .exm "TooMany" "TooMany" true) rfl)
  -- level 5
  refine D_law.end_ (fun _ _ _ _ _ _ us hl => match us, hl with | [_], _ => rfl) hfa fun base hK hG => ?_
  have A1 : PySem.W.exmAny K (.ref (He.ga K "NoGaps")) [.ref (He.ga K "NoGaps"), .ref (He.ga K "TooMany")] = some true := by
    simp [PySem.W.exmAny, X_NoGaps_NoGaps, X_NoGaps_TooMany]
  have A2 : PySem.W.exmAny K (.ref (He.ga K "TooMany")) [.ref (He.ga K "NoGaps"), .ref (He.ga K "TooMany")] = some true := by
    simp [PySem.W.exmAny, X_TooMany_NoGaps, X_TooMany_TooMany]
  have G_see_road := h_see_road (P := P) (w := w) (base := base) D_see_road T C_NoRoad
  have G_see_gaps := h_see_gaps (P := P) (w := w) (base := base) D_see_gaps T C_NoGaps C_TooMany
  have G_number_of := h_number_of (P := P) (w := w) (base := base) D_number_of T C_BadText F_FIGURES
  have G_numbers_of := h_numbers_of D_numbers_of T C_BadText G_number_of
  have G_read_road := h_read_road D_read_road T X_NoRoad_NoRoad C_NoRoad C_BadText G_see_road G_numbers_of
  have G_read_gaps := h_read_gaps D_read_gaps T A1 A2 C_NoGaps C_TooMany C_BadText G_see_gaps G_numbers_of
  have G_law_number := h_law_number (P := P) (w := w) (base := base) D_law_number T
  have G_law_due := h_law_due D_law_due T G_law_number
  have G_law_turned := h_law_turned (P := P) (w := w) (base := base) D_law_turned T
  have G_law_kind := h_law_kind (P := P) (w := w) (base := base) D_law_kind T KD C_NoRoad C_NoGaps C_TooMany C_Meets C_BadText
  have G_law_tried := h_law_tried D_law_tried T KD C_RoadError G_read_road G_read_gaps G_law_kind
  have G_law_cell_at := h_law_cell_at (P := P) (w := w) (base := base) D_law_cell_at T
  have G_law_whole := h_law_whole (P := P) (w := w) (base := base) D_law_whole T
  have G_law_list := h_law_list D_law_list T G_law_whole
  have G_law_road := h_law_road D_law_road T G_law_cell_at
  exact h_law D_law T G_law_cell_at G_law_road G_law_list G_law_turned G_law_due G_law_tried
end Lw
open PySem PySem.W PySem.Calls PyProof.Rows
theorem PySem.Challenge.cw_roadgaps_k11_read_holds : PySem.Challenge.rw_roadgaps_k11_read.Holds := by
  w_on; o_law
  refine HandSHeadRun.head_any (r := OpenLaw.row PySem.Challenge.rw_roadgaps_k11_read) (q := view (OpenLaw.row PySem.Challenge.rw_roadgaps_k11_read).prog [28]) (H := Lw.hk) (ob := Lw.ob) (M := 4000) (loose := [("BadText" : PySem.Str), ("FIGURES" : PySem.Str), ("Meets" : PySem.Str), ("NoGaps" : PySem.Str), ("NoRoad" : PySem.Str), ("RoadError" : PySem.Str), ("TooMany" : PySem.Str), ("__name__" : PySem.Str), ("_law_between" : PySem.Str), ("_law_cell_at" : PySem.Str), ("_law_due" : PySem.Str), ("_law_kind" : PySem.Str), ("_law_list" : PySem.Str), ("_law_number" : PySem.Str), ("_law_road" : PySem.Str), ("_law_tried" : PySem.Str), ("_law_turned" : PySem.Str), ("_law_whole" : PySem.Str), ("number_of" : PySem.Str), ("numbers_of" : PySem.Str), ("read_gaps" : PySem.Str), ("read_road" : PySem.Str), ("see_gaps" : PySem.Str), ("see_road" : PySem.Str)]) (d := HandSHeadRun.topDef (OpenLaw.row PySem.Challenge.rw_roadgaps_k11_read).prog 28) (kwd := []) Lw.ob_eq
    (by kernel_rfl) (fun s => by kernel_rfl) Lw.run (by kernel_rfl) (by kernel_rfl) (by kernel_rfl) (by rfl) (by first | assumption | decide +kernel) (by decide +kernel) ⟨rfl, rfl, rfl, rfl, rfl, by decide +kernel⟩ ?hw ?hc
  case hw => w_witness2
  case hc =>
    refine L2.walk_ofE (l := PySem.Challenge.rw_roadgaps_k11_read) (n := 63) (k := 5) (x := "script") (CX := L2.CX0) rfl (by decide) (by kernel_rfl) ⟨rfl, by decide, by decide⟩ ?F (fun _ _ _ _ z => z)
    intro w mg fa h Y G hmg0
    obtain ⟨K, KX, c⟩ := Y
    have hmg : mg ("law" : PySem.Str) = some (.ref fa) := by
      have e : (HandSHeadRun.topDef (OpenLaw.row PySem.Challenge.rw_roadgaps_k11_read).prog 28).name = ("law" : PySem.Str) := by kernel_rfl
      rw [← e]
      exact hmg0
    obtain ⟨fd, hb, hF⟩ := Lw.facts (P := (PySem.Challenge.rw_roadgaps_k11_read).prog) (w := w) KX G hmg c
    exact ⟨K, fd, Lw.sp_law K, KX, hb, fun H a ns hl _ hS => ⟨a, ns, rfl, hS, hl, fun _ => rfl⟩, hF⟩
