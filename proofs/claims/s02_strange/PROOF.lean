import PyProof.Rows.All
import Wide.All
import OpenK.AllK
import Wide.FinOn
import Open.SpecLaws
import KE.OsGo
import KE.DataMinMax
import KE.SortData
import HandS.ForSpec
import HandS.Comp
import HandS.Iter
import HandS.Walk
import HandS.Conv
import HandS.SortKw
import HandS.WideBits
import PySem.Challenge.RW_guestcircles_s02_strange
set_option Elab.async false
set_option linter.all false
set_option maxRecDepth 100000
set_option maxHeartbeats 2000000
/-! The mathematics of guestcircles: plain lists and numbers, no program in sight. -/
namespace Gc
/-! ### mirrors -/
/-- the guests of the group m among n -/
def mem (n m : Nat) : List Nat := (List.range n).filter (Kzf1.has m)
/-- all pairs of a list, the earlier first -/
def pairsIn : List Nat → List (Nat × Nat)
  | [] => []
  | a :: r => r.map (fun b => (a, b)) ++ pairsIn r
/-- whether a pair is told, either way round -/
def mat (g : List (Nat × Nat)) (i j : Nat) : Bool := g.any fun e => (e.1 == i && e.2 == j) || (e.1 == j && e.2 == i)
def known (n : Nat) (M : Nat → Nat → Bool) (m : Nat) : Nat := ((pairsIn (mem n m)).filter fun e => M e.1 e.2).length
def lack (n : Nat) (M : Nat → Nat → Bool) (m : Nat) : Nat := ((pairsIn (mem n m)).filter fun e => !(M e.1 e.2)).length
/-- the groups of a size -/
def ofSize (n k : Nat) : List Nat := (List.range (2 ^ n)).filter fun m => (mem n m).length == k
/-- the larger of two, the first where they are like -/
def larger (n : Nat) (b m : Nat) : Nat := if (mem n b).length < (mem n m).length then m else b
def best (n : Nat) (b : Nat) (l : List Nat) : Nat := l.foldl (larger n) b

/-! ### lists -/
theorem filter_len {α : Type} (p : α → Bool) : ∀ l : List α, (l.filter p).length + (l.filter fun x => !(p x)).length = l.length
  | [] => rfl
  | a :: l => by
    have ih := filter_len p l
    cases h : p a <;> simp [List.filter_cons, h] <;> omega
theorem lack_add (n : Nat) (M : Nat → Nat → Bool) (m : Nat) : known n M m + lack n M m = (pairsIn (mem n m)).length := filter_len _ _
theorem pairsIn_filter (p : Nat → Bool) : ∀ l : List Nat, pairsIn (l.filter p) = (pairsIn l).filter fun e => p e.1 && p e.2
  | [] => rfl
  | a :: l => by
    have ih := pairsIn_filter p l
    have hm : ((l.map fun b => (a, b)).filter fun e => p e.1 && p e.2) = if p a = true then (l.filter p).map fun b => (a, b) else [] := by
      rw [List.filter_map]
      cases h : p a with
      | true => simp [Function.comp_def, h]
      | false => simp [Function.comp_def, h]
    cases h : p a with
    | true =>
      simp only [List.filter_cons, h, if_true, pairsIn, List.filter_append, ih]
      rw [hm]
      simp [h]
    | false =>
      simp only [List.filter_cons, h, pairsIn, List.filter_append]
      rw [hm]
      simp [h, ih]
theorem pairsIn_range : ∀ n, n ≤ 8 → pairsIn (List.range n) = Kzf1.pairsOf n := by decide +kernel
theorem pairsIn_mem {n : Nat} (h : n ≤ 8) (m : Nat) : pairsIn (mem n m) = Kzf3.inside n m := by
  unfold mem Kzf3.inside
  rw [pairsIn_filter, pairsIn_range n h]
theorem mem_lt {n m i : Nat} (h : i ∈ mem n m) : i < n := List.mem_range.mp (List.mem_filter.mp h).1
theorem mem_len (n m : Nat) : (mem n m).length ≤ n := by
  have h := List.length_filter_le (Kzf1.has m) (List.range n)
  rw [List.length_range] at h
  exact h
theorem pairsIn_of {e : Nat × Nat} : ∀ {l : List Nat}, e ∈ pairsIn l → e.1 ∈ l ∧ e.2 ∈ l
  | [], h => by cases h
  | a :: l, h => by
    rcases List.mem_append.mp h with h | h
    · obtain ⟨b, hb, rfl⟩ := List.mem_map.mp h
      exact ⟨List.mem_cons_self, List.mem_cons_of_mem _ hb⟩
    · have := pairsIn_of h
      exact ⟨List.mem_cons_of_mem _ this.1, List.mem_cons_of_mem _ this.2⟩
theorem pairsIn_ne {e : Nat × Nat} : ∀ {l : List Nat}, l.Nodup → e ∈ pairsIn l → e.1 ≠ e.2
  | [], _, h => by cases h
  | a :: l, nd, h => by
    rw [List.nodup_cons] at nd
    rcases List.mem_append.mp h with h | h
    · obtain ⟨b, hb, rfl⟩ := List.mem_map.mp h
      exact fun z => nd.1 (by have z' : a = b := z; rw [z']; exact hb)
    · exact pairsIn_ne nd.2 h
theorem pairsIn_lt {n m : Nat} {e : Nat × Nat} (h : e ∈ pairsIn (mem n m)) : e.1 < n ∧ e.2 < n ∧ e.1 ≠ e.2 :=
  ⟨mem_lt (pairsIn_of h).1, mem_lt (pairsIn_of h).2, pairsIn_ne (List.nodup_range.filter _) h⟩
theorem pairsIn_len : ∀ l : List Nat, (pairsIn l).length ≤ l.length * l.length
  | [] => Nat.le_refl _
  | a :: l => by
    have ih := pairsIn_len l
    simp only [pairsIn, List.length_append, List.length_map, List.length_cons]
    rw [Nat.add_mul, Nat.mul_add]
    omega
/-- the pairs of a list by their place: those of the first i, then the next -/
def pairsTo (l : List Nat) : Nat → List (Nat × Nat)
  | 0 => []
  | i + 1 => pairsTo l i ++ match l[i]? with
    | none => []
    | some a => (l.drop (i + 1)).map fun b => (a, b)
theorem pairsTo_cons (a : Nat) (l : List Nat) : ∀ i, pairsTo (a :: l) (i + 1) = l.map (fun b => (a, b)) ++ pairsTo l i
  | 0 => by simp [pairsTo]
  | i + 1 => by
    show pairsTo (a :: l) (i + 1) ++ _ = _
    rw [pairsTo_cons a l i, List.append_assoc]
    rfl
theorem pairsTo_all : ∀ l : List Nat, pairsTo l l.length = pairsIn l
  | [] => rfl
  | a :: l => by
    rw [List.length_cons, pairsTo_cons, pairsTo_all l]
    rfl
theorem pairsTo_more {l : List Nat} {i a : Nat} (h : l[i]? = some a) : pairsTo l (i + 1) = pairsTo l i ++ (l.drop (i + 1)).map fun b => (a, b) := by
  show pairsTo l i ++ (match l[i]? with
    | none => []
    | some a => (l.drop (i + 1)).map fun b => (a, b)) = _
  rw [h]
theorem pairsTo_len (l : List Nat) : ∀ i, (pairsTo l i).length ≤ i * l.length
  | 0 => by simp [pairsTo]
  | i + 1 => by
    have ih := pairsTo_len l i
    rw [pairsTo, List.length_append, Nat.succ_mul]
    cases h : l[i]? with
    | none => simp; omega
    | some a => simp; omega

/-! ### who knows whom -/
theorem knows_mat {g : List (Nat × Nat)} {i j : Nat} (h : i ≠ j) : Kzf1.knows g i j = mat g i j := by
  have e : (i != j) = true := by simpa using h
  unfold Kzf1.knows mat
  rw [e, Bool.true_and]
theorem known_eq {n : Nat} (h : n ≤ 8) (g : List (Nat × Nat)) (m : Nat) : known n (mat g) m = ((Kzf3.inside n m).filter fun p => Kzf1.knows g p.1 p.2).length := by
  unfold known
  rw [← pairsIn_mem h m]
  congr 1
  exact List.filter_congr fun e he => (knows_mat (pairsIn_lt he).2.2).symm
theorem lack_eq {n : Nat} (h : n ≤ 8) (g : List (Nat × Nat)) (m : Nat) : lack n (mat g) m = Kzf3.lacks n g m := by
  unfold lack Kzf3.lacks
  rw [← pairsIn_mem h m]
  congr 1
  exact List.filter_congr fun e he => by rw [knows_mat (pairsIn_lt he).2.2]
theorem len0_all {α : Type} (p : α → Bool) : ∀ l : List α, decide ((l.filter p).length = 0) = l.all fun x => !(p x)
  | [] => rfl
  | a :: l => by
    have ih := len0_all p l
    cases h : p a with
    | true => simp [List.filter_cons, h]
    | false => simp only [List.filter_cons, h, List.all_cons, ← ih]; simp
theorem circle_eq {n : Nat} (h : n ≤ 8) (g : List (Nat × Nat)) (m : Nat) : decide (lack n (mat g) m = 0) = Kzf3.allKnow n g m := by
  rw [lack_eq h]
  unfold Kzf3.lacks Kzf3.allKnow
  rw [len0_all]
  simp
theorem strange_eq {n : Nat} (h : n ≤ 8) (g : List (Nat × Nat)) (m : Nat) : decide (known n (mat g) m = 0) = Kzf3.noneKnow n g m := by
  rw [known_eq h]
  exact len0_all _ _

/-! ### the largest -/
theorem best_filter (n : Nat) (f : Nat → Bool) : ∀ (l : List Nat) (b : Nat), l.foldl (fun b m => if f m = true ∧ Kzf3.size n b < Kzf3.size n m then m else b) b = best n b (l.filter f)
  | [], _ => rfl
  | a :: l, b => by
    rw [List.foldl_cons, best_filter n f l]
    cases h : f a with
    | true =>
      rw [List.filter_cons, if_pos h]
      unfold best
      rw [List.foldl_cons]
      congr 1
      unfold larger
      simp only [true_and]
      rfl
    | false => simp [List.filter_cons, h]
theorem range_cons (n : Nat) : ∃ r, List.range (2 ^ n) = 0 :: r := by
  have h : 0 < 2 ^ n := Nat.two_pow_pos n
  obtain ⟨k, hk⟩ : ∃ k, 2 ^ n = k + 1 := ⟨2 ^ n - 1, by omega⟩
  rw [hk, List.range_succ_eq_map]
  exact ⟨_, rfl⟩
theorem mem_zero (n : Nat) : mem n 0 = [] := by
  unfold mem
  rw [List.filter_eq_nil_iff]
  intro i _
  unfold Kzf1.has
  simp
/-- where the empty group is among them: what the loop behind the first has is the largest -/
theorem largest_eq (n : Nat) (f : Nat → Bool) (h : f 0 = true) : ∃ r, (List.range (2 ^ n)).filter f = 0 :: r ∧ Kzf3.largest n f = best n 0 r := by
  obtain ⟨r, hr⟩ := range_cons n
  refine ⟨r.filter f, by rw [hr, List.filter_cons, if_pos h], ?_⟩
  unfold Kzf3.largest
  rw [best_filter, hr, List.filter_cons, if_pos h]
  show best n (larger n 0 0) (r.filter f) = _
  unfold larger
  rw [if_neg (Nat.lt_irrefl _)]
theorem lack_zero (n : Nat) (M : Nat → Nat → Bool) : lack n M 0 = 0 := by
  unfold lack
  rw [mem_zero]
  rfl
theorem known_zero (n : Nat) (M : Nat → Nat → Bool) : known n M 0 = 0 := by
  unfold known
  rw [mem_zero]
  rfl

/-! ### the least of rising ones is the first -/
theorem foldl_min {n : Int} : ∀ ns : List Int, (∀ y ∈ ns, n ≤ y) → ns.foldl min n = n
  | [], _ => rfl
  | a :: ns, h => by
    have e : min n a = n := Int.min_eq_left (h a List.mem_cons_self)
    rw [List.foldl_cons, e]
    exact foldl_min ns fun y hy => h y (List.mem_cons_of_mem _ hy)
theorem rising_filter (n : Nat) (f : Nat → Bool) : ((List.range n).filter f).Pairwise (· < ·) := List.pairwise_lt_range.filter _

/-! ### the fewest -/
/-- the one that lacks less, the first where they are like -/
def fewer (c : Nat → Nat) (b m : Nat) : Nat := if c m < c b then m else b
theorem fewest_filter (n k : Nat) (g : List (Nat × Nat)) : ∀ (l : List Nat) (b : Nat), l.foldl (fun b m => if Kzf3.size n m ≠ k then b else match b with
    | none => some m
    | some x => if Kzf3.lacks n g m < Kzf3.lacks n g x then some m else b) (some b) = some ((l.filter fun m => (mem n m).length == k).foldl (fewer (Kzf3.lacks n g)) b)
  | [], _ => rfl
  | a :: l, b => by
    rw [List.foldl_cons]
    by_cases h : Kzf3.size n a = k
    · have h' : ((mem n a).length == k) = true := by simpa using (show (mem n a).length = k from h)
      rw [List.filter_cons, if_pos h', List.foldl_cons]
      simp only [h, ne_eq, not_true, if_false]
      unfold fewer
      split
      · exact fewest_filter n k g l a
      · exact fewest_filter n k g l b
    · have h' : ((mem n a).length == k) = false := by simpa using (show ¬ (mem n a).length = k from h)
      rw [List.filter_cons, h', if_pos h]
      exact fewest_filter n k g l b
theorem fewest_start (n k : Nat) (g : List (Nat × Nat)) : ∀ l : List Nat, l.foldl (fun b m => if Kzf3.size n m ≠ k then b else match b with
    | none => some m
    | some x => if Kzf3.lacks n g m < Kzf3.lacks n g x then some m else b) none = match l.filter fun m => (mem n m).length == k with
    | [] => none
    | m :: r => some (r.foldl (fewer (Kzf3.lacks n g)) m)
  | [] => rfl
  | a :: l => by
    rw [List.foldl_cons]
    by_cases h : Kzf3.size n a = k
    · have h' : ((mem n a).length == k) = true := by simpa using (show (mem n a).length = k from h)
      rw [List.filter_cons, if_pos h']
      simp only [h, ne_eq, not_true, if_false]
      exact fewest_filter n k g l a
    · have h' : ((mem n a).length == k) = false := by simpa using (show ¬ (mem n a).length = k from h)
      rw [List.filter_cons, h', if_pos h]
      exact fewest_start n k g l
theorem fewest_eq (n k : Nat) (g : List (Nat × Nat)) : Kzf3.fewest n k g = match ofSize n k with
    | [] => none
    | m :: r => some (r.foldl (fewer (Kzf3.lacks n g)) m) := fewest_start n k g _
theorem ofSize_none {n k : Nat} (h : n < k) : ofSize n k = [] := by
  unfold ofSize
  rw [List.filter_eq_nil_iff]
  intro m _
  have := mem_len n m
  simp
  omega
theorem ofSize_here : ∀ n, n ≤ 8 → ∀ k, k ≤ n → (mem n (2 ^ k - 1)).length = k ∧ 2 ^ k - 1 < 2 ^ n := by decide +kernel
theorem ofSize_some {n k : Nat} (hn : n ≤ 8) (h : k ≤ n) : ∃ m r, ofSize n k = m :: r := by
  obtain ⟨h1, h2⟩ := ofSize_here n hn k h
  have hm : 2 ^ k - 1 ∈ ofSize n k := List.mem_filter.mpr ⟨List.mem_range.mpr h2, by simpa using h1⟩
  cases e : ofSize n k with
  | nil => rw [e] at hm; cases hm
  | cons m r => exact ⟨m, r, rfl⟩
theorem ofSize_rising (n k : Nat) : (ofSize n k).Pairwise (· < ·) := rising_filter _ _

/-! ### what is told -/
theorem net_len : ∀ l : List Nat, (Kzf1.net l).length = l.length / 2
  | [] => rfl
  | [_] => by simp [Kzf1.net]
  | a :: b :: l => by
    rw [Kzf1.net, List.length_cons, net_len l, List.length_cons, List.length_cons]
    omega
theorem net_get : ∀ (l : List Nat) (i a b : Nat), l[2 * i]? = some a → l[2 * i + 1]? = some b → (Kzf1.net l)[i]? = some (a, b)
  | [], i, a, b, h, _ => by simp at h
  | [_], 0, a, b, _, h => by simp at h
  | [_], i + 1, a, b, h, _ => by simp at h
  | x :: y :: l, 0, a, b, h, h2 => by
    simp at h h2
    subst h h2
    rfl
  | x :: y :: l, i + 1, a, b, h, h2 => by
    rw [Kzf1.net, List.getElem?_cons_succ]
    refine net_get l i a b ?_ ?_
    · rw [← h, show 2 * (i + 1) = 2 * i + 1 + 1 by omega, List.getElem?_cons_succ, List.getElem?_cons_succ]
    · rw [← h2, show 2 * (i + 1) + 1 = 2 * i + 1 + 1 + 1 by omega, List.getElem?_cons_succ, List.getElem?_cons_succ]
/-- a pair as it may be told -/
def okP (n : Nat) (e : Nat × Nat) : Bool := decide (e.1 < n) && decide (e.2 < n) && e.1 != e.2
theorem good_eq (n : Nat) (l : List Nat) : Kzf1.good n l = (decide (1 ≤ n ∧ n ≤ 8 ∧ l.length % 2 = 0 ∧ l.length ≤ 56) && (Kzf1.net l).all (okP n)) := by
  have h := net_len l
  unfold Kzf1.good Kzf1.okNet
  show (decide (l.length % 2 = 0) && (decide (1 ≤ n) && decide (n ≤ 8) && decide ((Kzf1.net l).length ≤ 28) && (Kzf1.net l).all (okP n))) = _
  rw [h]
  cases (Kzf1.net l).all (okP n) with
  | false => simp
  | true =>
    simp only [Bool.and_true]
    rw [Bool.eq_iff_iff]
    simp only [Bool.and_eq_true, decide_eq_true_eq]
    omega
theorem okP_iff {n : Nat} {e : Nat × Nat} : okP n e = true ↔ e.1 < n ∧ e.2 < n ∧ e.1 ≠ e.2 := by
  unfold okP
  simp [and_assoc]
theorem mat_snoc (g : List (Nat × Nat)) (e : Nat × Nat) (i j : Nat) : mat (g ++ [e]) i j = (mat g i j || ((e.1 == i && e.2 == j) || (e.1 == j && e.2 == i))) := by
  unfold mat
  rw [List.any_append]
  simp
theorem take_more {α : Type} {l : List α} {i : Nat} {x : α} (h : l[i]? = some x) : l.take (i + 1) = l.take i ++ [x] := by
  rw [List.take_add_one, h]
  rfl
theorem filter_more {α : Type} {l : List α} {i : Nat} {x : α} (f : α → Bool) (h : l[i]? = some x) : (l.take (i + 1)).filter f = (l.take i).filter f ++ if f x = true then [x] else [] := by
  rw [take_more h, List.filter_append]
  congr 1
  cases hf : f x <;> simp [List.filter_cons, hf]
/-! ### bits -/
theorem has_bit (m i : Nat) : decide (((m / 2 ^ i % 2 : Nat) : Int) = 1) = Kzf1.has m i := by
  unfold Kzf1.has
  rw [Bool.eq_iff_iff]
  simp only [decide_eq_true_eq, beq_iff_eq]
  omega
end Gc
namespace Gc
open PySem PySem.Spec PyProof.Rows L2
/-! ### heaps -/
theorem same_upd {H : Hp} {p : Addr} {o : HO} (h : H p = none) : Same H (upd H p o) := fun b x e => by
  rw [upd_ne (ne_of_none e h)]
  exact e
/-- an object that was not tracked ahead is changed -/
theorem same_write {H H' : Hp} {p : Addr} {o : HO} (h : H p = none) (s : Same H H') : Same H (upd H' p o) := fun b x e => by
  rw [upd_ne (ne_of_none e h)]
  exact s b x e
/-- a whole number that is not negative -/
def vI (x : Nat) : V := .int (x : Int)
/-- tuples of two numbers at some addresses -/
def Tups (H : Hp) : List Addr → List (Nat × Nat) → Prop
  | [], [] => True
  | a :: as, e :: es => H a = some (.tup [vI e.1, vI e.2]) ∧ Tups H as es
  | _, _ => False
theorem Tups.keep {H H' : Hp} (h : ∀ a xs, H a = some (.tup xs) → H' a = some (.tup xs)) : ∀ {as : List Addr} {es : List (Nat × Nat)}, Tups H as es → Tups H' as es
  | [], [], _ => trivial
  | _ :: _, _ :: _, t => ⟨h _ _ t.1, Tups.keep h t.2⟩
  | [], _ :: _, t => t.elim
  | _ :: _, [], t => t.elim
theorem Tups.same {H H' : Hp} (s : Same H H') {as : List Addr} {es : List (Nat × Nat)} (t : Tups H as es) : Tups H' as es := t.keep fun a xs e => s a _ e
theorem Tups.len {H : Hp} : ∀ {as : List Addr} {es : List (Nat × Nat)}, Tups H as es → as.length = es.length
  | [], [], _ => rfl
  | _ :: _, _ :: _, t => congrArg (· + 1) (Tups.len t.2)
  | [], _ :: _, t => t.elim
  | _ :: _, [], t => t.elim
theorem Tups.get {H : Hp} : ∀ {as : List Addr} {es : List (Nat × Nat)} {i : Nat} {a : Addr}, Tups H as es → as[i]? = some a → ∃ e, es[i]? = some e ∧ H a = some (.tup [vI e.1, vI e.2])
  | [], [], _, _, _, h => by simp at h
  | _ :: _, e :: _, 0, _, t, h => by
    simp at h
    subst h
    exact ⟨e, rfl, t.1⟩
  | _ :: _, _ :: _, i + 1, a, t, h => by
    simp at h
    obtain ⟨e, h1, h2⟩ := Tups.get (i := i) (a := a) t.2 h
    exact ⟨e, by simpa using h1, h2⟩
  | [], _ :: _, _, _, t, _ => t.elim
  | _ :: _, [], _, _, t, _ => t.elim
theorem Tups.app {H : Hp} {bs : List Addr} {fs : List (Nat × Nat)} (u : Tups H bs fs) : ∀ {as : List Addr} {es : List (Nat × Nat)}, Tups H as es → Tups H (as ++ bs) (es ++ fs)
  | [], [], _ => u
  | _ :: _, _ :: _, t => ⟨t.1, Tups.app u t.2⟩
  | [], _ :: _, t => t.elim
  | _ :: _, [], t => t.elim
/-- a list of pairs at p -/
def PrsAt (H : Hp) (p : Addr) (es : List (Nat × Nat)) : Prop := ∃ as : List Addr, H p = some (.lst (as.map V.ref)) ∧ Tups H as es
theorem PrsAt.same {H H' : Hp} (s : Same H H') {p : Addr} {es : List (Nat × Nat)} (t : PrsAt H p es) : PrsAt H' p es :=
  let ⟨as, h, u⟩ := t
  ⟨as, s _ _ h, u.same s⟩
/-- the row i of a matrix -/
def rowV (n : Nat) (M : Nat → Nat → Bool) (i : Nat) : List V := (List.range n).map fun j => V.bl (M i j)
/-- n rows of n truth values, at some addresses -/
def Rows (H : Hp) (n : Nat) (M : Nat → Nat → Bool) (rows : List Addr) : Prop := rows.length = n ∧ ∀ i r, rows[i]? = some r → H r = some (.lst (rowV n M i))
def MatAt (H : Hp) (D : Addr) (n : Nat) (M : Nat → Nat → Bool) : Prop := ∃ rows : List Addr, H D = some (.lst (rows.map V.ref)) ∧ Rows H n M rows
theorem MatAt.same {H H' : Hp} (s : Same H H') {D : Addr} {n : Nat} {M : Nat → Nat → Bool} (t : MatAt H D n M) : MatAt H' D n M :=
  let ⟨rows, h, l, u⟩ := t
  ⟨rows, s _ _ h, l, fun i r e => s _ _ (u i r e)⟩
theorem rowV_len (n : Nat) (M : Nat → Nat → Bool) (i : Nat) : (rowV n M i).length = n := by
  unfold rowV
  rw [List.length_map, List.length_range]
theorem rowV_get {n : Nat} (M : Nat → Nat → Bool) (i : Nat) {j : Nat} (h : j < n) : (rowV n M i)[j]? = some (.bl (M i j)) := by
  unfold rowV
  rw [List.getElem?_map, List.getElem?_range h]
  rfl
theorem Rows.get {H : Hp} {n : Nat} {M : Nat → Nat → Bool} {rows : List Addr} (t : Rows H n M rows) {i : Nat} (h : i < n) : ∃ r, rows[i]? = some r ∧ (rows.map V.ref)[i]? = some (.ref r) ∧ H r = some (.lst (rowV n M i)) := by
  have h' : i < rows.length := by rw [t.1]; exact h
  have e : rows[i]? = some rows[i] := List.getElem?_eq_getElem h'
  exact ⟨rows[i], e, by rw [List.getElem?_map, e]; rfl, t.2 i _ e⟩

/-- a comprehension without a test -/
theorem yes_if {σ : L2.St} {H : Hp} {A B : Hp → Prop} (h : A H) : tYes σ H (fun b H3 => if b = true then A H3 else B H3) := iteT (A := A H) (B := B H) h
/-! ### a comprehension that filters: [x for x in xs if f(x)] -/
theorem map_get {xs : List Nat} {i : Nat} {v : V} (h : (xs.map vI)[i]? = some v) : ∃ x, xs[i]? = some x ∧ v = vI x := by
  rw [List.getElem?_map] at h
  cases e : xs[i]? with
  | none =>
    rw [e] at h
    cases h
  | some x =>
    rw [e] at h
    exact ⟨x, rfl, (Option.some.inj h).symm⟩
theorem get_mem {α : Type} {xs : List α} {i : Nat} {x : α} (h : xs[i]? = some x) : x ∈ xs := List.mem_of_getElem? h
theorem lc_filt {J : It} {xs : List Nat} {G : Hp → Prop} (w : Walk J xs.length G (YAt (xs.map vI))) {tt : TT} {i : Nat} {vs : List Nat} {σ : L2.St} {H1 : Hp} {D : Addr} {Qd : Hp → Prop} (f : Nat → Bool) (nD : H1 D = none) (hG : ∀ H', Same H1 H' → G H') (hz : xs.length < sizeLine)
    (hw : ∀ x, wipe ((wipe σ vs).set i (some (vI x))) vs = wipe σ vs) (hv : ∀ x, ((wipe σ vs).set i (some (vI x)))[i]? = some (some (vI x)))
    (ht : ∀ x, x ∈ xs → ∀ H2, Same H1 H2 → ∀ R : Bool → Hp → Prop, (∀ H3, Same H2 H3 → R (f x) H3) → tt ((wipe σ vs).set i (some (vI x))) H2 R)
    (hd : ∀ H', Same H1 H' → H' D = some (.lst ((xs.filter f).map vI)) → Qd H') :
    ∃ W : Nat → Nat → Hp → Prop, (∃ m, W 0 m (upd H1 D (.lst []))) ∧ ∀ k m H, W k m H →
      (J.stop k H ∧ Qd H) ∨ (J.go k H ∧ ∃ Nx : Hp → Prop, (∀ H', Nx H' → ∃ m', m' < m ∧ W (k + 1) m' H') ∧ ∀ x H', J.yld k H x H' → gName i x (wipe σ vs) H' fun σ2 H2 => wipe σ2 vs = wipe σ vs ∧ tt σ2 H2 fun b H3 =>
        if b = true then tVar i σ2 H3 fun y H4 => ∃ acc, H4 D = some (.lst acc) ∧ acc.length < sizeLine ∧ Nx (upd H4 D (.lst (acc ++ [y]))) else Nx H3) := by
  refine lc_it w (fun k H' => Same H1 H' ∧ H' D = some (.lst (((xs.take k).filter f).map vI))) ⟨same_upd nD, upd_same⟩ (fun k H' _ p => hG H' p.1) ?_ (fun H' p => ?_)
  · rintro k v H2 H2' hk ⟨s2, e2⟩ ⟨rfl, y⟩
    obtain ⟨x, hx, rfl⟩ := map_get y
    refine ⟨hw x, ht x (get_mem hx) _ s2 _ fun H3 s3 => ?_⟩
    have e3 := s3 _ _ e2
    have em := filter_more f hx
    cases hf : f x with
    | true =>
      rw [hf] at em
      refine iteT ⟨vI x, hv x, _, e3, ?_, same_write nD (s2.trans s3), ?_⟩
      · rw [List.length_map]
        exact Nat.lt_of_le_of_lt (List.length_filter_le _ _) (Nat.lt_of_le_of_lt (List.length_take_le _ _) (Nat.lt_of_lt_of_le hk (Nat.le_of_lt hz)))
      · rw [upd_same, em, List.map_append]
        rfl
    | false =>
      rw [hf] at em
      refine iteF ⟨s2.trans s3, ?_⟩
      rw [e3, em]
      simp
  · have e := p.2
    rw [List.take_length] at e
    exact hd H' p.1 e

theorem walk_vI {K : PySem.W.Frag} {a : Addr} {xs : List Nat} : Walk (Itl K a) xs.length (fun H => SqL K H a (xs.map vI)) (YAt (xs.map vI)) := by
  have h := walk_list (K := K) (a := a) (xs := xs.map vI)
  rw [List.length_map] at h
  exact h
theorem nats_int {ns : List Int} (h : ∀ x ∈ ns, 0 ≤ x) : ns.map V.int = (ns.map Int.toNat).map vI := by
  rw [List.map_map]
  refine List.map_congr_left fun x hx => ?_
  show V.int x = V.int ((x.toNat : Nat) : Int)
  rw [Int.toNat_of_nonneg (h x hx)]
/-! ### tests that leave the heap as it is -/
def TestIs (t : TT) (σ : L2.St) (H : Hp) (b : Bool) : Prop := ∀ Q : Bool → Hp → Prop, Q b H → t σ H Q
theorem TestIs.or {t u : TT} {σ : L2.St} {H : Hp} {b c : Bool} (h1 : TestIs t σ H b) (h2 : b = false → TestIs u σ H c) : TestIs (tOr t u) σ H (b || c) := fun Q q => h1 _ (by
  cases b with
  | true => exact iteT q
  | false => exact iteF (h2 rfl Q q))
theorem TestIs.not {t : TT} {σ : L2.St} {H : Hp} {b : Bool} (h : TestIs t σ H b) : TestIs (tNot t) σ H (!b) := fun Q q => h _ q
theorem TestIs.cast {t : TT} {σ : L2.St} {H : Hp} {b c : Bool} (h : TestIs t σ H b) (e : b = c) : TestIs t σ H c := e ▸ h
theorem ifs_is {c : TT} {t u : TS} {D : Ends} {σ : L2.St} {H : Hp} {b : Bool} (h : TestIs c σ H b) (ht : b = true → t D σ H) (hf : b = false → u D σ H) : tIfS c t u D σ H := h _ (by
  cases b with
  | true => exact iteT (ht rfl)
  | false => exact iteF (hf rfl))
/-- two whole numbers are one -/
theorem dec_nat (i j : Nat) : decide (vI i = vI j) = decide (i = j) := by
  refine decide_eq_decide.mpr ⟨fun z => ?_, fun z => congrArg _ z⟩
  have := V.int.inj z
  omega
/-! ### a def of the text that is called by its name -/
/-- the name x stands for a def that keeps the promise sp wherever k rooms are left -/
def Own (P : Program) (w : World) (K : PySem.W.Frag) (mg : Str → Option Value) (base : Heap) (k : Nat) (x : Str) (ps : List Str) (sp : Sp) : Prop :=
  ∃ f fd, FnOk P w K mg base CX0 k f fd ps sp ∧ mg x = some (.ref f) ∧ PySem.W.keepIn K (.ref f) = true ∧ L2.Binds K fd ps []
theorem pe_own {X : Cx} {j k : Nat} {x : Str} {ps : List Str} {sp : Sp} {p pos : Pos} {e : Expr} {es : List Expr} {t : TA} (C : Own X.prog X.w X.K X.mg X.base j x ps sp) (hr : Room k X.A) (hj : j ≤ k) (hg : Gl X x)
    (ha : PA X (e :: es) t) (hdb : (x == ("__debug__" : Str)) = false := by decide) (he : starEach (e :: es) X.env = (false, eval e X.env) :: starEach es X.env := by rfl) (hpl : (backTo pos (starEach es X.env)).any (·.1) = false := by rfl) :
    PE X (.Call (.Name x p) (e :: es) [] pos) (tCall sp [] E0 t) := by
  obtain ⟨f, fd, F, hm, hk, hb⟩ := C
  exact pe_call F (hr.mono hj) hg hm hk hb .nil pass0 ha hdb he hpl
/-! ### min(xs, default=d) of numbers; min of a list of pairs -/
theorem reads_ints {h : Heap} : ∀ {ns : List Int} {us : List Value}, Vals (ns.map V.int) us → ReadsAll h us (ns.map PyData.int) []
  | [], [], _ => .nil
  | n :: ns, u :: us, r => by
    cases r with
    | cons r1 r2 =>
      obtain ⟨t, rfl⟩ := r1
      exact ReadsAll.cons (as := []) (bs := []) (.int n t) (reads_ints r2)
theorem depth_ints : ∀ ns : List Int, PyData.depthAll (ns.map PyData.int) = 0
  | [] => by simp [PyData.depthAll]
  | n :: ns => by
    rw [List.map_cons, PyData.depthAll, depth_ints ns]
    simp [PyData.depth]
theorem alike_ints (ns : List Int) : PySem.W.AlikeAll (ns.map PyData.int) := by
  refine ⟨fun x hx y hy => ?_, fun x hx => ?_⟩
  · obtain ⟨i, _, rfl⟩ := List.mem_map.mp hx
    obtain ⟨j, _, rfl⟩ := List.mem_map.mp hy
    simp [PySem.W.alike]
  · obtain ⟨i, _, rfl⟩ := List.mem_map.mp hx
    exact fun z => nomatch z
def rMinDef (K : PySem.W.Frag) : List V → List V → Hp → VK → Prop := fun vs zs H Q => ∃ (a : Addr) (ns : List Int) (d : Int), vs = [V.ref a] ∧ zs = [V.int d] ∧ SqL K H a (ns.map V.int) ∧
  (ns = [] → Q (.int d) H) ∧ ∀ n r, ns = n :: r → Q (.int (r.foldl min n)) H
section
variable {X : Cx}
theorem cr_minDef (hc : X.calm = true) (hu : X.A.units + 64 < cLine) : CallRK X (.builtin "min") [Str.ofString "default"] (rMinDef X.K) := by
  intro pins s σ H vs zs us ws Q I r rz h
  obtain ⟨a, ns, d, rfl, rfl, hs, q0, q1⟩ := h
  obtain rfl := Vals.ref1 r
  obtain ⟨w1, rfl, t, rfl⟩ := vals1 rz
  obtain ⟨its, rv, hl, _⟩ := I.list hs
  have e0 : its.toArray.toList = its := by simp
  refine PySem.W.min_list_default (xs := ns.map PyData.int) (as := []) (I.ok.hd hc) hl.isList (by rw [e0]; exact reads_ints rv) (alike_ints ns) (by rw [depth_ints]; omega) (fun e h' tk hk => ?_) (fun y ys i v h' tk bs e hv hr hk => ?_)
  · exact ⟨.int d, H, I.kept hk, ⟨t, rfl⟩, q0 (List.map_eq_nil_iff.mp e)⟩
  · cases ns with
    | nil => cases e
    | cons n r' =>
      rw [List.map_cons] at e
      obtain ⟨e1, e2⟩ := List.cons.inj e
      subst e1
      subst e2
      rw [PySem.W.minD_ints] at hr
      cases hr with
      | int _ t' => exact ⟨.int _, H, I.kept hk, ⟨t', rfl⟩, q1 n r' rfl⟩
end
end Gc
namespace Gc
open PySem PySem.Spec PyProof.Rows L2
/-! ### min of a list of pairs -/
/-- a pair as data -/
def dP (e : Nat × Nat) : PyData := .tuple [.int (e.1 : Int), .int (e.2 : Int)]
theorem dP_inj {a b : Nat × Nat} (h : dP a = dP b) : a = b := by
  unfold dP at h
  injection h with h
  injection h with h1 h2
  injection h2 with h2 _
  injection h1 with h1
  injection h2 with h2
  exact Prod.ext (by omega) (by omega)
theorem lt_dP (a b : Nat × Nat) : PySem.W.dataLt (dP a) (dP b) = decide (a.1 < b.1 ∨ (a.1 = b.1 ∧ a.2 < b.2)) := by
  unfold dP
  rw [PySem.W.dataLt_ii]
  exact decide_eq_decide.mpr (by omega)
/-- the lesser of two pairs, the first where they are like -/
def lesser (b e : Nat × Nat) : Nat × Nat := if e.1 < b.1 ∨ (e.1 = b.1 ∧ e.2 < b.2) then e else b
theorem minD_pairs : ∀ (es : List (Nat × Nat)) (e : Nat × Nat), PySem.W.minD (dP e) (es.map dP) = dP (es.foldl lesser e)
  | [], _ => rfl
  | x :: es, e => by
    have ih := minD_pairs es (lesser e x)
    unfold PySem.W.minD at ih ⊢
    rw [List.map_cons, List.foldl_cons, List.foldl_cons, ← ih]
    congr 1
    rw [lt_dP]
    unfold lesser
    by_cases h : x.1 < e.1 ∨ (x.1 = e.1 ∧ x.2 < e.2)
    · rw [decide_eq_true h, if_pos rfl, if_pos h]
    · rw [decide_eq_false h, if_neg Bool.false_ne_true, if_neg h]
theorem depth_pairs : ∀ es : List (Nat × Nat), PyData.depthAll (es.map dP) ≤ 1
  | [] => by simp [PyData.depthAll]
  | e :: es => by
    have ih := depth_pairs es
    rw [List.map_cons, PyData.depthAll]
    have h : PyData.depth (dP e) = 1 := by
      unfold dP
      simp [PyData.depth, PyData.depthAll]
    omega
theorem alike_pairs (es : List (Nat × Nat)) : PySem.W.AlikeAll (es.map dP) := by
  refine ⟨fun x hx y hy => ?_, fun x hx => ?_⟩
  · obtain ⟨i, _, rfl⟩ := List.mem_map.mp hx
    obtain ⟨j, _, rfl⟩ := List.mem_map.mp hy
    simp [dP, PySem.W.alike, PySem.W.alikeAll]
  · obtain ⟨i, _, rfl⟩ := List.mem_map.mp hx
    exact fun z => nomatch z
section
variable {X : Cx} {pins : List (Addr × Obj)} {σ : L2.St} {H : Hp} {s : Shared}
/-- a tracked pair is read as its data -/
theorem reads_pair (I : Inv X pins σ H s) {a : Addr} {e : Nat × Nat} (h : H a = some (.tup [vI e.1, vI e.2])) : Reads s.heap (.ref a) (dP e) [] := by
  obtain ⟨its, rv, p, hz⟩ := I.tuple (SqT.of (K := X.K) h)
  obtain ⟨o, ho, hc, n, hd⟩ := p
  cases rv with
  | cons r1 r2 =>
    cases r2 with
    | cons r2 r3 =>
      cases r3
      obtain ⟨t1, rfl⟩ := r1
      obtain ⟨t2, rfl⟩ := r2
      exact Reads.tuple (as := []) ho hc hd (ReadsAll.cons (as := []) (bs := []) (.int _ _) (ReadsAll.cons (as := []) (bs := []) (.int _ _) .nil))
theorem reads_pairs (I : Inv X pins σ H s) : ∀ {as : List Addr} {es : List (Nat × Nat)} {us : List Value}, Tups H as es → Vals (as.map V.ref) us → ReadsAll s.heap us (es.map dP) []
  | [], [], [], _, _ => .nil
  | a :: as, e :: es, u :: us, t, r => by
    cases r with
    | cons r1 r2 =>
      obtain rfl : u = Value.ref a := r1
      exact ReadsAll.cons (as := []) (bs := []) (reads_pair I t.1) (reads_pairs I t.2 r2)
  | [], _ :: _, _, t, _ => t.elim
  | _ :: _, [], _, t, _ => t.elim
/-- one datum a value -/
theorem reads_two {h : Heap} {l : List Value} {d e : Nat × Nat} {as bs : List Addr} (r1 : ReadsAll h l [.int (d.1 : Int), .int (d.2 : Int)] as) (r2 : ReadsAll h l [.int (e.1 : Int), .int (e.2 : Int)] bs) : d = e := by
  cases r1 with
  | cons x1 y1 =>
    cases y1 with
    | cons x2 y2 =>
      cases x1
      cases x2
      cases r2 with
      | cons z1 w1 =>
        cases w1 with
        | cons z2 w2 =>
          generalize hd1 : (d.1 : Int) = d1 at z1
          generalize hd2 : (d.2 : Int) = d2 at z2
          generalize he1 : (e.1 : Int) = e1 at z1
          generalize he2 : (e.2 : Int) = e2 at z2
          cases z1
          cases z2
          exact Prod.ext (by omega) (by omega)
theorem reads_pair_eq {h : Heap} {v : Value} {d e : Nat × Nat} {as bs : List Addr} (r1 : Reads h v (dP d) as) (r2 : Reads h v (dP e) bs) : d = e := by
  unfold dP at r1 r2
  cases r1 with
  | tuple g1 c1 d1 q1 =>
    cases r2 with
    | tuple g2 c2 d2 q2 =>
      rw [g1] at g2
      cases g2
      rw [d1] at d2
      injection d2 with d2 _
      subst d2
      exact reads_two q1 q2
def rMinP (K : PySem.W.Frag) : List V → Hp → VK → Prop := fun vs H Q => ∃ (a : Addr) (as : List Addr) (e : Nat × Nat) (es : List (Nat × Nat)), vs = [V.ref a] ∧ SqL K H a (as.map V.ref) ∧ Tups H as (e :: es) ∧
  ∀ b, H b = some (.tup [vI (es.foldl lesser e).1, vI (es.foldl lesser e).2]) → Q (.ref b) H
theorem vals_refs : ∀ {as : List Addr} {us : List Value} {i : Nat} {v : Value}, Vals (as.map V.ref) us → us[i]? = some v → ∃ a, as[i]? = some a ∧ v = .ref a
  | [], [], _, _, _, h => by simp at h
  | a :: as, u :: us, 0, v, r, h => by
    cases r with
    | cons r1 r2 =>
      obtain rfl : u = Value.ref a := r1
      simp at h
      exact ⟨a, rfl, h.symm⟩
  | a :: as, u :: us, i + 1, v, r, h => by
    cases r with
    | cons r1 r2 =>
      simp at h
      obtain ⟨b, h1, h2⟩ := vals_refs (i := i) r2 h
      exact ⟨b, by simpa using h1, h2⟩
theorem cr_minP (hc : X.calm = true) (hu : X.A.units + 64 < cLine) : CallR X (.builtin "min") (rMinP X.K) := by
  intro pins s σ H vs us Q I r h
  obtain ⟨a, as, e, es, rfl, hs, ht, q⟩ := h
  obtain rfl := Vals.ref1 r
  obtain ⟨its, rv, hl, _⟩ := I.list hs
  have e0 : its.toArray.toList = its := by simp
  have hdep := depth_pairs (e :: es)
  refine PySem.W.min_list_data (x := dP e) (xs := es.map dP) (as := []) (I.ok.hd hc) hl.isList (by rw [e0]; exact reads_pairs I ht rv) (alike_pairs (e :: es)) (by rw [← List.map_cons]; omega) (fun i v h' tk bs hv hr hk => ?_)
  rw [minD_pairs] at hr
  have hv' : its[i]? = some v := by simpa using hv
  obtain ⟨b, hb, rfl⟩ := vals_refs rv hv'
  obtain ⟨f, _, hf⟩ := ht.get hb
  have I' : Inv X pins σ H { s with heap := h', toks := tk } := I.kept hk
  have ef := reads_pair_eq (reads_pair I' hf) hr
  rw [ef] at hf
  exact ⟨.ref b, H, I', rfl, q b hf⟩
end
end Gc
namespace Gc
open PySem PySem.Spec PyProof.Rows L2
/-! ### the text, by places -/
def topS (i : Nat) : Stmt := PySem.Challenge.pw_guestcircles_s02_strange.main.body.getD i (.Pass ⟨0, 0, 0, 0⟩)
abbrev s_pairs_told : Stmt := topS 3
abbrev s_are_told : Stmt := topS 4
abbrev s_knowing : Stmt := topS 5
abbrev s_members : Stmt := topS 7
abbrev s_all_groups : Stmt := topS 8
abbrev s_pairs_in : Stmt := topS 9
abbrev s_known_pairs : Stmt := topS 11
abbrev s_are_strangers : Stmt := topS 12
abbrev s_largest : Stmt := topS 13
abbrev s_all_strangers : Stmt := topS 14
abbrev s_strange : Stmt := topS 17
end Gc
namespace Gc
open PySem PySem.Spec PyProof.Rows L2
/-! ### pairs_told -/
theorem sc_pairs_told : FnScope ["numbers", "at"] ["numbers"] (defScope s_pairs_told) := ⟨rfl, rfl, rfl, by decide +kernel, rfl, by decide +kernel, by decide +kernel⟩
def sp_pairs_told (K : PySem.W.Frag) : Sp := fun vs H Q _ => ∃ (a : Addr) (l : List Nat), vs = [.ref a] ∧ SqL K H a (l.map vI) ∧ l.length ≤ 60 ∧ l.length % 2 = 0 ∧
  ∀ H' p, Same H H' → H p = none → PrsAt H' p (Kzf1.net l) → Q (.ref p) H'
theorem rg_two : ∀ k, k < 31 → RgC 0 (((2 * k : Nat) : Int)) 2 k := by
  intro k hk
  refine ⟨by decide, by decide, ?_, ?_⟩
  · revert k
    decide +kernel
  · revert k
    decide +kernel
theorem vI_get {l : List Nat} {i x : Nat} (h : l[i]? = some x) : (l.map vI)[i]? = some (vI x) := by
  rw [List.getElem?_map, h]
  rfl
section
variable {P : Program} {w : World} {K : PySem.W.Frag} {mg : Str → Option Value} {base : Heap}
theorem ok_pairs_told {f : Addr} {fd : FuncData} {k : Nat} (F : Fun K "pairs_told" "pairs_told" s_pairs_told f fd) (mr : mg "range" = none) (ml : mg "len" = none) : FnOk P w K mg base CX0 (k + 1) f fd ["numbers"] (sp_pairs_told K) := by
  refine F.ok sc_pairs_told (fun vs H Q E h => ?_) (fun cdv A outer s H vs Q E hr h => ?_)
  · obtain ⟨a, l, rfl, _⟩ := h
    rfl
  · obtain ⟨a, l, rfl, hS, hl, h2, q⟩ := h
    refine ⟨_, pss_one (ps_ret (pe_lc (own := [("at", 1)]) (g := gName 1) rfl sc_pairs_told.nd (pi_range3 (by rfl) mr (pa_cons pe_int (pa_cons (pe_callB call_len_seq (by rfl) ml PySem.boot_len (pa_cons (pv 0) pa_nil)) (pa_cons pe_int pa_nil)))) (blkOk_by (N := ["numbers", "at"]) (sc := defScope s_pairs_told) (by decide +kernel))
      (fun _ _ _ _ _ => pg_name (i := 1) sc_pairs_told.nd rfl (Or.inl rfl))
      (fun _ _ _ _ _ => pts_nil)
      (fun _ _ _ _ _ => pe_tup (pa_cons (pe_ix (r := rIxL K) ix_list (pv 0) (pv 1) (fun _ _ => rfl)) (pa_cons (pe_ix (r := rIxL K) ix_list (pv 0) (pe_op op_add (pv 1) pe_int) (fun _ _ => rfl)) pa_nil))))), ?_⟩
    have e2 : 2 * (l.length / 2) = l.length := by omega
    have hrg : RgC 0 (((l.map vI).length : Nat) : Int) 2 (l.length / 2) := by
      rw [List.length_map, ← e2, show 2 * (l.length / 2) / 2 = l.length / 2 by omega]
      exact rg_two _ (by omega)
    refine ⟨.ref a, rfl, a, l.map vI, rfl, .inl hS, 0, _, 2, l.length / 2, rfl, hrg, fun D nD => ?_⟩
    refine lc_it walk_rangeC (fun j H' => Same H H' ∧ PrsAt H' D ((Kzf1.net l).take j)) ⟨same_upd nD, [], upd_same, trivial⟩ (fun _ _ _ _ => trivial) ?_ ?_
    · rintro j v H5 H5' hj ⟨s5, bs, e5, t5⟩ ⟨rfl, rfl⟩
      have h1 : 2 * j < l.length := by omega
      have h3 : 2 * j + 1 < l.length := by omega
      have g1 : l[2 * j]? = some l[2 * j] := List.getElem?_eq_getElem h1
      have g2 : l[2 * j + 1]? = some l[2 * j + 1] := List.getElem?_eq_getElem h3
      have gn := net_get l j _ _ g1 g2
      generalize l[2 * j] = x at g1 gn
      generalize l[2 * j + 1] = y at g2 gn
      refine ⟨rfl, yes_if ?_⟩
      refine ⟨.ref a, rfl, _, rfl, a, l.map vI, _, vI x, rfl, rfl, s5.seq hS, ?_, .ref a, rfl, _, rfl, _, _, rfl, rfl, a, l.map vI, _, vI y, rfl, rfl, s5.seq hS, ?_, (by show 2 ≤ sizeLine; decide), fun T nT => ?_⟩
      · exact at_of (j := 2 * j) (by omega) (vI_get g1)
      · exact at_of (j := 2 * j + 1) (by omega) (vI_get g2)
      · have s6 : Same H5' (upd H5' T (.tup [vI x, vI y])) := same_upd nT
        refine ⟨_, s6 _ _ e5, ?_, same_write nD (s5.trans s6), bs ++ [T], ?_, ?_⟩
        · rw [List.length_map, t5.len]
          have := List.length_take_le j (Kzf1.net l)
          exact small1000 (by omega)
        · rw [upd_same, List.map_append]
          rfl
        · rw [take_more gn]
          refine Tups.keep (fun c' ys e => ?_) (Tups.app (H := upd H5' T (.tup [vI x, vI y])) (bs := [T]) (fs := [(x, y)]) ⟨upd_same, trivial⟩ (t5.same s6))
          rw [upd_ne (ne_of e (s6 _ _ e5) (by intro z; cases z))]
          exact e
    · rintro H5 ⟨s5, p5⟩
      rw [← net_len, List.take_length] at p5
      exact q H5 D s5 nD p5
end
end Gc
namespace Gc
open PySem PySem.Spec PyProof.Rows L2
/-! ### are_told -/
theorem sc_are_told : FnScope ["many", "numbers", "one", "other"] ["many", "numbers"] (defScope s_are_told) := ⟨rfl, rfl, rfl, by decide +kernel, rfl, by decide +kernel, by decide +kernel⟩
def sp_are_told (K : PySem.W.Frag) : Sp := fun vs H Q _ => ∃ (a : Addr) (n : Nat) (l : List Nat), vs = [vI n, .ref a] ∧ SqL K H a (l.map vI) ∧ l.length ≤ 60 ∧
  ∀ H', Same H H' → Q (.bl (Kzf1.good n l)) H'
theorem all_take_false {n : Nat} {es : List (Nat × Nat)} {i : Nat} {e : Nat × Nat} (h : es[i]? = some e) (hf : okP n e = false) : es.all (okP n) = false := by
  cases hh : es.all (okP n) with
  | false => rfl
  | true =>
    have := List.all_eq_true.mp hh e (get_mem h)
    rw [hf] at this
    exact this.symm
section
variable {P : Program} {w : World} {K : PySem.W.Frag} {mg : Str → Option Value} {base : Heap}
theorem ok_are_told {f : Addr} {fd : FuncData} (F : Fun K "are_told" "are_told" s_are_told f fd) (C1 : Own P w K mg base 1 "pairs_told" ["numbers"] (sp_pairs_told K))
    {tG tP : Tok} (mG : mg "MOST_GUESTS" = some (.int 8 tG)) (mP : mg "MOST_PAIRS" = some (.int 28 tP)) (ml : mg "len" = none) : FnOk P w K mg base CX0 2 f fd ["many", "numbers"] (sp_are_told K) := by
  refine F.ok sc_are_told (fun vs H Q E h => ?_) (fun cdv A outer s H vs Q E hr h => ?_)
  · obtain ⟨a, n, l, rfl, _⟩ := h
    rfl
  · obtain ⟨a, n, l, rfl, hS, hl, q⟩ := h
    refine ⟨_, pss_cons (ps_if (PW.pt (pw_or (pt_not (pt_chain op_le op_le pe_int (pv 0) (pe_glob (v := .int 8) (by rfl) mG ⟨_, rfl⟩)))
        (pw_or (pt_cmpR op_eq (pe_op op_mod (pe_callB call_len_seq (by rfl) ml PySem.boot_len (pa_cons (pv 1) pa_nil)) pe_int) pe_int (nomark _))
        (pw_or1 (pt_cmpR op_gt (pe_callB call_len_seq (by rfl) ml PySem.boot_len (pa_cons (pv 1) pa_nil)) (pe_op op_mul pe_int (pe_glob (v := .int 28) (by rfl) mP ⟨_, rfl⟩)) (nomark _))))))
        (pss_one (ps_ret pe_bl)) pss_nil)
      (pss_cons (ps_for PassesOwn.never rfl (pi_list (pe_own C1 hr (by decide) (by rfl) (pa_cons (pv 1) pa_nil)))
          (pg_tup rfl (pgs_cons (pg_name (i := 2) sc_are_told.nd rfl (.inl rfl)) (pgs_cons (pg_name (i := 3) sc_are_told.nd rfl (.inl rfl)) pgs_nil)))
        (pss_one (ps_if (PW.pt (pw_or (pt_cmpR op_ge (pv 2) (pv 0) (nomark _)) (pw_or (pt_cmpR op_ge (pv 3) (pv 0) (nomark _)) (pw_or1 (pt_cmpR op_eq (pv 2) (pv 3) (nomark _))))))
          (pss_one (ps_ret pe_bl)) pss_nil)))
      (pss_one (ps_ret pe_bl))), ?_⟩
    have good := good_eq n l
    refine ifs_is (b := !(decide (1 ≤ n ∧ n ≤ 8 ∧ l.length % 2 = 0 ∧ l.length ≤ 56))) ?_ (fun hb => ?_) (fun hb => ?_)
    · refine TestIs.cast (TestIs.or (b := !(decide (1 ≤ n) && decide (n ≤ 8))) (TestIs.not ?_) (fun _ => TestIs.or (b := decide (l.length % 2 = 1)) ?_ (fun _ => (?_ : TestIs _ _ _ (decide (56 < l.length)))))) ?_
      · intro R hR
        refine ⟨vI n, rfl, _, _, rfl, rfl, _, rfl, ?_⟩
        by_cases c1 : 1 ≤ n
        · rw [decide_eq_true c1, Bool.true_and] at hR
          rw [decide_eq_true (show (1 : Int) ≤ (n : Int) by omega)]
          refine iteT ⟨_, _, rfl, rfl, _, rfl, ?_⟩
          rw [decide_eq_decide.mpr (show (n : Int) ≤ 8 ↔ n ≤ 8 by omega)]
          exact hR
        · rw [decide_eq_false c1, Bool.false_and] at hR
          rw [decide_eq_false (show ¬ (1 : Int) ≤ (n : Int) by omega)]
          exact iteF ⟨_, rfl, hR⟩
      · intro R hR
        refine ⟨.ref a, rfl, a, l.map vI, rfl, .inl hS, _, _, rfl, rfl, (by show (0 : Int) < 2; decide), rfl, _, rfl, ?_⟩
        have e : decide (V.int (((l.map vI).length : Int) % 2) = V.int 1) = decide (l.length % 2 = 1) := by
          rw [List.length_map]
          refine decide_eq_decide.mpr ⟨fun z => ?_, fun z => ?_⟩
          · have := V.int.inj z
            omega
          · exact congrArg V.int (by omega)
        rw [e]
        exact hR
      · intro R hR
        refine ⟨.ref a, rfl, a, l.map vI, rfl, .inl hS, _, _, rfl, rfl, .inl (by decide), _, _, rfl, rfl, _, rfl, ?_⟩
        rw [List.length_map, decide_eq_decide.mpr (show (2 : Int) * 28 < (l.length : Int) ↔ 56 < l.length by omega)]
        exact hR
      · rw [Bool.eq_iff_iff]
        simp only [Bool.or_eq_true, Bool.not_eq_true', Bool.and_eq_false_iff, decide_eq_true_eq, decide_eq_false_iff_not]
        omega
    · rw [Bool.not_eq_true'] at hb
      rw [hb, Bool.false_and] at good
      show Q (.bl false) H
      rw [← good]
      exact q H (Same.refl _)
    · rw [Bool.not_eq_false'] at hb
      rw [hb, Bool.true_and] at good
      have hb' := of_decide_eq_true hb
      refine ⟨.ref a, rfl, a, l, rfl, hS, hl, hb'.2.2.1, fun H1 p s1 np pr => ?_⟩
      obtain ⟨as, ep, tu⟩ := pr
      refine ⟨p, rfl, ⟨_, SqL.of ep⟩, ?_⟩
      refine for_list (K := K) (a := p) (xs := as.map V.ref) (fun i σ H' => ∃ y2 y3, σ = [some (vI n), some (.ref a), y2, y3] ∧ H' = H1 ∧ ((Kzf1.net l).take i).all (okP n) = true)
        ⟨none, none, rfl, rfl, rfl⟩ (fun i σ H' _ ⟨_, _, _, e, _⟩ => e ▸ SqL.of ep) ?_ ?_
      · rintro i v σ H' hv ⟨y2, y3, rfl, rfl, hall⟩
        rw [List.getElem?_map] at hv
        obtain ⟨t, ht, rfl⟩ : ∃ t, as[i]? = some t ∧ v = V.ref t := by
          cases e : as[i]? with
          | none =>
            rw [e] at hv
            cases hv
          | some t =>
            rw [e] at hv
            exact ⟨t, rfl, (Option.some.inj hv).symm⟩
        obtain ⟨e, he, hT⟩ := tu.get ht
        refine ⟨t, _, rfl, SqT.of hT, rfl, _, _, rfl, _, _, rfl, rfl, ?_⟩
        refine ifs_is (b := !(okP n e)) ?_ (fun hb => ?_) (fun hb => ?_)
        · refine TestIs.cast (TestIs.or (b := decide (n ≤ e.1)) ?_ (fun _ => TestIs.or (b := decide (n ≤ e.2)) ?_ (fun _ => (?_ : TestIs _ _ _ (decide (e.1 = e.2)))))) ?_
          · intro R hR
            refine ⟨vI e.1, rfl, vI n, rfl, _, _, rfl, rfl, _, rfl, ?_⟩
            rw [decide_eq_decide.mpr (show (n : Int) ≤ (e.1 : Int) ↔ n ≤ e.1 by omega)]
            exact hR
          · intro R hR
            refine ⟨vI e.2, rfl, vI n, rfl, _, _, rfl, rfl, _, rfl, ?_⟩
            rw [decide_eq_decide.mpr (show (n : Int) ≤ (e.2 : Int) ↔ n ≤ e.2 by omega)]
            exact hR
          · intro R hR
            refine ⟨vI e.1, rfl, vI e.2, rfl, rfl, _, rfl, ?_⟩
            rw [dec_nat]
            exact hR
          · unfold okP
            rw [Bool.eq_iff_iff]
            simp only [Bool.or_eq_true, Bool.not_eq_true', Bool.and_eq_false_iff, decide_eq_true_eq, decide_eq_false_iff_not, bne_eq_false_iff_eq]
            omega
        · rw [Bool.not_eq_true'] at hb
          rw [all_take_false he hb] at good
          show Q (.bl false) H'
          rw [← good]
          exact q _ s1
        · rw [Bool.not_eq_false'] at hb
          refine ⟨_, _, rfl, rfl, ?_⟩
          rw [take_more he, List.all_append, hall]
          simp [hb]
      · rintro σ H' ⟨y2, y3, rfl, rfl, hall⟩
        rw [List.length_map, tu.len, List.take_length] at hall
        rw [hall] at good
        show Q (.bl true) H'
        rw [← good]
        exact q _ s1
end
end Gc
namespace Gc
open PySem PySem.Spec PyProof.Rows L2
/-! ### knowing -/
theorem sc_knowing : FnScope ["many", "numbers", "found", "one", "other", "guest"] ["many", "numbers"] (defScope s_knowing) := ⟨rfl, rfl, rfl, by decide +kernel, rfl, by decide +kernel, by decide +kernel⟩
def sp_knowing (K : PySem.W.Frag) : Sp := fun vs H Q _ => ∃ (a : Addr) (n : Nat) (l : List Nat), vs = [vI n, .ref a] ∧ SqL K H a (l.map vI) ∧ l.length ≤ 60 ∧ Kzf1.good n l = true ∧
  ∀ H' D, Same H H' → MatAt H' D n (mat (Kzf1.net l)) → Q (.ref D) H'
theorem rep_false : ∀ n : Nat, (List.replicate n [V.bl false]).flatten = rowV n (fun _ _ => false) 0 := by
  intro n
  unfold rowV
  rw [List.map_const', List.length_range]
  induction n with
  | zero => rfl
  | succ n ih => rw [List.replicate_succ, List.flatten_cons, ih, List.replicate_succ]; rfl
theorem ixN_nat {n j : Nat} (h : j < n) : ixN n (j : Int) = some j := by
  unfold ixN
  rw [if_pos (by omega), if_pos (by omega), Int.toNat_natCast]
theorem Rows.congr {H : Hp} {n : Nat} {M M' : Nat → Nat → Bool} {rows : List Addr} (t : Rows H n M rows) (h : ∀ i j, M i j = M' i j) : Rows H n M' rows := by
  have e : M = M' := funext fun i => funext fun j => h i j
  exact e ▸ t
theorem Rows.set {H : Hp} {n : Nat} {M : Nat → Nat → Bool} {rows : List Addr} (t : Rows H n M rows) (nd : rows.Nodup) {i j : Nat} {r : Addr} (hr : rows[i]? = some r) (hj : j < n) :
    Rows (upd H r (.lst ((rowV n M i).set j (.bl true)))) n (fun i' j' => M i' j' || (i' == i && j' == j)) rows := by
  refine ⟨t.1, fun i' r' h' => ?_⟩
  by_cases e : i' = i
  · subst e
    rw [hr] at h'
    cases h'
    rw [upd_same]
    congr 2
    refine List.ext_getElem? fun m => ?_
    by_cases hm : m < n
    · rw [rowV_get _ _ hm]
      by_cases em : m = j
      · subst em
        rw [List.getElem?_set_self (by rw [rowV_len]; exact hm)]
        simp
      · rw [List.getElem?_set_ne (Ne.symm em), rowV_get _ _ hm]
        simp [em]
    · rw [List.getElem?_eq_none (by rw [List.length_set, rowV_len]; omega), List.getElem?_eq_none (by rw [rowV_len]; omega)]
  · have ne : r' ≠ r := fun z => e (nd_ix nd (z ▸ h') hr)
    rw [upd_ne ne, t.2 i' r' h']
    congr 2
    unfold rowV
    refine List.map_congr_left fun m _ => ?_
    simp [e]
section
variable {P : Program} {w : World} {K : PySem.W.Frag} {mg : Str → Option Value} {base : Heap}
theorem ok_knowing {f : Addr} {fd : FuncData} (F : Fun K "knowing" "knowing" s_knowing f fd) (C1 : Own P w K mg base 1 "pairs_told" ["numbers"] (sp_pairs_told K))
    (mr : mg "range" = none) : FnOk P w K mg base CX0 2 f fd ["many", "numbers"] (sp_knowing K) := by
  refine F.ok sc_knowing (fun vs H Q E h => ?_) (fun cdv A outer s H vs Q E hr h => ?_)
  · obtain ⟨a, n, l, rfl, _⟩ := h
    rfl
  · obtain ⟨a, n, l, rfl, hS, hl, hg, q⟩ := h
    refine ⟨_, pss_cons (ps_setLc (i := 2) (own := [("guest", 5)]) (g := gName 5) rfl sc_knowing.nd rfl rfl (sw_true rfl rfl rfl (by decide +kernel)) (pi_range1 (by rfl) mr (pa_cons (pv 0) pa_nil)) (blkOk_by (N := ["many", "numbers", "found", "one", "other", "guest"]) (sc := defScope s_knowing) (by decide +kernel))
        (fun _ _ _ _ _ => pg_name (i := 5) sc_knowing.nd rfl (Or.inl rfl))
        (fun _ _ _ _ _ => pts_nil)
        (fun _ _ _ _ _ => pe_op op_rep (pe_lst (pa_cons pe_bl pa_nil)) (pv 0)))
      (pss_cons (ps_for PassesOwn.never rfl (pi_list (pe_own C1 hr (by decide) (by rfl) (pa_cons (pv 1) pa_nil)))
          (pg_tup rfl (pgs_cons (pg_name (i := 3) sc_knowing.nd rfl (.inl rfl)) (pgs_cons (pg_name (i := 4) sc_knowing.nd rfl (.inl rfl)) pgs_nil)))
        (pss_cons (ps_asg pe_bl (pg_sub (pe_ix ix_list (pv 2) (pv 3) (fun _ _ => rfl)) (pv 4) set_list))
        (pss_one (ps_asg pe_bl (pg_sub (pe_ix ix_list (pv 2) (pv 4) (fun _ _ => rfl)) (pv 3) set_list)))))
      (pss_one (ps_ret (pv 2)))), ?_⟩
    have good := good_eq n l
    rw [hg] at good
    have good' := (Bool.and_eq_true _ _).mp good.symm
    have hb := of_decide_eq_true good'.1
    have hall := List.all_eq_true.mp good'.2
    have hn8 : n ≤ 8 := hb.2.1
    -- the rows are made, all false
    refine ⟨vI n, rfl, (n : Int), rfl, by omega, by omega, fun D nD => ?_⟩
    rw [Int.toNat_natCast]
    refine lc_range (fun j H' => Same H H' ∧ ∃ rows : List Addr, H' D = some (.lst (rows.map V.ref)) ∧ rows.length = j ∧ rows.Nodup ∧ D ∉ rows ∧ ∀ r ∈ rows, H r = none ∧ H' r = some (.lst (rowV n (fun _ _ => false) 0)))
      ⟨same_upd nD, [], upd_same, rfl, List.nodup_nil, by simp, by simp⟩ ?_ ?_
    · rintro j H' hj ⟨s1, rows, eD, el, nd, nDr, hrow⟩
      refine ⟨rfl, yes_if ?_⟩
      refine ⟨(by show 1 ≤ sizeLine; decide), fun c nc => ?_⟩
      have s2 : Same H' (upd H' c (.lst [.bl false])) := same_upd nc
      refine ⟨vI n, rfl, c, (n : Int), _, rfl, rfl, upd_same, by omega, by omega, ?_, fun r nr => ?_⟩
      · rw [Int.toNat_natCast]
        show 1 * n ≤ sizeLine
        rw [Nat.one_mul]
        exact Nat.le_of_lt (small1000 (by omega))
      · rw [Int.toNat_natCast, rep_false]
        generalize upd H' c (.lst [.bl false]) = H3 at s2 nr
        have s3 : Same H3 (upd H3 r (.lst (rowV n (fun _ _ => false) 0))) := same_upd nr
        have sA := s2.trans s3
        have hrD : r ≠ D := fun z => by
          rw [z, s2 _ _ eD] at nr
          cases nr
        have hrn : r ∉ rows := fun z => by
          rw [s2 _ _ (hrow r z).2] at nr
          cases nr
        refine ⟨_, sA _ _ eD, ?_, same_write nD (s1.trans sA), rows ++ [r], ?_, ?_, ?_, ?_, ?_⟩
        · rw [List.length_map, el]
          exact small1000 (by omega)
        · rw [upd_same, List.map_append]
          rfl
        · rw [List.length_append, el]
          rfl
        · rw [List.nodup_append]
          exact ⟨nd, by simp, fun x hx y hy => by
            have e : y = r := by simpa using hy
            rw [e]
            exact fun z => hrn (z ▸ hx)⟩
        · rw [List.mem_append]
          exact fun z => z.elim nDr fun z => hrD (by simpa using z : D = r).symm
        · intro x hx
          rcases List.mem_append.mp hx with hx | hx
          · have ne : x ≠ D := fun z => nDr (z ▸ hx)
            rw [upd_ne ne]
            exact ⟨(hrow x hx).1, sA _ _ (hrow x hx).2⟩
          · have e : x = r := by simpa using hx
            subst e
            rw [upd_ne hrD, upd_same]
            exact ⟨(s1.trans s2).free nr, rfl⟩
    · rintro H1 ⟨s1, rows, eD, el, nd, nDr, hrow⟩
      -- the loop over the pairs told
      refine ⟨.ref a, rfl, a, l, rfl, s1.seq hS, hl, hb.2.2.1, fun H2 p s2 np pr => ?_⟩
      obtain ⟨as, ep, tu⟩ := pr
      have npr : p ∉ rows := fun z => by
        rw [(hrow p z).2] at np
        cases np
      refine ⟨p, rfl, ⟨_, SqL.of ep⟩, ?_⟩
      refine for_list (K := K) (a := p) (xs := as.map V.ref) (fun i σ H' => ∃ y3 y4 y5, σ = [some (vI n), some (.ref a), some (.ref D), y3, y4, y5] ∧ Same H H' ∧ H' p = some (.lst (as.map V.ref)) ∧ Tups H' as (Kzf1.net l) ∧ H' D = some (.lst (rows.map V.ref)) ∧ Rows H' n (mat ((Kzf1.net l).take i)) rows)
        ⟨none, none, none, rfl, s1.trans s2, ep, tu, s2 _ _ eD, el, fun i r e => s2 _ _ (hrow r (get_mem e)).2⟩ (fun i σ H' _ ⟨_, _, _, _, _, e, _⟩ => SqL.of e) ?_ ?_
      · rintro i v σ H' hv ⟨y3, y4, y5, rfl, s3, ep3, tu3, eD3, rw3⟩
        rw [List.getElem?_map] at hv
        obtain ⟨t, ht, rfl⟩ : ∃ t, as[i]? = some t ∧ v = V.ref t := by
          cases e : as[i]? with
          | none =>
            rw [e] at hv
            cases hv
          | some t =>
            rw [e] at hv
            exact ⟨t, rfl, (Option.some.inj hv).symm⟩
        obtain ⟨e, he, hT⟩ := tu3.get ht
        obtain ⟨h1, h2, h3⟩ := okP_iff.mp (hall e (get_mem he))
        refine ⟨t, _, rfl, SqT.of hT, rfl, _, _, rfl, _, _, rfl, rfl, ?_⟩
        -- the first store
        obtain ⟨r1, hr1, hm1, hR1⟩ := rw3.get h1
        refine ⟨.ref D, rfl, vI e.1, rfl, D, _, _, _, rfl, rfl, SqL.of eD3, atI_nat hm1, vI e.2, rfl, r1, _, _, e.2, rfl, rfl, hR1, ?_, ?_⟩
        · rw [rowV_len]
          exact ixN_nat h2
        have rw4 := rw3.set nd hr1 h2
        have k4 : ∀ b o, H' b = some o → b ≠ r1 → (upd H' r1 (.lst ((rowV n (mat ((Kzf1.net l).take i)) e.1).set e.2 (.bl true)))) b = some o := fun b o z ne => by
          rw [upd_ne ne]
          exact z
        have s4 : Same H (upd H' r1 (.lst ((rowV n (mat ((Kzf1.net l).take i)) e.1).set e.2 (.bl true)))) := same_write (hrow r1 (get_mem hr1)).1 s3
        have nr1 := get_mem hr1
        generalize upd H' r1 (.lst ((rowV n (mat ((Kzf1.net l).take i)) e.1).set e.2 (.bl true))) = H4 at rw4 k4 s4
        have eD4 := k4 _ _ eD3 (fun z => nDr (z ▸ nr1))
        have ep4 := k4 _ _ ep3 (fun z => npr (z ▸ nr1))
        have tu4 : Tups H4 as (Kzf1.net l) := tu3.keep fun c ys z => k4 _ _ z (ne_of z hR1 (by intro z; cases z))
        -- the second store
        obtain ⟨r2, hr2, hm2, hR2⟩ := rw4.get h2
        refine ⟨.ref D, rfl, vI e.2, rfl, D, _, _, _, rfl, rfl, SqL.of eD4, atI_nat hm2, vI e.1, rfl, r2, _, _, e.1, rfl, rfl, hR2, ?_, ?_⟩
        · rw [rowV_len]
          exact ixN_nat h1
        have rw5 := rw4.set nd hr2 h1
        have nr2 := get_mem hr2
        refine ⟨_, _, _, rfl, same_write (hrow r2 nr2).1 s4, ?_, ?_, ?_, rw5.congr fun x y => ?_⟩
        · rw [upd_ne (show p ≠ r2 from fun z => npr (z ▸ nr2))]
          exact ep4
        · refine tu4.keep fun c ys z => ?_
          rw [upd_ne (ne_of z hR2 (by intro z; cases z))]
          exact z
        · rw [upd_ne (show D ≠ r2 from fun z => nDr (z ▸ nr2))]
          exact eD4
        · rw [take_more he, mat_snoc, Bool.or_assoc]
          congr 1
          rw [Bool.eq_iff_iff]
          simp only [Bool.or_eq_true, Bool.and_eq_true, beq_iff_eq]
          omega
      · rintro σ H' ⟨y3, y4, y5, rfl, s3, ep3, tu3, eD3, rw3⟩
        rw [List.length_map, tu.len, List.take_length] at rw3
        exact ⟨.ref D, rfl, q H' D s3 ⟨rows, eD3, rw3⟩⟩
end
end Gc
namespace Gc
open PySem PySem.Spec PyProof.Rows L2
/-! ### members -/
theorem sc_members : FnScope ["group", "many", "guest"] ["group", "many"] (defScope s_members) := ⟨rfl, rfl, rfl, by decide +kernel, rfl, by decide +kernel, by decide +kernel⟩
def sp_members : Sp := fun vs H Q _ => ∃ m n : Nat, vs = [vI m, vI n] ∧ n ≤ 8 ∧ ∀ H' p, Same H H' → H' p = some (.lst ((mem n m).map vI)) → Q (.ref p) H'
theorem walk_nats {n : Nat} : Walk (Itr 0 n) (List.range n).length (fun _ => True) (YAt ((List.range n).map vI)) := by
  rw [List.length_range]
  refine walk_range.mono (fun _ z => z) fun i H x H' hi _ y => ?_
  obtain ⟨e1, e2⟩ := y
  refine ⟨e1, ?_⟩
  rw [List.getElem?_map, List.getElem?_range hi, e2]
  show some (V.int (i : Int)) = some (V.int (0 + (i : Int)))
  rw [Int.zero_add]
section
variable {P : Program} {w : World} {K : PySem.W.Frag} {mg : Str → Option Value} {base : Heap}
theorem ok_members {f : Addr} {fd : FuncData} {k : Nat} (F : Fun K "members" "members" s_members f fd) (mr : mg "range" = none) : FnOk P w K mg base CX0 (k + 1) f fd ["group", "many"] sp_members := by
  refine F.ok sc_members (fun vs H Q E h => ?_) (fun cdv A outer s H vs Q E hr h => ?_)
  · obtain ⟨m, n, rfl, _⟩ := h
    rfl
  · obtain ⟨m, n, rfl, hn, q⟩ := h
    refine ⟨_, pss_one (ps_ret (pe_lc (own := [("guest", 2)]) (g := gName 2) rfl sc_members.nd (pi_range1 (by rfl) mr (pa_cons (pv 1) pa_nil)) (blkOk_by (N := ["group", "many", "guest"]) (sc := defScope s_members) (by decide +kernel))
      (fun _ _ _ _ _ => pg_name (i := 2) sc_members.nd rfl (Or.inl rfl))
      (fun _ _ _ _ _ => pts_one (pt_cmpR op_eq (pe_op op_odd (pe_op op_shrN (pv 0) (pv 2)) pe_int) pe_int (nomark _)))
      (fun _ _ _ _ _ => pv 2))), ?_⟩
    refine ⟨vI n, rfl, (n : Int), rfl, by omega, by omega, fun D nD => ?_⟩
    rw [Int.toNat_natCast]
    refine lc_filt (xs := List.range n) walk_nats (Kzf1.has m) nD (fun _ _ => trivial) ?_ (fun _ => rfl) (fun _ => rfl) (fun x hx H2 s2 R hR => ?_) (fun H' s' e => q H' D s' e)
    · rw [List.length_range]
      exact small1000 (by omega)
    · refine ⟨vI m, rfl, vI x, rfl, (m : Int), x, rfl, rfl, m / 2 ^ x, ?_, rfl, rfl, _, rfl, ?_⟩
      · show V.int ((m : Int) / 2 ^ x) = V.int ((m / 2 ^ x : Nat) : Int)
        congr 1
      · have e : decide (V.int ((m / 2 ^ x % 2 : Nat) : Int) = V.int 1) = Kzf1.has m x := by
          rw [← has_bit]
          exact decide_eq_decide.mpr ⟨fun z => V.int.inj z, fun z => congrArg _ z⟩
        rw [e]
        exact hR H2 (Same.refl _)
end
end Gc
namespace Gc
open PySem PySem.Spec PyProof.Rows L2
/-! ### all_groups -/
theorem sc_all_groups : FnScope ["many"] ["many"] (defScope s_all_groups) := ⟨rfl, rfl, rfl, by decide +kernel, rfl, by decide +kernel, by decide +kernel⟩
def sp_all_groups : Sp := fun vs H Q _ => ∃ n : Nat, vs = [vI n] ∧ n ≤ 8 ∧ ∀ H' p, Same H H' → H' p = some (.lst ((List.range (2 ^ n)).map vI)) → Q (.ref p) H'
theorem rg_nats (n : Nat) : rgV 0 (n : Int) = (List.range n).map vI := by
  unfold rgV
  rw [show ((n : Int) - 0).toNat = n by omega]
  exact List.map_congr_left fun i _ => by
    show V.int (0 + (i : Int)) = V.int (i : Int)
    rw [Int.zero_add]
theorem pow_le {n : Nat} (h : n ≤ 8) : 2 ^ n ≤ 256 := Nat.pow_le_pow_right (by decide) h
section
variable {P : Program} {w : World} {K : PySem.W.Frag} {mg : Str → Option Value} {base : Heap}
theorem ok_all_groups {f : Addr} {fd : FuncData} {k : Nat} (F : Fun K "all_groups" "all_groups" s_all_groups f fd) (mr : mg "range" = none) (ml : mg "list" = none) : FnOk P w K mg base CX0 (k + 1) f fd ["many"] sp_all_groups := by
  refine F.ok sc_all_groups (fun vs H Q E h => ?_) (fun cdv A outer s H vs Q E hr h => ?_)
  · obtain ⟨n, rfl, _⟩ := h
    rfl
  · obtain ⟨n, rfl, hn, q⟩ := h
    refine ⟨_, pss_one (ps_ret (pe_listRg rfl (by rfl) ml (prg_1 (by rfl) mr (pe_op op_oneShl pe_int (pv 0))))), ?_⟩
    have hp := pow_le hn
    have e : (2 : Int) ^ n = ((2 ^ n : Nat) : Int) := by simp
    refine ⟨vI n, rfl, n, rfl, rfl, by omega, _, rfl, ?_, fun p np => ?_⟩
    · rw [e]
      generalize 2 ^ n = z at hp
      exact RgOk.of_le (by omega) (by omega) (by omega) (by omega)
    · refine q _ p (same_upd np) ?_
      rw [upd_same, e, rg_nats]
end
end Gc
namespace Gc
open PySem PySem.Spec PyProof.Rows L2
/-! ### pairs_in -/
theorem sc_pairs_in : FnScope ["some", "found", "place", "one", "other"] ["some"] (defScope s_pairs_in) := ⟨rfl, rfl, rfl, by decide +kernel, rfl, by decide +kernel, by decide +kernel⟩
def sp_pairs_in (K : PySem.W.Frag) : Sp := fun vs H Q _ => ∃ (a : Addr) (xs : List Nat), vs = [.ref a] ∧ SqL K H a (xs.map vI) ∧ xs.length ≤ 8 ∧ ∀ H' p, Same H H' → PrsAt H' p (pairsIn xs) → Q (.ref p) H'
/-- xs[j:] -/
theorem cut_nat (xs : List V) (j : Nat) : cutV xs (some (j : Int)) none = xs.drop j := by
  unfold cutV
  rw [HT.sIx_nat, HT.sIx_none]
  by_cases h : j ≤ xs.length
  · rw [Nat.min_eq_left h]
    exact List.take_of_length_le (by rw [List.length_drop]; exact Nat.le_refl _)
  · rw [Nat.min_eq_right (by omega), List.drop_of_length_le (Nat.le_refl _), List.drop_of_length_le (by omega)]
    simp
section
variable {P : Program} {w : World} {K : PySem.W.Frag} {mg : Str → Option Value} {base : Heap}
theorem ok_pairs_in {f : Addr} {fd : FuncData} {k : Nat} (F : Fun K "pairs_in" "pairs_in" s_pairs_in f fd) (me : mg "enumerate" = none) : FnOk P w K mg base CX0 (k + 1) f fd ["some"] (sp_pairs_in K) := by
  refine F.ok sc_pairs_in (fun vs H Q E h => ?_) (fun cdv A outer s H vs Q E hr h => ?_)
  · obtain ⟨a, xs, rfl, _⟩ := h
    rfl
  · obtain ⟨a, xs, rfl, hS, hx, q⟩ := h
    refine ⟨_, pss_cons (ps_set (i := 1) sc_pairs_in.nd rfl (.inl rfl) (pe_lst pa_nil))
      (pss_cons (ps_for PassesOwn.never rfl (pi_enum (by rfl) me (pa_cons (pv 0) pa_nil))
          (pg_tup rfl (pgs_cons (pg_name (i := 2) sc_pairs_in.nd rfl (.inl rfl)) (pgs_cons (pg_name (i := 3) sc_pairs_in.nd rfl (.inr rfl)) pgs_nil)))
        (pss_one (ps_expr (pe_bm PySem.F.plainAttrs_list PySem.F.slot_list_extend PySem.F.type_list_extend mt_extend (pv 1) (pa_cons
          (pe_lc (own := [("other", 4)]) (g := gName 4) rfl sc_pairs_in.nd (pi_list (pe_slice sl_list (pv 0) (po_some (pe_op op_add (pv 2) pe_int)) po_none)) (blkOk_by (N := ["some", "found", "place", "one", "other"]) (sc := defScope s_pairs_in) (by decide +kernel))
            (fun _ _ _ _ _ => pg_name (i := 4) sc_pairs_in.nd rfl (Or.inl rfl))
            (fun _ _ _ _ _ => pts_nil)
            (fun _ _ _ _ _ => pe_tup (pa_cons (pv 3) (pa_cons (pv 4) pa_nil)))) pa_nil)))))
      (pss_one (ps_ret (pv 1)))), ?_⟩
    -- the new empty list
    refine ⟨Nat.zero_le _, fun o no => ?_⟩
    have s1 : Same H (upd H o (.lst [])) := same_upd no
    refine ⟨.ref a, rfl, a, xs.map vI, rfl, s1.seq hS, ?_⟩
    refine for_it (walk_enum (xs := xs.map vI)) (fun i σ H' => ∃ y2 y3 y4, σ = [some (.ref a), some (.ref o), y2, y3, y4] ∧ Same H H' ∧ PrsAt H' o (pairsTo xs i))
      ⟨none, none, none, rfl, s1, [], upd_same, trivial⟩ (fun i σ H' _ ⟨_, _, _, _, s5, _⟩ => s5.seq hS) ?_ ?_
    · rintro i v σ H2 H2' hi ⟨y2, y3, y4, rfl, s2, as, eo, tu⟩ ⟨T, v1, v2, rfl, nT, rfl, e1, e2⟩
      obtain ⟨x, hxi, rfl⟩ := map_get e2
      obtain rfl : V.int (i : Int) = v1 := Option.some.inj e1
      have s3 : Same H2 (upd H2 T (.tup [.int (i : Int), vI x])) := same_upd nT
      -- the two names of a turn
      refine ⟨T, _, rfl, SqT.of upd_same, rfl, _, _, rfl, _, _, rfl, rfl, ?_⟩
      -- the list is lengthened by a comprehension's
      generalize upd H2 T (.tup [.int (i : Int), vI x]) = H3 at s3
      refine ⟨.ref o, rfl, .inl ⟨rfl, _, SqL.of (s3 _ _ eo)⟩, .ref a, rfl, .int (i : Int), rfl, _, _, rfl, rfl, _, rfl, a, xs.map vI, rfl, (s2.trans s3).seq hS, fun c nc => ?_⟩
      have ec : cutV (xs.map vI) (some ((i : Int) + 1)) none = (xs.drop (i + 1)).map vI := by
        rw [show (i : Int) + 1 = ((i + 1 : Nat) : Int) by omega, cut_nat, List.map_drop]
      rw [ec]
      have s4 : Same H3 (upd H3 c (.lst ((xs.drop (i + 1)).map vI))) := same_upd nc
      have hc4 : (upd H3 c (.lst ((xs.drop (i + 1)).map vI))) c = some (.lst ((xs.drop (i + 1)).map vI)) := upd_same
      generalize upd H3 c (.lst ((xs.drop (i + 1)).map vI)) = H4 at s4 hc4
      have s04 : Same H H4 := s2.trans (s3.trans s4)
      have eo4 := s4 _ _ (s3 _ _ eo)
      have tu4 := (tu.same s3).same s4
      refine ⟨c, rfl, ⟨_, SqL.of hc4⟩, fun D nD => ?_⟩
      refine lc_it (walk_list (xs := (xs.drop (i + 1)).map vI)) (fun j H' => Same H4 H' ∧ PrsAt H' D (((xs.drop (i + 1)).take j).map fun b => (x, b))) ⟨same_upd nD, [], upd_same, trivial⟩ (fun j H' _ p => SqL.of (p.1 _ _ hc4)) ?_ ?_
      · rintro j v H5 H5' hj ⟨s5, bs, e5, t5⟩ ⟨rfl, hv⟩
        obtain ⟨b, hb, rfl⟩ := map_get hv
        refine ⟨rfl, yes_if ?_⟩
        refine ⟨vI x, rfl, vI b, rfl, (by show 2 ≤ sizeLine; decide), fun T' nT' => ?_⟩
        have s6 : Same H5' (upd H5' T' (.tup [vI x, vI b])) := same_upd nT'
        refine ⟨_, s6 _ _ e5, ?_, same_write nD (s5.trans s6), bs ++ [T'], ?_, ?_⟩
        · rw [List.length_map, t5.len, List.length_map]
          have := List.length_take_le j (xs.drop (i + 1))
          rw [List.length_map, List.length_drop] at hj
          exact small1000 (by omega)
        · rw [upd_same, List.map_append]
          rfl
        · rw [take_more hb, List.map_append]
          refine Tups.keep (fun c' ys e => ?_) (Tups.app (H := upd H5' T' (.tup [vI x, vI b])) (bs := [T']) (fs := [(x, b)]) ⟨upd_same, trivial⟩ (t5.same s6))
          rw [upd_ne (ne_of e (s6 _ _ e5) (by intro z; cases z))]
          exact e
      · rintro H5 ⟨s5, bs, e5, t5⟩
        rw [List.length_map, List.take_length] at t5
        refine ⟨o, D, _, _, rfl, rfl, s5 _ _ eo4, e5, ?_, some (.int (i : Int)), some (vI x), y4, rfl, same_write no (s04.trans s5), as ++ bs, ?_, ?_⟩
        · have h1 := pairsTo_len xs i
          rw [List.length_map, List.length_map, tu.len, t5.len, List.length_map, List.length_drop]
          rw [List.length_map] at hi
          have h2 : i * xs.length ≤ 8 * 8 := Nat.mul_le_mul (by omega) hx
          exact Nat.le_of_lt (small1000 (by omega))
        · rw [upd_same, List.map_append]
        · rw [pairsTo_more hxi]
          refine Tups.keep (fun c' ys e => ?_) (Tups.app t5 (tu4.same s5))
          rw [upd_ne (ne_of e (s5 _ _ eo4) (by intro z; cases z))]
          exact e
    · rintro σ H' ⟨y2, y3, y4, rfl, s5, p5⟩
      rw [List.length_map, pairsTo_all] at p5
      exact ⟨.ref o, rfl, q H' o s5 p5⟩
end
end Gc
namespace Gc
open PySem PySem.Spec PyProof.Rows L2
/-! ### known_pairs -/
theorem sc_known_pairs : FnScope ["knows", "group", "some", "one", "other"] ["knows", "group"] (defScope s_known_pairs) := ⟨rfl, rfl, rfl, by decide +kernel, rfl, by decide +kernel, by decide +kernel⟩
def sp_known_pairs : Sp := fun vs H Q _ => ∃ (D : Addr) (n m : Nat) (M : Nat → Nat → Bool), vs = [.ref D, vI m] ∧ MatAt H D n M ∧ n ≤ 8 ∧ ∀ H', Same H H' → Q (vI (known n M m)) H'
theorem ref_get {as : List Addr} {i : Nat} {v : V} (h : (as.map V.ref)[i]? = some v) : ∃ t, as[i]? = some t ∧ v = V.ref t := by
  rw [List.getElem?_map] at h
  cases e : as[i]? with
  | none =>
    rw [e] at h
    cases h
  | some t =>
    rw [e] at h
    exact ⟨t, rfl, (Option.some.inj h).symm⟩
theorem MatAt.len {H : Hp} {D : Addr} {n : Nat} {M : Nat → Nat → Bool} (t : MatAt H D n M) : ∃ ys : List V, H D = some (.lst ys) ∧ V.int (ys.length : Int) = vI n := by
  obtain ⟨rows, h, l, _⟩ := t
  exact ⟨_, h, by rw [List.length_map, l]; rfl⟩
theorem MatAt.get {H : Hp} {D : Addr} {n : Nat} {M : Nat → Nat → Bool} (t : MatAt H D n M) {i j : Nat} (hi : i < n) (hj : j < n) :
    ∃ (ys zs : List V) (r : Addr), H D = some (.lst ys) ∧ atI ys (i : Int) = some (.ref r) ∧ H r = some (.lst zs) ∧ atI zs (j : Int) = some (.bl (M i j)) := by
  obtain ⟨rows, h, hr⟩ := t
  obtain ⟨r, _, h2, h3⟩ := hr.get hi
  exact ⟨_, _, r, h, atI_nat h2, h3, atI_nat (rowV_get M i hj)⟩
section
variable {P : Program} {w : World} {K : PySem.W.Frag} {mg : Str → Option Value} {base : Heap}
theorem ok_known_pairs {f : Addr} {fd : FuncData} (F : Fun K "known_pairs" "known_pairs" s_known_pairs f fd) (C1 : Own P w K mg base 1 "members" ["group", "many"] sp_members) (C2 : Own P w K mg base 1 "pairs_in" ["some"] (sp_pairs_in K)) (ml : mg "len" = none) :
    FnOk P w K mg base CX0 2 f fd ["knows", "group"] sp_known_pairs := by
  refine F.ok sc_known_pairs (fun vs H Q E h => ?_) (fun cdv A outer s H vs Q E hr h => ?_)
  · obtain ⟨D, n, m, M, rfl, _⟩ := h
    rfl
  · obtain ⟨D, n, m, M, rfl, hM, hn, q⟩ := h
    refine ⟨_, pss_cons (ps_set (i := 2) sc_known_pairs.nd rfl (.inl rfl) (pe_own C1 hr (by decide) (by rfl) (pa_cons (pv 1) (pa_cons (pe_callB call_len_seq (by rfl) ml PySem.boot_len (pa_cons (pv 0) pa_nil)) pa_nil))))
      (pss_one (ps_ret (pe_callB call_len_seq (by rfl) ml PySem.boot_len (pa_cons
        (pe_lc (own := [("one", 3), ("other", 4)]) (g := gTup K 2 (gCons (gName 3) (gCons (gName 4) gNil))) rfl sc_known_pairs.nd (pi_list (pe_own C2 hr (by decide) (by rfl) (pa_cons (pv 2) pa_nil))) (blkOk_by (N := ["knows", "group", "some", "one", "other"]) (sc := defScope s_known_pairs) (by decide +kernel))
          (fun _ _ _ _ _ => pg_tup rfl (pgs_cons (pg_name (i := 3) sc_known_pairs.nd rfl (Or.inl rfl)) (pgs_cons (pg_name (i := 4) sc_known_pairs.nd rfl (Or.inl rfl)) pgs_nil)))
          (fun _ _ _ _ _ => pts_one (pt_val (pe_ix (r := rIxL K) ix_list (pe_ix (r := rIxL K) ix_list (pv 0) (pv 3) (fun _ _ => rfl)) (pv 4) (fun _ _ => rfl))))
          (fun _ _ _ _ _ => pe_int)) pa_nil)))), ?_⟩
    obtain ⟨ys, eD, en⟩ := hM.len
    refine ⟨vI m, rfl, .ref D, rfl, D, ys, rfl, .inl (SqL.of eD), m, n, ?_, hn, fun H1 p s1 ep => ?_⟩
    · rw [en]
      rfl
    -- the pairs of the members
    refine ⟨.ref p, rfl, p, mem n m, rfl, SqL.of ep, Nat.le_trans (mem_len n m) hn, fun H2 p2 s2 pr => ?_⟩
    obtain ⟨as, ep2, tu⟩ := pr
    refine ⟨p2, rfl, ⟨_, SqL.of ep2⟩, fun L nL => ?_⟩
    have hM2 := (hM.same s1).same s2
    refine lc_list (K := K) (a := p2) (xs := as.map V.ref) (fun i H' => Same H2 H' ∧ H' L = some (.lst ((((pairsIn (mem n m)).take i).filter fun e => M e.1 e.2).map fun _ => V.int 1))) ⟨same_upd nL, upd_same⟩ (fun i H' _ p => SqL.of (p.1 _ _ ep2)) ?_ ?_
    · rintro i v H3 hv ⟨s3, e3⟩
      obtain ⟨t, ht, rfl⟩ := ref_get hv
      obtain ⟨e, he, hT⟩ := tu.get ht
      obtain ⟨l1, l2, _⟩ := pairsIn_lt (get_mem he)
      obtain ⟨ys3, zs3, r3, h1, h2, h3, h4⟩ := (hM2.same s3).get (M := M) l1 l2
      refine ⟨t, _, rfl, SqT.of (s3 _ _ hT), rfl, _, _, rfl, _, _, rfl, rfl, rfl, ?_⟩
      refine ⟨.ref D, rfl, vI e.1, rfl, D, ys3, _, _, rfl, rfl, SqL.of h1, h2, vI e.2, rfl, r3, zs3, _, _, rfl, rfl, SqL.of h3, h4, _, rfl, ?_⟩
      have em := filter_more (fun e : Nat × Nat => M e.1 e.2) he
      cases hf : M e.1 e.2 with
      | true =>
        rw [hf] at em
        refine iteT ⟨_, e3, ?_, same_write nL s3, ?_⟩
        · rw [List.length_map]
          have h5 := List.length_filter_le (fun e : Nat × Nat => M e.1 e.2) ((pairsIn (mem n m)).take i)
          have h6 := List.length_take_le' i (pairsIn (mem n m))
          have h7 := pairsIn_len (mem n m)
          have h8 : (mem n m).length * (mem n m).length ≤ 8 * 8 := Nat.mul_le_mul (Nat.le_trans (mem_len n m) hn) (Nat.le_trans (mem_len n m) hn)
          exact small1000 (by omega)
        · rw [upd_same, em, List.map_append]
          rfl
      | false =>
        rw [hf] at em
        refine iteF ⟨s3, ?_⟩
        rw [e3, em]
        simp
    · rintro H3 ⟨s3, e3⟩
      rw [List.length_map, tu.len, List.take_length] at e3
      refine ⟨L, _, rfl, .inl (SqL.of e3), ?_⟩
      rw [List.length_map]
      exact q H3 (s1.trans (s2.trans s3))
end
end Gc
namespace Gc
open PySem PySem.Spec PyProof.Rows L2
/-! ### are_strangers -/
theorem sc_are_strangers : FnScope ["knows", "group"] ["knows", "group"] (defScope s_are_strangers) := ⟨rfl, rfl, rfl, by decide +kernel, rfl, by decide +kernel, by decide +kernel⟩
def sp_are_strangers : Sp := fun vs H Q _ => ∃ (D : Addr) (n m : Nat) (M : Nat → Nat → Bool), vs = [.ref D, vI m] ∧ MatAt H D n M ∧ n ≤ 8 ∧ ∀ H', Same H H' → Q (.bl (decide (known n M m = 0))) H'
section
variable {P : Program} {w : World} {K : PySem.W.Frag} {mg : Str → Option Value} {base : Heap}
theorem ok_are_strangers {f : Addr} {fd : FuncData} (F : Fun K "are_strangers" "are_strangers" s_are_strangers f fd) (C1 : Own P w K mg base 2 "known_pairs" ["knows", "group"] sp_known_pairs) :
    FnOk P w K mg base CX0 3 f fd ["knows", "group"] sp_are_strangers := by
  refine F.ok sc_are_strangers (fun vs H Q E h => ?_) (fun cdv A outer s H vs Q E hr h => ?_)
  · obtain ⟨D, n, m, M, rfl, _⟩ := h
    rfl
  · obtain ⟨D, n, m, M, rfl, hM, hn, q⟩ := h
    refine ⟨_, pss_one (ps_ret (pe_cmpR op_eq (pe_own C1 hr (by decide) (by rfl) (pa_cons (pv 0) (pa_cons (pv 1) pa_nil))) pe_int (nomark _))), ?_⟩
    refine ⟨.ref D, rfl, vI m, rfl, D, n, m, M, rfl, hM, hn, fun H1 s1 => ⟨rfl, ?_⟩⟩
    have e : decide (vI (known n M m) = V.int 0) = decide (known n M m = 0) := dec_nat _ 0
    show Q (.bl (decide (vI (known n M m) = V.int 0))) H1
    rw [e]
    exact q H1 s1
end
end Gc
namespace Gc
open PySem PySem.Spec PyProof.Rows L2
/-! ### largest -/
theorem sc_largest : FnScope ["groups", "many", "found", "group"] ["groups", "many"] (defScope s_largest) := ⟨rfl, rfl, rfl, by decide +kernel, rfl, by decide +kernel, by decide +kernel⟩
def sp_largest (K : PySem.W.Frag) : Sp := fun vs H Q _ => ∃ (a : Addr) (n g : Nat) (gs : List Nat), vs = [.ref a, vI n] ∧ SqL K H a ((g :: gs).map vI) ∧ n ≤ 8 ∧
  ∀ H' p, Same H H' → H' p = some (.lst [vI (mem n (best n g gs)).length, vI (best n g gs)]) → Q (.ref p) H'
theorem best_more {n g : Nat} {gs : List Nat} {i x : Nat} (h : gs[i]? = some x) : best n g (gs.take (i + 1)) = larger n (best n g (gs.take i)) x := by
  unfold best
  rw [take_more h, List.foldl_append]
  rfl
section
variable {P : Program} {w : World} {K : PySem.W.Frag} {mg : Str → Option Value} {base : Heap}
theorem ok_largest {f : Addr} {fd : FuncData} (F : Fun K "largest" "largest" s_largest f fd) (C1 : Own P w K mg base 1 "members" ["group", "many"] sp_members) (ml : mg "len" = none) :
    FnOk P w K mg base CX0 2 f fd ["groups", "many"] (sp_largest K) := by
  refine F.ok sc_largest (fun vs H Q E h => ?_) (fun cdv A outer s H vs Q E hr h => ?_)
  · obtain ⟨a, n, g, gs, rfl, _⟩ := h
    rfl
  · obtain ⟨a, n, g, gs, rfl, hS, hn, q⟩ := h
    refine ⟨_, pss_cons (ps_set (i := 2) sc_largest.nd rfl (.inl rfl) (pe_ix ix_list (pv 0) pe_int (fun _ _ => rfl)))
      (pss_cons (ps_for PassesOwn.never rfl (pi_list (pe_slice sl_list (pv 0) (po_some pe_int) po_none)) (pg_name (i := 3) sc_largest.nd rfl (.inl rfl))
        (pss_one (ps_if (pt_cmpR op_gt
            (pe_callB call_len_seq (by rfl) ml PySem.boot_len (pa_cons (pe_own C1 hr (by decide) (by rfl) (pa_cons (pv 3) (pa_cons (pv 1) pa_nil))) pa_nil))
            (pe_callB call_len_seq (by rfl) ml PySem.boot_len (pa_cons (pe_own C1 hr (by decide) (by rfl) (pa_cons (pv 2) (pa_cons (pv 1) pa_nil))) pa_nil)) (nomark _))
          (pss_one (ps_set (i := 2) sc_largest.nd rfl (.inl rfl) (pv 3))) pss_nil)))
      (pss_one (ps_ret (pe_lst (pa_cons (pe_callB call_len_seq (by rfl) ml PySem.boot_len (pa_cons (pe_own C1 hr (by decide) (by rfl) (pa_cons (pv 2) (pa_cons (pv 1) pa_nil))) pa_nil)) (pa_cons (pv 2) pa_nil)))))), ?_⟩
    -- the first of the list
    refine ⟨.ref a, rfl, a, _, 0, vI g, rfl, rfl, hS, atI_nat (j := 0) rfl, ?_⟩
    -- the rest of it
    refine ⟨.ref a, rfl, 1, rfl, a, _, rfl, hS, fun c nc => ?_⟩
    have ec : cutV ((g :: gs).map vI) (some 1) none = gs.map vI := cut_nat _ 1
    rw [ec]
    have s1 : Same H (upd H c (.lst (gs.map vI))) := same_upd nc
    have hc : (upd H c (.lst (gs.map vI))) c = some (.lst (gs.map vI)) := upd_same
    generalize upd H c (.lst (gs.map vI)) = H1 at s1 hc
    refine ⟨c, rfl, ⟨_, SqL.of hc⟩, ?_⟩
    refine for_list (K := K) (a := c) (xs := gs.map vI) (fun i σ H' => ∃ y3, σ = [some (.ref a), some (vI n), some (vI (best n g (gs.take i))), y3] ∧ Same H1 H')
      ⟨none, rfl, Same.refl _⟩ (fun i σ H' _ ⟨_, _, s⟩ => SqL.of (s _ _ hc)) ?_ ?_
    · rintro i v σ H2 hv ⟨y3, rfl, s2⟩
      obtain ⟨x, hx, rfl⟩ := map_get hv
      have bm := best_more (n := n) (g := g) hx
      generalize best n g (gs.take i) = b at bm
      refine ⟨vI x, rfl, vI n, rfl, x, n, rfl, hn, fun H3 p3 s3 e3 => ⟨p3, _, rfl, .inl (SqL.of e3), ?_⟩⟩
      refine ⟨vI b, rfl, vI n, rfl, b, n, rfl, hn, fun H4 p4 s4 e4 => ⟨p4, _, rfl, .inl (SqL.of e4), _, _, rfl, rfl, _, rfl, ?_⟩⟩
      rw [List.length_map, List.length_map]
      have s14 := s2.trans (s3.trans s4)
      unfold larger at bm
      by_cases hlt : (mem n b).length < (mem n x).length
      · rw [if_pos hlt] at bm
        rw [decide_eq_true (show ((mem n b).length : Int) < ((mem n x).length : Int) by omega)]
        refine iteT ⟨vI x, rfl, ⟨some (vI x), ?_, s14⟩⟩
        rw [bm]
        rfl
      · rw [if_neg hlt] at bm
        rw [decide_eq_false (show ¬ ((mem n b).length : Int) < ((mem n x).length : Int) by omega)]
        refine iteF ⟨some (vI x), ?_, s14⟩
        rw [bm]
        rfl
    · rintro σ H2 ⟨y3, rfl, s2⟩
      rw [List.length_map, List.take_length]
      refine ⟨vI (best n g gs), rfl, vI n, rfl, best n g gs, n, rfl, hn, fun H3 p3 s3 e3 => ⟨p3, _, rfl, .inl (SqL.of e3), vI (best n g gs), rfl, (by show 2 ≤ sizeLine; decide), fun p np => ?_⟩⟩
      refine q _ p (s1.trans (s2.trans (s3.trans (same_upd np)))) ?_
      rw [upd_same, List.length_map]
      rfl
end
end Gc
namespace Gc
open PySem PySem.Spec PyProof.Rows L2
/-! ### all_strangers -/
theorem sc_all_strangers : FnScope ["knows", "group"] ["knows"] (defScope s_all_strangers) := ⟨rfl, rfl, rfl, by decide +kernel, rfl, by decide +kernel, by decide +kernel⟩
def sp_all_strangers : Sp := fun vs H Q _ => ∃ (D : Addr) (n : Nat) (M : Nat → Nat → Bool), vs = [.ref D] ∧ MatAt H D n M ∧ n ≤ 8 ∧
  ∀ H' p, Same H H' → H' p = some (.lst (((List.range (2 ^ n)).filter fun m => decide (known n M m = 0)).map vI)) → Q (.ref p) H'
section
variable {P : Program} {w : World} {K : PySem.W.Frag} {mg : Str → Option Value} {base : Heap}
theorem ok_all_strangers {f : Addr} {fd : FuncData} (F : Fun K "all_strangers" "all_strangers" s_all_strangers f fd) (C1 : Own P w K mg base 1 "all_groups" ["many"] sp_all_groups) (C2 : Own P w K mg base 3 "are_strangers" ["knows", "group"] sp_are_strangers) (ml : mg "len" = none) :
    FnOk P w K mg base CX0 4 f fd ["knows"] sp_all_strangers := by
  refine F.ok sc_all_strangers (fun vs H Q E h => ?_) (fun cdv A outer s H vs Q E hr h => ?_)
  · obtain ⟨D, n, M, rfl, _⟩ := h
    rfl
  · obtain ⟨D, n, M, rfl, hM, hn, q⟩ := h
    refine ⟨_, pss_one (ps_ret (pe_lc (own := [("group", 1)]) (g := gName 1) rfl sc_all_strangers.nd (pi_list (pe_own C1 hr (by decide) (by rfl) (pa_cons (pe_callB call_len_seq (by rfl) ml PySem.boot_len (pa_cons (pv 0) pa_nil)) pa_nil))) (blkOk_by (N := ["knows", "group"]) (sc := defScope s_all_strangers) (by decide +kernel))
      (fun _ _ _ _ _ => pg_name (i := 1) sc_all_strangers.nd rfl (Or.inl rfl))
      (fun _ _ _ _ _ => pts_one (pt_val (pe_own C2 hr (by decide) (by rfl) (pa_cons (pv 0) (pa_cons (pv 1) pa_nil)))))
      (fun _ _ _ _ _ => pv 1))), ?_⟩
    obtain ⟨ys, eD, en⟩ := hM.len
    refine ⟨.ref D, rfl, D, ys, rfl, .inl (SqL.of eD), n, ?_, hn, fun H1 p s1 ep => ?_⟩
    · rw [en]
      rfl
    refine ⟨p, rfl, ⟨_, SqL.of ep⟩, fun L nL => ?_⟩
    refine lc_filt (xs := List.range (2 ^ n)) (walk_vI (K := K)) (fun m => decide (known n M m = 0)) nL (fun H' s' => SqL.of (s' _ _ ep)) ?_ (fun _ => rfl) (fun _ => rfl) (fun x hx H2 s2 R hR => ?_) (fun H' s' e => q H' L (s1.trans s') e)
    · rw [List.length_range]
      exact small1000 (Nat.le_trans (pow_le hn) (by decide))
    · exact ⟨.ref D, rfl, vI x, rfl, D, n, x, M, rfl, (hM.same s1).same s2, hn, fun H3 s3 => ⟨_, rfl, hR H3 s3⟩⟩
end
end Gc
namespace Gc
open PySem PySem.Spec PyProof.Rows L2
/-! ### strange -/
theorem sc_strange : FnScope ["n", "pairs"] ["n", "pairs"] (defScope s_strange) := ⟨rfl, rfl, rfl, by decide +kernel, rfl, by decide +kernel, by decide +kernel⟩
def sp_strange (K : PySem.W.Frag) : Sp := fun vs H Q _ => ∃ (a : Addr) (n : Int) (ns : List Int), vs = [.int n, .ref a] ∧ SqL K H a (ns.map V.int) ∧ 0 ≤ n ∧ ns.length ≤ 60 ∧ (∀ x ∈ ns, 0 ≤ x) ∧
  ∀ H' p, H' p = some (.lst ((PyKzf3.strange n ns).map V.int)) → Q (.ref p) H'
theorem due_strange_no {n : Int} {ns : List Int} (h : Kzf1.good n.toNat (ns.map Int.toNat) = false) : PyKzf3.strange n ns = [-22] := by
  show (let a := Kzf3.answer (.strange n.toNat (ns.map Int.toNat)); a.value :: Kzf3Neutral.ints a.nums) = [-22]
  have e : Kzf3.answer (.strange n.toNat (ns.map Int.toNat)) = Kzf1.say (-22) := if_pos h
  rw [e]
  rfl
theorem due_strange_yes {n : Int} {ns : List Int} (h : Kzf1.good n.toNat (ns.map Int.toNat) = true) :
    PyKzf3.strange n ns = [((mem n.toNat (Kzf3.strange n.toNat (Kzf1.net (ns.map Int.toNat)))).length : Int), (Kzf3.strange n.toNat (Kzf1.net (ns.map Int.toNat)) : Int)] := by
  show (let a := Kzf3.answer (.strange n.toNat (ns.map Int.toNat)); a.value :: Kzf3Neutral.ints a.nums) = _
  have e : Kzf3.answer (.strange n.toNat (ns.map Int.toNat)) = ⟨(Kzf3.size n.toNat (Kzf3.strange n.toNat (Kzf1.net (ns.map Int.toNat))) : Nat), [Kzf3.strange n.toNat (Kzf1.net (ns.map Int.toNat))]⟩ :=
    if_neg (show ¬ Kzf1.good n.toNat (ns.map Int.toNat) = false by rw [h]; decide)
  rw [e]
  rfl
section
variable {P : Program} {w : World} {K : PySem.W.Frag} {mg : Str → Option Value} {base : Heap}
theorem ok_strange {f : Addr} {fd : FuncData} (F : Fun K "strange" "strange" s_strange f fd) (C1 : Own P w K mg base 2 "are_told" ["many", "numbers"] (sp_are_told K)) (C2 : Own P w K mg base 2 "knowing" ["many", "numbers"] (sp_knowing K))
    (C3 : Own P w K mg base 4 "all_strangers" ["knows"] sp_all_strangers) (C4 : Own P w K mg base 2 "largest" ["groups", "many"] (sp_largest K)) {tW : Tok} (mW : mg "WRONG" = some (.int (-22) tW)) :
    FnOk P w K mg base CX0 5 f fd ["n", "pairs"] (sp_strange K) := by
  refine F.ok sc_strange (fun vs H Q E h => ?_) (fun cdv A outer s H vs Q E hr h => ?_)
  · obtain ⟨a, n, ns, rfl, _⟩ := h
    rfl
  · obtain ⟨a, n, ns, rfl, hS, h0, hl, hx, q⟩ := h
    refine ⟨_, pss_cons (ps_if (pt_not (pt_val (pe_own C1 hr (by decide) (by rfl) (pa_cons (pv 0) (pa_cons (pv 1) pa_nil)))))
        (pss_one (ps_ret (pe_lst (pa_cons (pe_glob (v := .int (-22)) (by rfl) mW ⟨_, rfl⟩) pa_nil)))) pss_nil)
      (pss_one (ps_ret (pe_own C4 hr (by decide) (by rfl) (pa_cons (pe_own C3 hr (by decide) (by rfl) (pa_cons (pe_own C2 hr (by decide) (by rfl) (pa_cons (pv 0) (pa_cons (pv 1) pa_nil))) pa_nil)) (pa_cons (pv 0) pa_nil))))), ?_⟩
    rw [nats_int hx] at hS
    have en : V.int n = vI n.toNat := by
      show V.int n = V.int ((n.toNat : Nat) : Int)
      rw [Int.toNat_of_nonneg h0]
    have hl' : (ns.map Int.toNat).length ≤ 60 := by
      rw [List.length_map]
      exact hl
    rw [en]
    refine ⟨vI n.toNat, rfl, .ref a, rfl, a, n.toNat, ns.map Int.toNat, rfl, hS, hl', fun H1 s1 => ⟨_, rfl, ?_⟩⟩
    cases hg : Kzf1.good n.toNat (ns.map Int.toNat) with
    | false =>
      have due := due_strange_no hg
      refine iteT ⟨(by show 1 ≤ sizeLine; decide), fun p np => q _ p ?_⟩
      rw [upd_same, due]
      rfl
    | true =>
      have due := due_strange_yes hg
      have hn := (of_decide_eq_true ((Bool.and_eq_true _ _).mp ((good_eq _ _).symm.trans hg)).1).2.1
      generalize ns.map Int.toNat = l at hS hl' hg due
      generalize n.toNat = m at hg due hn
      refine iteF ⟨vI m, rfl, .ref a, rfl, a, m, l, rfl, s1.seq hS, hl', hg, fun H2 D s2 hM => ?_⟩
      refine ⟨D, m, _, rfl, hM, hn, fun H3 p3 s3 e3 => ?_⟩
      have ef : (List.range (2 ^ m)).filter (fun x => decide (known m (mat (Kzf1.net l)) x = 0)) = (List.range (2 ^ m)).filter (Kzf3.noneKnow m (Kzf1.net l)) := List.filter_congr fun x _ => strange_eq hn _ x
      rw [ef] at e3
      obtain ⟨r, er, el⟩ := largest_eq m (Kzf3.noneKnow m (Kzf1.net l)) (by rw [← strange_eq hn, known_zero]; rfl)
      rw [er] at e3
      refine ⟨vI m, rfl, p3, m, 0, r, rfl, SqL.of e3, hn, fun H4 p4 s4 e4 => q H4 p4 ?_⟩
      have eb : Kzf3.strange m (Kzf1.net l) = best m 0 r := el
      rw [e4, due, eb]
      rfl
end
end Gc
namespace Gc
open PySem PySem.Spec PyProof.Rows L2
/-! ### the end: what the top has written, every address a letter -/
theorem all_mk {P : Program} {w : World} {K : PySem.W.Frag} {h : Heap} {mg : Str → Option Value} {fa : Addr} (X : K.In h) (G : h.Ns mainGlobals mg) (hfa : mg "strange" = some (.ref fa))
    {f_pairs_told : Addr} {od_pairs_told an_pairs_told : Option Addr} {sl_pairs_told : Array (Option Value)} {oc_pairs_told kV_pairs_told dc_pairs_told pm_pairs_told cd_pairs_told ct_pairs_told : Value}
    (a_pairs_told : PySem.W.nsIn K mainGlobals "pairs_told" = some (some (.ref f_pairs_told))) (l_pairs_told : K.lookup f_pairs_told = some ⟨oc_pairs_told, od_pairs_told, .func (PySem.W.fnOf "pairs_told" "pairs_told" (defArgs s_pairs_told) (defBody s_pairs_told) (defScope s_pairs_told) .none kV_pairs_told dc_pairs_told pm_pairs_told an_pairs_told cd_pairs_told ct_pairs_told), sl_pairs_told⟩) (c_pairs_told : PySem.W.codeIn K cd_pairs_told "pairs_told" = true) (k_pairs_told : PySem.W.keepIn K (.ref f_pairs_told) = true)
    {f_are_told : Addr} {od_are_told an_are_told : Option Addr} {sl_are_told : Array (Option Value)} {oc_are_told kV_are_told dc_are_told pm_are_told cd_are_told ct_are_told : Value}
    (a_are_told : PySem.W.nsIn K mainGlobals "are_told" = some (some (.ref f_are_told))) (l_are_told : K.lookup f_are_told = some ⟨oc_are_told, od_are_told, .func (PySem.W.fnOf "are_told" "are_told" (defArgs s_are_told) (defBody s_are_told) (defScope s_are_told) .none kV_are_told dc_are_told pm_are_told an_are_told cd_are_told ct_are_told), sl_are_told⟩) (c_are_told : PySem.W.codeIn K cd_are_told "are_told" = true) (k_are_told : PySem.W.keepIn K (.ref f_are_told) = true)
    {f_knowing : Addr} {od_knowing an_knowing : Option Addr} {sl_knowing : Array (Option Value)} {oc_knowing kV_knowing dc_knowing pm_knowing cd_knowing ct_knowing : Value}
    (a_knowing : PySem.W.nsIn K mainGlobals "knowing" = some (some (.ref f_knowing))) (l_knowing : K.lookup f_knowing = some ⟨oc_knowing, od_knowing, .func (PySem.W.fnOf "knowing" "knowing" (defArgs s_knowing) (defBody s_knowing) (defScope s_knowing) .none kV_knowing dc_knowing pm_knowing an_knowing cd_knowing ct_knowing), sl_knowing⟩) (c_knowing : PySem.W.codeIn K cd_knowing "knowing" = true) (k_knowing : PySem.W.keepIn K (.ref f_knowing) = true)
    {f_members : Addr} {od_members an_members : Option Addr} {sl_members : Array (Option Value)} {oc_members kV_members dc_members pm_members cd_members ct_members : Value}
    (a_members : PySem.W.nsIn K mainGlobals "members" = some (some (.ref f_members))) (l_members : K.lookup f_members = some ⟨oc_members, od_members, .func (PySem.W.fnOf "members" "members" (defArgs s_members) (defBody s_members) (defScope s_members) .none kV_members dc_members pm_members an_members cd_members ct_members), sl_members⟩) (c_members : PySem.W.codeIn K cd_members "members" = true) (k_members : PySem.W.keepIn K (.ref f_members) = true)
    {f_all_groups : Addr} {od_all_groups an_all_groups : Option Addr} {sl_all_groups : Array (Option Value)} {oc_all_groups kV_all_groups dc_all_groups pm_all_groups cd_all_groups ct_all_groups : Value}
    (a_all_groups : PySem.W.nsIn K mainGlobals "all_groups" = some (some (.ref f_all_groups))) (l_all_groups : K.lookup f_all_groups = some ⟨oc_all_groups, od_all_groups, .func (PySem.W.fnOf "all_groups" "all_groups" (defArgs s_all_groups) (defBody s_all_groups) (defScope s_all_groups) .none kV_all_groups dc_all_groups pm_all_groups an_all_groups cd_all_groups ct_all_groups), sl_all_groups⟩) (c_all_groups : PySem.W.codeIn K cd_all_groups "all_groups" = true) (k_all_groups : PySem.W.keepIn K (.ref f_all_groups) = true)
    {f_pairs_in : Addr} {od_pairs_in an_pairs_in : Option Addr} {sl_pairs_in : Array (Option Value)} {oc_pairs_in kV_pairs_in dc_pairs_in pm_pairs_in cd_pairs_in ct_pairs_in : Value}
    (a_pairs_in : PySem.W.nsIn K mainGlobals "pairs_in" = some (some (.ref f_pairs_in))) (l_pairs_in : K.lookup f_pairs_in = some ⟨oc_pairs_in, od_pairs_in, .func (PySem.W.fnOf "pairs_in" "pairs_in" (defArgs s_pairs_in) (defBody s_pairs_in) (defScope s_pairs_in) .none kV_pairs_in dc_pairs_in pm_pairs_in an_pairs_in cd_pairs_in ct_pairs_in), sl_pairs_in⟩) (c_pairs_in : PySem.W.codeIn K cd_pairs_in "pairs_in" = true) (k_pairs_in : PySem.W.keepIn K (.ref f_pairs_in) = true)
    {f_known_pairs : Addr} {od_known_pairs an_known_pairs : Option Addr} {sl_known_pairs : Array (Option Value)} {oc_known_pairs kV_known_pairs dc_known_pairs pm_known_pairs cd_known_pairs ct_known_pairs : Value}
    (a_known_pairs : PySem.W.nsIn K mainGlobals "known_pairs" = some (some (.ref f_known_pairs))) (l_known_pairs : K.lookup f_known_pairs = some ⟨oc_known_pairs, od_known_pairs, .func (PySem.W.fnOf "known_pairs" "known_pairs" (defArgs s_known_pairs) (defBody s_known_pairs) (defScope s_known_pairs) .none kV_known_pairs dc_known_pairs pm_known_pairs an_known_pairs cd_known_pairs ct_known_pairs), sl_known_pairs⟩) (c_known_pairs : PySem.W.codeIn K cd_known_pairs "known_pairs" = true) (k_known_pairs : PySem.W.keepIn K (.ref f_known_pairs) = true)
    {f_are_strangers : Addr} {od_are_strangers an_are_strangers : Option Addr} {sl_are_strangers : Array (Option Value)} {oc_are_strangers kV_are_strangers dc_are_strangers pm_are_strangers cd_are_strangers ct_are_strangers : Value}
    (a_are_strangers : PySem.W.nsIn K mainGlobals "are_strangers" = some (some (.ref f_are_strangers))) (l_are_strangers : K.lookup f_are_strangers = some ⟨oc_are_strangers, od_are_strangers, .func (PySem.W.fnOf "are_strangers" "are_strangers" (defArgs s_are_strangers) (defBody s_are_strangers) (defScope s_are_strangers) .none kV_are_strangers dc_are_strangers pm_are_strangers an_are_strangers cd_are_strangers ct_are_strangers), sl_are_strangers⟩) (c_are_strangers : PySem.W.codeIn K cd_are_strangers "are_strangers" = true) (k_are_strangers : PySem.W.keepIn K (.ref f_are_strangers) = true)
    {f_largest : Addr} {od_largest an_largest : Option Addr} {sl_largest : Array (Option Value)} {oc_largest kV_largest dc_largest pm_largest cd_largest ct_largest : Value}
    (a_largest : PySem.W.nsIn K mainGlobals "largest" = some (some (.ref f_largest))) (l_largest : K.lookup f_largest = some ⟨oc_largest, od_largest, .func (PySem.W.fnOf "largest" "largest" (defArgs s_largest) (defBody s_largest) (defScope s_largest) .none kV_largest dc_largest pm_largest an_largest cd_largest ct_largest), sl_largest⟩) (c_largest : PySem.W.codeIn K cd_largest "largest" = true) (k_largest : PySem.W.keepIn K (.ref f_largest) = true)
    {f_all_strangers : Addr} {od_all_strangers an_all_strangers : Option Addr} {sl_all_strangers : Array (Option Value)} {oc_all_strangers kV_all_strangers dc_all_strangers pm_all_strangers cd_all_strangers ct_all_strangers : Value}
    (a_all_strangers : PySem.W.nsIn K mainGlobals "all_strangers" = some (some (.ref f_all_strangers))) (l_all_strangers : K.lookup f_all_strangers = some ⟨oc_all_strangers, od_all_strangers, .func (PySem.W.fnOf "all_strangers" "all_strangers" (defArgs s_all_strangers) (defBody s_all_strangers) (defScope s_all_strangers) .none kV_all_strangers dc_all_strangers pm_all_strangers an_all_strangers cd_all_strangers ct_all_strangers), sl_all_strangers⟩) (c_all_strangers : PySem.W.codeIn K cd_all_strangers "all_strangers" = true) (k_all_strangers : PySem.W.keepIn K (.ref f_all_strangers) = true)
    {f_strange : Addr} {od_strange an_strange : Option Addr} {sl_strange : Array (Option Value)} {oc_strange kV_strange dc_strange pm_strange cd_strange ct_strange : Value}
    (a_strange : PySem.W.nsIn K mainGlobals "strange" = some (some (.ref f_strange))) (l_strange : K.lookup f_strange = some ⟨oc_strange, od_strange, .func (PySem.W.fnOf "strange" "strange" (defArgs s_strange) (defBody s_strange) (defScope s_strange) .none kV_strange dc_strange pm_strange an_strange cd_strange ct_strange), sl_strange⟩) (c_strange : PySem.W.codeIn K cd_strange "strange" = true) (k_strange : PySem.W.keepIn K (.ref f_strange) = true)
    (m_range : PySem.W.nsIn K mainGlobals "range" = some none)
    (m_len : PySem.W.nsIn K mainGlobals "len" = some none)
    {t_MOST_GUESTS : Tok} (m_MOST_GUESTS : PySem.W.nsIn K mainGlobals "MOST_GUESTS" = some (some (.int 8 t_MOST_GUESTS)))
    {t_MOST_PAIRS : Tok} (m_MOST_PAIRS : PySem.W.nsIn K mainGlobals "MOST_PAIRS" = some (some (.int 28 t_MOST_PAIRS)))
    (m_list : PySem.W.nsIn K mainGlobals "list" = some none)
    (m_enumerate : PySem.W.nsIn K mainGlobals "enumerate" = some none)
    {t_WRONG : Tok} (m_WRONG : PySem.W.nsIn K mainGlobals "WRONG" = some (some (.int (-22) t_WRONG))) :
    ∃ fd : FuncData, (∀ (s : Shared) (us : List Value), us.length = (["n", "pairs"] : List Str).length → BindsTo s fd ⟨us, []⟩ ((["n", "pairs"] : List Str).zip us)) ∧ ∀ base : Heap, K.In base → base.Ns mainGlobals mg → FnOk P w K mg base CX0 5 fa fd ["n", "pairs"] (sp_strange K) := by
  have e := hfa.symm.trans (PySem.W.mg_of X G a_strange)
  cases e
  have F_pairs_told := fun_mk (st := s_pairs_told) l_pairs_told c_pairs_told k_pairs_told
  have F_are_told := fun_mk (st := s_are_told) l_are_told c_are_told k_are_told
  have F_knowing := fun_mk (st := s_knowing) l_knowing c_knowing k_knowing
  have F_members := fun_mk (st := s_members) l_members c_members k_members
  have F_all_groups := fun_mk (st := s_all_groups) l_all_groups c_all_groups k_all_groups
  have F_pairs_in := fun_mk (st := s_pairs_in) l_pairs_in c_pairs_in k_pairs_in
  have F_known_pairs := fun_mk (st := s_known_pairs) l_known_pairs c_known_pairs k_known_pairs
  have F_are_strangers := fun_mk (st := s_are_strangers) l_are_strangers c_are_strangers k_are_strangers
  have F_largest := fun_mk (st := s_largest) l_largest c_largest k_largest
  have F_all_strangers := fun_mk (st := s_all_strangers) l_all_strangers c_all_strangers k_all_strangers
  have F_strange := fun_mk (st := s_strange) l_strange c_strange k_strange
  have b_pairs_told := F_pairs_told.binds (ps := ["numbers"]) fun _ _ _ _ _ _ us hl => match us, hl with | [_], _ => rfl
  have b_are_told := F_are_told.binds (ps := ["many", "numbers"]) fun _ _ _ _ _ _ us hl => match us, hl with | [_, _], _ => rfl
  have b_knowing := F_knowing.binds (ps := ["many", "numbers"]) fun _ _ _ _ _ _ us hl => match us, hl with | [_, _], _ => rfl
  have b_members := F_members.binds (ps := ["group", "many"]) fun _ _ _ _ _ _ us hl => match us, hl with | [_, _], _ => rfl
  have b_all_groups := F_all_groups.binds (ps := ["many"]) fun _ _ _ _ _ _ us hl => match us, hl with | [_], _ => rfl
  have b_pairs_in := F_pairs_in.binds (ps := ["some"]) fun _ _ _ _ _ _ us hl => match us, hl with | [_], _ => rfl
  have b_known_pairs := F_known_pairs.binds (ps := ["knows", "group"]) fun _ _ _ _ _ _ us hl => match us, hl with | [_, _], _ => rfl
  have b_are_strangers := F_are_strangers.binds (ps := ["knows", "group"]) fun _ _ _ _ _ _ us hl => match us, hl with | [_, _], _ => rfl
  have b_largest := F_largest.binds (ps := ["groups", "many"]) fun _ _ _ _ _ _ us hl => match us, hl with | [_, _], _ => rfl
  have b_all_strangers := F_all_strangers.binds (ps := ["knows"]) fun _ _ _ _ _ _ us hl => match us, hl with | [_], _ => rfl
  have g_range := PySem.W.mg_none_of X G m_range
  have g_len := PySem.W.mg_none_of X G m_len
  have g_MOST_GUESTS := PySem.W.mg_of X G m_MOST_GUESTS
  have g_MOST_PAIRS := PySem.W.mg_of X G m_MOST_PAIRS
  have g_list := PySem.W.mg_none_of X G m_list
  have g_enumerate := PySem.W.mg_none_of X G m_enumerate
  have g_WRONG := PySem.W.mg_of X G m_WRONG
  refine ⟨PySem.W.fnOf "strange" "strange" (defArgs s_strange) (defBody s_strange) (defScope s_strange) .none kV_strange dc_strange pm_strange an_strange cd_strange ct_strange, fun s us hu => match us, hu with | [_, _], _ => .of_eq rfl, fun base _ _ => ?_⟩
  have o_pairs_told : Own P w K mg base 1 "pairs_told" ["numbers"] (sp_pairs_told K) := ⟨_, _, ok_pairs_told F_pairs_told g_range g_len, PySem.W.mg_of X G a_pairs_told, k_pairs_told, b_pairs_told⟩
  have o_are_told : Own P w K mg base 2 "are_told" ["many", "numbers"] (sp_are_told K) := ⟨_, _, ok_are_told F_are_told o_pairs_told g_MOST_GUESTS g_MOST_PAIRS g_len, PySem.W.mg_of X G a_are_told, k_are_told, b_are_told⟩
  have o_knowing : Own P w K mg base 2 "knowing" ["many", "numbers"] (sp_knowing K) := ⟨_, _, ok_knowing F_knowing o_pairs_told g_range, PySem.W.mg_of X G a_knowing, k_knowing, b_knowing⟩
  have o_members : Own P w K mg base 1 "members" ["group", "many"] sp_members := ⟨_, _, ok_members F_members g_range, PySem.W.mg_of X G a_members, k_members, b_members⟩
  have o_all_groups : Own P w K mg base 1 "all_groups" ["many"] sp_all_groups := ⟨_, _, ok_all_groups F_all_groups g_range g_list, PySem.W.mg_of X G a_all_groups, k_all_groups, b_all_groups⟩
  have o_pairs_in : Own P w K mg base 1 "pairs_in" ["some"] (sp_pairs_in K) := ⟨_, _, ok_pairs_in F_pairs_in g_enumerate, PySem.W.mg_of X G a_pairs_in, k_pairs_in, b_pairs_in⟩
  have o_known_pairs : Own P w K mg base 2 "known_pairs" ["knows", "group"] sp_known_pairs := ⟨_, _, ok_known_pairs F_known_pairs o_members o_pairs_in g_len, PySem.W.mg_of X G a_known_pairs, k_known_pairs, b_known_pairs⟩
  have o_are_strangers : Own P w K mg base 3 "are_strangers" ["knows", "group"] sp_are_strangers := ⟨_, _, ok_are_strangers F_are_strangers o_known_pairs, PySem.W.mg_of X G a_are_strangers, k_are_strangers, b_are_strangers⟩
  have o_largest : Own P w K mg base 2 "largest" ["groups", "many"] (sp_largest K) := ⟨_, _, ok_largest F_largest o_members g_len, PySem.W.mg_of X G a_largest, k_largest, b_largest⟩
  have o_all_strangers : Own P w K mg base 4 "all_strangers" ["knows"] sp_all_strangers := ⟨_, _, ok_all_strangers F_all_strangers o_all_groups o_are_strangers g_len, PySem.W.mg_of X G a_all_strangers, k_all_strangers, b_all_strangers⟩
  exact ok_strange F_strange o_are_told o_knowing o_all_strangers o_largest g_WRONG
end Gc
open PySem PySem.W PyProof.Rows
set_option maxRecDepth 100000 in
set_option maxHeartbeats 8000000 in
theorem PySem.Challenge.cw_guestcircles_s02_strange_holds : PySem.Challenge.rw_guestcircles_s02_strange.Holds := by
  w_on; k_headS; (case hw => exact ⟨[.int 1, .list []], by decide +kernel, by decide +kernel⟩)
  k_fillS
  refine L2.walk_specK (r := PySem.Challenge.rw_guestcircles_s02_strange) (k := 5) (CX := L2.CX0) (ps := ["n", "pairs"]) (sp := Gc.sp_strange) (by decide +kernel) rfl rfl ⟨rfl, by decide, by decide⟩ (fun w h Y => PySem.W.kIn_of Y) ?F ?S (fun _ _ _ _ z => z)
  case F =>
    intro w mg fa h Y KX G hmg
    refine' Gc.all_mk KX G hmg ?a_pairs_told ?l_pairs_told ?c_pairs_told ?k_pairs_told ?a_are_told ?l_are_told ?c_are_told ?k_are_told ?a_knowing ?l_knowing ?c_knowing ?k_knowing ?a_members ?l_members ?c_members ?k_members ?a_all_groups ?l_all_groups ?c_all_groups ?k_all_groups ?a_pairs_in ?l_pairs_in ?c_pairs_in ?k_pairs_in ?a_known_pairs ?l_known_pairs ?c_known_pairs ?k_known_pairs ?a_are_strangers ?l_are_strangers ?c_are_strangers ?k_are_strangers ?a_largest ?l_largest ?c_largest ?k_largest ?a_all_strangers ?l_all_strangers ?c_all_strangers ?k_all_strangers ?a_strange ?l_strange ?c_strange ?k_strange ?m_range ?m_len ?m_MOST_GUESTS ?m_MOST_PAIRS ?m_list ?m_enumerate ?m_WRONG
    (case a_pairs_told => k_is)
    (case l_pairs_told => k_is)
    (case c_pairs_told => k_is)
    (case k_pairs_told => k_is)
    (case a_are_told => k_is)
    (case l_are_told => k_is)
    (case c_are_told => k_is)
    (case k_are_told => k_is)
    (case a_knowing => k_is)
    (case l_knowing => k_is)
    (case c_knowing => k_is)
    (case k_knowing => k_is)
    (case a_members => k_is)
    (case l_members => k_is)
    (case c_members => k_is)
    (case k_members => k_is)
    (case a_all_groups => k_is)
    (case l_all_groups => k_is)
    (case c_all_groups => k_is)
    (case k_all_groups => k_is)
    (case a_pairs_in => k_is)
    (case l_pairs_in => k_is)
    (case c_pairs_in => k_is)
    (case k_pairs_in => k_is)
    (case a_known_pairs => k_is)
    (case l_known_pairs => k_is)
    (case c_known_pairs => k_is)
    (case k_known_pairs => k_is)
    (case a_are_strangers => k_is)
    (case l_are_strangers => k_is)
    (case c_are_strangers => k_is)
    (case k_are_strangers => k_is)
    (case a_largest => k_is)
    (case l_largest => k_is)
    (case c_largest => k_is)
    (case k_largest => k_is)
    (case a_all_strangers => k_is)
    (case l_all_strangers => k_is)
    (case c_all_strangers => k_is)
    (case k_all_strangers => k_is)
    (case a_strange => k_is)
    (case l_strange => k_is)
    (case c_strange => k_is)
    (case k_strange => k_is)
    (case m_range => k_is)
    (case m_len => k_is)
    (case m_MOST_GUESTS => k_is)
    (case m_MOST_PAIRS => k_is)
    (case m_list => k_is)
    (case m_enumerate => k_is)
    (case m_WRONG => k_is)
  case S =>
    intro K H xs a hO hwi hask hx
    obtain ⟨z_n, ns, u⟩ := a
    cases hx with
    | cons h0 hx =>
      cases hx with
      | cons h1 hx =>
        cases hx
        cases h0
        cases h1 with
        | lst hs ha =>
          have e := L2.ints_dw ns _ ha
          subst e
          have q : (Codec.inInt 0 4294967295 z_n && ((Codec.inLen 0 60 ns && ns.all (Codec.inInt 0 255)) && true)) = true := hwi
          simp only [Bool.and_eq_true] at q
          obtain ⟨q_n, ⟨qL, qN⟩, _⟩ := q
          exact ⟨_, z_n, ns, rfl, hs, (Codec.inInt_iff.mp q_n).1, (Codec.inNat_iff.mp qL).2, fun x hx => (Codec.inInt_iff.mp (List.all_eq_true.mp qN x hx)).1, fun H' p hp => .lst (L2.SqL.of hp) (L2.dw_ints _)⟩
#print axioms PySem.Challenge.cw_guestcircles_s02_strange_holds
