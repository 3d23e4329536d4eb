import PyProof.Rows.All
import Wide.All
import OpenK.AllK
import Wide.FinOn
import KE.KStateDown
import Lean
import HandS.ForMost
import HandS.Star
import HandS.Zip
import HandS.DictComp
import HandS.IsInst
import HandS.Property
import HandS.Defaults
import HandS.MakeKwOnly
import HandS.Small
import HandS.Style
import HandS.Conv
import HandS.TupAny
import HandS.Deep
import HandS.Wide
import HandS.EndBits
import HandS.Head0
import HandS.Head1
import HandS.Head2
import HandS.HeadEnd
import HandS.HeadHook1
import HandS.HeadHook2
import HandS.HeadHook3
import PySem.Challenge.RW_vectorwidths_k65_whole_sums_of_numbers
import HandS.Codes
set_option Elab.async false
set_option linter.all false
namespace VW
open PySem PySem.Spec PyProof.Rows L2
def topS (i : Nat) : Stmt := PySem.Challenge.pw_vectorwidths_k65_whole_sums_of_numbers.main.body.getD i (.Pass ⟨0, 0, 0, 0⟩)
end VW

set_option linter.all false
/-! The mathematics of the sums: terms, their leaves, the wide sum's parts, the blocks. No program in sight. -/
namespace VW
inductive Tm where
  | zero
  | item (i : Nat)
  | add (a b : Tm)
  deriving DecidableEq
namespace Tm
def leaves : Tm → List Tm
  | .add a b => leaves a ++ leaves b
  | .zero => [.zero]
  | .item i => [.item i]
def items : Tm → List Nat
  | .zero => []
  | .item i => [i]
  | .add a b => items a ++ items b
def zeros : Tm → Nat
  | .zero => 1
  | .item _ => 0
  | .add a b => zeros a + zeros b
def depth : Tm → Nat
  | .add a b => Nat.max (depth a) (depth b) + 1
  | .zero => 1
  | .item _ => 1
def size : Tm → Nat
  | .add a b => size a + size b + 1
  | .zero => 1
  | .item _ => 1
def worth (ns : List Int) : Tm → Int
  | .zero => 0
  | .item i => ns.getD i 0
  | .add a b => worth ns a + worth ns b
def isZero : Tm → Bool
  | .zero => true
  | _ => false
/-- the number that normal_form makes of a leaf -/
def num : Tm → Int
  | .item i => (i : Int)
  | _ => -1
def cnt (t : Tm) : Nat := t.items.length + t.zeros
theorem cnt_pos : ∀ t : Tm, 1 ≤ t.cnt
  | .zero => by decide
  | .item _ => by simp [cnt, items, zeros]
  | .add a b => by
    have h1 := cnt_pos a
    unfold cnt at h1 ⊢
    simp only [items, zeros, List.length_append]
    omega
theorem depth_le : ∀ t : Tm, t.depth ≤ t.cnt
  | .zero => by decide
  | .item _ => by simp [cnt, items, zeros, depth]
  | .add a b => by
    have h1 := depth_le a
    have h2 := depth_le b
    have h3 := cnt_pos a
    have h4 := cnt_pos b
    unfold cnt at h1 h2 h3 h4 ⊢
    have e : Nat.max (depth a) (depth b) ≤ (a.items.length + a.zeros) + (b.items.length + b.zeros) - 1 := by
      have : Nat.max (depth a) (depth b) = depth a ∨ Nat.max (depth a) (depth b) = depth b := by
        show max (depth a) (depth b) = _ ∨ max (depth a) (depth b) = _
        omega
      omega
    simp only [items, zeros, depth, List.length_append]
    omega
theorem size_le : ∀ t : Tm, t.size + 1 = 2 * t.cnt
  | .zero => by decide
  | .item _ => by simp [cnt, items, zeros, size]
  | .add a b => by
    have h1 := size_le a
    have h2 := size_le b
    unfold cnt at h1 h2 ⊢
    simp only [items, zeros, size, List.length_append]
    omega
theorem leaves_len : ∀ t : Tm, t.leaves.length = t.cnt
  | .zero => by decide
  | .item _ => by simp [cnt, items, zeros, leaves]
  | .add a b => by
    have h1 := leaves_len a
    have h2 := leaves_len b
    unfold cnt at h1 h2 ⊢
    simp only [items, zeros, leaves, List.length_append]
    omega
theorem leaves_items : ∀ t : Tm, t.leaves.filterMap (fun | .item i => some i | _ => none) = t.items
  | .zero => rfl
  | .item _ => rfl
  | .add a b => by simp only [leaves, items, List.filterMap_append, leaves_items a, leaves_items b]
theorem leaves_zeros : ∀ t : Tm, (t.leaves.filter isZero).length = t.zeros
  | .zero => rfl
  | .item _ => rfl
  | .add a b => by simp only [leaves, zeros, List.filter_append, List.length_append, leaves_zeros a, leaves_zeros b]
theorem leaves_leaf : ∀ (t : Tm), ∀ l ∈ t.leaves, l = .zero ∨ ∃ i, l = .item i
  | .zero, l, h => .inl (by simpa [leaves] using h)
  | .item i, l, h => .inr ⟨i, by simpa [leaves] using h⟩
  | .add a b, l, h => by
    rcases List.mem_append.mp (show l ∈ leaves a ++ leaves b from h) with h | h
    · exact leaves_leaf a l h
    · exact leaves_leaf b l h
theorem leaves_num : ∀ t : Tm, (t.leaves.map num).filter (fun n => decide (0 ≤ n)) = t.items.map fun i : Nat => (i : Int)
  | .zero => rfl
  | .item i => by
    have : (0 : Int) ≤ (i : Int) := Int.natCast_nonneg i
    simp [leaves, items, num, this]
  | .add a b => by simp only [leaves, items, List.map_append, List.filter_append, leaves_num a, leaves_num b]
theorem worth_items (ns : List Int) : ∀ t : Tm, t.worth ns = (t.items.map fun i => ns.getD i 0).sum
  | .zero => rfl
  | .item i => by simp [worth, items]
  | .add a b => by simp only [worth, items, List.map_append, List.sum_append, worth_items ns a, worth_items ns b]
end Tm
open Tm

/-! ### sums over a permutation of all places -/
theorem perm_sum {l m : List Int} (h : l.Perm m) : l.sum = m.sum := by
  induction h with
  | nil => rfl
  | cons x _ ih => rw [List.sum_cons, List.sum_cons, ih]
  | swap x y l => simp only [List.sum_cons]; omega
  | trans _ _ h1 h2 => exact h1.trans h2
theorem range_getD : ∀ (ns : List Int), (List.range ns.length).map (fun i => ns.getD i 0) = ns := fun ns => by
  apply List.ext_getElem
  · simp
  · intro i h1 h2
    simp [List.getD, h2]
theorem worth_perm {t : Tm} {ns : List Int} (h : t.items.Perm (List.range ns.length)) : t.worth ns = ns.sum := by
  rw [worth_items]
  have h2 := perm_sum (h.map fun i => ns.getD i 0)
  rw [h2, range_getD]
/-- two rising lists of one another's items are one -/
theorem sorted_same {l m : List Int} (h : l.Perm m) (hl : l.Pairwise (· ≤ ·)) (hm : m.Pairwise (· ≤ ·)) : l = m :=
  h.eq_of_pairwise (fun _ _ _ _ h1 h2 => Int.le_antisymm h1 h2) hl hm
theorem range_rising : ∀ n : Nat, ((List.range n).map fun i : Nat => (i : Int)).Pairwise (· ≤ ·) := fun n => by
  rw [List.pairwise_map]
  exact List.Pairwise.imp (fun h => by omega) List.pairwise_lt_range
theorem sorted_range {l : List Int} {n : Nat} {t : Tm} (ht : t.items.Perm (List.range n)) (h : l.Perm (t.items.map fun i : Nat => (i : Int))) (hl : l.Pairwise (· ≤ ·)) : l = (List.range n).map fun i : Nat => (i : Int) :=
  sorted_same (h.trans (ht.map _)) hl (range_rising n)

/-! ### chains -/
def chain (t : Tm) (l : List Nat) : Tm := l.foldl (fun t i => .add t (.item i)) t
theorem chain_items : ∀ (l : List Nat) (t : Tm), (chain t l).items = t.items ++ l
  | [], t => by simp [chain]
  | i :: r, t => by
    have h := chain_items r (.add t (.item i))
    show (chain (.add t (.item i)) r).items = _
    rw [h]
    simp [items]
theorem chain_zeros : ∀ (l : List Nat) (t : Tm), (chain t l).zeros = t.zeros
  | [], t => rfl
  | i :: r, t => by
    have h := chain_zeros r (.add t (.item i))
    show (chain (.add t (.item i)) r).zeros = _
    rw [h]
    simp [zeros]
theorem chain_append (l m : List Nat) (t : Tm) : chain t (l ++ m) = chain (chain t l) m := List.foldl_append
theorem chain_snoc (l : List Nat) (i : Nat) (t : Tm) : chain t (l ++ [i]) = .add (chain t l) (.item i) := by rw [chain_append]; rfl
def plain (n : Nat) : Tm := chain .zero (List.range n)
theorem plain_items (n : Nat) : (plain n).items = List.range n := by rw [plain, chain_items]; rfl
theorem plain_zeros (n : Nat) : (plain n).zeros = 1 := by rw [plain, chain_zeros]; rfl
theorem plain_succ (n : Nat) : plain (n + 1) = .add (plain n) (.item n) := by
  unfold plain
  rw [List.range_succ, chain_snoc]

/-! ### parts -/
def allItems (ps : List Tm) : List Nat := ps.flatMap items
def allZeros (ps : List Tm) : Nat := (ps.map zeros).sum
theorem allItems_append (a b : List Tm) : allItems (a ++ b) = allItems a ++ allItems b := List.flatMap_append
theorem allZeros_append (a b : List Tm) : allZeros (a ++ b) = allZeros a + allZeros b := by simp [allZeros]
theorem allItems_rep : ∀ n : Nat, allItems (List.replicate n .zero) = []
  | 0 => rfl
  | n + 1 => by
    have h := allItems_rep n
    rw [List.replicate_succ]
    show items .zero ++ allItems (List.replicate n .zero) = []
    rw [h]; rfl
theorem allZeros_rep : ∀ n : Nat, allZeros (List.replicate n .zero) = n
  | 0 => rfl
  | n + 1 => by
    have h := allZeros_rep n
    rw [List.replicate_succ]
    show zeros .zero + allZeros (List.replicate n .zero) = n + 1
    rw [h]
    show 1 + n = n + 1
    omega
/-- one item more in the part at j -/
theorem put_items : ∀ {ps : List Tm} {j : Nat} {p : Tm} (i : Nat), ps[j]? = some p → (allItems (ps.set j (.add p (.item i)))).Perm (allItems ps ++ [i])
  | [], j, p, i, h => by simp at h
  | a :: r, 0, p, i, h => by
    have e : a = p := Option.some.inj h
    subst e
    show (items (.add a (.item i)) ++ allItems r).Perm (items a ++ allItems r ++ [i])
    show (items a ++ [i] ++ allItems r).Perm (items a ++ allItems r ++ [i])
    rw [List.append_assoc, List.append_assoc]
    exact List.Perm.append_left _ List.perm_append_comm
  | a :: r, j + 1, p, i, h => by
    have ih := put_items (ps := r) (j := j) (p := p) i h
    show (items a ++ allItems (r.set j (.add p (.item i)))).Perm (items a ++ allItems r ++ [i])
    rw [List.append_assoc]
    exact List.Perm.append_left _ ih
theorem put_zeros : ∀ {ps : List Tm} {j : Nat} {p : Tm} (i : Nat), ps[j]? = some p → allZeros (ps.set j (.add p (.item i))) = allZeros ps
  | [], j, p, i, h => by simp at h
  | a :: r, 0, p, i, h => by
    have e : a = p := Option.some.inj h
    subst e
    rfl
  | a :: r, j + 1, p, i, h => by
    have ih := put_zeros (ps := r) (j := j) (p := p) i h
    show zeros a + allZeros (r.set j (.add p (.item i))) = zeros a + allZeros r
    rw [ih]
/-- what the parts are behind the items is: of a length k, hold is, have k zeros; one part alone is the chain -/
structure Filled (k : Nat) (l : List Nat) (ps : List Tm) : Prop where
  len : ps.length = k
  its : (allItems ps).Perm l
  zer : allZeros ps = k
  one : k = 1 → ps = [chain .zero l]
theorem Filled.start (k : Nat) : Filled k [] (List.replicate k .zero) :=
  ⟨List.length_replicate, by rw [allItems_rep], allZeros_rep k, fun h => by subst h; rfl⟩
theorem Filled.more {k : Nat} {l : List Nat} {ps : List Tm} {p : Tm} (F : Filled k l ps) (i : Nat) (h : ps[i % k]? = some p) : Filled k (l ++ [i]) (ps.set (i % k) (.add p (.item i))) := by
  refine ⟨by rw [List.length_set]; exact F.len, (put_items i h).trans (List.Perm.append_right _ F.its), (put_zeros i h).trans F.zer, fun e => ?_⟩
  have e1 := F.one e
  subst e
  rw [e1, Nat.mod_one] at h ⊢
  have e2 : chain .zero l = p := Option.some.inj h
  rw [chain_snoc, ← e2]
  rfl
/-! ### joining -/
def sumParts (t : Tm) (ps : List Tm) : Tm := ps.foldl .add t
theorem sumParts_items : ∀ (ps : List Tm) (t : Tm), (sumParts t ps).items = t.items ++ allItems ps
  | [], t => by simp [sumParts, allItems]
  | p :: r, t => by
    have h := sumParts_items r (.add t p)
    show (sumParts (.add t p) r).items = _
    rw [h]
    show (items t ++ items p) ++ allItems r = items t ++ (items p ++ allItems r)
    rw [List.append_assoc]
theorem sumParts_zeros : ∀ (ps : List Tm) (t : Tm), (sumParts t ps).zeros = t.zeros + allZeros ps
  | [], t => rfl
  | p :: r, t => by
    have h := sumParts_zeros r (.add t p)
    show (sumParts (.add t p) r).zeros = _
    rw [h]
    show (zeros t + zeros p) + allZeros r = zeros t + (zeros p + allZeros r)
    omega
theorem sumParts_snoc (ps : List Tm) (p t : Tm) : sumParts t (ps ++ [p]) = .add (sumParts t ps) p := by
  unfold sumParts
  rw [List.foldl_append]; rfl
/-- neighbours in pairs -/
def pairUp : List Tm → List Tm
  | a :: b :: r => .add a b :: pairUp r
  | [a] => [a]
  | [] => []
theorem pairUp_items : ∀ ps : List Tm, allItems (pairUp ps) = allItems ps
  | a :: b :: r => by
    have h := pairUp_items r
    show (items a ++ items b) ++ allItems (pairUp r) = items a ++ (items b ++ allItems r)
    rw [h, List.append_assoc]
  | [_] => rfl
  | [] => rfl
theorem pairUp_zeros : ∀ ps : List Tm, allZeros (pairUp ps) = allZeros ps
  | a :: b :: r => by
    have h := pairUp_zeros r
    show (zeros a + zeros b) + allZeros (pairUp r) = zeros a + (zeros b + allZeros r)
    rw [h]; omega
  | [_] => rfl
  | [] => rfl
theorem pairUp_len : ∀ ps : List Tm, (pairUp ps).length = (ps.length + 1) / 2
  | a :: b :: r => by
    have h := pairUp_len r
    show (pairUp r).length + 1 = (r.length + 1 + 1 + 1) / 2
    rw [h]; omega
  | [a] => by simp [pairUp]
  | [] => rfl
/-- the k-th of the pairs -/
theorem pairUp_get : ∀ (ps : List Tm) (k : Nat), (pairUp ps)[k]? = (match ps[2 * k]?, ps[2 * k + 1]? with | some a, some b => some (.add a b) | some a, none => some a | _, _ => none)
  | a :: b :: r, 0 => rfl
  | a :: b :: r, k + 1 => by
    have h := pairUp_get r k
    have e1 : (a :: b :: r)[2 * (k + 1)]? = r[2 * k]? := by rw [show 2 * (k + 1) = 2 * k + 1 + 1 by omega, List.getElem?_cons_succ, List.getElem?_cons_succ]
    have e2 : (a :: b :: r)[2 * (k + 1) + 1]? = r[2 * k + 1]? := by rw [show 2 * (k + 1) + 1 = 2 * k + 1 + 1 + 1 by omega, List.getElem?_cons_succ, List.getElem?_cons_succ]
    show (Tm.add a b :: pairUp r)[k + 1]? = _
    rw [List.getElem?_cons_succ, e1, e2, h]
  | [a], 0 => rfl
  | [a], k + 1 => by
    have e1 : [a][2 * (k + 1)]? = none := by rw [List.getElem?_eq_none_iff]; simp; omega
    show ([a] : List Tm)[k + 1]? = _
    rw [e1]
    simp
  | [], k => by simp [pairUp]

/-! ### blocks -/
def lanes (mask : Bool) (w n b : Nat) : List Nat := if mask then ((List.range w).map fun j => b * w + j).filter (fun x => decide (x < n)) else (List.range w).map fun j => b * w + j
theorem filter_lt (n c : Nat) : ∀ w : Nat, ((List.range w).map fun j => c + j).filter (fun x => decide (x < n)) = (List.range (min w (n - c))).map fun j => c + j
  | 0 => by simp
  | w + 1 => by
    have h := filter_lt n c w
    rw [List.range_succ, List.map_append, List.filter_append, h]
    by_cases q : c + w < n
    · have e1 : min w (n - c) = w := by omega
      have e2 : min (w + 1) (n - c) = w + 1 := by omega
      rw [e1, e2, List.range_succ, List.map_append]
      simp [q]
    · have e1 : min w (n - c) = n - c := by omega
      have e2 : min (w + 1) (n - c) = n - c := by omega
      rw [e1, e2]
      simp [q]
theorem lanes_mask (w n b : Nat) : lanes true w n b = (List.range (min w (n - b * w))).map fun j => b * w + j := by
  unfold lanes
  rw [if_pos rfl, filter_lt]
theorem blocks_mask (w n : Nat) : ∀ m : Nat, (List.range m).flatMap (lanes true w n) = List.range (min n (m * w))
  | 0 => by simp
  | m + 1 => by
    have h := blocks_mask w n m
    rw [List.range_succ, List.flatMap_append, h]
    show List.range (min n (m * w)) ++ (lanes true w n m ++ []) = _
    rw [List.append_nil, lanes_mask]
    have e0 : (m + 1) * w = m * w + w := Nat.succ_mul m w
    rw [e0]
    by_cases q : n ≤ m * w
    · have e1 : min n (m * w) = n := by omega
      have e2 : min w (n - m * w) = 0 := by omega
      have e3 : min n (m * w + w) = n := by omega
      rw [e1, e2, e3]
      simp
    · have e1 : min n (m * w) = m * w := by omega
      have e3 : min n (m * w + w) = m * w + min w (n - m * w) := by omega
      rw [e1, e3, List.range_add]
theorem blocks_rest (w n : Nat) : ∀ m : Nat, (List.range m).flatMap (lanes false w n) = List.range (m * w)
  | 0 => by simp
  | m + 1 => by
    have h := blocks_rest w n m
    rw [List.range_succ, List.flatMap_append, h]
    show List.range (m * w) ++ (lanes false w n m ++ []) = _
    rw [List.append_nil, Nat.succ_mul, List.range_add]
    rfl
/-- how many blocks -/
def many (mask : Bool) (w n : Nat) : Nat := if mask then (n + w - 1) / w else n / w
/-- all blocks' items -/
def held (mask : Bool) (w n : Nat) : List Nat := (List.range (many mask w n)).flatMap (lanes mask w n)
/-- the rest's items -/
def restL (w n m : Nat) : List Nat := (List.range (n - m * w)).map fun j => m * w + j
theorem many_le {mask : Bool} {w n : Nat} (hw : 1 ≤ w) : many mask w n ≤ n := by
  unfold many
  cases mask with
  | true =>
    show (n + w - 1) / w ≤ n
    rw [Nat.div_le_iff_le_mul_add_pred hw]
    have : n ≤ w * n := Nat.le_mul_of_pos_left n hw
    omega
  | false => exact Nat.div_le_self n w
theorem held_all (mask : Bool) {w n : Nat} (hw : 1 ≤ w) : held mask w n ++ restL w n (many mask w n) = List.range n := by
  unfold held restL
  cases mask with
  | true =>
    rw [blocks_mask]
    have e : n ≤ many true w n * w := by
      show n ≤ (n + w - 1) / w * w
      have h1 := Nat.div_add_mod (n + w - 1) w
      have h2 := Nat.mod_lt (n + w - 1) hw
      rw [Nat.mul_comm] at h1
      omega
    have e1 : min n (many true w n * w) = n := by omega
    have e2 : n - many true w n * w = 0 := by omega
    rw [e1, e2]
    simp
  | false =>
    rw [blocks_rest]
    have e : many false w n * w ≤ n := Nat.div_mul_le_self n w
    have e1 : n = many false w n * w + (n - many false w n * w) := by omega
    conv => rhs; rw [e1, List.range_add]
theorem held_lt {mask : Bool} {w n i : Nat} (hw : 1 ≤ w) (h : i ∈ held mask w n) : i < n := by
  have h2 : i ∈ List.range n := by
    rw [← held_all mask hw]
    exact List.mem_append_left _ h
  exact List.mem_range.mp h2
theorem held_len {mask : Bool} {w n : Nat} (hw : 1 ≤ w) : (held mask w n).length ≤ n := by
  have h := congrArg List.length (held_all mask (w := w) (n := n) hw)
  rw [List.length_append, List.length_range] at h
  omega

/-! ### the wide sum -/
inductive Join where
  | row | parts | tree
  deriving DecidableEq
def Join.zeros : Join → Nat → Nat
  | .row, _ => 1
  | .parts, w => w + 1
  | .tree, w => w
/-- what is said of the wide sum -/
structure Wide (j : Join) (w n : Nat) (t : Tm) : Prop where
  its : t.items.Perm (List.range n)
  zer : t.zeros = j.zeros w
  same : (j = .row ∨ (w = 1 ∧ j = .tree)) → t = plain n
/-- what is said of the joined parts -/
structure Joined (j : Join) (ps : List Tm) (t : Tm) : Prop where
  its : t.items = allItems ps
  zer : t.zeros = allZeros ps + (if j = .parts then 1 else 0)
  one : j ≠ .parts → ∀ p, ps = [p] → t = p
theorem Joined.parts (ps : List Tm) : Joined .parts ps (sumParts .zero ps) :=
  ⟨by rw [sumParts_items]; rfl, by rw [sumParts_zeros, if_pos rfl]; show 1 + _ = _; omega, fun h => absurd rfl h⟩
theorem Joined.alone (j : Join) (hj : j ≠ .parts) (p : Tm) : Joined j [p] p :=
  ⟨by simp [allItems], by rw [if_neg hj]; simp [allZeros], fun _ q h => by cases h; rfl⟩
theorem Joined.up {j : Join} {ps : List Tm} {t : Tm} (hj : j ≠ .parts) (h : Joined j (pairUp ps) t) : Joined j ps t :=
  ⟨by rw [h.its, pairUp_items], by rw [h.zer, pairUp_zeros], fun _ p e => by subst e; exact h.one hj p rfl⟩
theorem wide_row {mask : Bool} {w n : Nat} {ps : List Tm} {p : Tm} (hw : 1 ≤ w) (F : Filled 1 (held mask w n) ps) (h0 : ps[0]? = some p) : Wide .row w n (chain p (restL w n (many mask w n))) := by
  have e := F.one rfl
  rw [e] at h0
  have e2 : chain .zero (held mask w n) = p := Option.some.inj h0
  have e3 : chain p (restL w n (many mask w n)) = plain n := by
    rw [← e2, ← chain_append, held_all mask hw]; rfl
  exact ⟨by rw [e3, plain_items], by rw [e3, plain_zeros]; rfl, fun _ => e3⟩
theorem wide_join {mask : Bool} {w n : Nat} {j : Join} {ps : List Tm} {t : Tm} (hw : 1 ≤ w) (hj : j ≠ .row) (F : Filled w (held mask w n) ps) (J : Joined j ps t) : Wide j w n (chain t (restL w n (many mask w n))) := by
  refine ⟨?_, ?_, fun h => ?_⟩
  · rw [chain_items, J.its, ← held_all mask hw]
    exact List.Perm.append_right _ F.its
  · rw [chain_zeros, J.zer, F.zer]
    cases j with
    | row => exact absurd rfl hj
    | parts => rfl
    | tree => rfl
  · rcases h with h | ⟨rfl, h⟩
    · exact absurd h hj
    · subst h
      have e := F.one rfl
      have e2 := J.one (by decide) _ e
      rw [e2, ← chain_append, held_all mask hw]; rfl
theorem Wide.cnt {j : Join} {w n : Nat} {t : Tm} (W : Wide j w n t) : t.cnt ≤ n + w + 1 := by
  unfold Tm.cnt
  have h1 := W.its.length_eq
  rw [List.length_range] at h1
  have h2 : j.zeros w ≤ w + 1 := by
    cases j with
    | row => exact Nat.le_add_left 1 w
    | parts => exact Nat.le_refl _
    | tree => exact Nat.le_succ w
  rw [h1, W.zer]
  omega
theorem Wide.plain (n w : Nat) : Wide .row w n (VW.plain n) := ⟨by rw [plain_items], by rw [plain_zeros]; rfl, fun _ => rfl⟩
end VW

set_option Elab.async false
set_option linter.all false
set_option maxRecDepth 100000
set_option maxHeartbeats 0
namespace VW
open PySem PySem.Spec PyProof.Rows L2
open He (Fa DefD Dv FnW fnW asD frG frG_in obsD valD SaysD AlD relB relAll relAll_ok eqO eqO_ok ba ga ma fAd dflB dflB_ok tupB tupB_ok)
/-! ### the text by places -/
abbrev dTop (i : Nat) (x : Str) : DefD := ⟨(x, none), x, x, defArgs (topS i), defBody (topS i), defScope (topS i), [], []⟩
abbrev sInit : Stmt := inClass (topS 42) 0
abbrev sTail : Stmt := inClass (topS 42) 2
abbrev sJoining : Stmt := inClass (topS 42) 10
abbrev dInit : DefD := ⟨("Way", some "__init__"), "__init__", "Way.__init__", defArgs sInit, defBody sInit, defScope sInit, [], [("tail", .str "mask")]⟩
/-! ### facts of the written part -/
def fnL : List (Nat × Str) := [(9, "is_integer"), (10, "is_between"), (11, "is_count"), (13, "block_number"), (14, "block_lanes"), (19, "is_leaf"), (20, "is_term"), (21, "is_set_of_rules"), (22, "with_item"), (23, "parts_joined"), (24, "check_sizes"),
  (25, "plain_sum"), (26, "wide_sum"), (27, "leaf_row"), (28, "checked_term"), (29, "items_of"), (31, "normal_form"), (32, "are_equal"), (39, "is_bundle"), (40, "are_bundles"), (41, "is_value"), (44, "_law_begin"), (45, "_law_mixed"), (46, "_law_draw"),
  (47, "_law_draw_packs"), (48, "_law_draw_way"), (49, "_law_make_way"), (50, "_law_row"), (51, "_law_worth"), (52, "_law_zeros"), (53, "law")]
def bltL : List Str := ["isinstance", "int", "bool", "str", "len", "list", "range", "tuple", "zip", "all", "sorted", "abs", "sum"]
def fn : List DefD := dInit :: fnL.map fun p => dTop p.1 p.2
def fa : List Fa := [.glo "ZERO", .glo "ALL_SETS", .glo "PARTS", .glo "TAILS", .glo "JOININGS", .glo "Way", .int "MOST_ITEMS" 60, .int "MOST_AHEAD" 3, .int "MOST_BUNDLES" 5, .cls "Way", .noat "Way" "kept_parts", .mkr "Way"] ++ (bltL.map Fa.free) ++ fnL.map fun p => Fa.glo p.2
/-- a property's object, its getter -/
def prA (K : PySem.W.Frag) (f : Str) : Addr := ma K (ga K "Way") f
def geA (K : PySem.W.Frag) (f : Str) : Addr := match PySem.W.recIn K (prA K f) "property" with
  | some (.ref g :: _) => g
  | _ => 0
def fnWA (K : PySem.W.Frag) (a : Addr) : FnW := match K.lookup a with
  | some ⟨_, _, .func fd, _⟩ => some (fd.name, fd.qualname, fd.params, fd.body, fd.scope, fd.globals, fd.closure, fd.builtins)
  | _ => none
def getB (K : PySem.W.Frag) (f q : Str) : Bool := match K.lookup (geA K f) with
  | some ⟨_, _, .func fd, _⟩ => PySem.W.codeIn K fd.code q && dflB K fd.defaults []
  | _ => false
def propB (K : PySem.W.Frag) (f q : Str) : Bool := eqO (PySem.W.findIn K (.ref (ga K "Way")) f) (some (some (.ref (prA K f)))) && (eqO (PySem.W.specialIn K (.ref (prA K f)) "__get__") (some (some (.builtin "property.__get__"))) &&
  (decide (PySem.W.takesIn K (.ref (prA K f)) = some true) && ((match PySem.W.recIn K (prA K f) "property" with
    | some (.ref _ :: _) => true
    | _ => false) && getB K f q)))
/-- a tuple of texts at a -/
def strsB (K : PySem.W.Frag) (a : Addr) (zs : List Str) : Bool := match K.lookup a with
  | some ⟨.type c, _, .seq its _, _⟩ => decide (c = "tuple") && (decide (its.size ≤ sizeLine) && relAll (zs.map V.str) its.toList)
  | _ => false
def setsAll (K : PySem.W.Frag) : List (List Str) → List Value → Bool
  | [], [] => true
  | zs :: r, .ref a :: us => strsB K a zs && setsAll K r us
  | _, _ => false
def allSets : List (List Str) := [[], ["regroup"], ["regroup", "swap"], ["regroup", "swap", "zero"], ["regroup", "zero"], ["swap"], ["swap", "zero"], ["zero"]]
def setsB (K : PySem.W.Frag) : Bool := match K.lookup (ga K "ALL_SETS") with
  | some ⟨.type c, _, .seq its _, _⟩ => decide (c = "tuple") && (decide (its.size ≤ sizeLine) && setsAll K allSets its.toList)
  | _ => false
def exB (K : PySem.W.Frag) : Bool := tupB K "ZERO" [.str "zero"] && (tupB K "PARTS" [.str "tail", .str "ahead", .str "guard", .str "bundles", .str "joining"] && (tupB K "TAILS" [.str "mask", .str "rest", .str "whole"] && (tupB K "JOININGS" [.str "row", .str "parts", .str "tree"] &&
  (setsB K && (propB K "tail" "Way.tail" && propB K "joining" "Way.joining")))))
/-! ### the Hook -/
abbrev AlV : Type := AlD × Bool × FnW × FnW
def valW (x q : Str) (st : Stmt) : FnW := some (x, q, defArgs st, .stmts (defBody st), defScope st, mainGlobals, [], builtinsNs)
def obsV (K : PySem.W.Frag) : AlV := (obsD fa fn K, exB K, fnWA K (geA K "tail"), fnWA K (geA K "joining"))
def valV' : AlV := (valD fn, true, valW "tail" "Way.tail" sTail, valW "joining" "Way.joining" sJoining)
def obsVG (g : Addr → Option Obj) : AlV := obsV (frG g (asD g 6))
def SaysV (K : PySem.W.Frag) : Prop := obsV K = valV'
def hookV : PySem.W.Hook where
  α := AlV
  obs := fun s => obsVG s.heap.get?
  val := fun _ => valV'
  says := fun _ h => ∃ K : PySem.W.Frag, K.In h ∧ SaysV K
  of := fun _ _ e => ⟨_, frG_in, e⟩
  keeps := fun _ _ _ ⟨K, hK, c⟩ k => ⟨K, PySem.W.Frag.In.keeps hK k, c⟩
abbrev R : PySem.W.OpenRow := PySem.W.OpenLaw.row PySem.Challenge.rw_vectorwidths_k65_whole_sums_of_numbers
def obV (s : PySem.W.SharedT) : AlV := obsVG (HandSHeadRun.getT s)
theorem obV_eq (s : PySem.W.SharedT) : obV s = hookV.obs s.abs := by
  have e : HandSHeadRun.getT s = s.abs.heap.get? := funext fun a => HandSHeadRun.getT_eq s a
  show obsVG (HandSHeadRun.getT s) = obsVG s.abs.heap.get?
  rw [e]
def loose1 : List PySem.Str := ["_wall", "WidthError", "InvalidNumber", "InvalidName", "InvalidPart", "InvalidTerm", "InvalidRules", "is_integer", "is_between", "is_count", "block_number", "block_lanes", "ALL_SETS", "ZERO", "MOST_ITEMS", "is_leaf", "is_term", "is_set_of_rules", "with_item", "parts_joined", "check_sizes", "plain_sum", "wide_sum", "leaf_row", "checked_term", "items_of"]
def loose2 : List PySem.Str := ["tree_form", "normal_form", "are_equal", "PARTS", "TAILS", "JOININGS", "MOST_AHEAD", "MOST_BUNDLES", "is_bundle", "are_bundles", "is_value", "Way", "_law_begin", "_law_mixed", "_law_draw", "_law_draw_packs", "_law_draw_way", "_law_make_way", "_law_row", "_law_worth", "_law_zeros"]
def loose : List PySem.Str := loose1 ++ loose2
theorem run (w : World) : HandSHeadRun.RunEq R (PySem.W.view R.prog [53]) hookV obV 6000 loose w := by
  intro os
  kernel_rfl
end VW

set_option Elab.async false
set_option linter.all false
set_option maxRecDepth 100000
set_option maxHeartbeats 2000000
namespace VW
open PySem PySem.Spec PyProof.Rows L2
open He (Fa DefD Dv FnW fnW asD frG frG_in obsD valD SaysD AlD relB relAll relAll_ok eqO eqO_ok ba ga ma fAd dflB dflB_ok tupB tupB_ok)
abbrev FnP (K : PySem.W.Frag) (i : Nat) (x : Str) : Prop := ∃ fd, FunD K x x (defArgs (topS i)) (defBody (topS i)) (defScope (topS i)) [] [] (ga K x) fd
abbrev FnG (K : PySem.W.Frag) (x q : Str) (st : Stmt) : Prop := ∃ fd, FunD K x q (defArgs st) (defBody st) (defScope st) [] [] (geA K x) fd
theorem strsB_ok {K : PySem.W.Frag} {a : Addr} {zs : List Str} (h : strsB K a zs = true) : (∀ H, SqT K H a (zs.map V.str)) ∧ ∃ o, K.lookup a = some o ∧ o.cls = .type "tuple" := by
  unfold strsB at h
  cases q : K.lookup a with
  | none => rw [q] at h; cases h
  | some o =>
    obtain ⟨oc, od, dt, osl⟩ := o
    rw [q] at h
    cases oc with
    | type c =>
      cases dt with
      | seq its n =>
        obtain ⟨h1, h2⟩ := ba (show (decide (c = "tuple") && (decide (its.size ≤ sizeLine) && relAll (zs.map V.str) its.toList)) = true from h)
        obtain ⟨h3, h4⟩ := ba h2
        exact ⟨fun H => .inr ⟨_, its, n, q, congrArg Value.type (of_decide_eq_true h1), rfl, of_decide_eq_true h3, relAll_ok h4⟩, _, rfl, congrArg Value.type (of_decide_eq_true h1)⟩
      | _ => cases h
    | _ => cases dt <;> cases h
theorem tupB_cls {K : PySem.W.Frag} {x : Str} {vs : List Dv} (h : tupB K x vs = true) : ∃ o, K.lookup (ga K x) = some o ∧ o.cls = .type "tuple" := by
  unfold tupB at h
  cases q : K.lookup (ga K x) with
  | none => rw [q] at h; cases h
  | some o =>
    obtain ⟨oc, od, dt, osl⟩ := o
    rw [q] at h
    cases oc with
    | type c =>
      cases dt with
      | seq its n =>
        obtain ⟨h1, h2⟩ := ba (show (decide (c = "tuple") && (decide (its.size ≤ sizeLine) && relAll (vs.map (Dv.v K)) its.toList)) = true from h)
        exact ⟨_, rfl, congrArg Value.type (of_decide_eq_true h1)⟩
      | _ => cases h
    | _ => cases dt <;> cases h
theorem setsAll_ok {K : PySem.W.Frag} : ∀ {zss : List (List Str)} {us : List Value}, setsAll K zss us = true → ∃ as : List Addr, Vals (as.map V.ref) us ∧ Paired (fun a zs => ∀ H, SqT K H a (zs.map V.str)) as zss
  | [], [], _ => ⟨[], .nil, .nil⟩
  | [], _ :: _, h => by cases h
  | _ :: _, [], h => by cases h
  | zs :: r, u :: us, h => by
    cases u with
    | ref a =>
      obtain ⟨h1, h2⟩ := ba (show (strsB K a zs && setsAll K r us) = true from h)
      obtain ⟨as, q1, q2⟩ := setsAll_ok h2
      exact ⟨a :: as, .cons rfl q1, .cons (strsB_ok h1).1 q2⟩
    | _ => cases h
theorem setsB_ok {K : PySem.W.Frag} (h : setsB K = true) : ∃ as : List Addr, (∀ H, SqT K H (ga K "ALL_SETS") (as.map V.ref)) ∧ Paired (fun a zs => ∀ H, SqT K H a (zs.map V.str)) as allSets := by
  unfold setsB at h
  cases q : K.lookup (ga K "ALL_SETS") with
  | none => rw [q] at h; cases h
  | some o =>
    obtain ⟨oc, od, dt, osl⟩ := o
    rw [q] at h
    cases oc with
    | type c =>
      cases dt with
      | seq its n =>
        obtain ⟨h1, h2⟩ := ba (show (decide (c = "tuple") && (decide (its.size ≤ sizeLine) && setsAll K allSets its.toList)) = true from h)
        obtain ⟨h3, h4⟩ := ba h2
        obtain ⟨as, q1, q2⟩ := setsAll_ok h4
        exact ⟨as, fun H => .inr ⟨_, its, n, q, congrArg Value.type (of_decide_eq_true h1), rfl, of_decide_eq_true h3, q1⟩, q2⟩
      | _ => cases h
    | _ => cases dt <;> cases h
theorem propB_ok {K : PySem.W.Frag} {f q : Str} {st : Stmt} (h : propB K f q = true) (e : fnWA K (geA K f) = valW f q st) : PropOf K (ga K "Way") f (prA K f) (geA K f) ∧ FnG K f q st := by
  obtain ⟨h1, h⟩ := ba h
  obtain ⟨h2, h⟩ := ba h
  obtain ⟨h3, h⟩ := ba h
  obtain ⟨h4, h5⟩ := ba h
  refine ⟨⟨eqO_ok h1, eqO_ok h2, of_decide_eq_true h3, ?_⟩, ?_⟩
  · unfold geA
    split at h4
    · rename_i g rest q
      rw [q]
      exact ⟨rest, rfl⟩
    · cases h4
  · have hC : (match K.lookup (geA K f) with
      | some ⟨_, _, .func fd, _⟩ => PySem.W.codeIn K fd.code q && dflB K fd.defaults []
      | _ => false) = true := h5
    have eC : (match K.lookup (geA K f) with
      | some ⟨_, _, .func fd, _⟩ => some (fd.name, fd.qualname, fd.params, fd.body, fd.scope, fd.globals, fd.closure, fd.builtins)
      | _ => none) = (some (f, q, defArgs st, .stmts (defBody st), defScope st, mainGlobals, [], builtinsNs) : FnW) := e
    cases z : K.lookup (geA K f) with
    | none => rw [z] at hC; cases hC
    | some o =>
      obtain ⟨oc, od, dt, osl⟩ := o
      rw [z] at hC eC
      cases dt with
      | func fd =>
        obtain ⟨n1, n2, n3, n4, n5, n6, n7, n8, n9, n10, n11, n12, n13, n14, n15⟩ := fd
        have e2 : (some (n1, n2, n3, n4, n5, n6, n7, n15) : FnW) = some (f, q, defArgs st, .stmts (defBody st), defScope st, mainGlobals, [], builtinsNs) := eC
        simp only [Option.some.injEq, Prod.mk.injEq] at e2
        obtain ⟨y1, y2, y3, y4, y5, y6, y7, y8⟩ := e2
        have kp : PySem.W.keepIn K (.ref (geA K f)) = true := by
          show (match K.lookup (geA K f) with
            | some ⟨_, _, .func _, _⟩ => true
            | some ⟨_, _, .cls _, _⟩ => PySem.W.specialIn K (.ref (geA K f)) "__call__" == some (some (.builtin "type.__call__"))
            | _ => false) = true
          rw [z]
        obtain ⟨k1, k3⟩ := ba (show (PySem.W.codeIn K n13 q && dflB K n8 []) = true from hC)
        refine ⟨PySem.W.fnOf f q (defArgs st) (defBody st) (defScope st) n8 n9 n10 n11 n12 n13 n14, ⟨oc, od, n8, n9, n10, n11, n12, n13, n14, osl, rfl, ?_, k1, dflB_ok k3, .inl rfl⟩, kp⟩
        rw [z, y1, y2, y3, y4, y5, y6, y7, y8] <;> rfl
      | _ => cases hC
/-- all that the written part says -/
structure Tx (K : PySem.W.Frag) (mg : Str → Option Value) : Prop where
  z_isinstance : mg "isinstance" = none
  z_int : mg "int" = none
  z_bool : mg "bool" = none
  z_str : mg "str" = none
  z_len : mg "len" = none
  z_list : mg "list" = none
  z_range : mg "range" = none
  z_tuple : mg "tuple" = none
  z_zip : mg "zip" = none
  z_all : mg "all" = none
  z_sorted : mg "sorted" = none
  z_abs : mg "abs" = none
  z_sum : mg "sum" = none
  g_ZERO : mg "ZERO" = some (.ref (ga K "ZERO"))
  g_ALL_SETS : mg "ALL_SETS" = some (.ref (ga K "ALL_SETS"))
  g_PARTS : mg "PARTS" = some (.ref (ga K "PARTS"))
  g_TAILS : mg "TAILS" = some (.ref (ga K "TAILS"))
  g_JOININGS : mg "JOININGS" = some (.ref (ga K "JOININGS"))
  g_Way : mg "Way" = some (.ref (ga K "Way"))
  g_is_integer : mg "is_integer" = some (.ref (ga K "is_integer"))
  g_is_between : mg "is_between" = some (.ref (ga K "is_between"))
  g_is_count : mg "is_count" = some (.ref (ga K "is_count"))
  g_block_number : mg "block_number" = some (.ref (ga K "block_number"))
  g_block_lanes : mg "block_lanes" = some (.ref (ga K "block_lanes"))
  g_is_leaf : mg "is_leaf" = some (.ref (ga K "is_leaf"))
  g_is_term : mg "is_term" = some (.ref (ga K "is_term"))
  g_is_set_of_rules : mg "is_set_of_rules" = some (.ref (ga K "is_set_of_rules"))
  g_with_item : mg "with_item" = some (.ref (ga K "with_item"))
  g_parts_joined : mg "parts_joined" = some (.ref (ga K "parts_joined"))
  g_check_sizes : mg "check_sizes" = some (.ref (ga K "check_sizes"))
  g_plain_sum : mg "plain_sum" = some (.ref (ga K "plain_sum"))
  g_wide_sum : mg "wide_sum" = some (.ref (ga K "wide_sum"))
  g_leaf_row : mg "leaf_row" = some (.ref (ga K "leaf_row"))
  g_checked_term : mg "checked_term" = some (.ref (ga K "checked_term"))
  g_items_of : mg "items_of" = some (.ref (ga K "items_of"))
  g_normal_form : mg "normal_form" = some (.ref (ga K "normal_form"))
  g_are_equal : mg "are_equal" = some (.ref (ga K "are_equal"))
  g_is_bundle : mg "is_bundle" = some (.ref (ga K "is_bundle"))
  g_are_bundles : mg "are_bundles" = some (.ref (ga K "are_bundles"))
  g_is_value : mg "is_value" = some (.ref (ga K "is_value"))
  g_law_begin : mg "_law_begin" = some (.ref (ga K "_law_begin"))
  g_law_mixed : mg "_law_mixed" = some (.ref (ga K "_law_mixed"))
  g_law_draw : mg "_law_draw" = some (.ref (ga K "_law_draw"))
  g_law_draw_packs : mg "_law_draw_packs" = some (.ref (ga K "_law_draw_packs"))
  g_law_draw_way : mg "_law_draw_way" = some (.ref (ga K "_law_draw_way"))
  g_law_make_way : mg "_law_make_way" = some (.ref (ga K "_law_make_way"))
  g_law_row : mg "_law_row" = some (.ref (ga K "_law_row"))
  g_law_worth : mg "_law_worth" = some (.ref (ga K "_law_worth"))
  g_law_zeros : mg "_law_zeros" = some (.ref (ga K "_law_zeros"))
  g_law : mg "law" = some (.ref (ga K "law"))
  i_MOST_ITEMS : ∃ t, mg "MOST_ITEMS" = some (.int 60 t)
  i_MOST_AHEAD : ∃ t, mg "MOST_AHEAD" = some (.int 3 t)
  i_MOST_BUNDLES : ∃ t, mg "MOST_BUNDLES" = some (.int 5 t)
  f_is_integer : FnP K 9 "is_integer"
  f_is_between : FnP K 10 "is_between"
  f_is_count : FnP K 11 "is_count"
  f_block_number : FnP K 13 "block_number"
  f_block_lanes : FnP K 14 "block_lanes"
  f_is_leaf : FnP K 19 "is_leaf"
  f_is_term : FnP K 20 "is_term"
  f_is_set_of_rules : FnP K 21 "is_set_of_rules"
  f_with_item : FnP K 22 "with_item"
  f_parts_joined : FnP K 23 "parts_joined"
  f_check_sizes : FnP K 24 "check_sizes"
  f_plain_sum : FnP K 25 "plain_sum"
  f_wide_sum : FnP K 26 "wide_sum"
  f_leaf_row : FnP K 27 "leaf_row"
  f_checked_term : FnP K 28 "checked_term"
  f_items_of : FnP K 29 "items_of"
  f_normal_form : FnP K 31 "normal_form"
  f_are_equal : FnP K 32 "are_equal"
  f_is_bundle : FnP K 39 "is_bundle"
  f_are_bundles : FnP K 40 "are_bundles"
  f_is_value : FnP K 41 "is_value"
  f_law_begin : FnP K 44 "_law_begin"
  f_law_mixed : FnP K 45 "_law_mixed"
  f_law_draw : FnP K 46 "_law_draw"
  f_law_draw_packs : FnP K 47 "_law_draw_packs"
  f_law_draw_way : FnP K 48 "_law_draw_way"
  f_law_make_way : FnP K 49 "_law_make_way"
  f_law_row : FnP K 50 "_law_row"
  f_law_worth : FnP K 51 "_law_worth"
  f_law_zeros : FnP K 52 "_law_zeros"
  f_law : FnP K 53 "law"
  f_init : ∃ fd, FunD K "__init__" "Way.__init__" (defArgs sInit) (defBody sInit) (defScope sInit) [] [("tail", .str "mask")] (ma K (ga K "Way") "__init__") fd
  cl : Cls K (ga K "Way")
  nk : NoAttr K (ga K "Way") "kept_parts"
  mkw : Mk K (ga K "Way") (ma K (ga K "Way") "__init__")
  tZERO : ∀ H, SqT K H (ga K "ZERO") [V.str "zero"]
  cZERO : ∃ o, K.lookup (ga K "ZERO") = some o ∧ o.cls = .type "tuple"
  tPARTS : ∀ H, SqT K H (ga K "PARTS") [V.str "tail", V.str "ahead", V.str "guard", V.str "bundles", V.str "joining"]
  tTAILS : ∀ H, SqT K H (ga K "TAILS") [V.str "mask", V.str "rest", V.str "whole"]
  tJOININGS : ∀ H, SqT K H (ga K "JOININGS") [V.str "row", V.str "parts", V.str "tree"]
  sets : ∃ as : List Addr, (∀ H, SqT K H (ga K "ALL_SETS") (as.map V.ref)) ∧ Paired (fun a zs => ∀ H, SqT K H a (zs.map V.str)) as allSets
  pTail : PropOf K (ga K "Way") "tail" (prA K "tail") (geA K "tail")
  fTail : FnG K "tail" "Way.tail" sTail
  pJoin : PropOf K (ga K "Way") "joining" (prA K "joining") (geA K "joining")
  fJoin : FnG K "joining" "Way.joining" sJoining
theorem tx_of {K : PySem.W.Frag} {h : Heap} {mg : Str → Option Value} (X : K.In h) (G : h.Ns mainGlobals mg) (c : SaysV K) : Tx K mg := by
  have cd : SaysD fa fn K := congrArg (fun z : AlV => z.1) c
  have ce : exB K = true := congrArg (fun z : AlV => z.2.1) c
  have ct : fnWA K (geA K "tail") = valW "tail" "Way.tail" sTail := congrArg (fun z : AlV => z.2.2.1) c
  have cj : fnWA K (geA K "joining") = valW "joining" "Way.joining" sJoining := congrArg (fun z : AlV => z.2.2.2) c
  obtain ⟨e1, ce⟩ := ba ce
  obtain ⟨e2, ce⟩ := ba ce
  obtain ⟨e3, ce⟩ := ba ce
  obtain ⟨e4, ce⟩ := ba ce
  obtain ⟨e5, ce⟩ := ba ce
  obtain ⟨e6, e7⟩ := ba ce
  have p1 := propB_ok e6 ct
  have p2 := propB_ok e7 cj
  exact {
g_ZERO := He.glo_ok X G (cd.fact 0 (f := .glo "ZERO") rfl),
    g_ALL_SETS := He.glo_ok X G (cd.fact 1 (f := .glo "ALL_SETS") rfl),
    g_PARTS := He.glo_ok X G (cd.fact 2 (f := .glo "PARTS") rfl),
    g_TAILS := He.glo_ok X G (cd.fact 3 (f := .glo "TAILS") rfl),
    g_JOININGS := He.glo_ok X G (cd.fact 4 (f := .glo "JOININGS") rfl),
    g_Way := He.glo_ok X G (cd.fact 5 (f := .glo "Way") rfl),
    i_MOST_ITEMS := He.int_ok X G (cd.fact 6 (f := .int "MOST_ITEMS" 60) rfl),
    i_MOST_AHEAD := He.int_ok X G (cd.fact 7 (f := .int "MOST_AHEAD" 3) rfl),
    i_MOST_BUNDLES := He.int_ok X G (cd.fact 8 (f := .int "MOST_BUNDLES" 5) rfl),
    cl := He.cls_ok (cd.fact 9 (f := .cls "Way") rfl),
    nk := He.noat_ok (cd.fact 10 (f := .noat "Way" "kept_parts") rfl),
    mkw := He.mkr_ok (cd.fact 11 (f := .mkr "Way") rfl),
    z_isinstance := He.free_ok X G (cd.fact 12 (f := .free "isinstance") rfl),
    z_int := He.free_ok X G (cd.fact 13 (f := .free "int") rfl),
    z_bool := He.free_ok X G (cd.fact 14 (f := .free "bool") rfl),
    z_str := He.free_ok X G (cd.fact 15 (f := .free "str") rfl),
    z_len := He.free_ok X G (cd.fact 16 (f := .free "len") rfl),
    z_list := He.free_ok X G (cd.fact 17 (f := .free "list") rfl),
    z_range := He.free_ok X G (cd.fact 18 (f := .free "range") rfl),
    z_tuple := He.free_ok X G (cd.fact 19 (f := .free "tuple") rfl),
    z_zip := He.free_ok X G (cd.fact 20 (f := .free "zip") rfl),
    z_all := He.free_ok X G (cd.fact 21 (f := .free "all") rfl),
    z_sorted := He.free_ok X G (cd.fact 22 (f := .free "sorted") rfl),
    z_abs := He.free_ok X G (cd.fact 23 (f := .free "abs") rfl),
    z_sum := He.free_ok X G (cd.fact 24 (f := .free "sum") rfl),
    g_is_integer := He.glo_ok X G (cd.fact 25 (f := .glo "is_integer") rfl),
    g_is_between := He.glo_ok X G (cd.fact 26 (f := .glo "is_between") rfl),
    g_is_count := He.glo_ok X G (cd.fact 27 (f := .glo "is_count") rfl),
    g_block_number := He.glo_ok X G (cd.fact 28 (f := .glo "block_number") rfl),
    g_block_lanes := He.glo_ok X G (cd.fact 29 (f := .glo "block_lanes") rfl),
    g_is_leaf := He.glo_ok X G (cd.fact 30 (f := .glo "is_leaf") rfl),
    g_is_term := He.glo_ok X G (cd.fact 31 (f := .glo "is_term") rfl),
    g_is_set_of_rules := He.glo_ok X G (cd.fact 32 (f := .glo "is_set_of_rules") rfl),
    g_with_item := He.glo_ok X G (cd.fact 33 (f := .glo "with_item") rfl),
    g_parts_joined := He.glo_ok X G (cd.fact 34 (f := .glo "parts_joined") rfl),
    g_check_sizes := He.glo_ok X G (cd.fact 35 (f := .glo "check_sizes") rfl),
    g_plain_sum := He.glo_ok X G (cd.fact 36 (f := .glo "plain_sum") rfl),
    g_wide_sum := He.glo_ok X G (cd.fact 37 (f := .glo "wide_sum") rfl),
    g_leaf_row := He.glo_ok X G (cd.fact 38 (f := .glo "leaf_row") rfl),
    g_checked_term := He.glo_ok X G (cd.fact 39 (f := .glo "checked_term") rfl),
    g_items_of := He.glo_ok X G (cd.fact 40 (f := .glo "items_of") rfl),
    g_normal_form := He.glo_ok X G (cd.fact 41 (f := .glo "normal_form") rfl),
    g_are_equal := He.glo_ok X G (cd.fact 42 (f := .glo "are_equal") rfl),
    g_is_bundle := He.glo_ok X G (cd.fact 43 (f := .glo "is_bundle") rfl),
    g_are_bundles := He.glo_ok X G (cd.fact 44 (f := .glo "are_bundles") rfl),
    g_is_value := He.glo_ok X G (cd.fact 45 (f := .glo "is_value") rfl),
    g_law_begin := He.glo_ok X G (cd.fact 46 (f := .glo "_law_begin") rfl),
    g_law_mixed := He.glo_ok X G (cd.fact 47 (f := .glo "_law_mixed") rfl),
    g_law_draw := He.glo_ok X G (cd.fact 48 (f := .glo "_law_draw") rfl),
    g_law_draw_packs := He.glo_ok X G (cd.fact 49 (f := .glo "_law_draw_packs") rfl),
    g_law_draw_way := He.glo_ok X G (cd.fact 50 (f := .glo "_law_draw_way") rfl),
    g_law_make_way := He.glo_ok X G (cd.fact 51 (f := .glo "_law_make_way") rfl),
    g_law_row := He.glo_ok X G (cd.fact 52 (f := .glo "_law_row") rfl),
    g_law_worth := He.glo_ok X G (cd.fact 53 (f := .glo "_law_worth") rfl),
    g_law_zeros := He.glo_ok X G (cd.fact 54 (f := .glo "_law_zeros") rfl),
    g_law := He.glo_ok X G (cd.fact 55 (f := .glo "law") rfl),
    f_init := cd.def_ 0 (d := dInit) rfl,
    f_is_integer := cd.def_ 1 (d := dTop 9 "is_integer") rfl,
    f_is_between := cd.def_ 2 (d := dTop 10 "is_between") rfl,
    f_is_count := cd.def_ 3 (d := dTop 11 "is_count") rfl,
    f_block_number := cd.def_ 4 (d := dTop 13 "block_number") rfl,
    f_block_lanes := cd.def_ 5 (d := dTop 14 "block_lanes") rfl,
    f_is_leaf := cd.def_ 6 (d := dTop 19 "is_leaf") rfl,
    f_is_term := cd.def_ 7 (d := dTop 20 "is_term") rfl,
    f_is_set_of_rules := cd.def_ 8 (d := dTop 21 "is_set_of_rules") rfl,
    f_with_item := cd.def_ 9 (d := dTop 22 "with_item") rfl,
    f_parts_joined := cd.def_ 10 (d := dTop 23 "parts_joined") rfl,
    f_check_sizes := cd.def_ 11 (d := dTop 24 "check_sizes") rfl,
    f_plain_sum := cd.def_ 12 (d := dTop 25 "plain_sum") rfl,
    f_wide_sum := cd.def_ 13 (d := dTop 26 "wide_sum") rfl,
    f_leaf_row := cd.def_ 14 (d := dTop 27 "leaf_row") rfl,
    f_checked_term := cd.def_ 15 (d := dTop 28 "checked_term") rfl,
    f_items_of := cd.def_ 16 (d := dTop 29 "items_of") rfl,
    f_normal_form := cd.def_ 17 (d := dTop 31 "normal_form") rfl,
    f_are_equal := cd.def_ 18 (d := dTop 32 "are_equal") rfl,
    f_is_bundle := cd.def_ 19 (d := dTop 39 "is_bundle") rfl,
    f_are_bundles := cd.def_ 20 (d := dTop 40 "are_bundles") rfl,
    f_is_value := cd.def_ 21 (d := dTop 41 "is_value") rfl,
    f_law_begin := cd.def_ 22 (d := dTop 44 "_law_begin") rfl,
    f_law_mixed := cd.def_ 23 (d := dTop 45 "_law_mixed") rfl,
    f_law_draw := cd.def_ 24 (d := dTop 46 "_law_draw") rfl,
    f_law_draw_packs := cd.def_ 25 (d := dTop 47 "_law_draw_packs") rfl,
    f_law_draw_way := cd.def_ 26 (d := dTop 48 "_law_draw_way") rfl,
    f_law_make_way := cd.def_ 27 (d := dTop 49 "_law_make_way") rfl,
    f_law_row := cd.def_ 28 (d := dTop 50 "_law_row") rfl,
    f_law_worth := cd.def_ 29 (d := dTop 51 "_law_worth") rfl,
    f_law_zeros := cd.def_ 30 (d := dTop 52 "_law_zeros") rfl,
    f_law := cd.def_ 31 (d := dTop 53 "law") rfl,
    tZERO := tupB_ok e1,
    cZERO := tupB_cls e1,
    tPARTS := tupB_ok e2,
    tTAILS := tupB_ok e3,
    tJOININGS := tupB_ok e4,
    sets := setsB_ok e5,
    pTail := p1.1,
    fTail := p1.2,
    pJoin := p2.1,
    fJoin := p2.2 }
end VW

set_option Elab.async false
set_option linter.all false
set_option maxRecDepth 100000
set_option maxHeartbeats 4000000
namespace VW
open PySem PySem.Spec PyProof.Rows L2
open C8 (Cal pe_c)
open He (ga ma)
/-! ### the built-ins' values -/
theorem b_isinstance : bootBuiltins "isinstance" = some (.builtin "isinstance") := by decide +kernel
theorem b_all : bootBuiltins "all" = some (.builtin "all") := by decide +kernel
theorem b_sorted : bootBuiltins "sorted" = some (.builtin "sorted") := by decide +kernel
theorem b_abs : bootBuiltins "abs" = some (.builtin "abs") := by decide +kernel
theorem b_sum : bootBuiltins "sum" = some (.builtin "sum") := by decide +kernel
theorem b_len : bootBuiltins "len" = some (.builtin "len") := by decide +kernel
theorem b_int : bootBuiltins "int" = some (.type "int") := by decide +kernel
theorem b_bool : bootBuiltins "bool" = some (.type "bool") := by decide +kernel
theorem b_str : bootBuiltins "str" = some (.type "str") := by decide +kernel
theorem b_tuple : bootBuiltins "tuple" = some (.type "tuple") := by decide +kernel
theorem b_list : bootBuiltins "list" = some (.type "list") := by decide +kernel
section
variable {P : Program} {w : World} {K : PySem.W.Frag} {mg : Str → Option Value} {base : Heap}
/-- a def of the top, by its body: where it may be called -/
theorem mk_cal {i : Nat} {x : Str} {N ps : List Str} {sp : Sp} {k : Nat} (F : FnP K i x) (hm : mg x = some (.ref (ga K x))) (S : FnScope N ps (defScope (topS i)))
    (hb : ∀ (kV doc pm : Value) (an : Option Addr) (cdv ct : Value) (us : List Value), us.length = ps.length → bindArgs (PySem.W.fnOf x x (defArgs (topS i)) (defBody (topS i)) (defScope (topS i)) .none kV doc pm an cdv ct) ⟨us, []⟩ = pure (ps.zip us))
    (len : ∀ vs H Q E, sp vs H Q E → vs.length = ps.length)
    (hbody : ∀ (cdv : Value) (A : Around) (outer : List Env) (s : Shared) (H : Hp) (vs : List V) (Q : VK) (E : XK), Room k (A.deeper (envOfC x (defScope (topS i)) s.heap.objs.size (ga K x) cdv)) → sp vs H Q E →
      ∃ t, PSs (cxOf C8.CX0 P w K mg base N x (defScope (topS i)) (ga K x) cdv A outer s H E).nox (defBody (topS i)) t ∧ t { nx := fun _ H' => Q .non H', rt := Q } (start N vs) H) : Cal P w K mg base (k + 1) x sp [] := by
  obtain ⟨fd, F⟩ := F
  refine ⟨ga K x, fd, ps, [], F.ok S len fun cdv A outer s H vs Q E hr h => ?_, hm, F.kp, F.bindsN hb, .nil⟩
  obtain ⟨t, h1, h2⟩ := hbody cdv A outer s H vs Q E hr h
  exact ⟨t, h1.nox, h2⟩
end
/-! ### tests that are known, in the readings -/
theorem if_t {c : Bool} {A B : Prop} (hc : c = true) (h : A) : if c = true then A else B := by rw [if_pos hc]; exact h
theorem if_f {c : Bool} {A B : Prop} (hc : c = false) (h : B) : if c = true then A else B := by rw [hc, if_neg Bool.false_ne_true]; exact h
/-! ### heaps -/
theorem same_new {H : Hp} {p : Addr} (h : H p = none) (o : HO) : Same H (upd H p o) := fun b u q => by rw [upd_ne (ne_of_none q h)]; exact q
theorem Same.seqT {K : PySem.W.Frag} {H H' : Hp} {a : Addr} {xs : List V} (e : Same H H') (h : SqT K H a xs) : SqT K H' a xs := by
  rcases h with (h | ⟨o, h⟩) | h
  · exact .inl (.inl (e _ _ h))
  · exact .inl (.inr ⟨o, e _ _ h⟩)
  · exact .inr h
theorem sz {n : Nat} (h : n ≤ 1000) : n ≤ sizeLine := Nat.le_of_lt (small1000 h)
/-- x in a tuple of data -/
def rInT (K : PySem.W.Frag) : R2 := fun x y H Q => ∃ d ds, Dp K H x d ∧ Dp K H y (.tuple ds) ∧ SeqAt.shaped d = true ∧ SeqAt.shaped (.tuple ds) = true ∧ Q (.bl (ds.any fun z => PyData.eqv z d)) H
theorem op_inT {X : Cx} (hu : X.A.units + 65 < cLine) : OpR X (compareOp .In) (rInT X.K) := by
  intro pins s σ H x y v u Q I rx ry h
  obtain ⟨d, ds, hd, he, sd, se, q⟩ := h
  obtain ⟨as, r1⟩ := Dp.reads I d x v hd rx
  obtain ⟨bs, r2⟩ := Dp.reads I (.tuple ds) y u he ry
  exact SeqAt.in_tuple_reads r2 r1 (SeqAt.canLay_of_shaped se) (SeqAt.canLay_of_shaped sd) (room_in_shaped sd hu) ⟨.bl _, H, I, rfl, q⟩
/-! ### is_integer, is_between, is_count -/
/-- of an int: yes -/
def spIsInt : Sp := fun vs H Q _ => ∃ i : Int, vs = [.int i] ∧ Q (.bl true) H
def spBetween : Sp := fun vs H Q _ => ∃ i lo hi : Int, vs = [.int i, .int lo, .int hi] ∧ lo ≤ i ∧ i ≤ hi ∧ Q (.bl true) H
def spCount : Sp := fun vs H Q _ => ∃ i : Int, vs = [.int i] ∧ 0 ≤ i ∧ Q (.bl true) H
section
variable {P : Program} {w : World} {K : PySem.W.Frag} {mg : Str → Option Value} {base : Heap}
theorem isi_int {H : Hp} {Q : VK} {i : Int} (h : Q (.bl true) H) : rIsi K [.int i, .ty "int"] H Q := ⟨_, _, _, _, true, rfl, .ty "int", .base (.int i), kit_ty (by decide +kernel), h⟩
theorem isi_intBool {H : Hp} {Q : VK} {i : Int} (h : Q (.bl false) H) : rIsi K [.int i, .ty "bool"] H Q := ⟨_, _, _, _, false, rfl, .ty "bool", .base (.int i), kit_ty (by decide +kernel), h⟩
theorem sc9 : FnScope ["value"] ["value"] (defScope (topS 9)) := ⟨rfl, rfl, rfl, by decide +kernel, rfl, by decide +kernel, by decide +kernel⟩
theorem ok_is_integer (T : Tx K mg) : Cal P w K mg base 1 "is_integer" spIsInt [] := by
  refine mk_cal T.f_is_integer T.g_is_integer sc9 (fun _ _ _ _ _ _ us hl => match us, hl with | [_], _ => rfl) (fun vs H Q E h => ?_) (fun cdv A outer s H vs Q E hr h => ?_)
  · obtain ⟨i, rfl, _⟩ := h
    rfl
  obtain ⟨i, rfl, q⟩ := h
  refine ⟨_, pss_one (ps_ret (pe_and (pe_callB call_isi (by rfl) T.z_isinstance b_isinstance (pa_cons (pv 0) (pa_cons (pe_bltn (v := .ty "int") (by rfl) T.z_int b_int rfl) pa_nil)))
    (pe_one (pe_not (pe_callB call_isi (by rfl) T.z_isinstance b_isinstance (pa_cons (pv 0) (pa_cons (pe_bltn (v := .ty "bool") (by rfl) T.z_bool b_bool rfl) pa_nil))))))), ?_⟩
  refine ⟨_, rfl, _, _, _, _, true, rfl, .ty "int", .base (.int i), kit_ty (by decide +kernel), true, rfl, iteT ?_⟩
  refine ⟨_, rfl, _, _, _, _, false, rfl, .ty "bool", .base (.int i), kit_ty (by decide +kernel), false, rfl, ?_⟩
  exact q
theorem sc10 : FnScope ["value", "low", "high"] ["value", "low", "high"] (defScope (topS 10)) := ⟨rfl, rfl, rfl, by decide +kernel, rfl, by decide +kernel, by decide +kernel⟩
theorem ok_is_between (T : Tx K mg) : Cal P w K mg base 2 "is_between" spBetween [] := by
  have G := ok_is_integer (P := P) (w := w) (base := base) T
  refine mk_cal T.f_is_between T.g_is_between sc10 (fun _ _ _ _ _ _ us hl => match us, hl with | [_, _, _], _ => rfl) (fun vs H Q E h => ?_) (fun cdv A outer s H vs Q E hr h => ?_)
  · obtain ⟨i, lo, hi, rfl, _⟩ := h
    rfl
  obtain ⟨i, lo, hi, rfl, h1, h2, q⟩ := h
  refine ⟨_, pss_one (ps_ret (pe_and (pe_c G hr (Nat.le_refl _) (by rfl) (pa_cons (pv 0) pa_nil)) (pe_one (pe_chain op_le op_le (pv 1) (pv 0) (pv 2))))), ?_⟩
  refine ⟨_, rfl, i, rfl, true, rfl, iteT ⟨_, rfl, _, rfl, _, _, rfl, rfl, _, rfl, if_t (decide_eq_true h1) ⟨_, rfl, _, _, rfl, rfl, ?_⟩⟩⟩
  show Q (.bl (decide (i ≤ hi))) H
  rw [decide_eq_true h2]
  exact q
theorem sc11 : FnScope ["value"] ["value"] (defScope (topS 11)) := ⟨rfl, rfl, rfl, by decide +kernel, rfl, by decide +kernel, by decide +kernel⟩
theorem ok_is_count (T : Tx K mg) : Cal P w K mg base 2 "is_count" spCount [] := by
  have G := ok_is_integer (P := P) (w := w) (base := base) T
  refine mk_cal T.f_is_count T.g_is_count sc11 (fun _ _ _ _ _ _ us hl => match us, hl with | [_], _ => rfl) (fun vs H Q E h => ?_) (fun cdv A outer s H vs Q E hr h => ?_)
  · obtain ⟨i, rfl, _⟩ := h
    rfl
  obtain ⟨i, rfl, h0, q⟩ := h
  refine ⟨_, pss_one (ps_ret (pe_and (pe_c G hr (Nat.le_refl _) (by rfl) (pa_cons (pv 0) pa_nil)) (pe_one (pe_cmpR op_ge (pv 0) pe_int (nomark _))))), ?_⟩
  refine ⟨_, rfl, i, rfl, true, rfl, iteT ⟨_, rfl, _, _, rfl, rfl, ?_⟩⟩
  show Q (.bl (decide (0 ≤ i))) H
  rw [decide_eq_true h0]
  exact q
end
end VW

set_option Elab.async false
set_option linter.all false
set_option maxRecDepth 100000
set_option maxHeartbeats 4000000
namespace VW
open PySem PySem.Spec PyProof.Rows L2
open C8 (Cal pe_c)
open He (ga ma)
/-! ### the pool of draws: a list of a list of ints and four ints -/
structure Pool (H : Hp) (a l : Addr) (ns : List Int) (p1 p2 p3 p4 : Int) : Prop where
  ha : H a = some (.lst [.ref l, .int p1, .int p2, .int p3, .int p4])
  hl : H l = some (.lst (ns.map V.int))
  ne : l ≠ a
  nn : 0 ≤ p1
  len : ns.length ≤ 63
def PoolAt (H : Hp) (a l : Addr) : Prop := ∃ ns p1 p2 p3 p4, Pool H a l ns p1 p2 p3 p4
/-- all but the pool stands -/
def Keep (a l : Addr) (H H' : Hp) : Prop := ∀ b o, H b = some o → b ≠ a → b ≠ l → H' b = some o
theorem Keep.refl {a l : Addr} (H : Hp) : Keep a l H H := fun _ _ h _ _ => h
theorem Keep.trans {a l : Addr} {H H1 H2 : Hp} (k : Keep a l H H1) (k2 : Keep a l H1 H2) : Keep a l H H2 := fun b o h h1 h2 => k2 b o (k b o h h1 h2) h1 h2
theorem Keep.put {a l : Addr} {H H1 : Hp} {o : HO} (k : Keep a l H H1) : Keep a l H (upd H1 a o) := fun b u h h1 h2 => by rw [upd_ne h1]; exact k b u h h1 h2
theorem Keep.putl {a l : Addr} {H H1 : Hp} {o : HO} (k : Keep a l H H1) : Keep a l H (upd H1 l o) := fun b u h h1 h2 => by rw [upd_ne h2]; exact k b u h h1 h2
theorem Keep.same {a l : Addr} {H H1 H2 : Hp} (k : Keep a l H H1) (e : Same H1 H2) : Keep a l H H2 := fun b u h h1 h2 => e b u (k b u h h1 h2)
theorem Pool.put {H : Hp} {a l : Addr} {ns : List Int} {p1 p2 p3 p4 : Int} (p : Pool H a l ns p1 p2 p3 p4) {q1 q2 q3 q4 : Int} (h : 0 ≤ q1) : Pool (upd H a (.lst [.ref l, .int q1, .int q2, .int q3, .int q4])) a l ns q1 q2 q3 q4 :=
  ⟨upd_same, by rw [upd_ne p.ne]; exact p.hl, p.ne, h, p.len⟩
theorem Pool.putl {H : Hp} {a l : Addr} {ns ms : List Int} {p1 p2 p3 p4 : Int} (p : Pool H a l ns p1 p2 p3 p4) (h : ms.length = ns.length) : Pool (upd H l (.lst (ms.map V.int))) a l ms p1 p2 p3 p4 :=
  ⟨by rw [upd_ne (Ne.symm p.ne)]; exact p.ha, upd_same, p.ne, p.nn, by rw [h]; exact p.len⟩
theorem Pool.same {H H' : Hp} {a l : Addr} {ns : List Int} {p1 p2 p3 p4 : Int} (p : Pool H a l ns p1 p2 p3 p4) (e : Same H H') : Pool H' a l ns p1 p2 p3 p4 := ⟨e _ _ p.ha, e _ _ p.hl, p.ne, p.nn, p.len⟩
theorem PoolAt.same {H H' : Hp} {a l : Addr} (p : PoolAt H a l) (e : Same H H') : PoolAt H' a l := let ⟨ns, p1, p2, p3, p4, q⟩ := p; ⟨ns, p1, p2, p3, p4, q.same e⟩
/-- a draw: from the pool a number below many -/
def spDraw : Sp := fun vs H Q _ => ∃ (a l : Addr) (m : Int), vs = [.ref a, .int m] ∧ PoolAt H a l ∧ 1 ≤ m ∧ m ≤ 10 ^ 30 ∧ ∀ (r : Int) (H' : Hp), 0 ≤ r → r < m → PoolAt H' a l → Keep a l H H' → Q (.int r) H'
theorem small_log {m : Int} (h1 : 1 ≤ m) (h2 : m ≤ 10 ^ 30) : m.natAbs < 2 ^ 100 := by
  have e : (10 : Int) ^ 30 = 1000000000000000000000000000000 := by decide
  have e2 : (2 : Nat) ^ 100 = 1267650600228229401496703205376 := by decide
  rw [e] at h2
  rw [e2]
  omega
theorem log_ok {m : Int} (h1 : 1 ≤ m) (h2 : m ≤ 10 ^ 30) : m.natAbs.log2 < 1920 := by
  have h := small_log h1 h2
  have h3 : m.natAbs.log2 < 100 := (Nat.log2_lt (by omega)).mpr h
  omega
section
variable {P : Program} {w : World} {K : PySem.W.Frag} {mg : Str → Option Value} {base : Heap}
theorem sc45 : FnScope ["pool", "many", "found", "turn"] ["pool", "many"] (defScope (topS 45)) := ⟨rfl, rfl, rfl, by decide +kernel, rfl, by decide +kernel, by decide +kernel⟩
theorem ok_mixed (T : Tx K mg) : Cal P w K mg base 1 "_law_mixed" spDraw [] := by
  refine mk_cal T.f_law_mixed T.g_law_mixed sc45 (fun _ _ _ _ _ _ us hl => match us, hl with | [_, _], _ => rfl) (fun vs H Q E h => ?_) (fun cdv A outer s H vs Q E hr h => ?_)
  · obtain ⟨a, l, m, rfl, _⟩ := h
    rfl
  obtain ⟨a, l, m, rfl, ⟨ns, p1, p2, p3, p4, p⟩, h1, h2, q⟩ := h
  refine ⟨_, pss_cons (ps_asg (pe_op op_add (pe_ix ix_list (pv 0) pe_int (fun _ _ => rfl)) pe_int) (pg_sub (pv 0) pe_int set_list))
    (pss_cons (ps_set (i := 2) sc45.nd rfl (Or.inl rfl) (pe_ix ix_list (pv 0) pe_int (fun _ _ => rfl)))
    (pss_cons (ps_for PassesOwn.never rfl (pi_range1 (by rfl) T.z_range (pa_cons (pe_op op_add pe_int (pe_op op_fdiv (pe_callB call_len_str (by rfl) T.z_len b_len (pa_cons (pe_callTy call_str_int (by rfl) T.z_str b_str (pa_cons (pv 1) pa_nil)) pa_nil)) pe_int)) pa_nil)) (pg_name (i := 3) sc45.nd rfl (Or.inl rfl))
      (pss_cons (ps_asg (pe_op op_mod (pe_op op_add (pe_op op_add (pe_op op_mul (pe_ix ix_list (pv 0) pe_int (fun _ _ => rfl)) pe_int) (pe_op op_mul (pe_ix ix_list (pv 0) pe_int (fun _ _ => rfl)) pe_int)) pe_int) pe_int) (pg_sub (pv 0) pe_int set_list))
      (pss_one (ps_set (i := 2) sc45.nd rfl (Or.inl rfl) (pe_op op_add (pe_op op_mul (pv 2) pe_int) (pe_op op_fdiv (pe_ix ix_list (pv 0) pe_int (fun _ _ => rfl)) pe_int))))))
    (pss_one (ps_ret (pe_op op_mod (pv 2) (pv 1)))))), ?_⟩
  -- pool[2] = pool[2] + 1
  refine ⟨_, rfl, a, _, 2, _, rfl, rfl, SqL.of p.ha, rfl, p2, 1, rfl, rfl, _, rfl, a, _, 2, 2, rfl, rfl, p.ha, rfl, ?_⟩
  have p' : Pool (upd H a (.lst [.ref l, .int p1, .int (p2 + 1), .int p3, .int p4])) a l ns p1 (p2 + 1) p3 p4 := p.put p.nn
  -- found = pool[3]
  refine ⟨_, rfl, a, _, 3, _, rfl, rfl, SqL.of p'.ha, rfl, ?_⟩
  -- the loop
  have hz := int_text_len_1921 (log_ok h1 h2)
  refine ⟨_, rfl, m, rfl, log_ok h1 h2, _, rfl, (Nat.le_trans hz (by decide)), _, _, rfl, rfl, ⟨by decide, by decide⟩, _, _, rfl, rfl, _, rfl, ?_, ?_, ?_⟩
  · omega
  · omega
  refine for_range (lo := 0) (fun i σ H' => ∃ (f : Int) (v : Option V), σ = [some (.ref a), some (.int m), some (.int f), v] ∧ PoolAt H' a l ∧ Keep a l H H') ⟨p3, none, rfl, ⟨_, _, _, _, _, p'⟩, (Keep.refl H).put⟩ ?_ ?_
  · rintro i σ H1 hi ⟨f, v, rfl, ⟨ns1, q1, q2, q3, q4, t⟩, k⟩
    refine ⟨_, rfl, a, _, 3, _, rfl, rfl, SqL.of t.ha, rfl, q3, 48271, rfl, rfl, .inr ⟨by decide, by decide⟩, _, rfl, a, _, 2, _, rfl, rfl, SqL.of t.ha, rfl, q2, 12345, rfl, rfl, .inr ⟨by decide, by decide⟩, _, _, rfl, rfl, _, _, rfl, rfl, _, _, rfl, rfl, (by show (0 : Int) < 2147483647; decide), _, rfl, a, _, 3, 3, rfl, rfl, t.ha, rfl, ?_⟩
    have t' : Pool (upd H1 a (.lst [.ref l, .int q1, .int q2, .int ((q3 * 48271 + q2 * 12345 + 89126) % 2147483647), .int q4])) a l ns1 q1 q2 ((q3 * 48271 + q2 * 12345 + 89126) % 2147483647) q4 := t.put t.nn
    refine ⟨_, rfl, f, 2147483647, rfl, rfl, .inr ⟨by decide, by decide⟩, _, rfl, a, _, 3, _, rfl, rfl, SqL.of t'.ha, rfl, _, 7, rfl, rfl, ⟨by decide, by decide⟩, _, _, rfl, rfl, ?_⟩
    exact ⟨_, _, rfl, ⟨_, _, _, _, _, t'⟩, k.put⟩
  · rintro σ H1 ⟨f, v, rfl, t, k⟩
    refine ⟨_, rfl, _, rfl, f, m, rfl, rfl, (by show 0 < m; omega), ?_⟩
    exact q _ _ (Int.emod_nonneg _ (by omega)) (Int.emod_lt_of_pos _ (by omega)) t k
end
end VW

set_option Elab.async false
set_option linter.all false
set_option maxRecDepth 100000
set_option maxHeartbeats 4000000
namespace VW
open PySem PySem.Spec PyProof.Rows L2
open C8 (Cal pe_c)
open He (ga ma)
theorem map_at {ns : List Int} {k : Int} (h0 : 0 ≤ k) (h : k < (ns.length : Int)) : ∃ n : Int, ∃ j : Nat, k = (j : Int) ∧ ns[j]? = some n ∧ atI (ns.map V.int) k = some (.int n) ∧ ixN (ns.map V.int).length k = some j := by
  obtain ⟨j, rfl⟩ : ∃ j : Nat, k = (j : Int) := ⟨k.toNat, by omega⟩
  have hj : j < ns.length := by omega
  refine ⟨ns[j], j, rfl, List.getElem?_eq_getElem hj, atI_nat (by rw [List.getElem?_map, List.getElem?_eq_getElem hj] <;> rfl), ?_⟩
  unfold ixN
  rw [List.length_map, if_pos (by omega), if_pos (by omega)]
  simp
section
variable {P : Program} {w : World} {K : PySem.W.Frag} {mg : Str → Option Value} {base : Heap}
theorem sc46 : FnScope ["pool", "many", "found"] ["pool", "many"] (defScope (topS 46)) := ⟨rfl, rfl, rfl, by decide +kernel, rfl, by decide +kernel, by decide +kernel⟩
theorem ok_draw (T : Tx K mg) : Cal P w K mg base 2 "_law_draw" spDraw [] := by
  have G := ok_mixed (P := P) (w := w) (base := base) T
  refine mk_cal T.f_law_draw T.g_law_draw sc46 (fun _ _ _ _ _ _ us hl => match us, hl with | [_, _], _ => rfl) (fun vs H Q E h => ?_) (fun cdv A outer s H vs Q E hr h => ?_)
  · obtain ⟨a, l, m, rfl, _⟩ := h
    rfl
  obtain ⟨a, l, m, rfl, ⟨ns, p1, p2, p3, p4, p⟩, h1, h2, q⟩ := h
  refine ⟨_, pss_cons (ps_if (PW.pt (pw_or (pt_cmpR op_ge (pe_ix ix_list (pv 0) pe_int (fun _ _ => rfl)) (pe_callB call_len_seq (by rfl) T.z_len b_len (pa_cons (pe_ix ix_list (pv 0) pe_int (fun _ _ => rfl)) pa_nil)) (nomark _)) (pw_or1 (pt_cmpR op_eq (pv 1) pe_int (nomark _)))))
      (pss_one (ps_ret (pe_ifExp (pt_cmpR op_gt (pv 1) pe_int (nomark _)) (pe_c G hr (Nat.le_refl _) (by rfl) (pa_cons (pv 0) (pa_cons (pv 1) pa_nil))) pe_int))) pss_nil)
    (pss_cons (ps_if (pt_cmpR op_lt (pe_ix ix_list (pe_ix ix_list (pv 0) pe_int (fun _ _ => rfl)) (pe_ix ix_list (pv 0) pe_int (fun _ _ => rfl)) (fun _ _ => rfl)) (pe_op op_pow pe_int pe_int) (nomark _))
      (pss_cons (ps_asg (pe_op op_mod (pe_op op_add (pe_op op_add (pe_op op_add (pe_op op_mul (pe_ix ix_list (pv 0) pe_int (fun _ _ => rfl)) pe_int) (pe_ix ix_list (pe_ix ix_list (pv 0) pe_int (fun _ _ => rfl)) (pe_ix ix_list (pv 0) pe_int (fun _ _ => rfl)) (fun _ _ => rfl))) (pe_ix ix_list (pv 0) pe_int (fun _ _ => rfl))) pe_int) pe_int) (pg_sub (pv 0) pe_int set_list))
      (pss_cons (ps_asg (pe_op op_add (pe_ix ix_list (pv 0) pe_int (fun _ _ => rfl)) pe_int) (pg_sub (pv 0) pe_int set_list))
      (pss_cons (ps_if (pt_cmpR op_eq (pe_op op_mod (pe_ix ix_list (pv 0) pe_int (fun _ _ => rfl)) pe_int) pe_int (nomark _))
        (pss_one (ps_asg (pe_op op_add (pe_ix ix_list (pv 0) pe_int (fun _ _ => rfl)) pe_int) (pg_sub (pv 0) pe_int set_list))) pss_nil)
      (pss_one (ps_ret (pe_c G hr (Nat.le_refl _) (by rfl) (pa_cons (pv 0) (pa_cons (pv 1) pa_nil)))))))) pss_nil)
    (pss_cons (ps_set (i := 2) sc46.nd rfl (Or.inl rfl) (pe_op op_mod (pe_ix ix_list (pe_ix ix_list (pv 0) pe_int (fun _ _ => rfl)) (pe_ix ix_list (pv 0) pe_int (fun _ _ => rfl)) (fun _ _ => rfl)) (pv 1)))
    (pss_cons (ps_asg (pe_op op_fdivW (pe_ix ix_list (pe_ix ix_list (pv 0) pe_int (fun _ _ => rfl)) (pe_ix ix_list (pv 0) pe_int (fun _ _ => rfl)) (fun _ _ => rfl)) (pv 1)) (pg_sub (pe_ix ix_list (pv 0) pe_int (fun _ _ => rfl)) (pe_ix ix_list (pv 0) pe_int (fun _ _ => rfl)) set_list))
    (pss_cons (ps_if (pt_cmpR op_eq (pe_ix ix_list (pe_ix ix_list (pv 0) pe_int (fun _ _ => rfl)) (pe_ix ix_list (pv 0) pe_int (fun _ _ => rfl)) (fun _ _ => rfl)) pe_int (nomark _))
        (pss_one (ps_asg (pe_op op_add (pe_ix ix_list (pv 0) pe_int (fun _ _ => rfl)) pe_int) (pg_sub (pv 0) pe_int set_list))) pss_nil)
    (pss_one (ps_ret (pv 2))))))), ?_⟩
  -- the first test, both its ways to the mixed draw
  have mixed : tIf (tTest (tOp (rI0 fun i j => .bl (decide (j < i))) (tVar 1) (tC (.int 1)))) (tCall spDraw [] C8.E0 (tCons (tVar 0) (tCons (tVar 1) tNil))) (tC (.int 0)) (L2.start ["pool", "many", "found"] [.ref a, .int m]) H Q := by
    refine ⟨_, rfl, m, 1, rfl, rfl, _, rfl, ?_⟩
    refine ite2 (fun c => ?_) (fun c => ?_)
    · exact ⟨_, rfl, _, rfl, a, l, m, rfl, ⟨ns, p1, p2, p3, p4, p⟩, h1, h2, q⟩
    · have c' : ¬ 1 < m := of_decide_eq_false (Bool.eq_false_iff.mpr c)
      exact q 0 H (Int.le_refl 0) (by omega) ⟨ns, p1, p2, p3, p4, p⟩ (Keep.refl H)
  refine ⟨_, rfl, a, _, 1, _, rfl, rfl, SqL.of p.ha, rfl, _, rfl, a, _, 0, _, rfl, rfl, SqL.of p.ha, rfl, l, _, rfl, .inl (SqL.of p.hl), p1, _, rfl, rfl, _, rfl, ?_⟩
  refine ite2 (fun c => ?_) (fun c => ?_)
  · exact iteT mixed
  have c1 : ¬ (((ns.map V.int).length : Nat) : Int) ≤ p1 := of_decide_eq_false (Bool.eq_false_iff.mpr c)
  rw [List.length_map] at c1
  refine ⟨_, rfl, rfl, _, rfl, ?_⟩
  refine ite2 (fun c2 => mixed) (fun c2 => ?_)
  obtain ⟨n, j, e1, hj, hat, hix⟩ := map_at p.nn (show p1 < (ns.length : Int) by omega)
  -- pool[0][pool[1]] < 10 ** 18
  refine ⟨_, rfl, a, _, 0, _, rfl, rfl, SqL.of p.ha, rfl, _, rfl, a, _, 1, _, rfl, rfl, SqL.of p.ha, rfl, l, _, p1, _, rfl, rfl, SqL.of p.hl, hat, 10, 18, rfl, rfl, ⟨by decide, by decide, by decide⟩, n, _, rfl, rfl, _, rfl, ?_⟩
  refine ite2 (fun c3 => ?_) (fun c3 => ?_)
  · -- a small number: mixed
    refine ⟨_, rfl, a, _, 3, _, rfl, rfl, SqL.of p.ha, rfl, p3, 31, rfl, rfl, .inr ⟨by decide, by decide⟩, _, rfl, a, _, 0, _, rfl, rfl, SqL.of p.ha, rfl, _, rfl, a, _, 1, _, rfl, rfl, SqL.of p.ha, rfl, l, _, p1, _, rfl, rfl, SqL.of p.hl, hat, _, _, rfl, rfl, _, rfl, a, _, 2, _, rfl, rfl, SqL.of p.ha, rfl, _, _, rfl, rfl, _, _, rfl, rfl, _, _, rfl, rfl, (by show (0 : Int) < 2147483647; decide),
      _, rfl, a, _, 3, 3, rfl, rfl, p.ha, rfl, ?_⟩
    have t : Pool (upd H a (.lst [.ref l, .int p1, .int p2, .int ((p3 * 31 + n + p2 + 1) % 2147483647), .int p4])) a l ns p1 p2 ((p3 * 31 + n + p2 + 1) % 2147483647) p4 := p.put p.nn
    refine ⟨_, rfl, a, _, 4, _, rfl, rfl, SqL.of t.ha, rfl, _, _, rfl, rfl, _, rfl, a, _, 4, 4, rfl, rfl, t.ha, rfl, ?_⟩
    have t2 := t.put (q2 := p2) (q3 := (p3 * 31 + n + p2 + 1) % 2147483647) (q4 := p4 + 1) t.nn
    refine ⟨_, rfl, a, _, 4, _, rfl, rfl, SqL.of t2.ha, rfl, _, 3, rfl, rfl, (by show (0 : Int) < 3; decide), rfl, _, rfl, ?_⟩
    refine ite2 (fun c4 => ?_) (fun c4 => ?_)
    · refine ⟨_, rfl, a, _, 1, _, rfl, rfl, SqL.of t2.ha, rfl, _, _, rfl, rfl, _, rfl, a, _, 1, 1, rfl, rfl, t2.ha, rfl, ?_⟩
      have t3 := t2.put (q1 := p1 + 1) (q2 := p2) (q3 := (p3 * 31 + n + p2 + 1) % 2147483647) (q4 := p4 + 1) (by have := p.nn; omega)
      exact ⟨_, rfl, _, rfl, a, l, m, rfl, ⟨_, _, _, _, _, t3⟩, h1, h2, fun r H' a1 a2 a3 a4 => q r H' a1 a2 a3 ((((Keep.refl H).put).put).put.trans a4)⟩
    · exact ⟨_, rfl, _, rfl, a, l, m, rfl, ⟨_, _, _, _, _, t2⟩, h1, h2, fun r H' a1 a2 a3 a4 => q r H' a1 a2 a3 ((((Keep.refl H).put).put).trans a4)⟩
  · -- a great one: its rest
    refine ⟨_, rfl, a, _, 0, _, rfl, rfl, SqL.of p.ha, rfl, _, rfl, a, _, 1, _, rfl, rfl, SqL.of p.ha, rfl, l, _, p1, _, rfl, rfl, SqL.of p.hl, hat, _, rfl, n, m, rfl, rfl, (by show 0 < m; omega), ?_⟩
    refine ⟨_, rfl, a, _, 0, _, rfl, rfl, SqL.of p.ha, rfl, _, rfl, a, _, 1, _, rfl, rfl, SqL.of p.ha, rfl, l, _, p1, _, rfl, rfl, SqL.of p.hl, hat, _, rfl, n, m, rfl, rfl, wide_div (by omega) (small_log h1 h2) (by decide) (by decide),
      _, rfl, a, _, 0, _, rfl, rfl, SqL.of p.ha, rfl, _, rfl, a, _, 1, _, rfl, rfl, SqL.of p.ha, rfl, l, _, p1, j, rfl, rfl, p.hl, hix, ?_⟩
    have es : (ns.map V.int).set j (.int (n / m)) = (ns.set j (n / m)).map V.int := by rw [List.map_set]
    have t : Pool (upd H l (.lst ((ns.set j (n / m)).map V.int))) a l (ns.set j (n / m)) p1 p2 p3 p4 := p.putl (by rw [List.length_set])
    rw [es]
    have hj2 : atI ((ns.set j (n / m)).map V.int) p1 = some (.int (n / m)) := by
      rw [e1]
      refine atI_nat ?_
      have : j < ns.length := (List.getElem?_eq_some_iff.mp hj).1
      rw [List.getElem?_map, List.getElem?_set_self this]
      rfl
    refine ⟨_, rfl, a, _, 0, _, rfl, rfl, SqL.of t.ha, rfl, _, rfl, a, _, 1, _, rfl, rfl, SqL.of t.ha, rfl, l, _, p1, _, rfl, rfl, SqL.of t.hl, hj2, rfl, _, rfl, ?_⟩
    have r0 : 0 ≤ n % m := Int.emod_nonneg _ (by omega)
    have r1 : n % m < m := Int.emod_lt_of_pos _ (by omega)
    refine ite2 (fun c4 => ?_) (fun c4 => ?_)
    · refine ⟨_, rfl, a, _, 1, _, rfl, rfl, SqL.of t.ha, rfl, _, _, rfl, rfl, _, rfl, a, _, 1, 1, rfl, rfl, t.ha, rfl, ?_⟩
      have t3 := t.put (q1 := p1 + 1) (q2 := p2) (q3 := p3) (q4 := p4) (by have := p.nn; omega)
      exact ⟨_, rfl, q _ _ r0 r1 ⟨_, _, _, _, _, t3⟩ (((Keep.refl H).putl).put)⟩
    · exact ⟨_, rfl, q _ _ r0 r1 ⟨_, _, _, _, _, t⟩ ((Keep.refl H).putl)⟩
end
end VW

set_option Elab.async false
set_option linter.all false
set_option maxRecDepth 100000
set_option maxHeartbeats 4000000
namespace VW
open PySem PySem.Spec PyProof.Rows L2
open C8 (Cal pe_c)
open He (ga ma)
/-- a bundle: where its tuple stands, first, last -/
abbrev Bd := Addr × Int × Int
/-- bundles, each behind the one ahead, all below n -/
structure Bds (H : Hp) (n : Int) (bs : List Bd) : Prop where
  at_ : ∀ b ∈ bs, H b.1 = some (.tup [.int b.2.1, .int b.2.2])
  ok : ∀ b ∈ bs, 0 ≤ b.2.1 ∧ b.2.1 ≤ b.2.2 ∧ b.2.2 < n
  up : bs.Pairwise fun b c => b.2.2 < c.2.1
theorem Bds.nil (H : Hp) (n : Int) : Bds H n [] := ⟨fun _ h => (nomatch h), fun _ h => (nomatch h), .nil⟩
theorem Bds.keep {H H' : Hp} {n : Int} {bs : List Bd} (h : Bds H n bs) (k : ∀ b xs, H b = some (.tup xs) → H' b = some (.tup xs)) : Bds H' n bs := ⟨fun b hb => k _ _ (h.at_ b hb), h.ok, h.up⟩
theorem Keep.tup {a l : Addr} {H0 H H' : Hp} (p : PoolAt H a l) (k : Keep a l H H') : ∀ b xs, H b = some (.tup xs) → H' b = some (.tup xs) := fun b xs h => by
  obtain ⟨ns, p1, p2, p3, p4, p⟩ := p
  exact k b _ h (ne_of h p.ha (by intro z; cases z)) (ne_of h p.hl (by intro z; cases z))
theorem Same.tup {H H' : Hp} (k : Same H H') : ∀ b xs, H b = some (.tup xs) → H' b = some (.tup xs) := fun b xs h => k b _ h
theorem Bds.snoc {H : Hp} {n at_ last : Int} {t : Addr} {bs : List Bd} (h : Bds H n bs) (ha : ∀ b ∈ bs, b.2.2 < at_) (h0 : 0 ≤ at_) (h1 : at_ ≤ last) (h2 : last < n) (ht : H t = some (.tup [.int at_, .int last])) : Bds H n (bs ++ [(t, at_, last)]) := by
  refine ⟨fun b hb => ?_, fun b hb => ?_, ?_⟩
  · rcases List.mem_append.mp hb with hb | hb
    · exact h.at_ b hb
    · have e : b = (t, at_, last) := by simpa using hb
      subst e
      exact ht
  · rcases List.mem_append.mp hb with hb | hb
    · exact h.ok b hb
    · have e : b = (t, at_, last) := by simpa using hb
      subst e
      exact ⟨h0, h1, h2⟩
  · rw [List.pairwise_append]
    refine ⟨h.up, by simp, fun b hb c hc => ?_⟩
    have e : c = (t, at_, last) := by simpa using hc
    subst e
    exact ha b hb
/-- a tuple of bundles, new -/
def spPacks : Sp := fun vs H Q _ => ∃ (a l : Addr) (m : Int), vs = [.ref a, .int m] ∧ PoolAt H a l ∧ 0 ≤ m ∧ m ≤ 5 ∧ ∀ (p : Addr) (bs : List Bd) (H' : Hp), H' p = some (.tup (bs.map fun b => .ref b.1)) → bs.length ≤ 5 → Bds H' m bs → PoolAt H' a l → Keep a l H H' → Q (.ref p) H'
section
variable {P : Program} {w : World} {K : PySem.W.Frag} {mg : Str → Option Value} {base : Heap}
theorem sc47 : FnScope ["pool", "many", "found", "at", "last"] ["pool", "many"] (defScope (topS 47)) := ⟨rfl, rfl, rfl, by decide +kernel, rfl, by decide +kernel, by decide +kernel⟩
theorem ok_packs (T : Tx K mg) : Cal P w K mg base 3 "_law_draw_packs" spPacks [] := by
  have G := ok_draw (P := P) (w := w) (base := base) T
  refine mk_cal T.f_law_draw_packs T.g_law_draw_packs sc47 (fun _ _ _ _ _ _ us hl => match us, hl with | [_, _], _ => rfl) (fun vs H Q E h => ?_) (fun cdv A outer s H vs Q E hr h => ?_)
  · obtain ⟨a, l, m, rfl, _⟩ := h
    rfl
  obtain ⟨a, l, m, rfl, pa, h1, h2, q⟩ := h
  refine ⟨_, pss_cons (ps_par (i := 2) (j := 3) (by rfl) sc47.nd rfl rfl (by decide) rfl rfl (pa_cons (pe_lst pa_nil) (pa_cons pe_int pa_nil)) (by rfl))
    (pss_cons (ps_while PassesOwn.never (pt_cmpR op_lt (pv 3) (pv 1) (nomark _))
      (pss_cons (ps_set (i := 4) sc47.nd rfl (Or.inl rfl) (pe_op op_add (pv 3) (pe_c G hr (Nat.le_refl _) (by rfl) (pa_cons (pv 0) (pa_cons (pe_op op_sub (pv 1) (pv 3)) pa_nil)))))
      (pss_one (ps_if (pt_cmpR op_eq (pe_c G hr (Nat.le_refl _) (by rfl) (pa_cons (pv 0) (pa_cons pe_int pa_nil))) pe_int (nomark _))
        (pss_cons (ps_expr (pe_bm PySem.F.plainAttrs_list PySem.F.slot_list_append PySem.F.type_list_append mt_append (pv 2) (pa_cons (pe_tup (pa_cons (pv 3) (pa_cons (pv 4) pa_nil))) pa_nil)))
        (pss_one (ps_set (i := 3) sc47.nd rfl (Or.inl rfl) (pe_op op_add (pv 4) pe_int))))
        (pss_one (ps_set (i := 3) sc47.nd rfl (Or.inl rfl) (pe_op op_add (pv 3) pe_int)))))))
    (pss_one (ps_ret (pe_callTy call_tuple_of (by rfl) T.z_tuple b_tuple (pa_cons (pv 2) pa_nil))))), ?_⟩
  refine ⟨(by show 0 ≤ sizeLine; decide), fun f hf => ⟨_, _, rfl, ?_⟩⟩
  have sf := same_new hf (.lst [])
  refine ⟨fun k σ H1 => ∃ (at_ : Int) (bs : List Bd) (v : Option V), k = (m - at_).toNat ∧ σ = [some (.ref a), some (.int m), some (.ref f), some (.int at_), v] ∧ H1 f = some (.lst (bs.map fun b => .ref b.1)) ∧ f ≠ a ∧ f ≠ l ∧ Bds H1 m bs ∧ (∀ b ∈ bs, b.2.2 < at_) ∧ (bs.length : Int) ≤ at_ ∧ at_ ≤ m ∧ PoolAt H1 a l ∧ Keep a l H H1,
    ⟨_, 0, [], none, rfl, rfl, upd_same, ?_, ?_, Bds.nil _ _, fun _ h => (nomatch h), Int.le_refl 0, h1, pa.same sf, (Keep.refl H).same sf⟩, ?_⟩
  · obtain ⟨ns, p1, p2, p3, p4, p⟩ := pa
    exact Ne.symm (ne_of_none p.ha hf)
  · obtain ⟨ns, p1, p2, p3, p4, p⟩ := pa
    exact Ne.symm (ne_of_none p.hl hf)
  rintro k σ H1 ⟨at_, bs, v, rfl, rfl, f1, fa, fl, B, hb, hlen, hm, p1, k1⟩
  refine ⟨_, rfl, _, rfl, at_, m, rfl, rfl, _, rfl, ?_⟩
  refine ite2 (fun c => ?_) (fun c => ?_)
  · have c' : at_ < m := of_decide_eq_true c
    have h0 : 0 ≤ at_ := by omega
    refine ⟨fun σ' H' => ∃ k', k' < (m - at_).toNat ∧ _, fun _ _ h => h, ?_⟩
    refine ⟨_, rfl, _, rfl, _, rfl, _, rfl, m, at_, rfl, rfl, a, l, m - at_, rfl, p1, by omega, (Int.le_trans (by omega : m - at_ ≤ 5) (by decide)), fun r H2 r0 r1 p2 k2 => ?_⟩
    refine ⟨_, _, rfl, rfl, _, rfl, a, l, 3, rfl, p2, by decide, by decide, fun r' H3 _ _ p3 k3 => ?_⟩
    have k23 := k2.trans k3
    have f3 : H3 f = some (.lst (bs.map fun b => .ref b.1)) := k23 f _ f1 fa fl
    have B3 : Bds H3 m bs := B.keep (Keep.tup (H0 := H) p1 k23)
    refine ⟨rfl, _, rfl, ?_⟩
    refine ite2 (fun _ => ?_) (fun _ => ?_)
    · refine ⟨_, rfl, .inl ⟨rfl, _, SqL.of f3⟩, _, rfl, _, rfl, (by show 2 ≤ sizeLine; decide), fun t ht => ?_⟩
      have st := same_new ht (.tup [.int at_, .int (at_ + r)])
      refine ⟨f, _, _, rfl, rfl, st _ _ f3, small1000 (by rw [List.length_map]; omega), _, rfl, _, _, rfl, rfl, ?_⟩
      have ta : t ≠ a := by
        obtain ⟨ns, q1, q2, q3, q4, p⟩ := p3
        exact Ne.symm (ne_of_none p.ha ht)
      have tf : t ≠ f := Ne.symm (ne_of_none f3 ht)
      refine ⟨(m - (at_ + r + 1)).toNat, by omega, at_ + r + 1, bs ++ [(t, at_, at_ + r)], _, rfl, rfl, ?_, fa, fl, ?_, ?_, ?_, ?_, ?_, ?_⟩
      · rw [upd_same, List.map_append]
        rfl
      · refine Bds.snoc ((B3.keep (Same.tup st)).keep fun b xs h => ?_) hb h0 (by omega) (by omega) ?_
        · have : b ≠ f := ne_of h (st _ _ f3) (by intro z; cases z)
          rw [upd_ne this]; exact h
        · rw [upd_ne tf, upd_same]
      · intro b hb'
        rcases List.mem_append.mp hb' with hb' | hb'
        · have := hb b hb'; omega
        · have e : b = (t, at_, at_ + r) := by simpa using hb'
          subst e
          show at_ + r < at_ + r + 1
          omega
      · rw [List.length_append, List.length_singleton]; omega
      · omega
      · obtain ⟨ns, q1, q2, q3, q4, p⟩ := p3.same st
        exact ⟨ns, q1, q2, q3, q4, by rw [upd_ne (Ne.symm fa)]; exact p.ha, by rw [upd_ne (Ne.symm fl)]; exact p.hl, p.ne, p.nn, p.len⟩
      · intro b u h ba bl
        have h3 : (upd H3 t (.tup [.int at_, .int (at_ + r)])) b = some u := st _ _ ((k1.trans k23) b u h ba bl)
        have : b ≠ f := ne_of_none h hf
        rw [upd_ne this]; exact h3
    · refine ⟨_, rfl, _, _, rfl, rfl, ?_⟩
      exact ⟨(m - (at_ + 1)).toNat, by omega, at_ + 1, bs, _, rfl, rfl, f3, fa, fl, B3, fun b hb' => by have := hb b hb'; omega, by omega, by omega, p3, k1.trans k23⟩
  · refine ⟨_, rfl, f, _, rfl, .inl ⟨SqL.of f1, fun p hp => ?_⟩⟩
    have sp := same_new hp (.tup (bs.map fun b => V.ref b.1))
    refine q p bs _ upd_same (by omega) (B.keep (Same.tup sp)) (p1.same sp) (k1.same sp)
end
end VW

set_option Elab.async false
set_option linter.all false
set_option maxRecDepth 100000
set_option maxHeartbeats 4000000
namespace VW
open PySem PySem.Spec PyProof.Rows L2
open C8 (Cal pe_c)
open He (ga ma)
theorem PoolAt.ne {H : Hp} {a l p : Addr} {o : HO} (pa : PoolAt H a l) (h : H p = some o) (ho : ∀ xs, o ≠ .lst xs) : p ≠ a ∧ p ≠ l := by
  obtain ⟨ns, p1, p2, p3, p4, t⟩ := pa
  exact ⟨ne_of h t.ha (ho _), ne_of h t.hl (ho _)⟩
theorem PoolAt.new {H : Hp} {a l p : Addr} (pa : PoolAt H a l) (h : H p = none) : p ≠ a ∧ p ≠ l := by
  obtain ⟨ns, p1, p2, p3, p4, t⟩ := pa
  exact ⟨Ne.symm (ne_of_none t.ha h), Ne.symm (ne_of_none t.hl h)⟩
theorem at_in {xs : List V} {r : Int} (r0 : 0 ≤ r) (r1 : r < (xs.length : Int)) : ∃ v, v ∈ xs ∧ atI xs r = some v := by
  obtain ⟨j, rfl⟩ : ∃ j : Nat, r = (j : Int) := ⟨r.toNat, by omega⟩
  have hj : j < xs.length := by omega
  exact ⟨xs[j], List.getElem_mem hj, atI_nat (List.getElem?_eq_getElem hj)⟩
/-- a draw behind a new object: it stands, all else as ahead of it -/
theorem pick_at {H H1 : Hp} {a l p : Addr} {o : HO} (pa : PoolAt H a l) (hp : H p = none) (k1 : Keep a l (upd H p o) H1) : H1 p = some o ∧ Keep a l H H1 := by
  obtain ⟨n1, n2⟩ := pa.new hp
  exact ⟨k1 p _ upd_same n1 n2, fun b u h h1 h2 => k1 b u (same_new hp o b u h) h1 h2⟩
def kT : Key := Sum.inr "tail"
def kA : Key := Sum.inr "ahead"
def kG : Key := Sum.inr "guard"
def kJ : Key := Sum.inr "joining"
def kB : Key := Sum.inr "bundles"
/-- the word of a joining -/
def jS : Join → Str
  | .row => "row"
  | .parts => "parts"
  | .tree => "tree"
def wayKvs (tl : Str) (ah : Int) (g : Bool) (j : Str) (p : Addr) : List (Key × V) := [(kT, .str tl), (kA, .int ah), (kG, .bl g), (kJ, .str j), (kB, .ref p)]
structure WayD (H : Hp) (d : Addr) (tl : Str) (ah : Int) (g : Bool) (j : Join) (p : Addr) (bs : List Bd) : Prop where
  hd : H d = some (.dK (wayKvs tl ah g (jS j) p))
  hp : H p = some (.tup (bs.map fun b => .ref b.1))
  B : Bds H 3 bs
  len : bs.length ≤ 5
  tail : tl = "mask" ∨ tl = "rest" ∨ tl = "whole"
  a0 : 0 ≤ ah
  a3 : ah ≤ 3
theorem vn {k k' : Key} {x : V} {r : List (Key × V)} (e : k ≠ k') : valV ((k, x) :: r) k' = valV r k' := valV_neg e
theorem v_tail {tl ah g j p} : valV (wayKvs tl ah g j p) kT = some (.str tl) := valV_pos rfl
theorem v_ahead {tl ah g j p} : valV (wayKvs tl ah g j p) kA = some (.int ah) := (vn (by decide +kernel)).trans (valV_pos rfl)
theorem v_guard {tl ah g j p} : valV (wayKvs tl ah g j p) kG = some (.bl g) := (vn (by decide +kernel)).trans ((vn (by decide +kernel)).trans (valV_pos rfl))
theorem v_joining {tl ah g j p} : valV (wayKvs tl ah g j p) kJ = some (.str j) := (vn (by decide +kernel)).trans ((vn (by decide +kernel)).trans ((vn (by decide +kernel)).trans (valV_pos rfl)))
theorem v_bundles {tl ah g j p} : valV (wayKvs tl ah g j p) kB = some (.ref p) := (vn (by decide +kernel)).trans ((vn (by decide +kernel)).trans ((vn (by decide +kernel)).trans ((vn (by decide +kernel)).trans (valV_pos rfl))))
theorem put1 {x y : V} : putK [(kT, x)] kA y = [(kT, x), (kA, y)] := putK_new _ ((vn (by decide +kernel)).trans valV_nil)
theorem put2 {x y z : V} : putK [(kT, x), (kA, y)] kG z = [(kT, x), (kA, y), (kG, z)] := putK_new _ ((vn (by decide +kernel)).trans ((vn (by decide +kernel)).trans valV_nil))
theorem put3 {x y z u : V} : putK [(kT, x), (kA, y), (kG, z)] kJ u = [(kT, x), (kA, y), (kG, z), (kJ, u)] := putK_new _ ((vn (by decide +kernel)).trans ((vn (by decide +kernel)).trans ((vn (by decide +kernel)).trans valV_nil)))
theorem put4 {x y z u t : V} : putK [(kT, x), (kA, y), (kG, z), (kJ, u)] kB t = [(kT, x), (kA, y), (kG, z), (kJ, u), (kB, t)] := putK_new _ ((vn (by decide +kernel)).trans ((vn (by decide +kernel)).trans ((vn (by decide +kernel)).trans ((vn (by decide +kernel)).trans valV_nil))))
/-- a way's words, drawn -/
def spDrawWay : Sp := fun vs H Q _ => ∃ (a l : Addr), vs = [.ref a, .int 3] ∧ PoolAt H a l ∧ ∀ (d : Addr) (tl : Str) (ah : Int) (g : Bool) (j : Join) (p : Addr) (bs : List Bd) (H' : Hp), WayD H' d tl ah g j p bs → PoolAt H' a l → Keep a l H H' → Q (.ref d) H'
section
variable {P : Program} {w : World} {K : PySem.W.Frag} {mg : Str → Option Value} {base : Heap}
theorem sc48 : FnScope ["pool", "many", "p"] ["pool", "many"] (defScope (topS 48)) := ⟨rfl, rfl, rfl, by decide +kernel, rfl, by decide +kernel, by decide +kernel⟩
theorem ok_draw_way (T : Tx K mg) : Cal P w K mg base 4 "_law_draw_way" spDrawWay [] := by
  have G := ok_draw (P := P) (w := w) (base := base) T
  have GP := ok_packs (P := P) (w := w) (base := base) T
  refine mk_cal T.f_law_draw_way T.g_law_draw_way sc48 (fun _ _ _ _ _ _ us hl => match us, hl with | [_, _], _ => rfl) (fun vs H Q E h => ?_) (fun cdv A outer s H vs Q E hr h => ?_)
  · obtain ⟨a, l, rfl, _⟩ := h
    rfl
  obtain ⟨a, l, rfl, pa, q⟩ := h
  have hu := hu_of hr
  refine ⟨_, pss_cons (ps_set (i := 2) sc48.nd rfl (Or.inl rfl) (pe_disp (pps_cons pe_str (pe_ix ix_list (pe_lst (pa_cons pe_str (pa_cons pe_str (pa_cons pe_str (pa_cons pe_str pa_nil))))) (pe_c G hr (by decide) (by rfl) (pa_cons (pv 0) (pa_cons pe_int pa_nil))) (fun _ _ => rfl)) pps_nil) (by rfl) (by rfl) (fun z => by cases z) (by decide)))
    (pss_cons (ps_asg (pe_ix ix_list (pe_lst (pa_cons pe_int (pa_cons pe_int (pa_cons pe_int (pa_cons pe_int (pa_cons pe_int (pa_cons pe_int pa_nil))))))) (pe_c G hr (by decide) (by rfl) (pa_cons (pv 0) (pa_cons pe_int pa_nil))) (fun _ _ => rfl)) (pg_sub (pv 2) pe_str (set_dict hu)))
    (pss_cons (ps_asg (pe_tup (pa_cons (pe_cmpR op_gt (pe_c G hr (by decide) (by rfl) (pa_cons (pv 0) (pa_cons pe_int pa_nil))) pe_int (nomark _)) (pa_cons (pe_ix ix_list (pe_lst (pa_cons pe_str (pa_cons pe_str (pa_cons pe_str pa_nil)))) (pe_c G hr (by decide) (by rfl) (pa_cons (pv 0) (pa_cons pe_int pa_nil))) (fun _ _ => rfl)) pa_nil)))
      (pg_tup (by rfl) (pgs_cons (pg_sub (pv 2) pe_str (set_dict hu)) (pgs_cons (pg_sub (pv 2) pe_str (set_dict hu)) pgs_nil))))
    (pss_cons (ps_asg (pe_c GP hr (by decide) (by rfl) (pa_cons (pv 0) (pa_cons (pv 1) pa_nil))) (pg_sub (pv 2) pe_str (set_dict hu)))
    (pss_one (ps_ret (pv 2)))))), ?_⟩
  -- p = {"tail": ..}
  refine fun d hd => ⟨(by show 4 ≤ sizeLine; decide), fun q1 hq1 => ⟨_, rfl, a, l, 4, rfl, (pa.same (same_new hd _)).same (same_new hq1 _), by decide, by decide, fun r H1 r0 r1 p1 k1 => ?_⟩⟩
  obtain ⟨e1, k1⟩ := pick_at (pa.same (same_new hd _)) hq1 k1
  obtain ⟨d1, k1⟩ := pick_at pa hd k1
  obtain ⟨v, hv, hat⟩ := at_in (xs := [V.str "mask", .str "mask", .str "rest", .str "whole"]) r0 r1
  obtain ⟨tl, rfl, htl⟩ : ∃ tl : Str, v = .str tl ∧ (tl = "mask" ∨ tl = "rest" ∨ tl = "whole") := by
    simp only [List.mem_cons, List.not_mem_nil, or_false] at hv
    rcases hv with rfl | rfl | rfl | rfl
    · exact ⟨_, rfl, .inl rfl⟩
    · exact ⟨_, rfl, .inl rfl⟩
    · exact ⟨_, rfl, .inr (.inl rfl)⟩
    · exact ⟨_, rfl, .inr (.inr rfl)⟩
  refine ⟨q1, _, r, _, rfl, rfl, SqL.of e1, hat, d1, [(kT, .str tl)], rfl, (by show 1 ≤ 15; decide), ?_⟩
  obtain ⟨n1, n2⟩ := pa.new hd
  have em : mergeK [] [(kT, V.str tl)] = [(kT, .str tl)] := putK_new _ valV_nil
  rw [em]
  have keepD : ∀ {H' : Hp} {u : HO}, Keep a l H H' → Keep a l H (upd H' d u) := fun k b o h h1 h2 => by rw [upd_ne (ne_of_none h hd)]; exact k b o h h1 h2
  have poolD : ∀ {H' : Hp} {u : HO}, PoolAt H' a l → PoolAt (upd H' d u) a l := fun ⟨ns, q1, q2, q3, q4, p⟩ => ⟨ns, q1, q2, q3, q4, by rw [upd_ne (Ne.symm n1)]; exact p.ha, by rw [upd_ne (Ne.symm n2)]; exact p.hl, p.ne, p.nn, p.len⟩
  have k1d := keepD (u := .dK [(kT, .str tl)]) k1
  have p1d := poolD (u := .dK [(kT, .str tl)]) p1
  -- p["ahead"]
  refine ⟨(by show 6 ≤ sizeLine; decide), fun q2 hq2 => ⟨_, rfl, a, l, 6, rfl, p1d.same (same_new hq2 _), by decide, by decide, fun r2 H2 r20 r21 p2 k2 => ?_⟩⟩
  obtain ⟨e2, k2⟩ := pick_at p1d hq2 k2
  obtain ⟨v2, hv2, hat2⟩ := at_in (xs := [V.int 0, .int 0, .int 0, .int 1, .int 2, .int 3]) r20 r21
  obtain ⟨ah, rfl, ha0, ha3⟩ : ∃ ah : Int, v2 = .int ah ∧ 0 ≤ ah ∧ ah ≤ 3 := by
    simp only [List.mem_cons, List.not_mem_nil, or_false] at hv2
    rcases hv2 with rfl | rfl | rfl | rfl | rfl | rfl <;> exact ⟨_, rfl, by decide, by decide⟩
  have d2 : H2 d = some (.dK [(kT, .str tl)]) := k2 d _ upd_same n1 n2
  refine ⟨q2, _, r2, _, rfl, rfl, SqL.of e2, hat2, _, rfl, d, _, rfl, DPut.k (k := kA) d2 (by show 1 < sizeLine; decide), ?_⟩
  rw [put1]
  have k2d := keepD (u := .dK [(kT, .str tl), (kA, .int ah)]) (k1d.trans k2)
  have p2d := poolD (u := .dK [(kT, .str tl), (kA, .int ah)]) p2
  -- the two of one row
  refine ⟨_, rfl, a, l, 3, rfl, p2d, by decide, by decide, fun r3 H3 r30 r31 p3 k3 => ?_⟩
  refine ⟨_, _, rfl, rfl, ?_⟩
  refine ⟨(by show 3 ≤ sizeLine; decide), fun q3 hq3 => ⟨_, rfl, a, l, 3, rfl, p3.same (same_new hq3 _), by decide, by decide, fun r4 H4 r40 r41 p4 k4 => ?_⟩⟩
  obtain ⟨e4, k4⟩ := pick_at p3 hq3 k4
  obtain ⟨v4, hv4, hat4⟩ := at_in (xs := [V.str "row", .str "parts", .str "tree"]) r40 r41
  obtain ⟨j, rfl⟩ : ∃ j : Join, v4 = .str (jS j) := by
    simp only [List.mem_cons, List.not_mem_nil, or_false] at hv4
    rcases hv4 with rfl | rfl | rfl
    · exact ⟨.row, rfl⟩
    · exact ⟨.parts, rfl⟩
    · exact ⟨.tree, rfl⟩
  have k34 := k3.trans k4
  refine ⟨q3, _, r4, _, rfl, rfl, SqL.of e4, hat4, (by show 2 ≤ sizeLine; decide), fun t ht => ?_⟩
  have d4 : H4 d = some (.dK [(kT, .str tl), (kA, .int ah)]) := k34 d _ upd_same n1 n2
  have st := same_new ht (.tup [.bl (decide (0 < r3)), .str (jS j)])
  refine ⟨t, _, rfl, SqT.of upd_same, rfl, _, _, rfl, _, rfl, d, _, rfl, DPut.k (k := kG) (st _ _ d4) (by show 2 < sizeLine; decide), ?_⟩
  rw [put2]
  refine ⟨_, _, rfl, _, rfl, d, _, rfl, DPut.k (k := kJ) upd_same (by show 3 < sizeLine; decide), rfl, ?_⟩
  rw [put3, upd_upd]
  have k5 : Keep a l H (upd (upd H4 t (.tup [.bl (decide (0 < r3)), .str (jS j)])) d (.dK [(kT, .str tl), (kA, .int ah), (kG, .bl (decide (0 < r3))), (kJ, .str (jS j))])) := keepD ((k2d.trans k34).same st)
  have p5 : PoolAt (upd (upd H4 t (.tup [.bl (decide (0 < r3)), .str (jS j)])) d (.dK [(kT, .str tl), (kA, .int ah), (kG, .bl (decide (0 < r3))), (kJ, .str (jS j))])) a l := poolD (p4.same st)
  -- the bundles
  refine ⟨_, rfl, _, rfl, a, l, 3, rfl, p5, by decide, by decide, fun p bs H6 hp6 hlen B6 p6 k6 => ?_⟩
  have d6 := k6 d _ upd_same n1 n2
  refine ⟨_, rfl, d, _, rfl, DPut.k (k := kB) d6 (by show 4 < sizeLine; decide), ?_⟩
  rw [put4]
  have tupD : ∀ b xs, H6 b = some (.tup xs) → (upd H6 d (.dK (wayKvs tl ah (decide (0 < r3)) (jS j) p))) b = some (.tup xs) := fun b xs h => by
    rw [upd_ne (ne_of h d6 (by intro z; cases z))]; exact h
  refine ⟨_, rfl, ?_⟩
  exact q d tl ah (decide (0 < r3)) j p bs _ ⟨upd_same, tupD _ _ hp6, B6.keep tupD, hlen, htl, ha0, ha3⟩ (poolD p6) (keepD (k5.trans k6))
end
end VW

set_option Elab.async false
set_option linter.all false
set_option maxRecDepth 100000
set_option maxHeartbeats 4000000
namespace VW
open PySem PySem.Spec PyProof.Rows L2
open C8 (Cal pe_c)
open He (ga ma)
/-- the pool of a script -/
def spBegin (K : PySem.W.Frag) : Sp := fun vs H Q _ => ∃ (s : Addr) (ns : List Int), vs = [.ref s] ∧ SqL K H s (ns.map V.int) ∧ ns.length ≤ 63 ∧ ∀ (a l : Addr) (H' : Hp), PoolAt H' a l → Same H H' → Q (.ref a) H'
theorem int_at {ns : List Int} {i : Nat} {y : V} (h : (ns.map V.int)[i]? = some y) : ∃ z : Int, y = .int z := by
  rw [List.getElem?_map] at h
  cases e : ns[i]? with
  | none => rw [e] at h; cases h
  | some z => rw [e] at h; exact ⟨z, (Option.some.inj h).symm⟩
theorem cut_ints (ns : List Int) (lo hi : Option Int) : ∃ ms : List Int, cutV (ns.map V.int) lo hi = ms.map V.int := by
  unfold cutV
  rw [← List.map_drop, ← List.map_take]
  exact ⟨_, rfl⟩
section
variable {P : Program} {w : World} {K : PySem.W.Frag} {mg : Str → Option Value} {base : Heap}
theorem sc44 : FnScope ["script", "seed", "cell"] ["script"] (defScope (topS 44)) := ⟨rfl, rfl, rfl, by decide +kernel, rfl, by decide +kernel, by decide +kernel⟩
theorem ok_begin (T : Tx K mg) : Cal P w K mg base 1 "_law_begin" (spBegin K) [] := by
  refine mk_cal T.f_law_begin T.g_law_begin sc44 (fun _ _ _ _ _ _ us hl => match us, hl with | [_], _ => rfl) (fun vs H Q E h => ?_) (fun cdv A outer s H vs Q E hr h => ?_)
  · obtain ⟨s, ns, rfl, _⟩ := h
    rfl
  obtain ⟨sc, ns, rfl, hS, hl, q⟩ := h
  refine ⟨_, pss_cons (ps_set (i := 1) sc44.nd rfl (Or.inl rfl) pe_int)
    (pss_cons (ps_for PassesOwn.never rfl (pi_list (pe_slice sl_list (pv 0) po_none (po_some pe_int))) (pg_name (i := 2) sc44.nd rfl (Or.inl rfl))
      (pss_one (ps_set (i := 1) sc44.nd rfl (Or.inl rfl) (pe_op op_mod (pe_op op_add (pe_op op_add (pe_op op_mul (pv 1) pe_int) (pe_op op_mod (pe_callTy call_int1 (by rfl) T.z_int b_int (pa_cons (pv 2) pa_nil)) pe_int)) pe_int) pe_int))))
    (pss_one (ps_ret (pe_lst (pa_cons (pe_lc (own := [("cell", 2)]) (g := gName 2) (tt := tYes) rfl sc44.nd (pi_list (pv 0)) (blkOk_by (N := ["script", "seed", "cell"]) (sc := defScope (topS 44)) (by decide +kernel))
        (fun _ _ _ _ _ => pg_name (i := 2) sc44.nd rfl (Or.inl rfl)) (fun _ _ _ _ _ => pts_nil)
        (fun _ _ _ _ _ => pe_callB call_abs (by rfl) T.z_abs b_abs (pa_cons (pe_callTy call_int1 (by rfl) T.z_int b_int (pa_cons (pv 2) pa_nil)) pa_nil)))
      (pa_cons pe_int (pa_cons pe_int (pa_cons (pv 1) (pa_cons pe_int pa_nil))))))))), ?_⟩
  refine ⟨_, rfl, 40, rfl, sc, _, rfl, hS, fun c hc => ?_⟩
  obtain ⟨ms, hms⟩ := cut_ints ns none (some 40)
  rw [hms]
  have s1 := same_new hc (.lst (ms.map V.int))
  refine ⟨c, rfl, ⟨_, SqL.of upd_same⟩, for_list (K := K) (a := c) (xs := ms.map V.int) (fun i σ H1 => ∃ (f : Int) (v : Option V), σ = [some (.ref sc), some (.int f), v] ∧ Same (upd H c (.lst (ms.map V.int))) H1) ⟨7, none, rfl, Same.refl _⟩ (fun i σ H1 _ ⟨_, _, _, e⟩ => e.seq (SqL.of upd_same)) ?_ ?_⟩
  · rintro i y σ H1 hi ⟨f, v, rfl, e⟩
    obtain ⟨z, rfl⟩ := int_at hi
    refine ⟨_, rfl, f, 31, rfl, rfl, .inr ⟨by decide, by decide⟩, _, rfl, .inl ⟨z, rfl, z, 2147483647, rfl, rfl, (by show (0 : Int) < 2147483647; decide), _, _, rfl, rfl, _, 11, rfl, rfl, _, 2147483647, rfl, rfl, (by show (0 : Int) < 2147483647; decide), ?_⟩⟩
    exact ⟨_, _, rfl, e⟩
  · rintro σ H1 ⟨f, v, rfl, e⟩
    have e0 := s1.trans e
    refine ⟨_, rfl, sc, rfl, ⟨_, e0.seq hS⟩, fun D hD => ?_⟩
    have sD := same_new hD (.lst [])
    refine lc_list (K := K) (a := sc) (xs := ns.map V.int) (fun i H2 => Same H1 H2 ∧ ∃ ks : List Int, H2 D = some (.lst (ks.map V.int)) ∧ ks.length ≤ i) ⟨sD, [], upd_same, Nat.le_refl _⟩ (fun i H2 _ ⟨e2, _⟩ => e2.seq (e0.seq hS)) ?_ ?_
    · rintro i y H2 hi ⟨e2, ks, hk, hkl⟩
      obtain ⟨z, rfl⟩ := int_at hi
      have hil := (List.getElem?_eq_some_iff.mp hi).1
      rw [List.length_map] at hil
      refine ⟨rfl, ?_⟩
      refine ⟨_, rfl, .inl ⟨z, rfl, z, rfl, _, hk, small1000 (by rw [List.length_map]; omega), fun b u h => ?_, ks ++ [if z < 0 then -z else z], ?_, ?_⟩⟩
      · rw [upd_ne (ne_of_none h hD)]; exact e2 b u h
      · rw [upd_same, List.map_append]; rfl
      · rw [List.length_append, List.length_singleton]; omega
    · rintro H2 ⟨e2, ks, hk, hkl⟩
      rw [List.length_map] at hkl
      refine ⟨_, rfl, (by show 5 ≤ sizeLine; decide), fun p hp => ?_⟩
      have sp := same_new hp (.lst [.ref D, .int 0, .int 0, .int f, .int 0])
      exact q p D _ ⟨ks, 0, 0, f, 0, upd_same, sp _ _ hk, ne_of_none hk hp, Int.le_refl 0, by omega⟩ ((e0.trans e2).trans sp)
end
end VW

set_option Elab.async false
set_option linter.all false
set_option maxRecDepth 100000
set_option maxHeartbeats 4000000
namespace VW
open PySem PySem.Spec PyProof.Rows L2
open C8 (Cal pe_c)
open He (ga ma)
open RZ (ItzT iZipA pi_zipA for_zipT)
/-- a comprehension over zip of two tuples -/
theorem lc_zipT {K : PySem.W.Frag} {a b : Addr} {xs ys : List V} {g : TG} {tt : TT} {te : TE} {vs : List Nat} {σ : L2.St} {H1 : Hp} {D : Addr} {Qd : Hp → Prop} (Pv : Nat → Hp → Prop) (h0 : Pv 0 (upd H1 D (.lst []))) (hq : ∀ i H, Pv i H → SqT K H a xs ∧ SqT K H b ys)
    (hs : ∀ i x y T H, xs[i]? = some x → ys[i]? = some y → Pv i H → H T = none → g (.ref T) (wipe σ vs) (upd H T (.tup [x, y])) fun σ2 H2 => wipe σ2 vs = wipe σ vs ∧ tt σ2 H2 fun b H3 =>
      if b = true then te σ2 H3 fun y H4 => ∃ acc, H4 D = some (.lst acc) ∧ acc.length < sizeLine ∧ Pv (i + 1) (upd H4 D (.lst (acc ++ [y]))) else Pv (i + 1) H3) (hd : ∀ H, Pv (min xs.length ys.length) H → Qd H) :
    ∃ W : Nat → Nat → Hp → Prop, (∃ m, W 0 m (upd H1 D (.lst []))) ∧ ∀ i m H, W i m H →
      ((ItzT K a b).stop i H ∧ Qd H) ∨ ((ItzT K a b).go i H ∧ ∃ Nx : Hp → Prop, (∀ H', Nx H' → ∃ m', m' < m ∧ W (i + 1) m' H') ∧ ∀ x H', (ItzT K a b).yld i H x H' → g x (wipe σ vs) H' fun σ2 H2 => wipe σ2 vs = wipe σ vs ∧ tt σ2 H2 fun b H3 =>
        if b = true then te σ2 H3 fun y H4 => ∃ acc, H4 D = some (.lst acc) ∧ acc.length < sizeLine ∧ Nx (upd H4 D (.lst (acc ++ [y]))) else Nx H3) := by
  refine ⟨fun i m H => m = min xs.length ys.length - i ∧ i ≤ min xs.length ys.length ∧ Pv i H, ⟨_, rfl, Nat.zero_le _, h0⟩, ?_⟩
  rintro i m H ⟨rfl, hi, p⟩
  obtain ⟨qx, qy⟩ := hq i H p
  by_cases hlt : i < min xs.length ys.length
  · have hx : xs[i]? = some xs[i] := List.getElem?_eq_getElem (by omega)
    have hy : ys[i]? = some ys[i] := List.getElem?_eq_getElem (by omega)
    refine .inr ⟨⟨xs, ys, _, _, qx, qy, hx, hy⟩, Pv (i + 1), fun H' p' => ⟨min xs.length ys.length - (i + 1), by omega, rfl, hlt, p'⟩, fun v H' y => ?_⟩
    obtain ⟨T, x', y', rfl, hT, rfl, f1, f2⟩ := y
    exact hs i x' y' T H (f1 xs qx) (f2 ys qy) p hT
  · have e : i = min xs.length ys.length := by omega
    refine .inl ⟨⟨xs, ys, qx, qy, by omega⟩, hd H (by rw [← e]; exact p)⟩
theorem dc_zipT {K : PySem.W.Frag} {a b : Addr} {xs ys : List V} {g : TG} {tt : TT} {tk tv : TE} {vs : List Nat} {σ : L2.St} {H1 : Hp} {D : Addr} {Qd : Hp → Prop} (Pv : Nat → Hp → Prop) (h0 : Pv 0 (upd H1 D (.dK []))) (hq : ∀ i H, Pv i H → SqT K H a xs ∧ SqT K H b ys)
    (hs : ∀ i x y T H, xs[i]? = some x → ys[i]? = some y → Pv i H → H T = none → g (.ref T) (wipe σ vs) (upd H T (.tup [x, y])) fun σ2 H2 => wipe σ2 vs = wipe σ vs ∧ tt σ2 H2 fun b H3 =>
      if b = true then tk σ2 H3 fun y H4 => tv σ2 H4 fun z H5 => ∃ kvs k, y = kV k ∧ H5 D = some (.dK kvs) ∧ kvs.length < sizeLine ∧ Pv (i + 1) (upd H5 D (.dK (putK kvs k z))) else Pv (i + 1) H3) (hd : ∀ H, Pv (min xs.length ys.length) H → Qd H) :
    ∃ W : Nat → Nat → Hp → Prop, (∃ m, W 0 m (upd H1 D (.dK []))) ∧ ∀ i m H, W i m H →
      ((ItzT K a b).stop i H ∧ Qd H) ∨ ((ItzT K a b).go i H ∧ ∃ Nx : Hp → Prop, (∀ H', Nx H' → ∃ m', m' < m ∧ W (i + 1) m' H') ∧ ∀ x H', (ItzT K a b).yld i H x H' → g x (wipe σ vs) H' fun σ2 H2 => wipe σ2 vs = wipe σ vs ∧ tt σ2 H2 fun b H3 =>
        if b = true then tk σ2 H3 fun y H4 => tv σ2 H4 fun z H5 => ∃ kvs k, y = kV k ∧ H5 D = some (.dK kvs) ∧ kvs.length < sizeLine ∧ Nx (upd H5 D (.dK (putK kvs k z))) else Nx H3) := by
  refine ⟨fun i m H => m = min xs.length ys.length - i ∧ i ≤ min xs.length ys.length ∧ Pv i H, ⟨_, rfl, Nat.zero_le _, h0⟩, ?_⟩
  rintro i m H ⟨rfl, hi, p⟩
  obtain ⟨qx, qy⟩ := hq i H p
  by_cases hlt : i < min xs.length ys.length
  · have hx : xs[i]? = some xs[i] := List.getElem?_eq_getElem (by omega)
    have hy : ys[i]? = some ys[i] := List.getElem?_eq_getElem (by omega)
    refine .inr ⟨⟨xs, ys, _, _, qx, qy, hx, hy⟩, Pv (i + 1), fun H' p' => ⟨min xs.length ys.length - (i + 1), by omega, rfl, hlt, p'⟩, fun v H' y => ?_⟩
    obtain ⟨T, x', y', rfl, hT, rfl, f1, f2⟩ := y
    exact hs i x' y' T H (f1 xs qx) (f2 ys qy) p hT
  · have e : i = min xs.length ys.length := by omega
    refine .inl ⟨⟨xs, ys, qx, qy, by omega⟩, hd H (by rw [← e]; exact p)⟩
/-! ### is_bundle, are_bundles, is_value -/
def spIsBundle : Sp := fun vs H Q _ => ∃ (t : Addr) (x y : Int), vs = [.ref t] ∧ H t = some (.tup [.int x, .int y]) ∧ 0 ≤ x ∧ x ≤ y ∧ y ≤ 4 ∧ Q (.bl true) H
def spAreBundles : Sp := fun vs H Q _ => ∃ (p : Addr) (bs : List Bd), vs = [.ref p] ∧ H p = some (.tup (bs.map fun b => .ref b.1)) ∧ Bds H 3 bs ∧ bs.length ≤ 5 ∧ ∀ H', Same H H' → Q (.bl true) H'
/-- the values that a way's part may have -/
def WayV (H : Hp) (part : Str) (v : V) : Prop :=
  (part = "tail" ∧ ∃ tl : Str, v = .str tl ∧ (tl = "mask" ∨ tl = "rest" ∨ tl = "whole")) ∨ (part = "ahead" ∧ ∃ i : Int, v = .int i ∧ 0 ≤ i ∧ i ≤ 3) ∨ (part = "guard" ∧ ∃ b : Bool, v = .bl b) ∨
  (part = "bundles" ∧ ∃ (p : Addr) (bs : List Bd), v = .ref p ∧ H p = some (.tup (bs.map fun b => .ref b.1)) ∧ Bds H 3 bs ∧ bs.length ≤ 5) ∨ (part = "joining" ∧ ∃ j : Join, v = .str (jS j))
def spIsValue : Sp := fun vs H Q _ => ∃ (part : Str) (v : V), vs = [.str part, v] ∧ WayV H part v ∧ ∀ H', Same H H' → Q (.bl true) H'
section
variable {P : Program} {w : World} {K : PySem.W.Frag} {mg : Str → Option Value} {base : Heap}
theorem sc39 : FnScope ["value"] ["value"] (defScope (topS 39)) := ⟨rfl, rfl, rfl, by decide +kernel, rfl, by decide +kernel, by decide +kernel⟩
theorem ok_is_bundle (T : Tx K mg) : Cal P w K mg base 3 "is_bundle" spIsBundle [] := by
  have G := ok_is_between (P := P) (w := w) (base := base) T
  obtain ⟨tk, gM⟩ := T.i_MOST_BUNDLES
  refine mk_cal T.f_is_bundle T.g_is_bundle sc39 (fun _ _ _ _ _ _ us hl => match us, hl with | [_], _ => rfl) (fun vs H Q E h => ?_) (fun cdv A outer s H vs Q E hr h => ?_)
  · obtain ⟨t, x, y, rfl, _⟩ := h
    rfl
  obtain ⟨t, x, y, rfl, ht, h0, h1, h2, q⟩ := h
  refine ⟨_, pss_cons (ps_if (PW.pt (pw_or (pt_not (pt_val (pe_callB call_isi (by rfl) T.z_isinstance b_isinstance (pa_cons (pv 0) (pa_cons (pe_bltn (v := .ty "tuple") (by rfl) T.z_tuple b_tuple rfl) pa_nil))))) (pw_or1 (pt_cmpR op_ne (pe_callB call_len_seq (by rfl) T.z_len b_len (pa_cons (pv 0) pa_nil)) pe_int (nomark _)))))
      (pss_one (ps_ret pe_bl)) pss_nil)
    (pss_one (ps_ret (pe_and (pe_c G hr (Nat.le_refl _) (by rfl) (pa_cons (pe_ix ix_tup (pv 0) pe_int (fun _ _ => rfl)) (pa_cons pe_int (pa_cons (pe_op op_sub (pe_glob (v := .int 5) (by rfl) gM ⟨_, rfl⟩) pe_int) pa_nil))))
      (pe_one (pe_c G hr (Nat.le_refl _) (by rfl) (pa_cons (pe_ix ix_tup (pv 0) pe_int (fun _ _ => rfl)) (pa_cons (pe_ix ix_tup (pv 0) pe_int (fun _ _ => rfl)) (pa_cons (pe_op op_sub (pe_glob (v := .int 5) (by rfl) gM ⟨_, rfl⟩) pe_int) pa_nil)))))))), ?_⟩
  refine ⟨_, rfl, _, _, _, _, true, rfl, .ty "tuple", .base (.tup ht), kit_ty (by decide +kernel), true, rfl, ?_⟩
  refine iteF ?_
  refine ⟨_, rfl, t, _, rfl, .inr (SqT.of ht), rfl, _, rfl, ?_⟩
  refine if_f rfl ?_
  refine ⟨_, rfl, t, _, 0, _, rfl, rfl, SqT.of ht, rfl, _, _, rfl, rfl, x, 0, 4, rfl, h0, by omega, true, rfl, iteT ?_⟩
  refine ⟨_, rfl, t, _, 1, _, rfl, rfl, SqT.of ht, rfl, _, rfl, t, _, 0, _, rfl, rfl, SqT.of ht, rfl, _, _, rfl, rfl, y, x, 4, rfl, h1, h2, ?_⟩
  exact q
theorem sc40 : FnScope ["value", "bundle", "one", "other"] ["value"] (defScope (topS 40)) := ⟨rfl, rfl, rfl, by decide +kernel, rfl, by decide +kernel, by decide +kernel⟩
theorem slT_cps {K : PySem.W.Frag} {H : Hp} {lo hi : Option Int} {Q : VK} {a : Addr} {xs : List V} (h : SqT K H a xs) (q : ∀ c H2, Same H H2 → SqT K H2 c (cutV xs lo hi) → Q (.ref c) H2) : rSlA K (.ref a) lo hi H Q := by
  refine ⟨a, xs, rfl, h, fun hw => q a H (Same.refl H) ?_, fun _ p hp => q p _ (same_new hp _) (SqT.of upd_same)⟩
  unfold cutV
  rw [hw.1, hw.2, List.drop_zero, Nat.sub_zero, List.take_length]
  exact h
theorem cut1 {bs : List Bd} {i : Nat} {y : V} (h : (cutV (bs.map fun b => V.ref b.1) (some 1) none)[i]? = some y) : ∃ b, bs[i + 1]? = some b ∧ V.ref b.1 = y := by
  unfold cutV at h
  rw [List.length_map, show HT.sIx bs.length 0 (some (1 : Int)) = min 1 bs.length from HT.sIx_nat _ _ 1, HT.sIx_none] at h
  by_cases h0 : bs.length = 0
  · have e : bs = [] := List.length_eq_zero_iff.mp h0
    subst e
    simp at h
  · have e : min 1 bs.length = 1 := by omega
    rw [e, List.getElem?_take] at h
    split at h
    · rw [List.getElem?_drop, List.getElem?_map, Nat.add_comm] at h
      obtain ⟨b, h1, h2⟩ := Option.map_eq_some_iff.mp h
      exact ⟨b, h1, h2⟩
    · cases h
theorem pw_next {bs : List Bd} {i : Nat} {b1 b2 : Bd} (h : bs.Pairwise fun b c => b.2.2 < c.2.1) (h1 : bs[i]? = some b1) (h2 : bs[i + 1]? = some b2) : b1.2.2 < b2.2.1 := by
  obtain ⟨q1, e1⟩ := List.getElem?_eq_some_iff.mp h1
  obtain ⟨q2, e2⟩ := List.getElem?_eq_some_iff.mp h2
  have := List.pairwise_iff_getElem.mp h i (i + 1) q1 q2 (Nat.lt_succ_self i)
  rw [e1, e2] at this
  exact this
theorem bls_all (n : Nat) : (List.replicate n true).all id = true := by simp
theorem ok_are_bundles (T : Tx K mg) : Cal P w K mg base 4 "are_bundles" spAreBundles [] := by
  have G := ok_is_bundle (P := P) (w := w) (base := base) T
  refine mk_cal T.f_are_bundles T.g_are_bundles sc40 (fun _ _ _ _ _ _ us hl => match us, hl with | [_], _ => rfl) (fun vs H Q E h => ?_) (fun cdv A outer s H vs Q E hr h => ?_)
  · obtain ⟨p, bs, rfl, _⟩ := h
    rfl
  obtain ⟨p, bs, rfl, hp, B, hlen, q⟩ := h
  refine ⟨_, pss_cons (ps_if (PW.pt (pw_or (pt_not (pt_val (pe_callB call_isi (by rfl) T.z_isinstance b_isinstance (pa_cons (pv 0) (pa_cons (pe_bltn (v := .ty "tuple") (by rfl) T.z_tuple b_tuple rfl) pa_nil)))))
      (pw_or1 (pt_not (pt_val (pe_callB (cr_all rfl) (by rfl) T.z_all b_all (pa_cons (pe_lc (own := [("bundle", 1)]) (g := gName 1) (tt := tYes) rfl sc40.nd (pi_tup (pv 0)) (blkOk_by (N := ["value", "bundle", "one", "other"]) (sc := defScope (topS 40)) (by decide +kernel))
        (fun _ _ _ _ _ => pg_name (i := 1) sc40.nd rfl (Or.inl rfl)) (fun _ _ _ _ _ => pts_nil) (fun _ _ _ _ _ => pe_c G hr (Nat.le_refl _) (by rfl) (pa_cons (pv 1) pa_nil))) pa_nil)))))))
      (pss_one (ps_ret pe_bl)) pss_nil)
    (pss_one (ps_ret (pe_callB (cr_all rfl) (by rfl) T.z_all b_all (pa_cons (pe_lc (own := [("one", 2), ("other", 3)]) (g := gTup K 2 (gCons (gName 2) (gCons (gName 3) gNil))) (te := tOp (rI0 fun i j => .bl (decide (i < j))) (tOp (rIxT K) (tVar 2) (tC (.int 1))) (tOp (rIxT K) (tVar 3) (tC (.int 0)))) (tt := tYes) rfl sc40.nd (pi_zipA (by rfl) T.z_zip (pa_cons (pv 0) (pa_cons (pe_slice sl_tupA (pv 0) (po_some pe_int) po_none) pa_nil))) (blkOk_by (N := ["value", "bundle", "one", "other"]) (sc := defScope (topS 40)) (by decide +kernel))
        (fun _ _ _ _ _ => by exact pg_tup (by rfl) (pgs_cons (pg_name (i := 2) sc40.nd rfl (Or.inl rfl)) (pgs_cons (pg_name (i := 3) sc40.nd rfl (Or.inl rfl)) pgs_nil))) (fun _ _ _ _ _ => pts_nil)
        (fun _ _ _ _ _ => by exact pe_cmpR op_lt (pe_ix ix_tup (pv 2) pe_int (fun _ _ => rfl)) (pe_ix ix_tup (pv 3) pe_int (fun _ _ => rfl)) (nomark _))) pa_nil)))), ?_⟩
  refine ⟨_, rfl, _, _, _, _, true, rfl, .ty "tuple", .base (.tup hp), kit_ty (by decide +kernel), true, rfl, ?_⟩
  refine iteF ?_
  -- all([is_bundle(bundle) for bundle in value])
  refine ⟨_, rfl, p, rfl, ⟨_, SqT.of hp⟩, fun D hD => ?_⟩
  have sD := same_new hD (.lst [])
  refine lc_tup (K := K) (a := p) (xs := bs.map fun b => .ref b.1) (fun i H1 => Same H H1 ∧ H1 D = some (.lst ((List.replicate i true).map V.bl))) ⟨sD, upd_same⟩ (fun i H1 _ ⟨e, _⟩ => Same.seqT e (SqT.of hp)) ?_ ?_
  · rintro i x H1 hi ⟨e, hD1⟩
    rw [List.getElem?_map] at hi
    obtain ⟨b, hb, rfl⟩ := Option.map_eq_some_iff.mp hi
    have hbm : b ∈ bs := List.mem_of_getElem? hb
    obtain ⟨o1, o2, o3⟩ := B.ok b hbm
    have hil := (List.getElem?_eq_some_iff.mp hb).1
    refine ⟨rfl, _, rfl, b.1, b.2.1, b.2.2, rfl, e _ _ (B.at_ b hbm), o1, o2, by omega, _, hD1, small1000 (by rw [List.length_map, List.length_replicate]; omega), fun c o h => ?_, ?_⟩
    · rw [upd_ne (ne_of_none h hD)]; exact e c o h
    · rw [upd_same, List.replicate_succ', List.map_append]; rfl
  · rintro H1 ⟨e, hD1⟩
    refine ⟨D, _, rfl, SqL.of hD1, true, ?_, ?_⟩
    · exact congrArg V.bl (bls_all _)
    refine iteF ?_
    -- all([one[1] < other[0] for one, other in zip(value, value[1:])])
    refine ⟨_, rfl, _, rfl, 1, rfl, ?_⟩
    delta tNoPart
    refine slT_cps (K := K) (a := p) (SqT.of (e _ _ hp)) (fun c H2 e2 hc => ?_)
    have e02 := e.trans e2
    refine ⟨p, c, _, _, rfl, .inr ⟨SqT.of (e02 _ _ hp), hc, fun L hL => ?_⟩⟩
    have sL := same_new hL (.lst [])
    refine lc_zipT (K := K) (a := p) (b := c) (fun i H3 => Same H2 H3 ∧ H3 L = some (.lst ((List.replicate i true).map V.bl))) ⟨sL, upd_same⟩ (fun i H3 ⟨e3, _⟩ => ⟨SqT.of (e3 _ _ (e02 _ _ hp)), Same.seqT e3 hc⟩) ?_ ?_
    · rintro i x y t H3 hx hy ⟨e3, hL3⟩ ht
      rw [List.getElem?_map] at hx
      obtain ⟨b1, hb1, rfl⟩ := Option.map_eq_some_iff.mp hx
      obtain ⟨b2, hb2, rfl⟩ := cut1 hy
      have hm1 : b1 ∈ bs := List.mem_of_getElem? hb1
      have hm2 : b2 ∈ bs := List.mem_of_getElem? hb2
      have hlt := pw_next B.up hb1 hb2
      have st := same_new ht (.tup [.ref b1.1, .ref b2.1])
      have e03 := (e02.trans e3).trans st
      have hil := (List.getElem?_eq_some_iff.mp hb1).1
      refine ⟨t, _, rfl, SqT.of upd_same, rfl, _, _, rfl, _, _, rfl, rfl, rfl, ?_⟩
      refine ⟨_, rfl, b1.1, _, 1, _, rfl, rfl, SqT.of (e03 _ _ (B.at_ b1 hm1)), rfl, _, rfl, b2.1, _, 0, _, rfl, rfl, SqT.of (e03 _ _ (B.at_ b2 hm2)), rfl, _, _, rfl, rfl, ?_⟩
      refine ⟨_, st _ _ hL3, small1000 (by rw [List.length_map, List.length_replicate]; omega), fun c o h => ?_, ?_⟩
      · rw [upd_ne (ne_of_none h hL)]; exact st _ _ (e3 c o h)
      · rw [upd_same, List.replicate_succ', List.map_append]
        show some (HO.lst (List.map V.bl (List.replicate i true) ++ [V.bl (decide (b1.2.2 < b2.2.1))])) = _
        rw [decide_eq_true hlt]; rfl
    · rintro H3 ⟨e3, hL3⟩
      refine ⟨L, _, rfl, SqL.of hL3, ?_⟩
      rw [bls_all]
      exact q _ (e02.trans e3)
theorem sc41 : FnScope ["part", "value"] ["part", "value"] (defScope (topS 41)) := ⟨rfl, rfl, rfl, by decide +kernel, rfl, by decide +kernel, by decide +kernel⟩
theorem WayV.same {H H' : Hp} {part : Str} {v : V} (e : Same H H') (h : WayV H part v) : WayV H' part v := by
  rcases h with h | h | h | ⟨e1, p, bs, e2, h1, h2, h3⟩ | h
  · exact .inl h
  · exact .inr (.inl h)
  · exact .inr (.inr (.inl h))
  · exact .inr (.inr (.inr (.inl ⟨e1, p, bs, e2, e _ _ h1, h2.keep (Same.tup e), h3⟩)))
  · exact .inr (.inr (.inr (.inr h)))
theorem ok_is_value (T : Tx K mg) : Cal P w K mg base 5 "is_value" spIsValue [] := by
  have G := ok_is_between (P := P) (w := w) (base := base) T
  have GB := ok_are_bundles (P := P) (w := w) (base := base) T
  obtain ⟨tk, gM⟩ := T.i_MOST_AHEAD
  refine mk_cal T.f_is_value T.g_is_value sc41 (fun _ _ _ _ _ _ us hl => match us, hl with | [_, _], _ => rfl) (fun vs H Q E h => ?_) (fun cdv A outer s H vs Q E hr h => ?_)
  · obtain ⟨part, v, rfl, _⟩ := h
    rfl
  obtain ⟨part, v, rfl, hv, q⟩ := h
  refine ⟨_, pss_cons (ps_if (pt_cmpR op_eq (pv 0) pe_str (nomark _)) (pss_one (ps_ret (pe_and (pe_callB call_isi (by rfl) T.z_isinstance b_isinstance (pa_cons (pv 1) (pa_cons (pe_bltn (v := .ty "str") (by rfl) T.z_str b_str rfl) pa_nil))) (pe_one (pe_cmpR op_in_seq (pv 1) (pe_glob (v := .ref (ga K "TAILS")) (by rfl) T.g_TAILS rfl) (by rfl)))))) pss_nil)
    (pss_cons (ps_if (pt_cmpR op_eq (pv 0) pe_str (nomark _)) (pss_one (ps_ret (pe_c G hr (by decide) (by rfl) (pa_cons (pv 1) (pa_cons pe_int (pa_cons (pe_glob (v := .int 3) (by rfl) gM ⟨_, rfl⟩) pa_nil)))))) pss_nil)
    (pss_cons (ps_if (pt_cmpR op_eq (pv 0) pe_str (nomark _)) (pss_one (ps_ret (pe_callB call_isi (by rfl) T.z_isinstance b_isinstance (pa_cons (pv 1) (pa_cons (pe_bltn (v := .ty "bool") (by rfl) T.z_bool b_bool rfl) pa_nil))))) pss_nil)
    (pss_cons (ps_if (pt_cmpR op_eq (pv 0) pe_str (nomark _)) (pss_one (ps_ret (pe_c GB hr (Nat.le_refl _) (by rfl) (pa_cons (pv 1) pa_nil)))) pss_nil)
    (pss_one (ps_ret (pe_and (pe_callB call_isi (by rfl) T.z_isinstance b_isinstance (pa_cons (pv 1) (pa_cons (pe_bltn (v := .ty "str") (by rfl) T.z_str b_str rfl) pa_nil))) (pe_one (pe_cmpR op_in_seq (pv 1) (pe_glob (v := .ref (ga K "JOININGS")) (by rfl) T.g_JOININGS rfl) (by rfl))))))))), ?_⟩
  refine ⟨_, rfl, rfl, _, rfl, ?_⟩
  rcases hv with ⟨rfl, tl, rfl, htl⟩ | ⟨rfl, i, rfl, i0, i3⟩ | ⟨rfl, b, rfl⟩ | ⟨rfl, p, bs, rfl, hp, B, hlen⟩ | ⟨rfl, j, rfl⟩
  · refine if_t (by decide +kernel) ?_
    refine ⟨_, rfl, _, _, _, _, true, rfl, .ty "str", .base (.str tl), kit_ty (by decide +kernel), true, rfl, iteT ?_⟩
    refine ⟨_, rfl, _, _, rfl, .inr (T.tTAILS H), rfl, by decide +kernel, ?_⟩
    have e : inV (V.str tl) [V.str "mask", V.str "rest", V.str "whole"] = true := by
      rcases htl with rfl | rfl | rfl <;> decide +kernel
    show Q (.bl (inV (V.str tl) [V.str "mask", V.str "rest", V.str "whole"])) H
    rw [e]
    exact q H (Same.refl H)
  · refine if_f (by decide +kernel) ⟨_, rfl, rfl, _, rfl, if_t (by decide +kernel) ?_⟩
    exact ⟨_, rfl, i, 0, 3, rfl, i0, i3, q H (Same.refl H)⟩
  · refine if_f (by decide +kernel) ⟨_, rfl, rfl, _, rfl, if_f (by decide +kernel) ⟨_, rfl, rfl, _, rfl, if_t (by decide +kernel) ?_⟩⟩
    exact ⟨_, rfl, _, _, _, _, true, rfl, .ty "bool", .base (.bl b), kit_ty (by decide +kernel), q H (Same.refl H)⟩
  · refine if_f (by decide +kernel) ⟨_, rfl, rfl, _, rfl, if_f (by decide +kernel) ⟨_, rfl, rfl, _, rfl, if_f (by decide +kernel) ⟨_, rfl, rfl, _, rfl, if_t (by decide +kernel) ?_⟩⟩⟩
    exact ⟨_, rfl, p, bs, rfl, hp, B, hlen, q⟩
  · refine if_f (by decide +kernel) ⟨_, rfl, rfl, _, rfl, if_f (by decide +kernel) ⟨_, rfl, rfl, _, rfl, if_f (by decide +kernel) ⟨_, rfl, rfl, _, rfl, if_f (by decide +kernel) ?_⟩⟩⟩
    refine ⟨_, rfl, _, _, _, _, true, rfl, .ty "str", .base (.str _), kit_ty (by decide +kernel), true, rfl, iteT ?_⟩
    refine ⟨_, rfl, _, _, rfl, .inr (T.tJOININGS H), rfl, by decide +kernel, ?_⟩
    have e : inV (V.str (jS j)) [V.str "row", V.str "parts", V.str "tree"] = true := by
      cases j <;> decide +kernel
    show Q (.bl (inV (V.str (jS j)) [V.str "row", V.str "parts", V.str "tree"])) H
    rw [e]
    exact q H (Same.refl H)
end
end VW

set_option Elab.async false
set_option linter.all false
set_option maxRecDepth 100000
set_option maxHeartbeats 4000000
namespace VW
open PySem PySem.Spec PyProof.Rows L2
open C8 (Cal pe_c)
open He (ga ma)
open RZ (ItzT iZipA pi_zipA for_zipT)
/-- the parts' dict as __init__ makes it -/
def keptKvs (tl : Str) (ah : Int) (g : Bool) (p : Addr) (j : Str) : List (Key × V) := [(kT, .str tl), (kA, .int ah), (kG, .bl g), (kB, .ref p), (kJ, .str j)]
theorem kp_tail {tl ah g p j} : valV (keptKvs tl ah g p j) kT = some (.str tl) := valV_pos rfl
theorem kp_joining {tl ah g p j} : valV (keptKvs tl ah g p j) kJ = some (.str j) := (vn (by decide +kernel)).trans ((vn (by decide +kernel)).trans ((vn (by decide +kernel)).trans ((vn (by decide +kernel)).trans (valV_pos rfl))))
/-- a way: its tail, its joining -/
def WayO (C : Addr) (H : Hp) (x : Addr) (tl : Str) (j : Join) : Prop := ∃ (dx d : Addr) (kvs : List (Key × V)), H x = some (.ins C dx [("kept_parts", .ref d)]) ∧ H d = some (.dK kvs) ∧ valV kvs kT = some (.str tl) ∧ valV kvs kJ = some (.str (jS j))
theorem WayO.same {C : Addr} {H H' : Hp} {x : Addr} {tl : Str} {j : Join} (h : WayO C H x tl j) (k : ∀ b o, H b = some o → (∀ xs, o ≠ .lst xs) → H' b = some o) : WayO C H' x tl j := by
  obtain ⟨dx, d, kvs, h1, h2, h3, h4⟩ := h
  exact ⟨dx, d, kvs, k _ _ h1 (fun _ z => by cases z), k _ _ h2 (fun _ z => by cases z), h3, h4⟩
def vals5 (tl : Str) (ah : Int) (g : Bool) (p : Addr) (j : Join) : List V := [.str tl, .int ah, .bl g, .ref p, .str (jS j)]
def parts5 : List V := [V.str "tail", V.str "ahead", V.str "guard", V.str "bundles", V.str "joining"]
def spInit (C : Addr) : Sp := fun vs H Q _ => ∃ (x dx : Addr) (tl : Str) (ah : Int) (g : Bool) (p : Addr) (j : Join) (bs : List Bd), vs = .ref x :: vals5 tl ah g p j ∧ H x = some (.ins C dx []) ∧
  H p = some (.tup (bs.map fun b => .ref b.1)) ∧ Bds H 3 bs ∧ bs.length ≤ 5 ∧ (tl = "mask" ∨ tl = "rest" ∨ tl = "whole") ∧ 0 ≤ ah ∧ ah ≤ 3 ∧
  ∀ (d : Addr) (H' : Hp), H' x = some (.ins C dx [("kept_parts", .ref d)]) → H' d = some (.dK (keptKvs tl ah g p (jS j))) → (∀ b o, H b = some o → b ≠ x → H' b = some o) → Q .non H'
theorem five {i : Nat} {x y : V} {tl : Str} {ah g p j} {H : Hp} {bs : List Bd} (hp : H p = some (.tup (bs.map fun b => .ref b.1))) (B : Bds H 3 bs) (hl : bs.length ≤ 5) (ht : tl = "mask" ∨ tl = "rest" ∨ tl = "whole") (h0 : 0 ≤ ah) (h3 : ah ≤ 3)
    (hx : parts5[i]? = some x) (hy : (vals5 tl ah g p j)[i]? = some y) : ∃ part : Str, x = .str part ∧ WayV H part y := by
  match i, hx, hy with
  | 0, hx, hy => cases hx; cases hy; exact ⟨_, rfl, .inl ⟨rfl, _, rfl, ht⟩⟩
  | 1, hx, hy => cases hx; cases hy; exact ⟨_, rfl, .inr (.inl ⟨rfl, _, rfl, h0, h3⟩)⟩
  | 2, hx, hy => cases hx; cases hy; exact ⟨_, rfl, .inr (.inr (.inl ⟨rfl, _, rfl⟩))⟩
  | 3, hx, hy => cases hx; cases hy; exact ⟨_, rfl, .inr (.inr (.inr (.inl ⟨rfl, _, _, rfl, hp, B, hl⟩)))⟩
  | 4, hx, hy => cases hx; cases hy; exact ⟨_, rfl, .inr (.inr (.inr (.inr ⟨rfl, _, rfl⟩)))⟩
  | n + 5, hx, hy => cases hx
/-- the dict of the first i parts -/
theorem five_put {i : Nat} {x y : V} {tl : Str} {ah g p j} (hx : parts5[i]? = some x) (hy : (vals5 tl ah g p j)[i]? = some y) : ∃ k : Key, x = kV k ∧ putK ((keptKvs tl ah g p (jS j)).take i) k y = (keptKvs tl ah g p (jS j)).take (i + 1) := by
  match i, hx, hy with
  | 0, hx, hy => cases hx; cases hy; exact ⟨kT, rfl, putK_new _ valV_nil⟩
  | 1, hx, hy => cases hx; cases hy; exact ⟨kA, rfl, putK_new _ ((vn (by decide +kernel)).trans valV_nil)⟩
  | 2, hx, hy => cases hx; cases hy; exact ⟨kG, rfl, putK_new _ ((vn (by decide +kernel)).trans ((vn (by decide +kernel)).trans valV_nil))⟩
  | 3, hx, hy => cases hx; cases hy; exact ⟨kB, rfl, putK_new _ ((vn (by decide +kernel)).trans ((vn (by decide +kernel)).trans ((vn (by decide +kernel)).trans valV_nil)))⟩
  | 4, hx, hy => cases hx; cases hy; exact ⟨kJ, rfl, putK_new _ ((vn (by decide +kernel)).trans ((vn (by decide +kernel)).trans ((vn (by decide +kernel)).trans ((vn (by decide +kernel)).trans valV_nil))))⟩
  | n + 5, hx, hy => cases hx
section
variable {P : Program} {w : World} {K : PySem.W.Frag} {mg : Str → Option Value} {base : Heap}
abbrev nInit : List Str := ["self", "tail", "ahead", "guard", "bundles", "joining", "values", "part", "value"]
abbrev pInit : List Str := ["self", "tail", "ahead", "guard", "bundles", "joining"]
theorem scI : FnScope nInit pInit (defScope sInit) := ⟨rfl, rfl, rfl, by decide +kernel, rfl, by decide +kernel, by decide +kernel⟩
theorem ok_init (T : Tx K mg) {fd : FuncData} (F : FunD K "__init__" "Way.__init__" (defArgs sInit) (defBody sInit) (defScope sInit) [] [("tail", .str "mask")] (ma K (ga K "Way") "__init__") fd) :
    FnOk P w K mg base C8.CX0 6 (ma K (ga K "Way") "__init__") fd pInit (spInit (ga K "Way")) := by
  have G := ok_is_value (P := P) (w := w) (base := base) T
  refine F.ok scI (fun vs H Q E h => ?_) (fun cdv A outer s H vs Q E hr h => ?_)
  · obtain ⟨x, dx, tl, ah, g, p, j, bs, rfl, _⟩ := h
    rfl
  obtain ⟨x, dx, tl, ah, g, p, j, bs, rfl, hx, hp, B, hlen, htl, h0, h3, q⟩ := h
  refine ⟨_, PSs.nox (pss_cons (ps_set (i := 6) scI.nd rfl (Or.inl rfl) (pe_tup (pa_cons (pv 1) (pa_cons (pv 2) (pa_cons (pv 3) (pa_cons (pv 4) (pa_cons (pv 5) pa_nil)))))))
    (pss_cons (ps_for PassesOwn.never rfl (pi_zipA (by rfl) T.z_zip (pa_cons (pe_glob (v := .ref (ga K "PARTS")) (by rfl) T.g_PARTS rfl) (pa_cons (pv 6) pa_nil))) (pg_tup (by rfl) (pgs_cons (pg_name (i := 7) scI.nd rfl (Or.inl rfl)) (pgs_cons (pg_name (i := 8) scI.nd rfl (Or.inl rfl)) pgs_nil)))
      (pss_one (ps_if (pt_not (pt_val (pe_c G hr (Nat.le_refl _) (by rfl) (pa_cons (pv 7) (pa_cons (pv 8) pa_nil))))) (pss_one ps_never) pss_nil)))
    (pss_one (ps_fld (pv 0) (pe_dc (own := [("part", 7), ("value", 8)]) (g := gTup K 2 (gCons (gName 7) (gCons (gName 8) gNil))) (tt := tYes) (tk := tVar 7) (tv := tVar 8) rfl scI.nd
        (pi_zipA (by rfl) T.z_zip (pa_cons (pe_glob (v := .ref (ga K "PARTS")) (by rfl) T.g_PARTS rfl) (pa_cons (pv 6) pa_nil))) (blkOk_by (N := nInit) (sc := defScope sInit) (by decide +kernel))
        (fun _ _ _ _ _ => by exact pg_tup (by rfl) (pgs_cons (pg_name (i := 7) scI.nd rfl (Or.inl rfl)) (pgs_cons (pg_name (i := 8) scI.nd rfl (Or.inl rfl)) pgs_nil))) (fun _ _ _ _ _ => pts_nil) (fun _ _ _ _ _ => pv 7) (fun _ _ _ _ _ => pv 8)) rfl)))), ?_⟩
  -- values = (..)
  refine ⟨_, rfl, _, rfl, _, rfl, _, rfl, _, rfl, (by show 5 ≤ sizeLine; decide), fun vt hvt => ?_⟩
  have sv := same_new hvt (.tup (vals5 tl ah g p j))
  -- the loop: every value is one of its part
  refine ⟨_, rfl, ga K "PARTS", vt, _, _, rfl, .inr ⟨T.tPARTS _, SqT.of upd_same, ?_⟩⟩
  refine for_zipT (K := K) (a := ga K "PARTS") (b := vt) (xs := parts5) (ys := vals5 tl ah g p j) rfl (fun i σ H1 => ∃ v1 v2 : Option V, σ = [some (.ref x), some (.str tl), some (.int ah), some (.bl g), some (.ref p), some (.str (jS j)), some (.ref vt), v1, v2] ∧ Same (upd H vt (.tup (vals5 tl ah g p j))) H1)
    ⟨none, none, rfl, Same.refl _⟩ (fun i σ H1 ⟨_, _, _, e⟩ => ⟨T.tPARTS _, Same.seqT e (SqT.of upd_same)⟩) ?_ ?_
  · rintro i a b t σ H1 ha hb ⟨v1, v2, rfl, e⟩ ht
    have e1 := sv.trans e
    have st := same_new ht (.tup [a, b])
    have e2 := e1.trans st
    obtain ⟨part, rfl, hv⟩ := five (e2 _ _ hp) (B.keep (Same.tup e2)) hlen htl h0 h3 ha hb
    refine ⟨t, _, rfl, SqT.of upd_same, rfl, _, _, rfl, _, _, rfl, rfl, ?_⟩
    refine ⟨_, rfl, _, rfl, part, b, rfl, hv, fun H2 e3 => ⟨true, rfl, iteF ?_⟩⟩
    exact ⟨_, _, rfl, (e.trans st).trans e3⟩
  · rintro σ H1 ⟨v1, v2, rfl, e⟩
    have e1 := sv.trans e
    -- self.kept_parts = {..}
    refine ⟨_, rfl, ga K "PARTS", vt, _, _, rfl, .inr ⟨T.tPARTS _, Same.seqT e (SqT.of upd_same), fun D hD => ?_⟩⟩
    have sD := same_new hD (.dK [])
    refine dc_zipT (K := K) (a := ga K "PARTS") (b := vt) (xs := parts5) (ys := vals5 tl ah g p j) (fun i H2 => Same H1 H2 ∧ H2 D = some (.dK ((keptKvs tl ah g p (jS j)).take i))) ⟨sD, upd_same⟩ (fun i H2 ⟨e2, _⟩ => ⟨T.tPARTS _, Same.seqT (e.trans e2) (SqT.of upd_same)⟩) ?_ ?_
    · rintro i a b t H2 ha hb ⟨e2, hD2⟩ ht
      have st := same_new ht (.tup [a, b])
      obtain ⟨k, rfl, hk⟩ := five_put ha hb
      refine ⟨t, _, rfl, SqT.of upd_same, rfl, _, _, rfl, _, _, rfl, rfl, rfl, ?_⟩
      refine ⟨_, rfl, _, rfl, _, k, rfl, st _ _ hD2, small1000 ?_, fun c o h => ?_, ?_⟩
      · rw [List.length_take]
        have : (keptKvs tl ah g p (jS j)).length = 5 := rfl
        omega
      · rw [upd_ne (ne_of_none h hD)]; exact st _ _ (e2 c o h)
      · rw [upd_same, hk]
    · rintro H2 ⟨e2, hD2⟩
      have e12 := e1.trans e2
      have hD3 : H2 D = some (.dK (keptKvs tl ah g p (jS j))) := hD2
      refine ⟨_, rfl, x, _, dx, _, rfl, e12 _ _ hx, T.cl, T.nk, (by show 0 < 1000; decide), ?_⟩
      have nx : D ≠ x := ne_of hD3 (e12 _ _ hx) (by intro z; cases z)
      refine q D _ upd_same (by rw [upd_ne nx]; exact hD3) (fun b o h hb => by rw [upd_ne hb]; exact e12 b o h)
/-! ### _law_make_way -/
def spMakeWay (C : Addr) : Sp := fun vs H Q _ => ∃ (d : Addr) (tl : Str) (ah : Int) (g : Bool) (j : Join) (p : Addr) (bs : List Bd), vs = [.ref d] ∧ WayD H d tl ah g j p bs ∧ ∀ (x : Addr) (H' : Hp), WayO C H' x tl j → Same H H' → Q (.ref x) H'
theorem sc49 : FnScope ["p"] ["p"] (defScope (topS 49)) := ⟨rfl, rfl, rfl, by decide +kernel, rfl, by decide +kernel, by decide +kernel⟩
theorem ok_make_way (T : Tx K mg) : Cal P w K mg base 8 "_law_make_way" (spMakeWay (ga K "Way")) [] := by
  obtain ⟨fi, FI⟩ := T.f_init
  have GI := ok_init (P := P) (w := w) (base := base) T FI
  obtain ⟨mv, kb⟩ := FI.kbinds0 (ps := pInit) 1 ["tail", "ahead", "guard", "bundles", "joining"] [] (fun us _ ws => us ++ ws) (by simp) (fun _ h => (nomatch h)) (fun r1 _ r3 => r1.append r3)
    (fun D doc pm an cdv ct us mv ws h1 h2 h3 => match us, mv, ws, h1, h2, h3 with | [_], [], [_, _, _, _, _], _, _, _ => rfl)
  refine mk_cal T.f_law_make_way T.g_law_make_way sc49 (fun _ _ _ _ _ _ us hl => match us, hl with | [_], _ => rfl) (fun vs H Q E h => ?_) (fun cdv A outer s H vs Q E hr h => ?_)
  · obtain ⟨d, tl, ah, g, j, p, bs, rfl, _⟩ := h
    rfl
  obtain ⟨d, tl, ah, g, j, p, bs, rfl, W, q⟩ := h
  have hu := hu_of hr
  refine ⟨_, pss_one (ps_ret (pe_makeK0 (E := C8.E0) T.mkw GI hr (by rfl) T.g_Way kb C8.pass0 (pk_cons (pe_dget hu (pv 0) pe_str (fun _ _ => rfl)) (pk_cons (pe_dget hu (pv 0) pe_str (fun _ _ => rfl)) (pk_cons (pe_dget hu (pv 0) pe_str (fun _ _ => rfl)) (pk_cons (pe_dget hu (pv 0) pe_str (fun _ _ => rfl)) (pk_cons (pe_dget hu (pv 0) pe_str (fun _ _ => rfl)) pk_nil))))))), ?_⟩
  have g1 : DGet H d (.str "tail") (some (.str tl)) := by rw [← v_tail (tl := tl) (ah := ah) (g := g) (j := jS j) (p := p)]; exact DGet.k (k := kT) W.hd
  have g2 : DGet H d (.str "ahead") (some (.int ah)) := by rw [← v_ahead (tl := tl) (ah := ah) (g := g) (j := jS j) (p := p)]; exact DGet.k (k := kA) W.hd
  have g3 : DGet H d (.str "guard") (some (.bl g)) := by rw [← v_guard (tl := tl) (ah := ah) (g := g) (j := jS j) (p := p)]; exact DGet.k (k := kG) W.hd
  have g4 : DGet H d (.str "bundles") (some (.ref p)) := by rw [← v_bundles (tl := tl) (ah := ah) (g := g) (j := jS j) (p := p)]; exact DGet.k (k := kB) W.hd
  have g5 : DGet H d (.str "joining") (some (.str (jS j))) := by rw [← v_joining (tl := tl) (ah := ah) (g := g) (j := jS j) (p := p)]; exact DGet.k (k := kJ) W.hd
  refine ⟨_, rfl, d, _, rfl, g1, _, rfl, d, _, rfl, g2, _, rfl, d, _, rfl, g3, _, rfl, d, _, rfl, g4, _, rfl, d, _, rfl, g5, rfl, rfl, fun x dx nx ndx nex => ?_⟩
  have s0 : Same H (upd (upd H dx (.own x)) x (.ins (ga K "Way") dx [])) := fun b o h => by rw [upd_ne (ne_of_none h nx), upd_ne (ne_of_none h ndx)]; exact h
  refine ⟨x, dx, tl, ah, g, p, j, bs, rfl, upd_same, s0 _ _ W.hp, W.B.keep (Same.tup s0), W.len, W.tail, W.a0, W.a3, fun dd H' hx hd kk => ⟨rfl, ?_⟩⟩
  refine q x H' ⟨dx, dd, _, hx, hd, kp_tail, kp_joining⟩ (fun b o h => kk b o (s0 b o h) (ne_of_none h nx))
/-! ### the two properties -/
def spTail (C : Addr) : Sp := fun vs H Q _ => ∃ (x : Addr) (tl : Str) (j : Join), vs = [.ref x] ∧ WayO C H x tl j ∧ Q (.str tl) H
def spJoin (C : Addr) : Sp := fun vs H Q _ => ∃ (x : Addr) (tl : Str) (j : Join), vs = [.ref x] ∧ WayO C H x tl j ∧ Q (.str (jS j)) H
theorem scTl : FnScope ["self"] ["self"] (defScope sTail) := ⟨rfl, rfl, rfl, by decide +kernel, rfl, by decide +kernel, by decide +kernel⟩
theorem scJn : FnScope ["self"] ["self"] (defScope sJoining) := ⟨rfl, rfl, rfl, by decide +kernel, rfl, by decide +kernel, by decide +kernel⟩
theorem flds1 {v : V} : ([("kept_parts", v)] : List (Str × V)).lookup ("kept_parts" : Str) = some v := by
  simp [List.lookup]
theorem ok_tail (T : Tx K mg) {fd : FuncData} (F : FunD K "tail" "Way.tail" (defArgs sTail) (defBody sTail) (defScope sTail) [] [] (geA K "tail") fd) : FnOk P w K mg base C8.CX0 1 (geA K "tail") fd ["self"] (spTail (ga K "Way")) := by
  refine F.ok scTl (fun vs H Q E h => ?_) (fun cdv A outer s H vs Q E hr h => ?_)
  · obtain ⟨x, tl, j, rfl, _⟩ := h
    rfl
  obtain ⟨x, tl, j, rfl, ⟨dx, d, kvs, h1, h2, h3, h4⟩, q⟩ := h
  refine ⟨_, PSs.nox (pss_one (ps_ret (pe_dget (hu_of hr) (pe_fld (pv 0) rfl) pe_str (fun _ _ => rfl)))), ?_⟩
  refine ⟨_, rfl, x, _, dx, _, _, rfl, h1, T.cl, T.nk, flds1, d, _, rfl, ?_, q⟩
  rw [← h3]
  exact DGet.k (k := kT) h2
theorem ok_joining (T : Tx K mg) {fd : FuncData} (F : FunD K "joining" "Way.joining" (defArgs sJoining) (defBody sJoining) (defScope sJoining) [] [] (geA K "joining") fd) : FnOk P w K mg base C8.CX0 1 (geA K "joining") fd ["self"] (spJoin (ga K "Way")) := by
  refine F.ok scJn (fun vs H Q E h => ?_) (fun cdv A outer s H vs Q E hr h => ?_)
  · obtain ⟨x, tl, j, rfl, _⟩ := h
    rfl
  obtain ⟨x, tl, j, rfl, ⟨dx, d, kvs, h1, h2, h3, h4⟩, q⟩ := h
  refine ⟨_, PSs.nox (pss_one (ps_ret (pe_dget (hu_of hr) (pe_fld (pv 0) rfl) pe_str (fun _ _ => rfl)))), ?_⟩
  refine ⟨_, rfl, x, _, dx, _, _, rfl, h1, T.cl, T.nk, flds1, d, _, rfl, ?_, q⟩
  rw [← h4]
  exact DGet.k (k := kJ) h2
/-- way.tail, way.joining -/
theorem pe_tail {X : Cx} {e : Expr} {ta : TE} {pos : Pos} {k : Nat} (T : Tx X.K X.mg) (hr : Room k X.A) (hk : 2 ≤ k) (he : PE X e ta) (hab : attributeBase e "tail" X.env (eval e X.env) = eval e X.env := by rfl) : PE X (.Attribute e "tail" pos) (tProp (ga X.K "Way") (spTail (ga X.K "Way")) [] C8.E0 ta) := by
  obtain ⟨fd, F⟩ := T.fTail
  exact pe_prop he T.cl T.pTail (ok_tail T F) (hr.mono hk) (F.bindsN fun _ _ _ _ _ _ us hl => match us, hl with | [_], _ => rfl) .nil C8.pass0 hab
theorem pe_joining {X : Cx} {e : Expr} {ta : TE} {pos : Pos} {k : Nat} (T : Tx X.K X.mg) (hr : Room k X.A) (hk : 2 ≤ k) (he : PE X e ta) (hab : attributeBase e "joining" X.env (eval e X.env) = eval e X.env := by rfl) : PE X (.Attribute e "joining" pos) (tProp (ga X.K "Way") (spJoin (ga X.K "Way")) [] C8.E0 ta) := by
  obtain ⟨fd, F⟩ := T.fJoin
  exact pe_prop he T.cl T.pJoin (ok_joining T F) (hr.mono hk) (F.bindsN fun _ _ _ _ _ _ us hl => match us, hl with | [_], _ => rfl) .nil C8.pass0 hab
end
end VW

set_option Elab.async false
set_option linter.all false
set_option maxRecDepth 100000
set_option maxHeartbeats 4000000
namespace VW
open PySem PySem.Spec PyProof.Rows L2
open C8 (Cal pe_c)
open He (ga ma)
/-! ### terms in the heap: Z is where the module's ZERO stands -/
inductive TmAt (Z : Addr) (H : Hp) : V → Tm → Prop
  | zero : TmAt Z H (.ref Z) .zero
  | item {a : Addr} {i : Nat} : H a = some (.tup [.str "item", .int (i : Int)]) → TmAt Z H (.ref a) (.item i)
  | add {a : Addr} {x y : V} {l r : Tm} : H a = some (.tup [.str "add", x, y]) → TmAt Z H x l → TmAt Z H y r → TmAt Z H (.ref a) (.add l r)
abbrev TmsAt (Z : Addr) (H : Hp) : List V → List Tm → Prop := Paired (TmAt Z H)
def Tups (H H' : Hp) : Prop := ∀ b xs, H b = some (.tup xs) → H' b = some (.tup xs)
theorem TmAt.keep {Z : Addr} {H H' : Hp} {v : V} {t : Tm} (h : TmAt Z H v t) (k : Tups H H') : TmAt Z H' v t := by
  induction h with
  | zero => exact .zero
  | item h => exact .item (k _ _ h)
  | add h _ _ ih1 ih2 => exact .add (k _ _ h) ih1 ih2
theorem TmAt.same {Z : Addr} {H H' : Hp} {v : V} {t : Tm} (h : TmAt Z H v t) (k : Same H H') : TmAt Z H' v t := h.keep (Same.tup k)
theorem TmsAt.keep {Z : Addr} {H H' : Hp} {vs : List V} {ts : List Tm} (h : TmsAt Z H vs ts) (k : Tups H H') : TmsAt Z H' vs ts := Paired.mapP h fun _ _ z => z.keep k
theorem TmsAt.same {Z : Addr} {H H' : Hp} {vs : List V} {ts : List Tm} (h : TmsAt Z H vs ts) (k : Same H H') : TmsAt Z H' vs ts := TmsAt.keep h (Same.tup k)
theorem tup_lst {H : Hp} {l : Addr} {xs ys : List V} (h : H l = some (.lst xs)) : Tups H (upd H l (.lst ys)) := fun b zs q => by
  rw [upd_ne (ne_of q h (by intro z; cases z))]; exact q
theorem TmsAt.len {Z : Addr} {H : Hp} {vs : List V} {ts : List Tm} (h : TmsAt Z H vs ts) : vs.length = ts.length := Paired.length h
theorem TmsAt.append {Z : Addr} {H : Hp} : ∀ {vs us : List V} {ts rs : List Tm}, TmsAt Z H vs ts → TmsAt Z H us rs → TmsAt Z H (vs ++ us) (ts ++ rs)
  | _, _, _, _, .nil, h => h
  | _, _, _, _, .cons a b, h => .cons a (TmsAt.append b h)
theorem TmsAt.get {Z : Addr} {H : Hp} : ∀ {vs : List V} {ts : List Tm} {i : Nat} {v : V}, TmsAt Z H vs ts → vs[i]? = some v → ∃ t, ts[i]? = some t ∧ TmAt Z H v t
  | _, _, i, _, .nil, e => by simp at e
  | _, _, 0, _, .cons a _, e => by cases (Option.some.inj e); exact ⟨_, rfl, a⟩
  | _, _, i + 1, v, .cons _ b, e => TmsAt.get (i := i) b (by simpa using e)
theorem TmsAt.get' {Z : Addr} {H : Hp} : ∀ {vs : List V} {ts : List Tm} {i : Nat} {t : Tm}, TmsAt Z H vs ts → ts[i]? = some t → ∃ v, vs[i]? = some v ∧ TmAt Z H v t
  | _, _, i, _, .nil, e => by simp at e
  | _, _, 0, _, .cons a _, e => by cases (Option.some.inj e); exact ⟨_, rfl, a⟩
  | _, _, i + 1, t, .cons _ b, e => TmsAt.get' (i := i) b (by simpa using e)
theorem TmsAt.set {Z : Addr} {H : Hp} {v : V} {t : Tm} : ∀ {vs : List V} {ts : List Tm} (i : Nat), TmsAt Z H vs ts → TmAt Z H v t → TmsAt Z H (vs.set i v) (ts.set i t)
  | _, _, _, .nil, _ => .nil
  | _, _, 0, .cons _ b, h => .cons h b
  | _, _, i + 1, .cons a b, h => .cons a (TmsAt.set i b h)
theorem TmsAt.snoc_inv {Z : Addr} {H : Hp} {vs : List V} {ts : List Tm} {t : Tm} (h : TmsAt Z H vs (ts ++ [t])) : ∃ us v, vs = us ++ [v] ∧ TmsAt Z H us ts ∧ TmAt Z H v t := by
  induction ts generalizing vs with
  | nil =>
    cases h with
    | cons a b => cases b; exact ⟨[], _, rfl, .nil, a⟩
  | cons x r ih =>
    cases h with
    | cons a b =>
      obtain ⟨us, v, rfl, h1, h2⟩ := ih b
      exact ⟨_ :: us, v, rfl, .cons a h1, h2⟩
/-- what is read of a term -/
theorem TmAt.tup {K : PySem.W.Frag} {mg : Str → Option Value} (T : Tx K mg) {H : Hp} {v : V} {t : Tm} (h : TmAt (ga K "ZERO") H v t) : ∃ a z r, v = .ref a ∧ SqT K H a (.str z :: r) ∧ TyX K H v (.type "tuple") := by
  cases h with
  | zero =>
    obtain ⟨o, h1, h2⟩ := T.cZERO
    exact ⟨_, _, _, rfl, T.tZERO H, .kTuple h1 h2⟩
  | item h => exact ⟨_, _, _, rfl, SqT.of h, .base (.tup h)⟩
  | add h _ _ => exact ⟨_, _, _, rfl, SqT.of h, .base (.tup h)⟩
/-! ### terms as data -/
def tmD : Tm → PyData
  | .zero => .tuple [.str "zero"]
  | .item i => .tuple [.str "item", .int (i : Int)]
  | .add a b => .tuple [.str "add", tmD a, tmD b]
theorem tmD_lay : ∀ t : Tm, (tmD t).canLay0 = true
  | .zero => by decide +kernel
  | .item i => by
    have e : PyData.strOk "item" = true := by decide +kernel
    simp [tmD, PyData.canLay0, PyData.canLayAll0, e]
  | .add a b => by
    have e : PyData.strOk "add" = true := by decide +kernel
    simp [tmD, PyData.canLay0, PyData.canLayAll0, e, tmD_lay a, tmD_lay b]
theorem tmD_depth : ∀ t : Tm, (tmD t).depth = t.depth
  | .zero => by simp [tmD, PyData.depth, PyData.depthAll, Tm.depth]
  | .item i => by simp [tmD, PyData.depth, PyData.depthAll, Tm.depth]
  | .add a b => by
    have h1 := tmD_depth a
    have h2 := tmD_depth b
    simp only [tmD, PyData.depth, PyData.depthAll, Tm.depth, h1, h2]
    show max 0 (max a.depth (max b.depth 0)) + 1 = max a.depth b.depth + 1
    omega
theorem tmD_shaped {t : Tm} (h : t.depth ≤ 64) : SeqAt.shaped (tmD t) = true := by
  unfold SeqAt.shaped
  rw [tmD_lay, tmD_depth, decide_eq_true h]
  rfl
theorem tmD_refl (t : Tm) : PyData.eqv (tmD t) (tmD t) = true := SeqAt.eqv_refl _ (tmD_lay t)
theorem tmD_item_zero (i : Nat) : PyData.eqv (tmD (.item i)) (tmD .zero) = false := by
  have e : ((("item" : Str) == ("zero" : Str)) : Bool) = false := by decide +kernel
  simp [tmD, PyData.eqv, PyData.eqvAll, e]
theorem TmAt.dp {K : PySem.W.Frag} {mg : Str → Option Value} (T : Tx K mg) {H : Hp} {v : V} {t : Tm} (h : TmAt (ga K "ZERO") H v t) : Dp K H v (tmD t) := by
  induction h with
  | zero => exact .tup (T.tZERO H) (.cons (.str _) .nil)
  | item h => exact .tup (SqT.of h) (.cons (.str _) (.cons (.int _) .nil))
  | add h _ _ ih1 ih2 => exact .tup (SqT.of h) (.cons (.str _) (.cons ih1 (.cons ih2 .nil)))
/-- a leaf -/
def Leaf : Tm → Prop
  | .add _ _ => False
  | _ => True
theorem leaf_of {t l : Tm} (h : l ∈ t.leaves) : Leaf l := by
  rcases Tm.leaves_leaf t l h with rfl | ⟨i, rfl⟩ <;> trivial
theorem leaf_depth {t : Tm} (h : Leaf t) : t.depth ≤ 64 := by
  cases t with
  | add _ _ => exact h.elim
  | zero => decide
  | item _ => show 1 ≤ 64; decide
/-- leaf == ZERO -/
theorem leaf_eqZ {t : Tm} (h : Leaf t) : PyData.eqv (tmD t) (tmD .zero) = t.isZero := by
  cases t with
  | add _ _ => exact h.elim
  | zero => exact tmD_refl _
  | item i => exact tmD_item_zero i
section
variable {P : Program} {w : World} {K : PySem.W.Frag} {mg : Str → Option Value} {base : Heap}
/-! ### with_item, check_sizes, plain_sum -/
def spWith (Z : Addr) : Sp := fun vs H Q _ => ∃ (v : V) (i : Nat) (t : Tm), vs = [v, .int (i : Int)] ∧ TmAt Z H v t ∧ ∀ (a : Addr) (H' : Hp), TmAt Z H' (.ref a) (.add t (.item i)) → Same H H' → Q (.ref a) H'
theorem sc22 : FnScope ["term", "item"] ["term", "item"] (defScope (topS 22)) := ⟨rfl, rfl, rfl, by decide +kernel, rfl, by decide +kernel, by decide +kernel⟩
theorem ok_with (T : Tx K mg) : Cal P w K mg base 1 "with_item" (spWith (ga K "ZERO")) [] := by
  refine mk_cal T.f_with_item T.g_with_item sc22 (fun _ _ _ _ _ _ us hl => match us, hl with | [_, _], _ => rfl) (fun vs H Q E h => ?_) (fun cdv A outer s H vs Q E hr h => ?_)
  · obtain ⟨v, i, t, rfl, _⟩ := h
    rfl
  obtain ⟨v, i, t, rfl, ht, q⟩ := h
  refine ⟨_, pss_one (ps_ret (pe_tup (pa_cons pe_str (pa_cons (pv 0) (pa_cons (pe_tup (pa_cons pe_str (pa_cons (pv 1) pa_nil))) pa_nil))))), ?_⟩
  refine ⟨_, rfl, _, rfl, (by show 2 ≤ sizeLine; decide), fun a ha => ⟨(by show 3 ≤ sizeLine; decide), fun b hb => ?_⟩⟩
  have s1 := same_new ha (.tup [.str "item", .int (i : Int)])
  have s2 := same_new hb (.tup [.str "add", v, .ref a])
  exact q b _ (.add upd_same (ht.same (s1.trans s2)) (.item (s2 _ _ upd_same))) (s1.trans s2)
def spSizes : Sp := fun vs H Q _ => ∃ (a n : Int), vs = [.int a, .int n] ∧ 1 ≤ a ∧ a ≤ 60 ∧ 0 ≤ n ∧ n ≤ 60 ∧ Q .non H
theorem sc24 : FnScope ["width", "count"] ["width", "count"] (defScope (topS 24)) := ⟨rfl, rfl, rfl, by decide +kernel, rfl, by decide +kernel, by decide +kernel⟩
theorem ok_sizes (T : Tx K mg) : Cal P w K mg base 3 "check_sizes" spSizes [] := by
  have G := ok_is_between (P := P) (w := w) (base := base) T
  obtain ⟨tk, gM⟩ := T.i_MOST_ITEMS
  refine mk_cal T.f_check_sizes T.g_check_sizes sc24 (fun _ _ _ _ _ _ us hl => match us, hl with | [_, _], _ => rfl) (fun vs H Q E h => ?_) (fun cdv A outer s H vs Q E hr h => ?_)
  · obtain ⟨a, n, rfl, _⟩ := h
    rfl
  obtain ⟨a, n, rfl, h1, h2, h3, h4, q⟩ := h
  refine ⟨_, pss_cons (ps_if (pt_not (pt_val (pe_c G hr (Nat.le_refl _) (by rfl) (pa_cons (pv 0) (pa_cons pe_int (pa_cons (pe_glob (v := .int 60) (by rfl) gM ⟨_, rfl⟩) pa_nil)))))) (pss_one ps_never) pss_nil)
    (pss_one (ps_if (pt_not (pt_val (pe_c G hr (Nat.le_refl _) (by rfl) (pa_cons (pv 1) (pa_cons pe_int (pa_cons (pe_glob (v := .int 60) (by rfl) gM ⟨_, rfl⟩) pa_nil)))))) (pss_one ps_never) pss_nil)), ?_⟩
  refine ⟨_, rfl, a, 1, 60, rfl, h1, h2, true, rfl, iteF ?_⟩
  refine ⟨_, rfl, n, 0, 60, rfl, h3, h4, true, rfl, iteF ?_⟩
  exact q
def spPlain (Z : Addr) : Sp := fun vs H Q _ => ∃ n : Nat, vs = [.int (n : Int)] ∧ n ≤ 60 ∧ ∀ (v : V) (H' : Hp), TmAt Z H' v (plain n) → Same H H' → Q v H'
theorem sc25 : FnScope ["count", "term", "at"] ["count"] (defScope (topS 25)) := ⟨rfl, rfl, rfl, by decide +kernel, rfl, by decide +kernel, by decide +kernel⟩
theorem ok_plain (T : Tx K mg) : Cal P w K mg base 4 "plain_sum" (spPlain (ga K "ZERO")) [] := by
  have GS := ok_sizes (P := P) (w := w) (base := base) T
  have GW := ok_with (P := P) (w := w) (base := base) T
  refine mk_cal T.f_plain_sum T.g_plain_sum sc25 (fun _ _ _ _ _ _ us hl => match us, hl with | [_], _ => rfl) (fun vs H Q E h => ?_) (fun cdv A outer s H vs Q E hr h => ?_)
  · obtain ⟨n, rfl, _⟩ := h
    rfl
  obtain ⟨n, rfl, hn, q⟩ := h
  refine ⟨_, pss_cons (ps_expr (pe_c GS hr (Nat.le_refl _) (by rfl) (pa_cons pe_int (pa_cons (pv 0) pa_nil))))
    (pss_cons (ps_set (i := 1) sc25.nd rfl (Or.inl rfl) (pe_glob (v := .ref (ga K "ZERO")) (by rfl) T.g_ZERO rfl))
    (pss_cons (ps_for PassesOwn.never rfl (pi_range1 (by rfl) T.z_range (pa_cons (pv 0) pa_nil)) (pg_name (i := 2) sc25.nd rfl (Or.inl rfl))
      (pss_one (ps_set (i := 1) sc25.nd rfl (Or.inl rfl) (pe_c GW hr (by decide) (by rfl) (pa_cons (pv 1) (pa_cons (pv 2) pa_nil))))))
    (pss_one (ps_ret (pv 1))))), ?_⟩
  refine ⟨_, rfl, 1, (n : Int), rfl, by decide, by decide, by omega, by omega, ?_⟩
  refine ⟨_, rfl, _, rfl, by omega, by omega, ?_⟩
  rw [Int.toNat_natCast]
  refine for_range (lo := 0) (fun i σ H1 => ∃ (v : V) (u : Option V), σ = [some (.int (n : Int)), some v, u] ∧ TmAt (ga K "ZERO") H1 v (plain i) ∧ Same H H1) ⟨_, none, rfl, .zero, Same.refl H⟩ ?_ ?_
  · rintro i σ H1 hi ⟨v, u, rfl, hv, e⟩
    refine ⟨_, rfl, _, rfl, v, i, plain i, (by rw [Int.zero_add]; rfl), hv, fun a H2 h2 e2 => ?_⟩
    exact ⟨_, _, rfl, by rw [plain_succ]; exact h2, e.trans e2⟩
  · rintro σ H1 ⟨v, u, rfl, hv, e⟩
    exact ⟨_, rfl, q v H1 hv e⟩
end
end VW

set_option Elab.async false
set_option linter.all false
set_option maxRecDepth 100000
set_option maxHeartbeats 4000000
namespace VW
open PySem PySem.Spec PyProof.Rows L2
open C8 (Cal pe_c)
open He (ga ma)
/-- a term's own tuple, as it is read -/
theorem TmAt.lf {K : PySem.W.Frag} {mg : Str → Option Value} (T : Tx K mg) {H : Hp} {v : V} {t : Tm} (h : TmAt (ga K "ZERO") H v t) (hl : Leaf t) :
    (t = .zero ∧ v = .ref (ga K "ZERO") ∧ SqT K H (ga K "ZERO") [.str "zero"]) ∨ ∃ (i : Nat) (a : Addr), t = .item i ∧ v = .ref a ∧ H a = some (.tup [.str "item", .int (i : Int)]) := by
  cases h with
  | zero => exact .inl ⟨rfl, rfl, T.tZERO H⟩
  | item h => exact .inr ⟨_, _, rfl, rfl, h⟩
  | add _ _ _ => exact hl.elim
section
variable {P : Program} {w : World} {K : PySem.W.Frag} {mg : Str → Option Value} {base : Heap}
def spLeaf (Z : Addr) : Sp := fun vs H Q _ => ∃ (v : V) (t : Tm), vs = [v] ∧ TmAt Z H v t ∧ Leaf t ∧ Q (.bl true) H
theorem sc19 : FnScope ["value"] ["value"] (defScope (topS 19)) := ⟨rfl, rfl, rfl, by decide +kernel, rfl, by decide +kernel, by decide +kernel⟩
theorem ok_is_leaf (T : Tx K mg) : Cal P w K mg base 3 "is_leaf" (spLeaf (ga K "ZERO")) [] := by
  have G := ok_is_count (P := P) (w := w) (base := base) T
  refine mk_cal T.f_is_leaf T.g_is_leaf sc19 (fun _ _ _ _ _ _ us hl => match us, hl with | [_], _ => rfl) (fun vs H Q E h => ?_) (fun cdv A outer s H vs Q E hr h => ?_)
  · obtain ⟨v, t, rfl, _⟩ := h
    rfl
  obtain ⟨v, t, rfl, ht, hl, q⟩ := h
  refine ⟨_, pss_cons (ps_if (pt_cmpR (op_eqD hr.units) (pv 0) (pe_glob (v := .ref (ga K "ZERO")) (by rfl) T.g_ZERO rfl) (nomark _))
      (pss_one (ps_ret (pe_callB call_isi (by rfl) T.z_isinstance b_isinstance (pa_cons (pe_ix ix_tup (pv 0) pe_int (fun _ _ => rfl)) (pa_cons (pe_bltn (v := .ty "str") (by rfl) T.z_str b_str rfl) pa_nil))))) pss_nil)
    (pss_one (ps_ret (pe_and (pe_cmpR op_eq (pe_callB call_len_seq (by rfl) T.z_len b_len (pa_cons (pv 0) pa_nil)) pe_int (nomark _)) (pe_and (pe_cmpR op_eq (pe_ix ix_tup (pv 0) pe_int (fun _ _ => rfl)) pe_str (nomark _))
      (pe_one (pe_c G hr (Nat.le_refl _) (by rfl) (pa_cons (pe_ix ix_tup (pv 0) pe_int (fun _ _ => rfl)) pa_nil))))))), ?_⟩
  refine ⟨_, rfl, _, _, ht.dp T, (TmAt.zero : TmAt (ga K "ZERO") H _ _).dp T, tmD_shaped (leaf_depth hl), tmD_shaped (t := .zero) (by decide), _, rfl, ?_⟩
  rw [leaf_eqZ hl]
  rcases ht.lf T hl with ⟨rfl, rfl, hz⟩ | ⟨i, a, rfl, rfl, ha⟩
  · refine iteT ?_
    refine ⟨_, rfl, _, _, 0, _, rfl, rfl, hz, rfl, _, _, _, _, true, rfl, .ty "str", .base (.str _), kit_ty (by decide +kernel), ?_⟩
    exact q
  · refine iteF ?_
    refine ⟨_, rfl, a, _, rfl, .inr (SqT.of ha), rfl, true, rfl, iteT ?_⟩
    refine ⟨_, rfl, a, _, 0, _, rfl, rfl, SqT.of ha, rfl, rfl, true, rfl, iteT ?_⟩
    exact ⟨_, rfl, a, _, 1, _, rfl, rfl, SqT.of ha, rfl, _, rfl, by omega, q⟩
/-! ### is_term -/
def spTerm (Z : Addr) : Sp := fun vs H Q _ => ∃ (v : V) (t : Tm), vs = [v] ∧ TmAt Z H v t ∧ t.size ≤ 500 ∧ ∀ H', Same H H' → Q (.bl true) H'
/-- the nodes of a row of terms -/
def sizes (ts : List Tm) : Nat := (ts.map Tm.size).sum
theorem sizes_append (a b : List Tm) : sizes (a ++ b) = sizes a + sizes b := by simp [sizes]
theorem size_pos : ∀ t : Tm, 1 ≤ t.size
  | .zero => Nat.le_refl _
  | .item _ => Nat.le_refl _
  | .add a b => by show 1 ≤ a.size + b.size + 1; omega
theorem len_sizes : ∀ ts : List Tm, ts.length ≤ sizes ts
  | [] => Nat.le_refl _
  | t :: r => by
    have h := len_sizes r
    have h1 := size_pos t
    show r.length + 1 ≤ t.size + sizes r
    omega
theorem sc20 : FnScope ["value", "waiting", "part"] ["value"] (defScope (topS 20)) := ⟨rfl, rfl, rfl, by decide +kernel, rfl, by decide +kernel, by decide +kernel⟩
theorem at0 {x : V} {r : List V} : atI (x :: r) 0 = some x := atI_nat (j := 0) rfl
theorem last_pop (us : List V) (v : V) : (us ++ [v])[(us ++ [v]).length - 1]? = some v := by simp
theorem ok_is_term (T : Tx K mg) : Cal P w K mg base 4 "is_term" (spTerm (ga K "ZERO")) [] := by
  have G := ok_is_leaf (P := P) (w := w) (base := base) T
  refine mk_cal T.f_is_term T.g_is_term sc20 (fun _ _ _ _ _ _ us hl => match us, hl with | [_], _ => rfl) (fun vs H Q E h => ?_) (fun cdv A outer s H vs Q E hr h => ?_)
  · obtain ⟨v, t, rfl, _⟩ := h
    rfl
  obtain ⟨v, t, rfl, ht, hsz, q⟩ := h
  refine ⟨_, pss_cons (ps_set (i := 1) sc20.nd rfl (Or.inl rfl) (pe_lst (pa_cons (pv 0) pa_nil)))
    (pss_cons (ps_while PassesOwn.never (pt_cmpR op_gt (pe_callB call_len_seq (by rfl) T.z_len b_len (pa_cons (pv 1) pa_nil)) pe_int (nomark _))
      (pss_cons (ps_set (i := 2) sc20.nd rfl (Or.inl rfl) (pe_bm0 PySem.F.plainAttrs_list PySem.F.slot_list_pop PySem.F.type_list_pop mt_pop (pv 1)))
      (pss_cons (ps_if (PW.pt (pw_or (pt_not (pt_val (pe_callB call_isi (by rfl) T.z_isinstance b_isinstance (pa_cons (pv 2) (pa_cons (pe_bltn (v := .ty "tuple") (by rfl) T.z_tuple b_tuple rfl) pa_nil)))))
          (pw_or (pt_cmpR op_eq (pe_callB call_len_seq (by rfl) T.z_len b_len (pa_cons (pv 2) pa_nil)) pe_int (nomark _))
          (pw_or1 (pt_not (pt_val (pe_callB call_isi (by rfl) T.z_isinstance b_isinstance (pa_cons (pe_ix ix_tup (pv 2) pe_int (fun _ _ => rfl)) (pa_cons (pe_bltn (v := .ty "str") (by rfl) T.z_str b_str rfl) pa_nil)))))))))
        (pss_one (ps_ret pe_bl)) pss_nil)
      (pss_one (ps_if (PW.pt (pw_and (pt_cmpR op_eq (pe_ix ix_tup (pv 2) pe_int (fun _ _ => rfl)) pe_str (nomark _)) (pw_and1 (pt_cmpR op_eq (pe_callB call_len_seq (by rfl) T.z_len b_len (pa_cons (pv 2) pa_nil)) pe_int (nomark _)))))
        (pss_one (ps_expr (pe_bm PySem.F.plainAttrs_list PySem.F.slot_list_extend PySem.F.type_list_extend mt_extend (pv 1) (pa_cons (pe_lst (pa_cons (pe_ix ix_tup (pv 2) pe_int (fun _ _ => rfl)) (pa_cons (pe_ix ix_tup (pv 2) pe_int (fun _ _ => rfl)) pa_nil))) pa_nil))))
        (pss_one (ps_if (pt_not (pt_val (pe_c G hr (Nat.le_refl _) (by rfl) (pa_cons (pv 2) pa_nil)))) (pss_one (ps_ret pe_bl)) pss_nil)))))))
    (pss_one (ps_ret pe_bl))), ?_⟩
  refine ⟨_, rfl, (by show 1 ≤ sizeLine; decide), fun l hl => ?_⟩
  have sl := same_new hl (.lst [v])
  refine ⟨fun k σ H1 => ∃ (us : List V) (ts : List Tm) (u : Option V), k = sizes ts ∧ k ≤ 500 ∧ σ = [some v, some (.ref l), u] ∧ H1 l = some (.lst us) ∧ TmsAt (ga K "ZERO") H1 us ts ∧ Same H H1,
    ⟨_, [v], [t], none, rfl, (by show t.size + 0 ≤ 500; omega), rfl, upd_same, .cons (ht.same sl) .nil, sl⟩, ?_⟩
  rintro k σ H1 ⟨us, ts, u, rfl, hk, rfl, h1, hts, e⟩
  refine ⟨_, rfl, l, us, rfl, .inl (SqL.of h1), _, _, rfl, rfl, _, rfl, ?_⟩
  refine ite2 (fun c => ?_) (fun c => ?_)
  · have c' : (0 : Int) < (us.length : Int) := of_decide_eq_true c
    have hlen := TmsAt.len hts
    obtain ⟨rs, x, rfl⟩ : ∃ rs x, ts = rs ++ [x] := by
      rcases List.eq_nil_or_concat ts with rfl | ⟨rs, x, h⟩
      · rw [List.length_nil] at hlen; omega
      · exact ⟨rs, x, by rw [h, List.concat_eq_append]⟩
    obtain ⟨us', y, rfl, hus, hy⟩ := TmsAt.snoc_inv hts
    have hszs : sizes (rs ++ [x]) = sizes rs + x.size := by rw [sizes_append]; show _ + (x.size + 0) = _; rfl
    refine ⟨fun σ' H' => ∃ k', k' < sizes (rs ++ [x]) ∧ _, fun _ _ h => h, ?_⟩
    refine ⟨_, rfl, .inl ⟨rfl, _, SqL.of h1⟩, l, _, y, rfl, rfl, h1, last_pop us' y, ?_⟩
    rw [List.dropLast_concat]
    have kp := tup_lst (ys := us') h1
    have hx := hy.keep kp
    have hus' := TmsAt.keep hus kp
    have e1 : Same H (upd H1 l (.lst us')) := fun b o h => by rw [upd_ne (ne_of_none h hl)]; exact e b o h
    obtain ⟨a, z, r, rfl, hsq, hty⟩ := hx.tup T
    -- part is a tuple with a text at its head
    refine ⟨_, rfl, _, _, _, _, true, rfl, .ty "tuple", hty, kit_ty (by decide +kernel), true, rfl, iteF ?_⟩
    refine ⟨_, rfl, a, _, rfl, .inr hsq, rfl, _, rfl, ?_⟩
    refine if_f ?_ ?_
    · refine decide_eq_false fun q => ?_
      injection q with q
      simp only [List.length_cons] at q
      omega
    refine ⟨_, rfl, a, _, 0, _, rfl, rfl, hsq, at0, _, _, _, _, true, rfl, .ty "str", .base (.str _), kit_ty (by decide +kernel), true, rfl, iteF ?_⟩
    cases hx with
    | zero =>
      have hz := T.tZERO (upd H1 l (.lst us'))
      refine ⟨_, rfl, _, _, 0, _, rfl, rfl, hz, rfl, rfl, _, rfl, ?_⟩
      refine if_f (by decide +kernel) (iteF ?_)
      refine ⟨_, rfl, _, .zero, rfl, .zero, trivial, true, rfl, iteF ?_⟩
      exact ⟨sizes rs, by rw [hszs]; show _ < _ + 1; omega, us', rs, _, rfl, by omega, rfl, upd_same, hus', e1⟩
    | item ha =>
      refine ⟨_, rfl, _, _, 0, _, rfl, rfl, SqT.of ha, rfl, rfl, _, rfl, ?_⟩
      refine if_f (by decide +kernel) (iteF ?_)
      refine ⟨_, rfl, _, _, rfl, .item ha, trivial, true, rfl, iteF ?_⟩
      exact ⟨sizes rs, by rw [hszs]; show _ < _ + 1; omega, us', rs, _, rfl, by omega, rfl, upd_same, hus', e1⟩
    | add ha hl1 hr1 =>
      rename_i p1 p2 t1 t2
      refine ⟨_, rfl, _, _, 0, _, rfl, rfl, SqT.of ha, rfl, rfl, _, rfl, ?_⟩
      refine if_t (by decide +kernel) ?_
      refine ⟨_, rfl, _, _, rfl, .inr (SqT.of ha), rfl, _, rfl, if_t rfl ?_⟩
      refine ⟨_, rfl, .inl ⟨rfl, _, SqL.of upd_same⟩, _, rfl, _, _, 1, _, rfl, rfl, SqT.of ha, rfl, _, rfl, _, _, 2, _, rfl, rfl, SqT.of ha, rfl, (by show 2 ≤ sizeLine; decide), fun m hm => ?_⟩
      have sm := same_new hm (.lst [p1, p2])
      have hl2 : (upd (upd H1 l (.lst us')) m (.lst [p1, p2])) l = some (.lst us') := sm _ _ upd_same
      have hsz2 : (Tm.add t1 t2).size = t1.size + t2.size + 1 := rfl
      have hus3 := TmsAt.len hus'
      have hls := len_sizes rs
      refine ⟨l, m, us', [p1, p2], rfl, rfl, hl2, upd_same, sz (by show us'.length + 2 ≤ 1000; omega), ?_⟩
      have kp2 : Tups (upd H1 l (.lst us')) (upd (upd (upd H1 l (.lst us')) m (.lst [p1, p2])) l (.lst (us' ++ [p1, p2]))) := fun b xs h => tup_lst hl2 b xs (sm b _ h)
      have hss : sizes (rs ++ [t1, t2]) = sizes rs + (t1.size + t2.size) := by rw [sizes_append]; show _ + (t1.size + (t2.size + 0)) = _; omega
      refine ⟨sizes (rs ++ [t1, t2]), by rw [hss, hszs, hsz2]; omega, us' ++ [p1, p2], rs ++ [t1, t2], _, rfl, by rw [hss]; rw [hszs, hsz2] at hk; omega, rfl, upd_same, TmsAt.append (TmsAt.keep hus' kp2) (.cons (hl1.keep kp2) (.cons (hr1.keep kp2) .nil)), fun b o h => ?_⟩
      rw [upd_ne (ne_of_none h hl)]
      exact sm _ _ (e1 b o h)
  · exact q H1 e
def spChecked (Z : Addr) : Sp := fun vs H Q _ => ∃ (v : V) (t : Tm), vs = [v] ∧ TmAt Z H v t ∧ t.size ≤ 500 ∧ ∀ H', Same H H' → Q .non H'
theorem sc28 : FnScope ["term"] ["term"] (defScope (topS 28)) := ⟨rfl, rfl, rfl, by decide +kernel, rfl, by decide +kernel, by decide +kernel⟩
theorem ok_checked (T : Tx K mg) : Cal P w K mg base 5 "checked_term" (spChecked (ga K "ZERO")) [] := by
  have G := ok_is_term (P := P) (w := w) (base := base) T
  refine mk_cal T.f_checked_term T.g_checked_term sc28 (fun _ _ _ _ _ _ us hl => match us, hl with | [_], _ => rfl) (fun vs H Q E h => ?_) (fun cdv A outer s H vs Q E hr h => ?_)
  · obtain ⟨v, t, rfl, _⟩ := h
    rfl
  obtain ⟨v, t, rfl, ht, hsz, q⟩ := h
  refine ⟨_, pss_one (ps_if (pt_not (pt_val (pe_c G hr (Nat.le_refl _) (by rfl) (pa_cons (pv 0) pa_nil)))) (pss_one ps_never) pss_nil), ?_⟩
  exact ⟨_, rfl, v, t, rfl, ht, hsz, fun H' e => ⟨true, rfl, iteF (q H' e)⟩⟩
end
end VW

set_option Elab.async false
set_option linter.all false
set_option maxRecDepth 100000
set_option maxHeartbeats 4000000
namespace VW
open PySem PySem.Spec PyProof.Rows L2
open C8 (Cal pe_c)
open He (ga ma)
/-- a new row of a term's leaves -/
def spLeaves (Z : Addr) : Sp := fun vs H Q _ => ∃ (v : V) (t : Tm), vs = [v] ∧ TmAt Z H v t ∧ t.size ≤ 500 ∧ ∀ (r : Addr) (us : List V) (H' : Hp), H' r = some (.lst us) → TmsAt Z H' us t.leaves → Same H H' → Q (.ref r) H'
/-- the leaves of a stack of terms, its top first -/
def stackL (ts : List Tm) : List Tm := ts.reverse.flatMap Tm.leaves
theorem stackL_snoc (ts : List Tm) (t : Tm) : stackL (ts ++ [t]) = t.leaves ++ stackL ts := by simp [stackL]
theorem leaves_le (t : Tm) : t.leaves.length ≤ t.size := by
  have h1 := Tm.leaves_len t
  have h2 := Tm.size_le t
  have h3 := Tm.cnt_pos t
  omega
section
variable {P : Program} {w : World} {K : PySem.W.Frag} {mg : Str → Option Value} {base : Heap}
theorem sc27 : FnScope ["term", "found", "waiting", "part"] ["term"] (defScope (topS 27)) := ⟨rfl, rfl, rfl, by decide +kernel, rfl, by decide +kernel, by decide +kernel⟩
theorem ok_leaf_row (T : Tx K mg) : Cal P w K mg base 1 "leaf_row" (spLeaves (ga K "ZERO")) [] := by
  refine mk_cal T.f_leaf_row T.g_leaf_row sc27 (fun _ _ _ _ _ _ us hl => match us, hl with | [_], _ => rfl) (fun vs H Q E h => ?_) (fun cdv A outer s H vs Q E hr h => ?_)
  · obtain ⟨v, t, rfl, _⟩ := h
    rfl
  obtain ⟨v, t, rfl, ht, hsz, q⟩ := h
  refine ⟨_, pss_cons (ps_par (i := 1) (j := 2) (by rfl) sc27.nd rfl rfl (by decide) rfl rfl (pa_cons (pe_lst pa_nil) (pa_cons (pe_lst (pa_cons (pv 0) pa_nil)) pa_nil)) (by rfl))
    (pss_cons (ps_while PassesOwn.never (pt_cmpR op_gt (pe_callB call_len_seq (by rfl) T.z_len b_len (pa_cons (pv 2) pa_nil)) pe_int (nomark _))
      (pss_cons (ps_set (i := 3) sc27.nd rfl (Or.inl rfl) (pe_bm0 PySem.F.plainAttrs_list PySem.F.slot_list_pop PySem.F.type_list_pop mt_pop (pv 2)))
      (pss_one (ps_if (pt_cmpR op_eq (pe_ix ix_tup (pv 3) pe_int (fun _ _ => rfl)) pe_str (nomark _))
        (pss_one (ps_expr (pe_bm PySem.F.plainAttrs_list PySem.F.slot_list_extend PySem.F.type_list_extend mt_extend (pv 2) (pa_cons (pe_lst (pa_cons (pe_ix ix_tup (pv 3) pe_int (fun _ _ => rfl)) (pa_cons (pe_ix ix_tup (pv 3) pe_int (fun _ _ => rfl)) pa_nil))) pa_nil))))
        (pss_one (ps_expr (pe_bm PySem.F.plainAttrs_list PySem.F.slot_list_append PySem.F.type_list_append mt_append (pv 1) (pa_cons (pv 3) pa_nil))))))))
    (pss_one (ps_ret (pv 1)))), ?_⟩
  refine ⟨(by show 0 ≤ sizeLine; decide), fun f hf => ⟨_, rfl, (by show 1 ≤ sizeLine; decide), fun l hl => ⟨_, _, rfl, ?_⟩⟩⟩
  have sf := same_new hf (.lst [])
  have sl := same_new hl (.lst [v])
  have hf1 := sl _ _ (upd_same (H := H) (a := f) (o := .lst []))
  have nfl : f ≠ l := ne_of_none (upd_same (H := H) (a := f) (o := .lst [])) hl
  have hl0 : H l = none := Same.free sf hl
  refine ⟨fun k σ H1 => ∃ (us fs : List V) (ts ls : List Tm) (u : Option V), k = sizes ts ∧ ls.length + k ≤ 500 ∧ σ = [some v, some (.ref f), some (.ref l), u] ∧ H1 l = some (.lst us) ∧ H1 f = some (.lst fs) ∧ TmsAt (ga K "ZERO") H1 us ts ∧ TmsAt (ga K "ZERO") H1 fs ls ∧ ls ++ stackL ts = t.leaves ∧ Same H H1,
    ⟨_, [v], [], [t], [], none, rfl, (by show 0 + (t.size + 0) ≤ 500; omega), rfl, upd_same, hf1, .cons (ht.same (sf.trans sl)) .nil, .nil, by simp [stackL], sf.trans sl⟩, ?_⟩
  rintro k σ H1 ⟨us, fs, ts, ls, u, rfl, hk, rfl, h1, h2, hts, hls, hL, e⟩
  refine ⟨_, rfl, l, us, rfl, .inl (SqL.of h1), _, _, rfl, rfl, _, rfl, ?_⟩
  refine ite2 (fun c => ?_) (fun c => ?_)
  · have c' : (0 : Int) < (us.length : Int) := of_decide_eq_true c
    have hlen := TmsAt.len hts
    obtain ⟨rs, x, rfl⟩ : ∃ rs x, ts = rs ++ [x] := by
      rcases List.eq_nil_or_concat ts with rfl | ⟨rs, x, h⟩
      · rw [List.length_nil] at hlen; omega
      · exact ⟨rs, x, by rw [h, List.concat_eq_append]⟩
    obtain ⟨us', y, rfl, hus, hy⟩ := TmsAt.snoc_inv hts
    have hszs : sizes (rs ++ [x]) = sizes rs + x.size := by rw [sizes_append]; show _ + (x.size + 0) = _; rfl
    refine ⟨fun σ' H' => ∃ k', k' < sizes (rs ++ [x]) ∧ _, fun _ _ h => h, ?_⟩
    refine ⟨_, rfl, .inl ⟨rfl, _, SqL.of h1⟩, l, _, y, rfl, rfl, h1, last_pop us' y, ?_⟩
    rw [List.dropLast_concat]
    have kp := tup_lst (ys := us') h1
    have hx := hy.keep kp
    have hus' := TmsAt.keep hus kp
    have hls' := TmsAt.keep hls kp
    have e1 : Same H (upd H1 l (.lst us')) := fun b o h => by rw [upd_ne (ne_of_none h hl0)]; exact e b o h
    have hf' : (upd H1 l (.lst us')) f = some (.lst fs) := by rw [upd_ne nfl]; exact h2
    rw [stackL_snoc] at hL
    -- a leaf goes to the found ones
    have leafy : ∀ (a : Addr) (z : Str) (r : List V), V.ref a = y → SqT K (upd H1 l (.lst us')) a (.str z :: r) → z ≠ "add" → x.leaves = [x] → tIfS (tTest (tOp rEq (tOp (rIxT K) (tVar 3) (tC (.int 0))) (tC (.str "add"))))
        (tDrop (tBM K "list" rExtend (tVar 2) (tCons (tLst (tCons (tOp (rIxT K) (tVar 3) (tC (.int 2))) (tCons (tOp (rIxT K) (tVar 3) (tC (.int 1))) tNil))) tNil))) (tDrop (tBM K "list" rAppend (tVar 1) (tCons (tVar 3) tNil)))
        { nx := fun σ' H' => ∃ k', k' < sizes (rs ++ [x]) ∧ ∃ (us fs : List V) (ts ls : List Tm) (u : Option V), k' = sizes ts ∧ ls.length + k' ≤ 500 ∧ σ' = [some v, some (.ref f), some (.ref l), u] ∧ H' l = some (.lst us) ∧ H' f = some (.lst fs) ∧ TmsAt (ga K "ZERO") H' us ts ∧ TmsAt (ga K "ZERO") H' fs ls ∧ ls ++ stackL ts = t.leaves ∧ Same H H',
          rt := fun v H' => Q v H' } [some v, some (.ref f), some (.ref l), some y] (upd H1 l (.lst us')) := by
      intro a z r ea hsq hz hxl
      subst ea
      refine ⟨_, rfl, a, _, 0, _, rfl, rfl, hsq, at0, rfl, _, rfl, ?_⟩
      refine if_f (decide_eq_false fun q => hz (by injection q)) ?_
      have hlf := TmsAt.len hls
      refine ⟨_, rfl, .inl ⟨rfl, _, SqL.of hf'⟩, _, rfl, f, _, _, rfl, rfl, hf', small1000 (by omega), ?_⟩
      have kp2 := tup_lst (ys := fs ++ [.ref a]) hf'
      have hx1 := size_pos x
      refine ⟨sizes rs, by rw [hszs]; omega, us', fs ++ [.ref a], rs, ls ++ [x], _, rfl, ?_, rfl, ?_, upd_same, TmsAt.keep hus' kp2, TmsAt.append (TmsAt.keep hls' kp2) (.cons (hx.keep kp2) .nil), ?_, fun b o h => ?_⟩
      · rw [List.length_append, List.length_singleton]; rw [hszs] at hk; omega
      · rw [upd_ne (Ne.symm nfl), upd_same]
      · rw [← hL, hxl, List.append_assoc]
      · rw [upd_ne (ne_of_none h hf)]; exact e1 b o h
    cases hx with
    | zero => exact leafy _ _ _ rfl (T.tZERO _) (by decide +kernel) rfl
    | item ha => exact leafy _ _ _ rfl (SqT.of ha) (by decide +kernel) rfl
    | add ha hl1 hr1 =>
      rename_i a p1 p2 t1 t2
      refine ⟨_, rfl, _, _, 0, _, rfl, rfl, SqT.of ha, rfl, rfl, _, rfl, ?_⟩
      refine if_t (by decide +kernel) ?_
      refine ⟨_, rfl, .inl ⟨rfl, _, SqL.of upd_same⟩, _, rfl, _, _, 2, _, rfl, rfl, SqT.of ha, rfl, _, rfl, _, _, 1, _, rfl, rfl, SqT.of ha, rfl, (by show 2 ≤ sizeLine; decide), fun m hm => ?_⟩
      have sm := same_new hm (.lst [p2, p1])
      have hl2 : (upd (upd H1 l (.lst us')) m (.lst [p2, p1])) l = some (.lst us') := sm _ _ upd_same
      have hsz2 : (Tm.add t1 t2).size = t1.size + t2.size + 1 := rfl
      have hus3 := TmsAt.len hus'
      have hlr := len_sizes rs
      refine ⟨l, m, us', [p2, p1], rfl, rfl, hl2, upd_same, sz (by show us'.length + 2 ≤ 1000; omega), ?_⟩
      have kp2 : Tups (upd H1 l (.lst us')) (upd (upd (upd H1 l (.lst us')) m (.lst [p2, p1])) l (.lst (us' ++ [p2, p1]))) := fun b xs h => tup_lst hl2 b xs (sm b _ h)
      have hss : sizes (rs ++ [t2, t1]) = sizes rs + (t1.size + t2.size) := by rw [sizes_append]; show _ + (t2.size + (t1.size + 0)) = _; omega
      refine ⟨sizes (rs ++ [t2, t1]), by rw [hss, hszs, hsz2]; omega, us' ++ [p2, p1], fs, rs ++ [t2, t1], ls, _, rfl, by rw [hss]; rw [hszs, hsz2] at hk; omega, rfl, upd_same, ?_, TmsAt.append (TmsAt.keep hus' kp2) (.cons (hr1.keep kp2) (.cons (hl1.keep kp2) .nil)), TmsAt.keep hls' kp2, ?_, fun b o h => ?_⟩
      · rw [upd_ne nfl]; exact sm _ _ hf'
      · rw [← hL, show rs ++ [t2, t1] = (rs ++ [t2]) ++ [t1] by simp, stackL_snoc, stackL_snoc, ← List.append_assoc t1.leaves]
        rfl
      · rw [upd_ne (ne_of_none h hl0)]
        exact sm _ _ (e1 b o h)
  · have hlen := TmsAt.len hts
    have c' : ¬ (0 : Int) < (us.length : Int) := of_decide_eq_false (Bool.eq_false_iff.mpr c)
    have e0 : ts = [] := List.length_eq_zero_iff.mp (by omega)
    subst e0
    have e1 : ls = t.leaves := by
      rw [← hL]
      simp [stackL]
    subst e1
    exact ⟨_, rfl, q f fs H1 h2 hls e⟩
end
end VW

set_option Elab.async false
set_option linter.all false
set_option maxRecDepth 100000
set_option maxHeartbeats 4000000
namespace VW
open PySem PySem.Spec PyProof.Rows L2
open C8 (Cal pe_c)
open He (ga ma)
/-- the number of an item -/
def itm : Tm → Option Nat
  | .item i => some i
  | _ => none
theorem leaves_itm : ∀ t : Tm, t.leaves.filterMap itm = t.items
  | .zero => rfl
  | .item _ => rfl
  | .add a b => by simp only [Tm.leaves, Tm.items, List.filterMap_append, leaves_itm a, leaves_itm b]
theorem take_more {α : Type} {l : List α} {i : Nat} {x : α} (h : l[i]? = some x) : l.take (i + 1) = l.take i ++ [x] := by
  obtain ⟨hi, e⟩ := List.getElem?_eq_some_iff.mp h
  rw [List.take_succ_eq_append_getElem hi, e]
def vN (l : List Nat) : List V := l.map fun i : Nat => V.int (i : Int)
def vI (l : List Int) : List V := l.map V.int
theorem vN_append (a b : List Nat) : vN (a ++ b) = vN a ++ vN b := List.map_append
theorem vN_len (a : List Nat) : (vN a).length = a.length := List.length_map _
theorem vN_vI (l : List Nat) : vN l = vI (l.map fun i : Nat => (i : Int)) := by
  unfold vN vI
  rw [List.map_map]
  rfl
def spItems (Z : Addr) : Sp := fun vs H Q _ => ∃ (v : V) (t : Tm), vs = [v] ∧ TmAt Z H v t ∧ t.size ≤ 500 ∧ ∀ (p : Addr) (H' : Hp), H' p = some (.tup (vN t.items)) → Same H H' → Q (.ref p) H'
section
variable {P : Program} {w : World} {K : PySem.W.Frag} {mg : Str → Option Value} {base : Heap}
theorem sc29 : FnScope ["term", "leaf"] ["term"] (defScope (topS 29)) := ⟨rfl, rfl, rfl, by decide +kernel, rfl, by decide +kernel, by decide +kernel⟩
theorem ok_items (T : Tx K mg) : Cal P w K mg base 6 "items_of" (spItems (ga K "ZERO")) [] := by
  have GC := ok_checked (P := P) (w := w) (base := base) T
  have GL := ok_leaf_row (P := P) (w := w) (base := base) T
  refine mk_cal T.f_items_of T.g_items_of sc29 (fun _ _ _ _ _ _ us hl => match us, hl with | [_], _ => rfl) (fun vs H Q E h => ?_) (fun cdv A outer s H vs Q E hr h => ?_)
  · obtain ⟨v, t, rfl, _⟩ := h
    rfl
  obtain ⟨v, t, rfl, ht, hsz, q⟩ := h
  refine ⟨_, pss_cons (ps_expr (pe_c GC hr (Nat.le_refl _) (by rfl) (pa_cons (pv 0) pa_nil)))
    (pss_one (ps_ret (pe_callTy call_tuple_of (by rfl) T.z_tuple b_tuple (pa_cons (pe_lc (own := [("leaf", 1)]) (g := gName 1) (tt := tTest (tOp (rNeD K) (tVar 1) (tC (.ref (ga K "ZERO"))))) (te := tOp (rIxT K) (tVar 1) (tC (.int 1))) rfl sc29.nd
        (pi_list (pe_c GL hr (by decide) (by rfl) (pa_cons (pv 0) pa_nil))) (blkOk_by (N := ["term", "leaf"]) (sc := defScope (topS 29)) (by decide +kernel))
        (fun _ _ _ _ _ => pg_name (i := 1) sc29.nd rfl (Or.inl rfl)) (fun _ _ _ _ _ => pts_one (by exact pt_cmpR (op_neD hr.units) (pv 1) (pe_glob (v := .ref (ga K "ZERO")) (by rfl) T.g_ZERO rfl) (nomark _)))
        (fun _ _ _ _ _ => by exact pe_ix ix_tup (pv 1) pe_int (fun _ _ => rfl))) pa_nil)))), ?_⟩
  refine ⟨_, rfl, v, t, rfl, ht, hsz, fun H1 e1 => ?_⟩
  refine ⟨_, rfl, v, t, rfl, ht.same e1, hsz, fun r us H2 hr2 hus e2 => ⟨r, rfl, ⟨_, SqL.of hr2⟩, fun D hD => ?_⟩⟩
  have hul := TmsAt.len hus
  have hll := leaves_le t
  refine lc_list (K := K) (a := r) (xs := us) (fun i H3 => Same H2 H3 ∧ H3 D = some (.lst (vN ((t.leaves.take i).filterMap itm)))) ⟨same_new hD _, upd_same⟩ (fun i H3 _ ⟨e, _⟩ => e.seq (SqL.of hr2)) ?_ ?_
  · rintro i x H3 hi ⟨e3, hD3⟩
    obtain ⟨l, hl, hx⟩ := TmsAt.get hus hi
    have hx3 := hx.same e3
    have hlf := leaf_of (List.mem_of_getElem? hl)
    refine ⟨rfl, _, rfl, _, _, hx3.dp T, (TmAt.zero : TmAt (ga K "ZERO") H3 _ _).dp T, tmD_shaped (leaf_depth hlf), tmD_shaped (t := .zero) (by decide), _, rfl, ?_⟩
    rw [leaf_eqZ hlf, take_more hl, List.filterMap_append]
    rcases hx3.lf T hlf with ⟨rfl, rfl, hz⟩ | ⟨k, a, rfl, rfl, ha⟩
    · refine iteF ⟨e3, ?_⟩
      show H3 D = some (.lst (vN ((t.leaves.take i).filterMap itm ++ [])))
      rw [hD3, List.append_nil]
    · refine iteT ?_
      refine ⟨_, rfl, a, _, 1, _, rfl, rfl, SqT.of ha, rfl, _, hD3, small1000 ?_, fun b o h => ?_, ?_⟩
      · rw [vN_len]
        have h1 := List.length_filterMap_le itm (t.leaves.take i)
        rw [List.length_take] at h1
        omega
      · rw [upd_ne (ne_of_none h hD)]; exact e3 b o h
      · rw [upd_same, vN_append]; rfl
  · rintro H3 ⟨e3, hD3⟩
    rw [hul, List.take_length, leaves_itm] at hD3
    exact ⟨D, _, rfl, .inl ⟨SqL.of hD3, fun p hp => q p _ upd_same (((e1.trans e2).trans e3).trans (same_new hp _))⟩⟩
/-! ### the law's own row, worth, zeros: by the depth of the term -/
def spLRow (Z : Addr) (n : Nat) : Sp := fun vs H Q _ => ∃ (v : V) (t : Tm), vs = [v] ∧ TmAt Z H v t ∧ t.depth ≤ n ∧ t.size ≤ 500 ∧ ∀ (r : Addr) (us : List V) (H' : Hp), H' r = some (.lst us) → TmsAt Z H' us t.leaves → Same H H' → Q (.ref r) H'
theorem depth_pos : ∀ t : Tm, 1 ≤ t.depth
  | .zero => Nat.le_refl _
  | .item _ => Nat.le_refl _
  | .add a b => Nat.le_add_left 1 _
theorem sc50 : FnScope ["term"] ["term"] (defScope (topS 50)) := ⟨rfl, rfl, rfl, by decide +kernel, rfl, by decide +kernel, by decide +kernel⟩
theorem none_cal {x : Str} {i : Nat} {ps : List Str} {sp : Sp} (F : FnP K i x) (hm : mg x = some (.ref (ga K x))) (hb : ∀ (kV doc pm : Value) (an : Option Addr) (cdv ct : Value) (us : List Value), us.length = ps.length → bindArgs (PySem.W.fnOf x x (defArgs (topS i)) (defBody (topS i)) (defScope (topS i)) .none kV doc pm an cdv ct) ⟨us, []⟩ = pure (ps.zip us))
    (no : ∀ vs H Q E, ¬ sp vs H Q E) : Cal P w K mg base 0 x sp [] := by
  obtain ⟨fd, F⟩ := F
  exact ⟨ga K x, fd, ps, [], ⟨fun vs H Q E h => absurd h (no vs H Q E), fun A outer s H args us vs Q E _ _ _ _ h => absurd h (no vs H Q E)⟩, hm, F.kp, F.bindsN hb, .nil⟩
theorem ok_lrow (T : Tx K mg) : ∀ n : Nat, Cal P w K mg base n "_law_row" (spLRow (ga K "ZERO") n) []
  | 0 => none_cal (ps := ["term"]) T.f_law_row T.g_law_row (fun _ _ _ _ _ _ us hl => match us, hl with | [_], _ => rfl) fun vs H Q E h => by
    obtain ⟨v, t, _, _, hd, _⟩ := h
    have := depth_pos t
    omega
  | n + 1 => by
    have G := ok_lrow T n
    refine mk_cal T.f_law_row T.g_law_row sc50 (fun _ _ _ _ _ _ us hl => match us, hl with | [_], _ => rfl) (fun vs H Q E h => ?_) (fun cdv A outer s H vs Q E hr h => ?_)
    · obtain ⟨v, t, rfl, _⟩ := h
      rfl
    obtain ⟨v, t, rfl, ht, hd, hsz, q⟩ := h
    refine ⟨_, pss_one (ps_ret (pe_ifExp (pt_cmpR op_eq (pe_ix ix_tup (pv 0) pe_int (fun _ _ => rfl)) pe_str (nomark _))
      (pe_op op_cat (pe_c G hr (Nat.le_refl _) (by rfl) (pa_cons (pe_ix ix_tup (pv 0) pe_int (fun _ _ => rfl)) pa_nil)) (pe_c G hr (Nat.le_refl _) (by rfl) (pa_cons (pe_ix ix_tup (pv 0) pe_int (fun _ _ => rfl)) pa_nil)))
      (pe_lst (pa_cons (pv 0) pa_nil)))), ?_⟩
    cases ht with
    | zero =>
      refine ⟨_, rfl, _, _, 0, _, rfl, rfl, T.tZERO H, rfl, rfl, _, rfl, if_f (by decide +kernel) ?_⟩
      exact ⟨_, rfl, (by show 1 ≤ sizeLine; decide), fun r hr' => q r _ _ upd_same (.cons .zero .nil) (same_new hr' _)⟩
    | item ha =>
      refine ⟨_, rfl, _, _, 0, _, rfl, rfl, SqT.of ha, rfl, rfl, _, rfl, if_f (by decide +kernel) ?_⟩
      exact ⟨_, rfl, (by show 1 ≤ sizeLine; decide), fun r hr' => q r _ _ upd_same (.cons (.item (same_new hr' _ _ _ ha)) .nil) (same_new hr' _)⟩
    | add ha h1 h2 =>
      rename_i a x y l r
      have hd' : Nat.max l.depth r.depth + 1 ≤ n + 1 := hd
      have hd1 : l.depth ≤ n := by have := Nat.le_max_left l.depth r.depth; have e : Nat.max l.depth r.depth = max l.depth r.depth := rfl; omega
      have hd2 : r.depth ≤ n := by have := Nat.le_max_right l.depth r.depth; have e : Nat.max l.depth r.depth = max l.depth r.depth := rfl; omega
      have hs : l.size + r.size + 1 ≤ 500 := hsz
      refine ⟨_, rfl, _, _, 0, _, rfl, rfl, SqT.of ha, rfl, rfl, _, rfl, if_t (by decide +kernel) ?_⟩
      refine ⟨_, rfl, _, _, 1, _, rfl, rfl, SqT.of ha, rfl, x, l, rfl, h1, hd1, by omega, fun r1 us1 H1 hr1 hu1 e1 => ?_⟩
      refine ⟨_, rfl, _, _, 2, _, rfl, rfl, SqT.of (e1 _ _ ha), rfl, y, r, rfl, h2.same e1, hd2, by omega, fun r2 us2 H2 hr2 hu2 e2 => ?_⟩
      have l1 := TmsAt.len hu1
      have l2 := TmsAt.len hu2
      have b1 := leaves_le l
      have b2 := leaves_le r
      refine ⟨r1, r2, _, _, rfl, rfl, e2 _ _ hr1, hr2, sz (by omega), fun p hp => ?_⟩
      have e3 := same_new hp (.lst (us1 ++ us2))
      exact q p _ _ upd_same (TmsAt.append (TmsAt.same hu1 (e2.trans e3)) (TmsAt.same hu2 e3)) ((e1.trans e2).trans e3)
def spWorth (K : PySem.W.Frag) (n : Nat) : Sp := fun vs H Q _ => ∃ (v : V) (b : Addr) (t : Tm) (ns : List Int), vs = [v, .ref b] ∧ TmAt (ga K "ZERO") H v t ∧ t.depth ≤ n ∧ SqL K H b (ns.map V.int) ∧ (∀ i ∈ t.items, i < ns.length) ∧ Q (.int (t.worth ns)) H
theorem sc51 : FnScope ["term", "numbers"] ["term", "numbers"] (defScope (topS 51)) := ⟨rfl, rfl, rfl, by decide +kernel, rfl, by decide +kernel, by decide +kernel⟩
theorem ok_worth (T : Tx K mg) : ∀ n : Nat, Cal P w K mg base n "_law_worth" (spWorth K n) []
  | 0 => none_cal (ps := ["term", "numbers"]) T.f_law_worth T.g_law_worth (fun _ _ _ _ _ _ us hl => match us, hl with | [_, _], _ => rfl) fun vs H Q E h => by
    obtain ⟨v, b, t, ns, _, _, hd, _⟩ := h
    have := depth_pos t
    omega
  | n + 1 => by
    have G := ok_worth T n
    refine mk_cal T.f_law_worth T.g_law_worth sc51 (fun _ _ _ _ _ _ us hl => match us, hl with | [_, _], _ => rfl) (fun vs H Q E h => ?_) (fun cdv A outer s H vs Q E hr h => ?_)
    · obtain ⟨v, b, t, ns, rfl, _⟩ := h
      rfl
    obtain ⟨v, b, t, ns, rfl, ht, hd, hS, hi, q⟩ := h
    refine ⟨_, pss_cons (ps_if (pt_cmpR op_eq (pe_ix ix_tup (pv 0) pe_int (fun _ _ => rfl)) pe_str (nomark _))
        (pss_one (ps_ret (pe_op op_add (pe_c G hr (Nat.le_refl _) (by rfl) (pa_cons (pe_ix ix_tup (pv 0) pe_int (fun _ _ => rfl)) (pa_cons (pv 1) pa_nil))) (pe_c G hr (Nat.le_refl _) (by rfl) (pa_cons (pe_ix ix_tup (pv 0) pe_int (fun _ _ => rfl)) (pa_cons (pv 1) pa_nil)))))) pss_nil)
      (pss_one (ps_ret (pe_ifExp (pt_cmpR op_eq (pe_ix ix_tup (pv 0) pe_int (fun _ _ => rfl)) pe_str (nomark _)) pe_int (pe_ix ix_list (pv 1) (pe_ix ix_tup (pv 0) pe_int (fun _ _ => rfl)) (fun _ _ => rfl))))), ?_⟩
    cases ht with
    | zero =>
      refine ⟨_, rfl, _, _, 0, _, rfl, rfl, T.tZERO H, rfl, rfl, _, rfl, if_f (by decide +kernel) ?_⟩
      refine ⟨_, rfl, _, _, 0, _, rfl, rfl, T.tZERO H, rfl, rfl, _, rfl, if_t (by decide +kernel) ?_⟩
      exact q
    | item ha =>
      rename_i a i
      refine ⟨_, rfl, _, _, 0, _, rfl, rfl, SqT.of ha, rfl, rfl, _, rfl, if_f (by decide +kernel) ?_⟩
      refine ⟨_, rfl, _, _, 0, _, rfl, rfl, SqT.of ha, rfl, rfl, _, rfl, if_f (by decide +kernel) ?_⟩
      have hlt : i < ns.length := hi i (List.mem_singleton.mpr rfl)
      have hat : atI (ns.map V.int) ((i : Nat) : Int) = some (.int (ns.getD i 0)) := atI_nat (by rw [List.getElem?_map, List.getElem?_eq_getElem hlt, List.getD_eq_getElem?_getD, List.getElem?_eq_getElem hlt] <;> rfl)
      exact ⟨_, rfl, _, rfl, _, _, 1, _, rfl, rfl, SqT.of ha, rfl, b, _, _, _, rfl, rfl, hS, hat, q⟩
    | add ha h1 h2 =>
      rename_i a x y l r
      have hd' : Nat.max l.depth r.depth + 1 ≤ n + 1 := hd
      have hd1 : l.depth ≤ n := by have := Nat.le_max_left l.depth r.depth; have e : Nat.max l.depth r.depth = max l.depth r.depth := rfl; omega
      have hd2 : r.depth ≤ n := by have := Nat.le_max_right l.depth r.depth; have e : Nat.max l.depth r.depth = max l.depth r.depth := rfl; omega
      have hi1 : ∀ i ∈ l.items, i < ns.length := fun i h => hi i (List.mem_append_left _ h)
      have hi2 : ∀ i ∈ r.items, i < ns.length := fun i h => hi i (List.mem_append_right _ h)
      refine ⟨_, rfl, _, _, 0, _, rfl, rfl, SqT.of ha, rfl, rfl, _, rfl, if_t (by decide +kernel) ?_⟩
      refine ⟨_, rfl, _, _, 1, _, rfl, rfl, SqT.of ha, rfl, _, rfl, x, b, l, ns, rfl, h1, hd1, hS, hi1, ?_⟩
      exact ⟨_, rfl, _, _, 2, _, rfl, rfl, SqT.of ha, rfl, _, rfl, y, b, r, ns, rfl, h2, hd2, hS, hi2, _, _, rfl, rfl, q⟩
def spZeros (Z : Addr) : Sp := fun vs H Q _ => ∃ (v : V) (t : Tm), vs = [v] ∧ TmAt Z H v t ∧ t.depth ≤ 40 ∧ t.size ≤ 500 ∧ ∀ H', Same H H' → Q (.int (t.zeros : Int)) H'
theorem sc52 : FnScope ["term", "one"] ["term"] (defScope (topS 52)) := ⟨rfl, rfl, rfl, by decide +kernel, rfl, by decide +kernel, by decide +kernel⟩
theorem ok_zeros (T : Tx K mg) : Cal P w K mg base 41 "_law_zeros" (spZeros (ga K "ZERO")) [] := by
  have G := ok_lrow (P := P) (w := w) (base := base) T 40
  refine mk_cal T.f_law_zeros T.g_law_zeros sc52 (fun _ _ _ _ _ _ us hl => match us, hl with | [_], _ => rfl) (fun vs H Q E h => ?_) (fun cdv A outer s H vs Q E hr h => ?_)
  · obtain ⟨v, t, rfl, _⟩ := h
    rfl
  obtain ⟨v, t, rfl, ht, hd, hsz, q⟩ := h
  refine ⟨_, pss_one (ps_ret (pe_callB call_len_seq (by rfl) T.z_len b_len (pa_cons (pe_lc (own := [("one", 1)]) (g := gName 1) (tt := tTest (tOp (rEqD K) (tVar 1) (tTup (tCons (tC (.str "zero")) tNil)))) (te := tVar 1) rfl sc52.nd
        (pi_list (pe_c G hr (Nat.le_refl _) (by rfl) (pa_cons (pv 0) pa_nil))) (blkOk_by (N := ["term", "one"]) (sc := defScope (topS 52)) (by decide +kernel))
        (fun _ _ _ _ _ => pg_name (i := 1) sc52.nd rfl (Or.inl rfl)) (fun _ _ _ _ _ => pts_one (by exact pt_cmpR (op_eqD hr.units) (pv 1) (pe_tup (pa_cons pe_str pa_nil)) (nomark _)))
        (fun _ _ _ _ _ => pv 1)) pa_nil))), ?_⟩
  refine ⟨_, rfl, v, t, rfl, ht, hd, hsz, fun r us H2 hr2 hus e2 => ⟨r, rfl, ⟨_, SqL.of hr2⟩, fun D hD => ?_⟩⟩
  have hul := TmsAt.len hus
  have hll := leaves_le t
  refine lc_list (K := K) (a := r) (xs := us) (fun i H3 => Same H2 H3 ∧ ∃ ys, H3 D = some (.lst ys) ∧ ys.length = ((t.leaves.take i).filter Tm.isZero).length) ⟨same_new hD _, [], upd_same, rfl⟩ (fun i H3 _ ⟨e, _⟩ => e.seq (SqL.of hr2)) ?_ ?_
  · rintro i x H3 hi ⟨e3, ys, hD3, hy⟩
    obtain ⟨l, hl, hx⟩ := TmsAt.get hus hi
    have hlf := leaf_of (List.mem_of_getElem? hl)
    refine ⟨rfl, _, rfl, (by show 1 ≤ sizeLine; decide), fun z hz => ?_⟩
    have ez := same_new hz (.tup [.str "zero"])
    have hx3 := hx.same (e3.trans ez)
    refine ⟨_, tmD .zero, hx3.dp T, .tup (SqT.of upd_same) (.cons (.str _) .nil), tmD_shaped (leaf_depth hlf), tmD_shaped (t := .zero) (by decide), _, rfl, ?_⟩
    rw [leaf_eqZ hlf, take_more hl, List.filter_append]
    have hil : i < us.length := (List.getElem?_eq_some_iff.mp hi).1
    cases e : l.isZero with
    | false =>
      refine iteF ⟨e3.trans ez, ys, ez _ _ hD3, ?_⟩
      rw [hy]; simp [e]
    | true =>
      refine iteT ?_
      refine ⟨_, rfl, ys, ez _ _ hD3, small1000 ?_, fun b o h => ?_, ys ++ [x], upd_same, ?_⟩
      · have h1 := List.length_filter_le Tm.isZero (t.leaves.take i)
        rw [List.length_take] at h1
        omega
      · rw [upd_ne (ne_of_none h hD)]; exact ez _ _ (e3 b o h)
      · rw [List.length_append, hy]; simp [e]
  · rintro H3 ⟨e3, ys, hD3, hy⟩
    rw [hul, List.take_length, Tm.leaves_zeros] at hy
    refine ⟨D, ys, rfl, .inl (SqL.of hD3), ?_⟩
    rw [hy]
    exact q H3 (e2.trans e3)
end
end VW

set_option Elab.async false
set_option linter.all false
set_option maxRecDepth 100000
set_option maxHeartbeats 4000000
namespace VW
open PySem PySem.Spec PyProof.Rows L2
open C8 (Cal pe_c)
open He (ga ma)
def rules3 : List V := [.str "regroup", .str "swap", .str "zero"]
/-- the numbers of the items, sorted, in a new list -/
def spForm (K : PySem.W.Frag) : Sp := fun vs H Q _ => ∃ (v : V) (r : Addr) (t : Tm), vs = [v, .ref r] ∧ TmAt (ga K "ZERO") H v t ∧ t.size ≤ 500 ∧ t.items.length < 64 ∧ H r = some (.tup rules3) ∧
  ∀ (p : Addr) (ks : List Int) (H' : Hp), H' p = some (.lst (vI ks)) → ks.Perm (t.items.map fun i : Nat => (i : Int)) → ks.Pairwise (· ≤ ·) → Same H H' → Q (.ref p) H'
section
variable {P : Program} {w : World} {K : PySem.W.Frag} {mg : Str → Option Value} {base : Heap}
abbrev n31 : List Str := ["term", "rules", "numbers", "leaf", "number"]
theorem sc31 : FnScope n31 ["term", "rules"] (defScope (topS 31)) := ⟨rfl, rfl, rfl, by decide +kernel, rfl, by decide +kernel, by decide +kernel⟩
theorem vI_append (a b : List Int) : vI (a ++ b) = vI a ++ vI b := List.map_append
theorem vI_len (a : List Int) : (vI a).length = a.length := List.length_map _
theorem vI_get {a : List Int} {i : Nat} {y : V} (h : (vI a)[i]? = some y) : ∃ z : Int, a[i]? = some z ∧ y = .int z := by
  unfold vI at h
  rw [List.getElem?_map] at h
  obtain ⟨z, h1, h2⟩ := Option.map_eq_some_iff.mp h
  exact ⟨z, h1, h2.symm⟩
theorem ok_form (T : Tx K mg) : Cal P w K mg base 2 "normal_form" (spForm K) [] := by
  have GL := ok_leaf_row (P := P) (w := w) (base := base) T
  refine mk_cal T.f_normal_form T.g_normal_form sc31 (fun _ _ _ _ _ _ us hl => match us, hl with | [_, _], _ => rfl) (fun vs H Q E h => ?_) (fun cdv A outer s H vs Q E hr h => ?_)
  · obtain ⟨v, r, t, rfl, _⟩ := h
    rfl
  obtain ⟨v, r, t, rfl, ht, hsz, hn, hr3, q⟩ := h
  refine ⟨_, pss_cons (ps_if (pt_cmpR op_notIn_seq pe_str (pv 1) (by rfl)) (pss_one ps_never) pss_nil)
    (pss_cons (ps_setLc (i := 2) (own := [("leaf", 3)]) (g := gName 3) (tt := tYes) (te := tIf (tTest (tOp (rEqD K) (tVar 3) (tC (.ref (ga K "ZERO"))))) (tUn (rU fun i => .int (-i)) (tC (.int 1))) (tCB (fun xs H Q => (∃ i, xs = [.int i] ∧ Q (.int i) H) ∨ ∃ k, xs = [.bl k] ∧ Q (.int (if k then 1 else 0)) H) (tCons (tOp (rIxT K) (tVar 3) (tC (.int 1))) tNil)))
        rfl sc31.nd rfl rfl (sw_true rfl rfl rfl (by decide +kernel)) (pi_list (pe_c GL hr (Nat.le_refl _) (by rfl) (pa_cons (pv 0) pa_nil))) (blkOk_by (N := n31) (sc := defScope (topS 31)) (by decide +kernel))
        (fun _ _ _ _ _ => pg_name (i := 3) sc31.nd rfl (Or.inl rfl)) (fun _ _ _ _ _ => pts_nil)
        (fun _ _ _ _ _ => by exact pe_ifExp (pt_cmpR (op_eqD hr.units) (pv 3) (pe_glob (v := .ref (ga K "ZERO")) (by rfl) T.g_ZERO rfl) (nomark _)) (pe_un un_neg pe_int) (pe_callTy call_int1 (by rfl) T.z_int b_int (pa_cons (pe_ix ix_tup (pv 3) pe_int (fun _ _ => rfl)) pa_nil))))
    (pss_cons (ps_if (pt_cmpR op_in_seq pe_str (pv 1) (by rfl)) (pss_one (ps_setLc (i := 2) (own := [("number", 4)]) (g := gName 4) (tt := tTest (tOp (rI0 fun i j => .bl (decide (j ≤ i))) (tVar 4) (tC (.int 0)))) (te := tVar 4) rfl sc31.nd rfl rfl (sw_true rfl rfl rfl (by decide +kernel)) (pi_list (pv 2)) (blkOk_by (N := n31) (sc := defScope (topS 31)) (by decide +kernel))
        (fun _ _ _ _ _ => pg_name (i := 4) sc31.nd rfl (Or.inl rfl)) (fun _ _ _ _ _ => pts_one (by exact pt_cmpR op_ge (pv 4) pe_int (nomark _))) (fun _ _ _ _ _ => pv 4))) pss_nil)
    (pss_one (ps_ret (pe_ifExp (pt_cmpR op_in_seq pe_str (pv 1) (by rfl)) (pe_callB cr_sorted (by rfl) T.z_sorted b_sorted (pa_cons (pe_lc (own := [("number", 4)]) (g := gName 4) (tt := tYes) rfl sc31.nd (pi_list (pv 2)) (blkOk_by (N := n31) (sc := defScope (topS 31)) (by decide +kernel))
        (fun _ _ _ _ _ => pg_name (i := 4) sc31.nd rfl (Or.inl rfl)) (fun _ _ _ _ _ => pts_nil) (fun _ _ _ _ _ => pe_callTy call_int1 (by rfl) T.z_int b_int (pa_cons (pv 4) pa_nil))) pa_nil)) (pv 2)))))), ?_⟩
  refine ⟨_, rfl, r, _, rfl, .inr (SqT.of hr3), rfl, (by decide +kernel), _, rfl, if_f (by decide +kernel) ?_⟩
  -- numbers = [-1 if leaf == ZERO else int(leaf[1]) for leaf in leaf_row(term)]
  refine ⟨_, rfl, v, t, rfl, ht, hsz, fun l us H1 hl1 hus e1 => ⟨l, rfl, ⟨_, SqL.of hl1⟩, fun D hD => ?_⟩⟩
  have hul := TmsAt.len hus
  have hll := leaves_le t
  refine lc_list (K := K) (a := l) (xs := us) (fun i H3 => Same H1 H3 ∧ H3 D = some (.lst (vI ((t.leaves.take i).map Tm.num)))) ⟨same_new hD _, upd_same⟩ (fun i H3 _ ⟨e, _⟩ => e.seq (SqL.of hl1)) ?_ ?_
  · rintro i x H3 hi ⟨e3, hD3⟩
    obtain ⟨lf, hl, hx⟩ := TmsAt.get hus hi
    have hx3 := hx.same e3
    have hlf := leaf_of (List.mem_of_getElem? hl)
    have hil : i < us.length := (List.getElem?_eq_some_iff.mp hi).1
    have done : ∀ z : Int, z = lf.num → ∃ acc, H3 D = some (.lst acc) ∧ acc.length < sizeLine ∧ (Same H1 (upd H3 D (.lst (acc ++ [.int z]))) ∧ (upd H3 D (.lst (acc ++ [.int z]))) D = some (.lst (vI ((t.leaves.take (i + 1)).map Tm.num)))) := fun z hz => by
      refine ⟨_, hD3, small1000 ?_, fun b o h => ?_, ?_⟩
      · rw [vI_len, List.length_map, List.length_take]; omega
      · rw [upd_ne (ne_of_none h hD)]; exact e3 b o h
      · rw [upd_same, take_more hl, List.map_append, vI_append, hz]; rfl
    refine ⟨rfl, _, rfl, _, _, hx3.dp T, (TmAt.zero : TmAt (ga K "ZERO") H3 _ _).dp T, tmD_shaped (leaf_depth hlf), tmD_shaped (t := .zero) (by decide), _, rfl, ?_⟩
    rw [leaf_eqZ hlf]
    rcases hx3.lf T hlf with ⟨rfl, rfl, hz⟩ | ⟨k, a, rfl, rfl, ha⟩
    · refine iteT ⟨1, rfl, ?_⟩
      exact done (-1) rfl
    · refine iteF ⟨_, rfl, a, _, 1, _, rfl, rfl, SqT.of ha, rfl, .inl ⟨_, rfl, ?_⟩⟩
      exact done (k : Int) rfl
  · rintro H3 ⟨e3, hD3⟩
    rw [hul, List.take_length] at hD3
    have e13 := e1.trans e3
    -- numbers = [number for number in numbers if number >= 0]
    refine ⟨_, rfl, r, _, rfl, .inr (SqT.of (e13 _ _ hr3)), rfl, (by decide +kernel), _, rfl, if_t (by decide +kernel) ?_⟩
    refine ⟨_, rfl, D, rfl, ⟨_, SqL.of hD3⟩, fun D2 hD2 => ?_⟩
    refine lc_list (K := K) (a := D) (xs := vI (t.leaves.map Tm.num)) (fun i H4 => Same H3 H4 ∧ H4 D2 = some (.lst (vI (((t.leaves.map Tm.num).take i).filter fun n => decide (0 ≤ n))))) ⟨same_new hD2 _, upd_same⟩ (fun i H4 _ ⟨e, _⟩ => e.seq (SqL.of hD3)) ?_ ?_
    · rintro i x H4 hi ⟨e4, hD4⟩
      obtain ⟨z, hz, rfl⟩ := vI_get hi
      refine ⟨rfl, _, rfl, z, 0, rfl, rfl, _, rfl, ?_⟩
      rw [take_more hz, List.filter_append]
      have hil : i < (t.leaves.map Tm.num).length := (List.getElem?_eq_some_iff.mp hz).1
      rw [List.length_map] at hil
      refine ite2 (fun c => ?_) (fun c => ?_)
      · refine ⟨_, rfl, _, hD4, small1000 ?_, fun b o h => ?_, ?_⟩
        · rw [vI_len]
          have h1 := List.length_filter_le (fun n : Int => decide (0 ≤ n)) ((t.leaves.map Tm.num).take i)
          rw [List.length_take] at h1
          omega
        · rw [upd_ne (ne_of_none h hD2)]; exact e4 b o h
        · rw [upd_same, vI_append]
          have c' : decide (0 ≤ z) = true := c
          simp [c', vI]
      · refine ⟨e4, ?_⟩
        have c' : decide (0 ≤ z) = false := Bool.eq_false_iff.mpr c
        rw [hD4]
        simp [c']
    · rintro H4 ⟨e4, hD4⟩
      rw [vI_len, List.take_length, Tm.leaves_num] at hD4
      have e14 := e13.trans e4
      -- sorted([int(number) for number in numbers])
      refine ⟨_, rfl, r, _, rfl, .inr (SqT.of (e14 _ _ hr3)), rfl, (by decide +kernel), _, rfl, if_t (by decide +kernel) ?_⟩
      refine ⟨_, rfl, D2, rfl, ⟨_, SqL.of hD4⟩, fun D3 hD3' => ?_⟩
      refine lc_list (K := K) (a := D2) (xs := vI (t.items.map fun i : Nat => (i : Int))) (fun i H5 => Same H4 H5 ∧ H5 D3 = some (.lst (vI ((t.items.map fun i : Nat => (i : Int)).take i)))) ⟨same_new hD3' _, upd_same⟩ (fun i H5 _ ⟨e, _⟩ => e.seq (SqL.of hD4)) ?_ ?_
      · rintro i x H5 hi ⟨e5, hD5⟩
        obtain ⟨z, hz, rfl⟩ := vI_get hi
        have hil : i < (t.items.map fun i : Nat => (i : Int)).length := (List.getElem?_eq_some_iff.mp hz).1
        rw [List.length_map] at hil
        refine ⟨rfl, _, rfl, .inl ⟨z, rfl, _, hD5, small1000 ?_, fun b o h => ?_, ?_⟩⟩
        · rw [vI_len, List.length_take]; omega
        · rw [upd_ne (ne_of_none h hD3')]; exact e5 b o h
        · rw [upd_same, take_more hz, vI_append]; rfl
      · rintro H5 ⟨e5, hD5⟩
        rw [vI_len, List.take_length] at hD5
        refine ⟨D3, t.items.map (fun i : Nat => (i : Int)), rfl, SqL.of hD5, by rw [List.length_map]; exact hn, fun ks p hp hs hnew => ?_⟩
        exact q p ks _ upd_same hp hs ((e14.trans e5).trans (same_new hnew _))
/-! ### the sets of rules -/
def spSet : Sp := fun vs H Q _ => ∃ r : Addr, vs = [.ref r] ∧ H r = some (.tup rules3) ∧ ∀ H', Same H H' → Q (.bl true) H'
theorem sc21 : FnScope ["value", "word"] ["value"] (defScope (topS 21)) := ⟨rfl, rfl, rfl, by decide +kernel, rfl, by decide +kernel, by decide +kernel⟩
def setD (zs : List Str) : PyData := .tuple (zs.map .str)
theorem dp_strs {H : Hp} : ∀ zs : List Str, DpAll K H (zs.map V.str) (zs.map PyData.str)
  | [] => .nil
  | z :: r => .cons (.str z) (dp_strs r)
theorem dp_sets {H : Hp} : ∀ {as : List Addr} {zss : List (List Str)}, Paired (fun a zs => ∀ H, SqT K H a (zs.map V.str)) as zss → DpAll K H (as.map V.ref) (zss.map setD)
  | _, _, .nil => .nil
  | _, _, .cons h t => .cons (.tup (h H) (dp_strs _)) (dp_sets t)
theorem ok_set (T : Tx K mg) : Cal P w K mg base 1 "is_set_of_rules" spSet [] := by
  obtain ⟨as, hA, hP⟩ := T.sets
  refine mk_cal T.f_is_set_of_rules T.g_is_set_of_rules sc21 (fun _ _ _ _ _ _ us hl => match us, hl with | [_], _ => rfl) (fun vs H Q E h => ?_) (fun cdv A outer s H vs Q E hr h => ?_)
  · obtain ⟨r, rfl, _⟩ := h
    rfl
  obtain ⟨r, rfl, h3, q⟩ := h
  have hu : (A.deeper (envOfC "is_set_of_rules" (defScope (topS 21)) s.heap.objs.size (ga K "is_set_of_rules") cdv)).units + 65 < cLine := by have := hr.un; omega
  refine ⟨_, pss_cons (ps_if (PW.pt (pw_or (pt_not (pt_val (pe_callB call_isi (by rfl) T.z_isinstance b_isinstance (pa_cons (pv 0) (pa_cons (pe_bltn (v := .ty "tuple") (by rfl) T.z_tuple b_tuple rfl) pa_nil)))))
      (pw_or1 (pt_not (pt_val (pe_callB (cr_all rfl) (by rfl) T.z_all b_all (pa_cons (pe_lc (own := [("word", 1)]) (g := gName 1) (tt := tYes) (te := tCB (rIsi K) (tCons (tVar 1) (tCons (tC (.ty "str")) tNil))) rfl sc21.nd (pi_tup (pv 0)) (blkOk_by (N := ["value", "word"]) (sc := defScope (topS 21)) (by decide +kernel))
        (fun _ _ _ _ _ => pg_name (i := 1) sc21.nd rfl (Or.inl rfl)) (fun _ _ _ _ _ => pts_nil) (fun _ _ _ _ _ => by exact pe_callB call_isi (by rfl) T.z_isinstance b_isinstance (pa_cons (pv 1) (pa_cons (pe_bltn (v := .ty "str") (by rfl) T.z_str b_str rfl) pa_nil)))) pa_nil)))))))
      (pss_one (ps_ret pe_bl)) pss_nil)
    (pss_one (ps_ret (pe_cmpR (op_inT hu) (pv 0) (pe_glob (v := .ref (ga K "ALL_SETS")) (by rfl) T.g_ALL_SETS rfl) (by rfl)))), ?_⟩
  refine ⟨_, rfl, _, _, _, _, true, rfl, .ty "tuple", .base (.tup h3), kit_ty (by decide +kernel), true, rfl, iteF ?_⟩
  refine ⟨_, rfl, r, rfl, ⟨_, SqT.of h3⟩, fun D hD => ?_⟩
  refine lc_tup (K := K) (a := r) (xs := rules3) (fun i H1 => Same H H1 ∧ H1 D = some (.lst ((List.replicate i true).map V.bl))) ⟨same_new hD _, upd_same⟩ (fun i H1 _ ⟨e, _⟩ => Same.seqT e (SqT.of h3)) ?_ ?_
  · rintro i x H1 hi ⟨e, hD1⟩
    have hil : i < 3 := (List.getElem?_eq_some_iff.mp hi).1
    obtain ⟨z, rfl⟩ : ∃ z : Str, x = .str z := by
      match i, hi with
      | 0, hi => exact ⟨_, (Option.some.inj hi).symm⟩
      | 1, hi => exact ⟨_, (Option.some.inj hi).symm⟩
      | 2, hi => exact ⟨_, (Option.some.inj hi).symm⟩
      | n + 3, hi => cases hi
    refine ⟨rfl, _, rfl, _, _, _, _, true, rfl, .ty "str", .base (.str z), kit_ty (by decide +kernel), _, hD1, small1000 (by rw [List.length_map, List.length_replicate]; omega), fun b o h => ?_, ?_⟩
    · rw [upd_ne (ne_of_none h hD)]; exact e b o h
    · rw [upd_same, List.replicate_succ', List.map_append]; rfl
  · rintro H1 ⟨e, hD1⟩
    refine ⟨D, _, rfl, SqL.of hD1, true, congrArg V.bl (bls_all _), iteF ?_⟩
    refine ⟨_, rfl, setD ["regroup", "swap", "zero"], allSets.map setD, .tup (SqT.of (e _ _ h3)) (dp_strs ["regroup", "swap", "zero"]), .tup (hA H1) (dp_sets hP), by decide +kernel, by decide +kernel, ?_⟩
    have ev : ((allSets.map setD).any fun z => PyData.eqv z (setD ["regroup", "swap", "zero"])) = true := by decide +kernel
    rw [ev]
    exact q H1 e
/-! ### are_equal -/
def spEqual (K : PySem.W.Frag) : Sp := fun vs H Q _ => ∃ (v1 v2 : V) (r : Addr) (t1 t2 : Tm) (n : Nat), vs = [v1, v2, .ref r] ∧ TmAt (ga K "ZERO") H v1 t1 ∧ TmAt (ga K "ZERO") H v2 t2 ∧ t1.size ≤ 500 ∧ t2.size ≤ 500 ∧ t1.items.Perm (List.range n) ∧ t2.items.Perm (List.range n) ∧ n < 64 ∧ H r = some (.tup rules3) ∧ ∀ H', Same H H' → Q (.bl true) H'
theorem sc32 : FnScope ["one", "other", "rules"] ["one", "other", "rules"] (defScope (topS 32)) := ⟨rfl, rfl, rfl, by decide +kernel, rfl, by decide +kernel, by decide +kernel⟩
def intsD (l : List Int) : List PyData := l.map .int
theorem dp_ints {H : Hp} : ∀ l : List Int, DpAll K H (vI l) (intsD l)
  | [] => .nil
  | z :: r => .cons (.int z) (dp_ints r)
theorem ints_lay : ∀ l : List Int, PyData.canLayAll0 (intsD l) = true
  | [] => by simp [intsD, PyData.canLayAll0]
  | z :: r => by
    have h := ints_lay r
    simp only [intsD, List.map_cons, PyData.canLayAll0, PyData.canLay0, Bool.true_and]
    exact h
theorem ints_depth : ∀ l : List Int, PyData.depthAll (intsD l) = 0
  | [] => by simp [intsD, PyData.depthAll]
  | z :: r => by
    have h := ints_depth r
    simp only [intsD, List.map_cons, PyData.depthAll, PyData.depth] at h ⊢
    rw [h]
    rfl
theorem ints_shaped (l : List Int) : SeqAt.shaped (.list (intsD l)) = true := by
  unfold SeqAt.shaped
  rw [show PyData.canLay0 (.list (intsD l)) = true by simp only [PyData.canLay0]; exact ints_lay l, show PyData.depth (.list (intsD l)) = 1 by simp only [PyData.depth]; rw [ints_depth]]
  rfl
theorem ints_refl (l : List Int) : PyData.eqv (.list (intsD l)) (.list (intsD l)) = true := SeqAt.eqv_refl _ (by simp only [PyData.canLay0]; exact ints_lay l)
theorem ok_equal (T : Tx K mg) : Cal P w K mg base 6 "are_equal" (spEqual K) [] := by
  have GC := ok_checked (P := P) (w := w) (base := base) T
  have GS := ok_set (P := P) (w := w) (base := base) T
  have GF := ok_form (P := P) (w := w) (base := base) T
  refine mk_cal T.f_are_equal T.g_are_equal sc32 (fun _ _ _ _ _ _ us hl => match us, hl with | [_, _, _], _ => rfl) (fun vs H Q E h => ?_) (fun cdv A outer s H vs Q E hr h => ?_)
  · obtain ⟨v1, v2, r, t1, t2, n, rfl, _⟩ := h
    rfl
  obtain ⟨v1, v2, r, t1, t2, n, rfl, h1, h2, s1, s2, p1, p2, hn, h3, q⟩ := h
  refine ⟨_, pss_cons (ps_expr (pe_c GC hr (Nat.le_refl _) (by rfl) (pa_cons (pv 0) pa_nil)))
    (pss_cons (ps_expr (pe_c GC hr (Nat.le_refl _) (by rfl) (pa_cons (pv 1) pa_nil)))
    (pss_cons (ps_if (pt_not (pt_val (pe_c GS hr (by decide) (by rfl) (pa_cons (pv 2) pa_nil)))) (pss_one ps_never) pss_nil)
    (pss_one (ps_ret (pe_cmpR (op_eqD hr.units) (pe_c GF hr (by decide) (by rfl) (pa_cons (pv 0) (pa_cons (pv 2) pa_nil))) (pe_c GF hr (by decide) (by rfl) (pa_cons (pv 1) (pa_cons (pv 2) pa_nil))) (nomark _)))))), ?_⟩
  have l1 := p1.length_eq
  have l2 := p2.length_eq
  rw [List.length_range] at l1 l2
  refine ⟨_, rfl, v1, t1, rfl, h1, s1, fun H1 e1 => ?_⟩
  refine ⟨_, rfl, v2, t2, rfl, h2.same e1, s2, fun H2 e2 => ?_⟩
  have e12 := e1.trans e2
  refine ⟨_, rfl, r, rfl, e12 _ _ h3, fun H3 e3 => ⟨true, rfl, iteF ?_⟩⟩
  have e13 := e12.trans e3
  refine ⟨_, rfl, _, rfl, v1, r, t1, rfl, h1.same e13, s1, by omega, e13 _ _ h3, fun a ks H4 ha pa sa e4 => ?_⟩
  have e14 := e13.trans e4
  refine ⟨_, rfl, _, rfl, v2, r, t2, rfl, h2.same e14, s2, by omega, e14 _ _ h3, fun b ls H5 hb pb sb e5 => ?_⟩
  have ka := sorted_range p1 pa sa
  have kb := sorted_range p2 pb sb
  subst ka
  subst kb
  refine ⟨_, _, .lst (SqL.of (e5 _ _ ha)) (dp_ints _), .lst (SqL.of hb) (dp_ints _), ints_shaped _, ints_shaped _, ?_⟩
  rw [ints_refl]
  exact q H5 (e14.trans e5)
end
end VW

set_option Elab.async false
set_option linter.all false
set_option maxRecDepth 100000
set_option maxHeartbeats 4000000
namespace VW
open PySem PySem.Spec PyProof.Rows L2
open C8 (Cal pe_c)
open He (ga ma)
def tS (mask : Bool) : Str := if mask then "mask" else "rest"
theorem tS_rest (mask : Bool) : decide (V.str (tS mask) = V.str "rest") = !mask := by cases mask <;> decide +kernel
theorem tS_mask (mask : Bool) : decide (V.str (tS mask) = V.str "mask") = mask := by cases mask <;> decide +kernel
theorem jS_row (j : Join) : decide (V.str (jS j) = V.str "row") = decide (j = .row) := by cases j <;> decide +kernel
theorem jS_parts (j : Join) : decide (V.str (jS j) = V.str "parts") = decide (j = .parts) := by cases j <;> decide +kernel
theorem small64 {w : Nat} (h : w ≤ 1000) : -(2 ^ 64) < (w : Int) ∧ (w : Int) < 2 ^ 64 := by
  have e : (2 : Int) ^ 64 = 18446744073709551616 := by decide
  rw [e]
  omega
theorem small62 {i : Int} (h0 : 0 ≤ i) (h : i ≤ 100000) : -(2 ^ 62) ≤ i ∧ i < 2 ^ 62 := by
  have e : (2 : Int) ^ 62 = 4611686018427387904 := by decide
  rw [e]
  omega
def spNumber (C : Addr) : Sp := fun vs H Q _ => ∃ (x : Addr) (mask : Bool) (j : Join) (wd n : Nat), vs = [.ref x, .int (wd : Int), .int (n : Int)] ∧ WayO C H x (tS mask) j ∧ 1 ≤ wd ∧ wd ≤ 60 ∧ Q (.int (many mask wd n : Int)) H
def spLanes (C : Addr) : Sp := fun vs H Q _ => ∃ (x : Addr) (mask : Bool) (j : Join) (wd n b : Nat), vs = [.ref x, .int (wd : Int), .int (n : Int), .int (b : Int)] ∧ WayO C H x (tS mask) j ∧ wd ≤ 60 ∧ n ≤ 60 ∧ b ≤ 60 ∧
  ∀ (p : Addr) (H' : Hp), H' p = some (.tup (vN (lanes mask wd n b))) → Same H H' → Q (.ref p) H'
theorem rgV_lanes (wd b : Nat) : rgV ((b : Int) * wd) ((b : Int) * wd + wd) = vN ((List.range wd).map fun j => b * wd + j) := by
  unfold rgV vN
  have e : ((b : Int) * wd + wd - (b : Int) * wd).toNat = wd := by
    rw [show (b : Int) * wd + wd - (b : Int) * wd = (wd : Int) by omega]
    exact Int.toNat_natCast wd
  rw [e, List.map_map]
  congr 1
theorem vN_get {a : List Nat} {i : Nat} {y : V} (h : (vN a)[i]? = some y) : ∃ z : Nat, a[i]? = some z ∧ y = .int (z : Int) := by
  unfold vN at h
  rw [List.getElem?_map] at h
  obtain ⟨z, h1, h2⟩ := Option.map_eq_some_iff.mp h
  exact ⟨z, h1, h2.symm⟩
theorem lanes_len (mask : Bool) (wd n b : Nat) : (lanes mask wd n b).length ≤ wd := by
  unfold lanes
  split
  · have h := List.length_filter_le (fun x => decide (x < n)) ((List.range wd).map fun j => b * wd + j)
    rw [List.length_map, List.length_range] at h
    exact h
  · rw [List.length_map, List.length_range]; exact Nat.le_refl _
section
variable {P : Program} {w : World} {K : PySem.W.Frag} {mg : Str → Option Value} {base : Heap}
theorem sc13 : FnScope ["way", "width", "count"] ["way", "width", "count"] (defScope (topS 13)) := ⟨rfl, rfl, rfl, by decide +kernel, rfl, by decide +kernel, by decide +kernel⟩
theorem ok_number (T : Tx K mg) : Cal P w K mg base 3 "block_number" (spNumber (ga K "Way")) [] := by
  refine mk_cal T.f_block_number T.g_block_number sc13 (fun _ _ _ _ _ _ us hl => match us, hl with | [_, _, _], _ => rfl) (fun vs H Q E h => ?_) (fun cdv A outer s H vs Q E hr h => ?_)
  · obtain ⟨x, mask, j, wd, n, rfl, _⟩ := h
    rfl
  obtain ⟨x, mask, j, wd, n, rfl, W, h1, h2, q⟩ := h
  refine ⟨_, pss_cons (ps_if (pt_cmpR op_eq (pe_tail T hr (Nat.le_refl _) (pv 0)) pe_str (nomark _)) (pss_one (ps_ret (pe_op op_fdiv (pv 2) (pv 1)))) pss_nil)
    (pss_one (ps_ret (pe_op op_fdiv (pe_op op_sub (pe_op op_add (pv 2) (pv 1)) pe_int) (pv 1)))), ?_⟩
  obtain ⟨dx, d, kvs, hx, _⟩ := id W
  have hc : CDiv 0 (wd : Int) := ⟨by omega, by omega⟩
  refine ⟨_, rfl, x, dx, _, rfl, hx, x, tS mask, j, rfl, W, rfl, _, rfl, ?_⟩
  rw [tS_rest]
  cases mask with
  | false => exact iteT ⟨_, rfl, _, rfl, _, _, rfl, rfl, hc, q⟩
  | true =>
    refine iteF ⟨_, rfl, _, rfl, _, _, rfl, rfl, _, _, rfl, rfl, _, rfl, _, _, rfl, rfl, hc, ?_⟩
    have e : ((n : Int) + (wd : Int) - 1) / (wd : Int) = ((many true wd n : Nat) : Int) := by
      rw [show (n : Int) + (wd : Int) - 1 = ((n + wd - 1 : Nat) : Int) by omega]
      rfl
    show Q (.int (((n : Int) + (wd : Int) - 1) / (wd : Int))) H
    rw [e]
    exact q
abbrev n14 : List Str := ["way", "width", "count", "block", "found", "at"]
theorem sc14 : FnScope n14 ["way", "width", "count", "block"] (defScope (topS 14)) := ⟨rfl, rfl, rfl, by decide +kernel, rfl, by decide +kernel, by decide +kernel⟩
theorem ok_lanes (T : Tx K mg) : Cal P w K mg base 3 "block_lanes" (spLanes (ga K "Way")) [] := by
  refine mk_cal T.f_block_lanes T.g_block_lanes sc14 (fun _ _ _ _ _ _ us hl => match us, hl with | [_, _, _, _], _ => rfl) (fun vs H Q E h => ?_) (fun cdv A outer s H vs Q E hr h => ?_)
  · obtain ⟨x, mask, j, wd, n, b, rfl, _⟩ := h
    rfl
  obtain ⟨x, mask, j, wd, n, b, rfl, W, h1, h2, h3, q⟩ := h
  refine ⟨_, pss_cons (ps_set (i := 4) sc14.nd rfl (Or.inl rfl) (pe_listRg rfl (by rfl) T.z_list (prg_2 (by rfl) T.z_range (pe_op op_mul (pv 3) (pv 1)) (pe_op op_add (pe_op op_mul (pv 3) (pv 1)) (pv 1)))))
    (pss_cons (ps_if (pt_cmpR op_eq (pe_tail T hr (Nat.le_refl _) (pv 0)) pe_str (nomark _))
      (pss_one (ps_ret (pe_callTy call_tuple_of (by rfl) T.z_tuple b_tuple (pa_cons (pe_lc (own := [("at", 5)]) (g := gName 5) (tt := tTest (tOp (rI0 fun i j => .bl (decide (i < j))) (tVar 5) (tVar 2))) (te := tVar 5) rfl sc14.nd (pi_list (pv 4)) (blkOk_by (N := n14) (sc := defScope (topS 14)) (by decide +kernel))
        (fun _ _ _ _ _ => pg_name (i := 5) sc14.nd rfl (Or.inl rfl)) (fun _ _ _ _ _ => pts_one (pt_cmpR op_lt (pv 5) (pv 2) (nomark _))) (fun _ _ _ _ _ => pv 5)) pa_nil)))) pss_nil)
    (pss_one (ps_ret (pe_callTy call_tuple_of (by rfl) T.z_tuple b_tuple (pa_cons (pv 4) pa_nil))))), ?_⟩
  have hb : b * wd ≤ 3600 := Nat.mul_le_mul h3 h1
  have hc : CMul (b : Int) (wd : Int) := .inr (small64 (by omega))
  have eb : (b : Int) * (wd : Int) = ((b * wd : Nat) : Int) := (Int.natCast_mul b wd).symm
  refine ⟨_, rfl, _, rfl, _, _, rfl, rfl, hc, _, rfl, _, rfl, _, _, rfl, rfl, hc, _, rfl, _, _, rfl, rfl, _, _, rfl, rfl, ?_, fun f hf => ?_⟩
  · exact RgOk.of_le (by rw [eb]; omega) (by rw [eb]; omega) (by rw [eb]; omega) (by rw [eb]; omega)
  rw [rgV_lanes]
  have sf := same_new hf (.lst (vN ((List.range wd).map fun j => b * wd + j)))
  have W1 : WayO (ga K "Way") (upd H f (.lst (vN ((List.range wd).map fun j => b * wd + j)))) x (tS mask) j := W.same fun b o h _ => sf b o h
  obtain ⟨dx, d, kvs, hx, _⟩ := id W1
  refine ⟨_, rfl, x, dx, _, rfl, hx, x, tS mask, j, rfl, W1, rfl, _, rfl, ?_⟩
  rw [tS_mask]
  cases mask with
  | false => exact iteF ⟨_, rfl, f, _, rfl, .inl ⟨SqL.of upd_same, fun p hp => q p _ upd_same (sf.trans (same_new hp _))⟩⟩
  | true =>
    refine iteT ⟨_, rfl, f, rfl, ⟨_, SqL.of upd_same⟩, fun D hD => ?_⟩
    refine lc_list (K := K) (a := f) (xs := vN ((List.range wd).map fun j => b * wd + j)) (fun i H3 => Same (upd H f (.lst (vN ((List.range wd).map fun j => b * wd + j)))) H3 ∧ H3 D = some (.lst (vN ((((List.range wd).map fun j => b * wd + j).take i).filter fun x => decide (x < n))))) ⟨same_new hD _, upd_same⟩ (fun i H3 _ ⟨e, _⟩ => e.seq (SqL.of upd_same)) ?_ ?_
    · rintro i y H3 hi ⟨e3, hD3⟩
      obtain ⟨z, hz, rfl⟩ := vN_get hi
      have hil : i < ((List.range wd).map fun j => b * wd + j).length := (List.getElem?_eq_some_iff.mp hz).1
      rw [List.length_map, List.length_range] at hil
      refine ⟨rfl, _, rfl, _, rfl, _, _, rfl, rfl, _, rfl, ?_⟩
      rw [take_more hz, List.filter_append]
      have ed : decide ((z : Int) < (n : Int)) = decide (z < n) := by
        by_cases c : z < n
        · rw [decide_eq_true c, decide_eq_true (by omega)]
        · rw [decide_eq_false c, decide_eq_false (by omega)]
      refine ite2 (fun c => ?_) (fun c => ?_)
      · have c' : decide (z < n) = true := ed.symm.trans c
        refine ⟨_, rfl, _, hD3, small1000 ?_, fun b o h => ?_, ?_⟩
        · rw [vN_len]
          have hq := List.length_filter_le (fun x => decide (x < n)) (((List.range wd).map fun j => b * wd + j).take i)
          rw [List.length_take] at hq
          omega
        · rw [upd_ne (ne_of_none h hD)]; exact e3 b o h
        · rw [upd_same, vN_append]
          simp [c', vN]
      · have c' : decide (z < n) = false := ed.symm.trans (Bool.eq_false_iff.mpr c)
        refine ⟨e3, ?_⟩
        rw [hD3]
        simp [c']
    · rintro H3 ⟨e3, hD3⟩
      rw [vN_len, List.take_length] at hD3
      refine ⟨D, _, rfl, .inl ⟨SqL.of hD3, fun p hp => q p _ ?_ ((sf.trans e3).trans (same_new hp _))⟩⟩
      rw [upd_same]
      rfl
end
end VW

set_option Elab.async false
set_option linter.all false
set_option maxRecDepth 100000
set_option maxHeartbeats 4000000
namespace VW
open PySem PySem.Spec PyProof.Rows L2
open C8 (Cal pe_c)
open He (ga ma)
open StX (pa_star tStar)
/-- a comprehension over a range with a step -/
theorem lc_rangeC {lo c : Int} {n : Nat} {g : TG} {tt : TT} {te : TE} {vs : List Nat} {σ : L2.St} {H1 : Hp} {D : Addr} {Qd : Hp → Prop} (Pv : Nat → Hp → Prop) (h0 : Pv 0 (upd H1 D (.lst [])))
    (hs : ∀ i H, i < n → Pv i H → g (.int (lo + (i : Nat) * c)) (wipe σ vs) H fun σ2 H2 => wipe σ2 vs = wipe σ vs ∧ tt σ2 H2 fun b H3 =>
      if b = true then te σ2 H3 fun y H4 => ∃ acc, H4 D = some (.lst acc) ∧ acc.length < sizeLine ∧ Pv (i + 1) (upd H4 D (.lst (acc ++ [y]))) else Pv (i + 1) H3) (hd : ∀ H, Pv n H → Qd H) :
    ∃ W : Nat → Nat → Hp → Prop, (∃ m, W 0 m (upd H1 D (.lst []))) ∧ ∀ i m H, W i m H →
      ((Itc lo c n).stop i H ∧ Qd H) ∨ ((Itc lo c n).go i H ∧ ∃ Nx : Hp → Prop, (∀ H', Nx H' → ∃ m', m' < m ∧ W (i + 1) m' H') ∧ ∀ x H', (Itc lo c n).yld i H x H' → g x (wipe σ vs) H' fun σ2 H2 => wipe σ2 vs = wipe σ vs ∧ tt σ2 H2 fun b H3 =>
        if b = true then te σ2 H3 fun y H4 => ∃ acc, H4 D = some (.lst acc) ∧ acc.length < sizeLine ∧ Nx (upd H4 D (.lst (acc ++ [y]))) else Nx H3) := by
  refine ⟨fun i m H => m = n - i ∧ i ≤ n ∧ Pv i H, ⟨n, by simp, Nat.zero_le _, h0⟩, ?_⟩
  rintro i m H ⟨rfl, hi, p⟩
  by_cases hlt : i < n
  · refine .inr ⟨hlt, Pv (i + 1), fun H' p' => ⟨n - (i + 1), by omega, rfl, hlt, p'⟩, fun x H' y => ?_⟩
    obtain ⟨e, y⟩ := y
    subst e y
    exact hs i _ hlt p
  · have e : i = n := by omega
    subst e
    exact .inl ⟨Nat.le_refl _, hd H p⟩
theorem fits {i : Int} (h0 : -10000 ≤ i) (h1 : i ≤ 10000) : Builtin.Range.rangeFitsLong i = true := by
  have e : (2 : Int) ^ 63 = 9223372036854775808 := by decide
  unfold Builtin.Range.rangeFitsLong
  rw [e, decide_eq_true (show -9223372036854775808 ≤ i by omega), decide_eq_true (show i < 9223372036854775808 by omega)]
  rfl
theorem rg_two (n : Nat) (h : n ≤ 1000) : RgC 0 (n : Int) 2 ((n + 1) / 2) := by
  have e : Builtin.Range.rangeSize 0 (n : Int) 2 = (((n + 1) / 2 : Nat) : Int) := by
    unfold Builtin.Range.rangeSize
    rw [if_pos (by decide)]
    split <;> omega
  refine ⟨by decide, by decide, ?_, e⟩
  unfold Builtin.Range.small
  rw [e, if_pos (by decide : (2 : Int) > 0), fits (i := 0) (by decide) (by decide), fits (i := (n : Int)) (by omega) (by omega), fits (i := 2) (by decide) (by decide), fits (i := (((n + 1) / 2 : Nat) : Int)) (by omega) (by omega), fits (i := (n : Int) + (2 - 1)) (by omega) (by omega), Bool.or_true]
  rfl
/-- the k-th pair's slice -/
def pairV (vs : List V) (k : Nat) : List V := cutV vs (some ((0 : Int) + (k : Nat) * 2)) (some ((0 : Int) + (k : Nat) * 2 + 2))
theorem pairV_eq (vs : List V) (k : Nat) : pairV vs k = (vs.drop (min (2 * k) vs.length)).take (min (2 * k + 2) vs.length - min (2 * k) vs.length) := by
  unfold pairV cutV
  rw [show ((0 : Int) + (k : Nat) * 2) = ((2 * k : Nat) : Int) by omega, show (((2 * k : Nat) : Int) + 2) = ((2 * k + 2 : Nat) : Int) by omega, HT.sIx_nat, HT.sIx_nat]
theorem pair_cases {Z : Addr} {H : Hp} {vs : List V} {qs : List Tm} (h : TmsAt Z H vs qs) {k : Nat} (hk : 2 * k < qs.length) :
    (∃ x y a b, pairV vs k = [x, y] ∧ TmAt Z H x a ∧ TmAt Z H y b ∧ (pairUp qs)[k]? = some (.add a b)) ∨ (∃ x a, pairV vs k = [x] ∧ TmAt Z H x a ∧ (pairUp qs)[k]? = some a) := by
  have hl := TmsAt.len h
  have hx : qs[2 * k]? = some qs[2 * k] := List.getElem?_eq_getElem hk
  obtain ⟨x, hvx, hxa⟩ := TmsAt.get' h hx
  rw [pairV_eq, show min (2 * k) vs.length = 2 * k by omega]
  have hd : vs.drop (2 * k) = x :: vs.drop (2 * k + 1) := by
    obtain ⟨q1, q2⟩ := List.getElem?_eq_some_iff.mp hvx
    rw [List.drop_eq_getElem_cons q1, q2]
  by_cases h2 : 2 * k + 1 < qs.length
  · have hy : qs[2 * k + 1]? = some qs[2 * k + 1] := List.getElem?_eq_getElem h2
    obtain ⟨y, hvy, hyb⟩ := TmsAt.get' h hy
    have hd2 : vs.drop (2 * k + 1) = y :: vs.drop (2 * k + 1 + 1) := by
      obtain ⟨q1, q2⟩ := List.getElem?_eq_some_iff.mp hvy
      rw [List.drop_eq_getElem_cons q1, q2]
    refine .inl ⟨x, y, _, _, ?_, hxa, hyb, ?_⟩
    · rw [hd, hd2, show min (2 * k + 2) vs.length - 2 * k = 2 by omega]
      rfl
    · rw [pairUp_get, hx, hy]
  · have hy : qs[2 * k + 1]? = none := List.getElem?_eq_none_iff.mpr (by omega)
    refine .inr ⟨x, _, ?_, hxa, ?_⟩
    · rw [hd, show min (2 * k + 2) vs.length - 2 * k = 1 by omega]
      rfl
    · rw [pairUp_get, hx, hy]
def spJoined (Z : Addr) : Sp := fun vs H Q _ => ∃ (p : Addr) (j : Join) (us : List V) (ts : List Tm), vs = [.ref p, .str (jS j)] ∧ j ≠ .row ∧ H p = some (.lst us) ∧ TmsAt Z H us ts ∧ 1 ≤ ts.length ∧ ts.length ≤ 60 ∧
  ∀ (v : V) (t : Tm) (H' : Hp), TmAt Z H' v t → Joined j ts t → Same H H' → Q v H'
section
variable {P : Program} {w : World} {K : PySem.W.Frag} {mg : Str → Option Value} {base : Heap}
abbrev n23 : List Str := ["parts", "joining", "term", "part", "pairs", "at", "pair"]
theorem sc23 : FnScope n23 ["parts", "joining"] (defScope (topS 23)) := ⟨rfl, rfl, rfl, by decide +kernel, rfl, by decide +kernel, by decide +kernel⟩
theorem ok_joined (T : Tx K mg) : Cal P w K mg base 1 "parts_joined" (spJoined (ga K "ZERO")) [] := by
  refine mk_cal T.f_parts_joined T.g_parts_joined sc23 (fun _ _ _ _ _ _ us hl => match us, hl with | [_, _], _ => rfl) (fun vs H Q E h => ?_) (fun cdv A outer s H vs Q E hr h => ?_)
  · obtain ⟨p, j, us, ts, rfl, _⟩ := h
    rfl
  obtain ⟨p, j, us, ts, rfl, hj, hp, hts, hn1, hn2, q⟩ := h
  refine ⟨_, pss_cons (ps_if (pt_cmpR op_eq (pv 1) pe_str (nomark _))
      (pss_cons (ps_set (i := 2) sc23.nd rfl (Or.inl rfl) (pe_glob (v := .ref (ga K "ZERO")) (by rfl) T.g_ZERO rfl))
      (pss_cons (ps_for PassesOwn.never rfl (pi_list (pv 0)) (pg_name (i := 3) sc23.nd rfl (Or.inl rfl)) (pss_one (ps_set (i := 2) sc23.nd rfl (Or.inl rfl) (pe_tup (pa_cons pe_str (pa_cons (pv 2) (pa_cons (pv 3) pa_nil)))))))
      (pss_one (ps_ret (pv 2))))) pss_nil)
    (pss_cons (ps_while PassesOwn.never (pt_cmpR op_gt (pe_callB call_len_seq (by rfl) T.z_len b_len (pa_cons (pv 0) pa_nil)) pe_int (nomark _))
      (pss_cons (ps_setLc (i := 4) (own := [("at", 5)]) (g := gName 5) (tt := tYes) (te := tSl (rSlL K) (tVar 0) (tPart (tVar 5)) (tPart (tOp (rI0 fun i j => .int (i + j)) (tVar 5) (tC (.int 2))))) rfl sc23.nd rfl rfl (sw_true rfl rfl rfl (by decide +kernel))
          (pi_range3 (by rfl) T.z_range (pa_cons pe_int (pa_cons (pe_callB call_len_seq (by rfl) T.z_len b_len (pa_cons (pv 0) pa_nil)) (pa_cons pe_int pa_nil)))) (blkOk_by (N := n23) (sc := defScope (topS 23)) (by decide +kernel))
          (fun _ _ _ _ _ => pg_name (i := 5) sc23.nd rfl (Or.inl rfl)) (fun _ _ _ _ _ => pts_nil) (fun _ _ _ _ _ => by exact pe_slice sl_list (pv 0) (po_some (pv 5)) (po_some (pe_op op_add (pv 5) pe_int))))
      (pss_one (ps_set (i := 0) sc23.nd rfl (Or.inr rfl) (pe_lc (own := [("pair", 6)]) (g := gName 6) (tt := tYes)
          (te := tIf (tTest (tOp rEq (tCB (fun xs H Q => ∃ p ys, xs = [.ref p] ∧ (SqL K H p ys ∨ SqT K H p ys) ∧ Q (.int ys.length) H) (tCons (tVar 6) tNil)) (tC (.int 2)))) (tTup (tCons (tC (.str "add")) (tStar K (tVar 6) tNil))) (tOp (rIxL K) (tVar 6) (tC (.int 0))))
          rfl sc23.nd (pi_list (pv 4)) (blkOk_by (N := n23) (sc := defScope (topS 23)) (by decide +kernel))
          (fun _ _ _ _ _ => pg_name (i := 6) sc23.nd rfl (Or.inl rfl)) (fun _ _ _ _ _ => pts_nil)
          (fun _ _ _ _ _ => by exact pe_ifExp (pt_cmpR op_eq (pe_callB call_len_seq (by rfl) T.z_len b_len (pa_cons (pv 6) pa_nil)) pe_int (nomark _)) (pe_tup (pa_cons pe_str (pa_star (pv 6) pa_nil))) (pe_ix ix_list (pv 6) pe_int (fun _ _ => rfl))))))))
    (pss_one (ps_ret (pe_ix ix_list (pv 0) pe_int (fun _ _ => rfl))))), ?_⟩
  have hul := TmsAt.len hts
  refine ⟨_, rfl, rfl, _, rfl, ?_⟩
  rw [jS_parts]
  refine ite2 (fun c => ?_) (fun c => ?_)
  · -- one after the other
    have ej : j = .parts := of_decide_eq_true c
    subst ej
    refine ⟨_, rfl, p, rfl, ⟨_, SqL.of hp⟩, for_list (K := K) (a := p) (xs := us) (fun i σ H1 => ∃ (v : V) (u : Option V), σ = [some (.ref p), some (.str (jS .parts)), some v, u, none, none, none] ∧ TmAt (ga K "ZERO") H1 v (sumParts .zero (ts.take i)) ∧ Same H H1)
      ⟨_, none, rfl, .zero, Same.refl H⟩ (fun i σ H1 _ ⟨_, _, _, _, e⟩ => e.seq (SqL.of hp)) ?_ ?_⟩
    · rintro i x σ H1 hi ⟨v, u, rfl, hv, e⟩
      obtain ⟨t, ht, hx⟩ := TmsAt.get hts hi
      refine ⟨_, rfl, _, rfl, (by show 3 ≤ sizeLine; decide), fun a ha => ?_⟩
      have sa := same_new ha (.tup [.str "add", v, x])
      refine ⟨_, _, rfl, ?_, e.trans sa⟩
      rw [take_more ht, sumParts_snoc]
      exact .add upd_same (hv.same sa) (hx.same (e.trans sa))
    · rintro σ H1 ⟨v, u, rfl, hv, e⟩
      rw [hul, List.take_length] at hv
      exact ⟨_, rfl, q v _ H1 hv (Joined.parts ts) e⟩
  · -- the tree
    have ej : j ≠ .parts := fun h => c (decide_eq_true h)
    refine ⟨fun m σ H1 => ∃ (p1 : Addr) (vs1 : List V) (qs : List Tm) (u4 : Option V), m = qs.length ∧ σ = [some (.ref p1), some (.str (jS j)), none, none, u4, none, none] ∧ H1 p1 = some (.lst vs1) ∧ TmsAt (ga K "ZERO") H1 vs1 qs ∧ 1 ≤ qs.length ∧ qs.length ≤ 60 ∧ (∀ t, Joined j qs t → Joined j ts t) ∧ Same H H1,
      ⟨_, p, us, ts, none, rfl, rfl, hp, hts, hn1, hn2, fun _ h => h, Same.refl H⟩, ?_⟩
    rintro m σ H1 ⟨p1, vs1, qs, u4, rfl, rfl, hp1, hqs, hq1, hq2, hJ, e⟩
    have hvl := TmsAt.len hqs
    refine ⟨_, rfl, p1, vs1, rfl, .inl (SqL.of hp1), _, _, rfl, rfl, _, rfl, ?_⟩
    refine ite2 (fun c2 => ?_) (fun c2 => ?_)
    · have c2' : (1 : Int) < (vs1.length : Int) := of_decide_eq_true c2
      refine ⟨fun σ' H' => ∃ k', k' < qs.length ∧ _, fun _ _ h => h, ?_⟩
      -- pairs
      refine ⟨_, rfl, p1, vs1, rfl, .inl (SqL.of hp1), 0, (vs1.length : Int), 2, (vs1.length + 1) / 2, rfl, rg_two _ (by omega), fun D hD => ?_⟩
      refine lc_rangeC (lo := 0) (c := 2) (fun i H3 => Same H1 H3 ∧ ∃ as : List Addr, as.length = i ∧ H3 D = some (.lst (as.map V.ref)) ∧ ∀ k a, as[k]? = some a → a ≠ D ∧ H3 a = some (.lst (pairV vs1 k))) ⟨same_new hD _, [], rfl, upd_same, fun k a h => by simp at h⟩ ?_ ?_
      · rintro i H3 hi ⟨e3, as, hal, hD3, hA⟩
        refine ⟨rfl, _, rfl, _, rfl, _, rfl, _, rfl, _, _, rfl, rfl, _, rfl, p1, vs1, rfl, SqL.of (e3 _ _ hp1), fun a ha => ?_⟩
        have sa := same_new ha (.lst (pairV vs1 i))
        have hDa := sa _ _ hD3
        have nDa : a ≠ D := Ne.symm (ne_of_none hD3 ha)
        refine ⟨_, hDa, small1000 (by rw [List.length_map]; omega), fun b o h => ?_, as ++ [a], by rw [List.length_append, hal]; rfl, ?_, fun k b hb => ?_⟩
        · rw [upd_ne (ne_of_none h hD)]; exact sa _ _ (e3 b o h)
        · rw [upd_same, List.map_append]; rfl
        · by_cases hk : k < as.length
          · rw [List.getElem?_append_left hk] at hb
            obtain ⟨nb, hb'⟩ := hA k b hb
            exact ⟨nb, by rw [upd_ne nb]; exact sa _ _ hb'⟩
          · rw [List.getElem?_append_right (by omega)] at hb
            have e0 : k - as.length = 0 := by
              by_cases h0 : k - as.length = 0
              · exact h0
              · rw [List.getElem?_eq_none_iff.mpr (by rw [List.length_singleton]; omega)] at hb; cases hb
            rw [e0] at hb
            have e1 : a = b := by simpa using hb
            subst e1
            have e2 : k = i := by omega
            subst e2
            exact ⟨nDa, by rw [upd_ne nDa]; exact upd_same⟩
      · rintro H3 ⟨e3, as, hal, hD3, hA⟩
        -- parts
        refine ⟨_, rfl, D, rfl, ⟨_, SqL.of hD3⟩, fun D2 hD2 => ?_⟩
        have hqs3 : TmsAt (ga K "ZERO") H3 vs1 qs := TmsAt.same hqs e3
        have hpl : (pairUp qs).length = as.length := by rw [pairUp_len, hal, hvl]
        refine lc_list (K := K) (a := D) (xs := as.map V.ref) (fun i H4 => Same H3 H4 ∧ ∃ us4, H4 D2 = some (.lst us4) ∧ TmsAt (ga K "ZERO") H4 us4 ((pairUp qs).take i)) ⟨same_new hD2 _, [], upd_same, .nil⟩ (fun i H4 _ ⟨e4, _⟩ => e4.seq (SqL.of hD3)) ?_ ?_
        · rintro i x H4 hi ⟨e4, us4, hD4, hu4⟩
          rw [List.getElem?_map] at hi
          obtain ⟨a, hai, rfl⟩ := Option.map_eq_some_iff.mp hi
          have hil : i < as.length := (List.getElem?_eq_some_iff.mp hai).1
          have ha4 := e4 _ _ (hA i a hai).2
          have hu4l := TmsAt.len hu4
          rw [List.length_take] at hu4l
          have done : ∀ (v : V) (t : Tm) (H5 : Hp), Same H4 H5 → TmAt (ga K "ZERO") H5 v t → (pairUp qs)[i]? = some t → ∃ acc, H5 D2 = some (.lst acc) ∧ acc.length < sizeLine ∧ (Same H3 (upd H5 D2 (.lst (acc ++ [v]))) ∧ ∃ us4, (upd H5 D2 (.lst (acc ++ [v]))) D2 = some (.lst us4) ∧ TmsAt (ga K "ZERO") (upd H5 D2 (.lst (acc ++ [v]))) us4 ((pairUp qs).take (i + 1))) := fun v t H5 e5 hv ht => by
            have h5 := e5 _ _ hD4
            have kp := tup_lst (ys := us4 ++ [v]) h5
            refine ⟨us4, h5, small1000 (by omega), fun b o h => ?_, _, upd_same, ?_⟩
            · rw [upd_ne (ne_of_none h hD2)]; exact e5 _ _ (e4 b o h)
            · rw [take_more ht]
              exact TmsAt.append (TmsAt.keep (TmsAt.same hu4 e5) kp) (.cons (hv.keep kp) .nil)
          refine ⟨rfl, _, rfl, a, _, rfl, .inl (SqL.of ha4), rfl, _, rfl, ?_⟩
          rcases pair_cases (TmsAt.same hqs3 e4) (k := i) (by omega) with ⟨x, y, ta, tb, ep, hx, hy, ht⟩ | ⟨x, ta, ep, hx, ht⟩
          · rw [ep]
            refine if_t rfl ?_
            refine ⟨_, rfl, a, [x, y], rfl, .inr (SqL.of (by rw [← ep]; exact ha4)), (by show 3 ≤ sizeLine; decide), fun b hb => ?_⟩
            have sb := same_new hb (.tup [.str "add", x, y])
            exact done _ _ _ sb (.add upd_same (hx.same sb) (hy.same sb)) ht
          · rw [ep]
            refine if_f rfl ?_
            exact ⟨_, rfl, a, [x], 0, x, rfl, rfl, SqL.of (by rw [← ep]; exact ha4), rfl, done x ta H4 (Same.refl H4) hx ht⟩
        · rintro H4 ⟨e4, us4, hD4, hu4⟩
          rw [List.length_map, ← hpl, List.take_length] at hu4
          have c3 : 2 ≤ qs.length := by omega
          refine ⟨(pairUp qs).length, by rw [pairUp_len]; omega, D2, us4, pairUp qs, _, rfl, rfl, hD4, hu4, by rw [pairUp_len]; omega, by rw [pairUp_len]; omega, fun t ht => hJ t (ht.up ej), (e.trans e3).trans e4⟩
    · have c2' : ¬ (1 : Int) < (vs1.length : Int) := of_decide_eq_false (Bool.eq_false_iff.mpr c2)
      obtain ⟨t, rfl⟩ : ∃ t, qs = [t] := List.length_eq_one_iff.mp (by omega)
      cases hqs with
      | cons hv hn =>
        cases hn
        exact ⟨_, rfl, p1, _, 0, _, rfl, rfl, SqL.of hp1, rfl, q _ t H1 hv (hJ t (Joined.alone j ej t)) e⟩
end
end VW

set_option Elab.async false
set_option linter.all false
set_option maxRecDepth 100000
set_option maxHeartbeats 4000000
namespace VW
open PySem PySem.Spec PyProof.Rows L2
open C8 (Cal pe_c)
open He (ga ma)
theorem flat_len (mask : Bool) (w n : Nat) : ∀ i : Nat, ((List.range i).flatMap (lanes mask w n)).length ≤ i * w
  | 0 => by simp
  | i + 1 => by
    have h := flat_len mask w n i
    have h2 := lanes_len mask w n i
    rw [List.range_succ, List.flatMap_append, List.length_append, Nat.succ_mul]
    show _ + (lanes mask w n i ++ []).length ≤ _
    rw [List.append_nil]
    omega
theorem flat_succ (mask : Bool) (w n i : Nat) : (List.range (i + 1)).flatMap (lanes mask w n) = (List.range i).flatMap (lanes mask w n) ++ lanes mask w n i := by
  rw [List.range_succ, List.flatMap_append]
  show _ ++ (lanes mask w n i ++ []) = _
  rw [List.append_nil]
theorem vN_snoc (l : List Nat) (z : Nat) : vN (l ++ [z]) = vN l ++ [V.int (z : Int)] := vN_append l [z]
theorem ixN_nat {n j : Nat} (h : j < n) : ixN n (j : Int) = some j := by
  unfold ixN
  rw [if_pos (by omega), if_pos (by omega)]
  rfl
theorem atI_nat {α : Type} {xs : List α} {j : Nat} {v : α} (h : xs[j]? = some v) : atI xs (j : Int) = some v := by
  unfold atI
  rw [ixN_nat (List.getElem?_eq_some_iff.mp h).1]
  exact h
theorem reps_flat (v : V) : ∀ k : Nat, (List.replicate k [v]).flatten = List.replicate k v
  | 0 => rfl
  | k + 1 => by
    rw [List.replicate_succ, List.replicate_succ, List.flatten_cons, reps_flat v k]
    rfl
theorem zeros_at (Z : Addr) (H : Hp) : ∀ k : Nat, TmsAt Z H (List.replicate k (.ref Z)) (List.replicate k .zero)
  | 0 => .nil
  | k + 1 => by
    rw [List.replicate_succ, List.replicate_succ]
    exact .cons .zero (zeros_at Z H k)
/-- an expression's reading, by what is said of its value -/
theorem te_post {te : TE} {σ : L2.St} {H : Hp} {Q : VK} (R : V → Hp → Prop) (h : ∀ Q : VK, (∀ v H', R v H' → Q v H') → te σ H Q) (h1 : ∀ v H', R v H' → Q v H') : te σ H Q := h Q h1
theorem asg_post {te : TE} {g : TG} {ts : TS} {D : Ends} {σ : L2.St} {H : Hp} (R : V → Hp → Prop) (h : ∀ Q : VK, (∀ v H', R v H' → Q v H') → te σ H Q) (h1 : ∀ v H', R v H' → g v σ H' (ts D)) : tSeq (tAsg te g) ts D σ H := h _ h1
theorem restL_get {w n m i : Nat} (h : i < n - m * w) : (restL w n m)[i]? = some (m * w + i) := by
  unfold restL
  rw [List.getElem?_map, List.getElem?_range h]
  rfl
theorem restL_len (w n m : Nat) : (restL w n m).length = n - m * w := by
  unfold restL
  rw [List.length_map, List.length_range]
def spWide (K : PySem.W.Frag) : Sp := fun vs H Q _ => ∃ (x : Addr) (mask : Bool) (j : Join) (wd n : Nat), vs = [.ref x, .int (wd : Int), .int (n : Int)] ∧ WayO (ga K "Way") H x (tS mask) j ∧ 1 ≤ wd ∧ wd ≤ 12 ∧ n ≤ 24 ∧
  ∀ (v : V) (t : Tm) (H' : Hp), TmAt (ga K "ZERO") H' v t → Wide j wd n t → Same H H' → Q v H'
section
variable {P : Program} {w : World} {K : PySem.W.Frag} {mg : Str → Option Value} {base : Heap}
abbrev n26 : List Str := ["way", "width", "count", "many", "at", "items", "parts", "lane", "term", "block"]
theorem sc26 : FnScope n26 ["way", "width", "count"] (defScope (topS 26)) := ⟨rfl, rfl, rfl, by decide +kernel, rfl, by decide +kernel, by decide +kernel⟩
theorem ok_wide (T : Tx K mg) : Cal P w K mg base 4 "wide_sum" (spWide K) [] := by
  have GS := ok_sizes (P := P) (w := w) (base := base) T
  have GB := ok_number (P := P) (w := w) (base := base) T
  have GL := ok_lanes (P := P) (w := w) (base := base) T
  have GW := ok_with (P := P) (w := w) (base := base) T
  have GJ := ok_joined (P := P) (w := w) (base := base) T
  refine mk_cal T.f_wide_sum T.g_wide_sum sc26 (fun _ _ _ _ _ _ us hl => match us, hl with | [_, _, _], _ => rfl) (fun vs H Q E h => ?_) (fun cdv A outer s H vs Q E hr h => ?_)
  · obtain ⟨x, mask, j, wd, n, rfl, _⟩ := h
    rfl
  obtain ⟨x, mask, j, wd, n, rfl, W, h1, h2, h3, q⟩ := h
  refine ⟨_, pss_cons (ps_expr (pe_c GS hr (Nat.le_refl _) (by rfl) (pa_cons (pv 1) (pa_cons (pv 2) pa_nil))))
    (pss_cons (ps_set (i := 3) sc26.nd rfl (Or.inl rfl) (pe_c GB hr (Nat.le_refl _) (by rfl) (pa_cons (pv 0) (pa_cons (pv 1) (pa_cons (pv 2) pa_nil)))))
    (pss_cons (ps_setLc2 (i := 5) (own := [("block", 9), ("at", 4)]) (vs1 := [4]) (g := gName 9) (tt := tYes) (wi1 := iTup K (tCall (spLanes (ga K "Way")) [] C8.E0 (tCons (tVar 0) (tCons (tVar 1) (tCons (tVar 2) (tCons (tVar 9) tNil)))))) (g1 := gName 4) (tt1 := tYes) (te := tVar 4)
        rfl sc26.nd rfl rfl (sw_true rfl rfl rfl (by decide +kernel)) (pi_range1 (by rfl) T.z_range (pa_cons (pv 3) pa_nil)) (blkOk_by (N := n26) (sc := defScope (topS 26)) (by decide +kernel)) (by decide)
        (fun _ _ _ _ _ => pg_name (i := 9) sc26.nd rfl (Or.inl rfl)) (fun _ _ _ _ _ => pts_nil)
        (fun _ _ _ _ _ => by exact pi_tup (pe_c GL hr (Nat.le_refl _) (by rfl) (pa_cons (pv 0) (pa_cons (pv 1) (pa_cons (pv 2) (pa_cons (pv 9) pa_nil))))))
        (fun _ _ _ _ _ => pg_name (i := 4) sc26.nd rfl (Or.inl rfl)) (fun _ _ _ _ _ => pts_nil) (fun _ _ _ _ _ => pv 4))
    (pss_cons (ps_set (i := 6) sc26.nd rfl (Or.inl rfl) (pe_op op_rep (pe_lst (pa_cons (pe_glob (v := .ref (ga K "ZERO")) (by rfl) T.g_ZERO rfl) pa_nil)) (pe_ifExp (pt_cmpR op_eq (pe_joining T hr (by decide) (pv 0)) pe_str (nomark _)) pe_int (pv 1))))
    (pss_cons (ps_for PassesOwn.never rfl (pi_list (pv 5)) (pg_name (i := 4) sc26.nd rfl (Or.inl rfl))
      (pss_cons (ps_set (i := 7) sc26.nd rfl (Or.inl rfl) (pe_op op_mod (pv 4) (pe_callB call_len_seq (by rfl) T.z_len b_len (pa_cons (pv 6) pa_nil))))
      (pss_one (ps_asg (pe_c GW hr (by decide) (by rfl) (pa_cons (pe_ix ix_list (pv 6) (pv 7) (fun _ _ => rfl)) (pa_cons (pv 4) pa_nil))) (pg_sub (pv 6) (pv 7) set_list)))))
    (pss_cons (ps_set (i := 8) sc26.nd rfl (Or.inl rfl) (pe_ifExp (pt_cmpR op_eq (pe_joining T hr (by decide) (pv 0)) pe_str (nomark _)) (pe_ix ix_list (pv 6) pe_int (fun _ _ => rfl)) (pe_c GJ hr (by decide) (by rfl) (pa_cons (pv 6) (pa_cons (pe_joining T hr (by decide) (pv 0)) pa_nil)))))
    (pss_cons (ps_for PassesOwn.never rfl (pi_range2 (by rfl) T.z_range (pa_cons (pe_op op_mul (pv 3) (pv 1)) (pa_cons (pv 2) pa_nil))) (pg_name (i := 4) sc26.nd rfl (Or.inl rfl))
      (pss_one (ps_set (i := 8) sc26.nd rfl (Or.inl rfl) (pe_c GW hr (by decide) (by rfl) (pa_cons (pv 8) (pa_cons (pv 4) pa_nil))))))
    (pss_one (ps_ret (pv 8))))))))), ?_⟩
  have hM : many mask wd n ≤ n := many_le h1
  generalize hMm : many mask wd n = M at hM
  refine ⟨_, rfl, _, rfl, (wd : Int), (n : Int), rfl, by omega, by omega, by omega, by omega, ?_⟩
  refine ⟨_, rfl, _, rfl, _, rfl, x, mask, j, wd, n, rfl, W, h1, by omega, ?_⟩
  rw [hMm]
  -- the items
  refine ⟨_, rfl, _, rfl, by omega, by omega, ?_⟩
  rw [Int.toNat_natCast]
  intro D hD
  refine ⟨fun i m H1 => m = M - i ∧ i ≤ M ∧ Same H H1 ∧ H1 D = some (.lst (vN ((List.range i).flatMap (lanes mask wd n)))), ⟨M, by simp, Nat.zero_le _, same_new hD _, upd_same⟩, ?_⟩
  rintro i m H1 ⟨rfl, hi, e1, hD1⟩
  by_cases hlt : i < M
  · refine .inr ⟨hlt, fun H2 => Same H H2 ∧ H2 D = some (.lst (vN ((List.range (i + 1)).flatMap (lanes mask wd n)))), fun H2 ⟨a, b⟩ => ⟨M - (i + 1), by omega, rfl, hlt, a, b⟩, fun y H2 hy => ?_⟩
    obtain ⟨eH, ey⟩ := hy
    subst eH ey
    refine ⟨rfl, _, rfl, _, rfl, _, rfl, _, rfl, x, mask, j, wd, n, i, (by rw [Int.zero_add]; rfl), W.same fun b o h _ => e1 b o h, by omega, by omega, by omega, fun p H3 hp e3 => ?_⟩
    refine ⟨p, rfl, ⟨_, SqT.of hp⟩, ?_⟩
    refine ⟨fun k m H4 => m = (lanes mask wd n i).length - k ∧ k ≤ (lanes mask wd n i).length ∧ Same H H4 ∧ H4 p = some (.tup (vN (lanes mask wd n i))) ∧ H4 D = some (.lst (vN ((List.range i).flatMap (lanes mask wd n) ++ (lanes mask wd n i).take k))), ⟨_, rfl, Nat.zero_le _, e1.trans e3, hp, ?_⟩, ?_⟩
    · rw [List.take_zero, List.append_nil]; exact e3 _ _ hD1
    rintro k m H4 ⟨rfl, hk, e4, hp4, hD4⟩
    by_cases hk2 : k < (lanes mask wd n i).length
    · have hz : (lanes mask wd n i)[k]? = some (lanes mask wd n i)[k] := List.getElem?_eq_getElem hk2
      have hv : (vN (lanes mask wd n i))[k]? = some (.int (((lanes mask wd n i)[k] : Nat) : Int)) := by
        unfold vN
        rw [List.getElem?_map, hz]; rfl
      refine .inr ⟨⟨_, _, SqT.of hp4, hv⟩, fun H5 => Same H H5 ∧ H5 p = some (.tup (vN (lanes mask wd n i))) ∧ H5 D = some (.lst (vN ((List.range i).flatMap (lanes mask wd n) ++ (lanes mask wd n i).take (k + 1)))), fun H5 ⟨a, b, c⟩ => ⟨_, by omega, rfl, hk2, a, b, c⟩, fun y H5 hy => ?_⟩
      obtain ⟨eH, ey⟩ := hy
      subst eH
      have ey2 := (ey _ (SqT.of hp4)).symm.trans hv
      cases ey2
      refine ⟨rfl, _, rfl, _, hD4, small1000 ?_, fun b o h => ?_, ?_, ?_⟩
      · rw [vN_len, List.length_append, List.length_take]
        have f1 := flat_len mask wd n i
        have f2 := lanes_len mask wd n i
        have f3 : i * wd ≤ 24 * 12 := Nat.mul_le_mul (by omega) h2
        omega
      · rw [upd_ne (ne_of_none h hD)]; exact e4 b o h
      · rw [upd_ne (ne_of hp4 hD4 (by intro z; cases z))]; exact hp4
      · rw [upd_same, take_more hz, ← List.append_assoc]
        exact congrArg (fun z => some (HO.lst z)) (vN_snoc _ _).symm
    · have ek : k = (lanes mask wd n i).length := by omega
      subst ek
      rw [List.take_length, ← flat_succ] at hD4
      exact .inl ⟨⟨_, SqT.of hp4, by rw [vN_len]; exact Nat.le_refl _⟩, e4, hD4⟩
  · have ei : i = M := by omega
    subst ei
    refine .inl ⟨Nat.le_refl _, ?_⟩
    subst hMm
    have hD1 : H1 D = some (.lst (vN (held mask wd n))) := hD1
    have W1 : WayO (ga K "Way") H1 x (tS mask) j := W.same fun b o h _ => e1 b o h
    -- the parts
    refine ⟨(by show 1 ≤ sizeLine; decide), fun z0 hz0 => ?_⟩
    have s0 := same_new hz0 (.lst [V.ref (ga K "ZERO")])
    obtain ⟨kk, hkk⟩ : ∃ k : Nat, k = if j = .row then 1 else wd := ⟨_, rfl⟩
    have hk1 : 1 ≤ kk ∧ kk ≤ 12 := by
      rw [hkk]
      split <;> omega
    show tIf _ _ _ _ _ _
    refine te_post (fun v H' => v = .int (kk : Int) ∧ H' = upd H1 z0 (.lst [V.ref (ga K "ZERO")])) (fun Q hQ => ?_) ?_
    · have W2 : WayO (ga K "Way") (upd H1 z0 (.lst [V.ref (ga K "ZERO")])) x (tS mask) j := W1.same fun b o h _ => s0 b o h
      obtain ⟨dx, d, kvs, hx, _⟩ := id W2
      refine ⟨_, rfl, x, dx, _, rfl, hx, x, tS mask, j, rfl, W2, rfl, _, rfl, ?_⟩
      rw [jS_row]
      refine ite2 (fun c => ?_) (fun c => ?_)
      · have ej : j = .row := of_decide_eq_true c
        rw [if_pos ej] at hkk
        exact hQ _ _ ⟨by rw [hkk]; rfl, rfl⟩
      · have ej : j ≠ .row := fun h => c (decide_eq_true h)
        rw [if_neg ej] at hkk
        exact ⟨_, rfl, hQ _ _ ⟨by rw [hkk], rfl⟩⟩
    rintro _ _ ⟨rfl, rfl⟩
    refine ⟨z0, (kk : Int), _, rfl, rfl, upd_same, by omega, by omega, ?_, fun p hp => ?_⟩
    · rw [Int.toNat_natCast]
      show 1 * kk ≤ sizeLine
      exact sz (by omega)
    rw [Int.toNat_natCast, reps_flat]
    have s1 := same_new hp (.lst (List.replicate kk (V.ref (ga K "ZERO"))))
    have e2 := (e1.trans s0).trans s1
    have hDe := s1 _ _ (s0 _ _ hD1)
    have nDp : D ≠ p := ne_of_none (s0 _ _ hD1) hp
    have nHp : ∀ b o, H b = some o → b ≠ p := fun b o h => ne_of_none (s0 _ _ (e1 b o h)) hp
    -- for at in items
    refine ⟨_, rfl, D, rfl, ⟨_, SqL.of hDe⟩, for_list (K := K) (a := D) (xs := vN (held mask wd n)) (fun i σ H2 => ∃ (u4 u7 : Option V) (us : List V) (ts : List Tm), σ = [some (.ref x), some (.int (wd : Int)), some (.int (n : Int)), some (.int ((many mask wd n : Nat) : Int)), u4, some (.ref D), some (.ref p), u7, none, none] ∧
      H2 D = some (.lst (vN (held mask wd n))) ∧ H2 p = some (.lst us) ∧ TmsAt (ga K "ZERO") H2 us ts ∧ Filled kk ((held mask wd n).take i) ts ∧ Same H H2) ⟨none, none, _, _, rfl, hDe, upd_same, zeros_at _ _ kk, Filled.start kk, e2⟩ (fun i σ H2 _ ⟨_, _, _, _, _, h, _⟩ => SqL.of h) ?_ ?_⟩
    · rintro i y σ H2 hi ⟨u4, u7, us, ts, rfl, hD2, hp2, hts, F, e⟩
      obtain ⟨z, hz, rfl⟩ := vN_get hi
      have hul := TmsAt.len hts
      have hkl : us.length = kk := hul.trans F.len
      have hmod : z % kk < kk := Nat.mod_lt _ hk1.1
      have ht0 : ts[z % kk]? = some ts[z % kk] := List.getElem?_eq_getElem (by rw [F.len]; exact hmod)
      generalize ts[z % kk] = t0 at ht0
      obtain ⟨v, hv, hvt⟩ := TmsAt.get' hts ht0
      have em : (z : Int) % (us.length : Int) = ((z % kk : Nat) : Int) := by rw [hkl]; rfl
      refine ⟨_, rfl, _, rfl, p, us, rfl, .inl (SqL.of hp2), _, _, rfl, rfl, (by show (0 : Int) < (us.length : Int); omega), ?_⟩
      dsimp only
      rw [em]
      refine ⟨_, rfl, _, rfl, p, us, _, v, rfl, rfl, SqL.of hp2, atI_nat hv, _, rfl, v, z, t0, rfl, hvt, fun a H3 ha e3 => ?_⟩
      have hp3 := e3 _ _ hp2
      have kp := tup_lst (ys := us.set (z % kk) (.ref a)) hp3
      refine ⟨_, rfl, _, rfl, p, us, _, _, rfl, rfl, hp3, ixN_nat (by omega), ?_⟩
      refine ⟨_, _, us.set (z % kk) (.ref a), ts.set (z % kk) (.add t0 (.item z)), rfl, ?_, upd_same, ?_, ?_, fun b o h => ?_⟩
      · rw [upd_ne nDp]; exact e3 _ _ hD2
      · exact TmsAt.set _ (TmsAt.keep (TmsAt.same hts e3) kp) (ha.keep kp)
      · rw [take_more hz]; exact F.more z ht0
      · rw [upd_ne (nHp b o h)]; exact e3 _ _ (e b o h)
    · rintro σ H2 ⟨u4, u7, us, ts, rfl, hD2, hp2, hts, F, e⟩
      rw [vN_len, List.take_length] at F
      have hul := TmsAt.len hts
      have W2 : WayO (ga K "Way") H2 x (tS mask) j := W.same fun b o h _ => e b o h
      obtain ⟨dx, d, kvs, hx, _⟩ := id W2
      -- the term
      dsimp only
      refine asg_post (fun v H' => ∃ t, TmAt (ga K "ZERO") H' v t ∧ Wide j wd n (chain t (restL wd n (many mask wd n))) ∧ Same H H') (fun Q hQ => ?_) ?_
      · refine ⟨_, rfl, x, dx, _, rfl, hx, x, tS mask, j, rfl, W2, rfl, _, rfl, ?_⟩
        rw [jS_row]
        refine ite2 (fun c => ?_) (fun c => ?_)
        · have ej : j = .row := of_decide_eq_true c
          rw [if_pos ej] at hkk
          subst hkk
          obtain ⟨t0, ht0⟩ : ∃ t, ts[0]? = some t := ⟨_, List.getElem?_eq_getElem (by rw [F.len]; decide)⟩
          obtain ⟨v, hv, hvt⟩ := TmsAt.get' hts ht0
          subst ej
          exact ⟨_, rfl, p, us, 0, v, rfl, rfl, SqL.of hp2, atI_nat (j := 0) hv, hQ _ _ ⟨t0, hvt, wide_row h1 F ht0, e⟩⟩
        · have ej : j ≠ .row := fun h => c (decide_eq_true h)
          rw [if_neg ej] at hkk
          subst hkk
          refine ⟨_, rfl, _, rfl, x, dx, _, rfl, hx, x, tS mask, j, rfl, W2, p, j, us, ts, rfl, ej, hp2, hts, by rw [F.len]; omega, by rw [F.len]; omega, fun v t H3 ht J e3 => ?_⟩
          exact hQ _ _ ⟨t, ht, wide_join h1 ej F J, e.trans e3⟩
      rintro v H3 ⟨t, ht, Wd, e3⟩
      -- the rest
      have hmw : many mask wd n * wd ≤ 24 * 12 := Nat.mul_le_mul (by omega) h2
      have emw : ((many mask wd n : Nat) : Int) * (wd : Int) = ((many mask wd n * wd : Nat) : Int) := (Int.natCast_mul _ _).symm
      refine ⟨_, rfl, _, rfl, _, _, rfl, rfl, .inr (small64 (by omega)), _, rfl, _, (n : Int), rfl, ⟨(small62 (by rw [emw]; omega) (by rw [emw]; omega)).1, (small62 (by rw [emw]; omega) (by rw [emw]; omega)).2, (small62 (by omega) (by omega)).1, (small62 (by omega) (by omega)).2⟩, ?_⟩
      rw [emw, show ((n : Int) - ((many mask wd n * wd : Nat) : Int)).toNat = n - many mask wd n * wd by omega]
      refine for_range (lo := ((many mask wd n * wd : Nat) : Int)) (fun i σ H4 => ∃ (v : V) (u4 u5 u6 u7 : Option V), σ = [some (.ref x), some (.int (wd : Int)), some (.int (n : Int)), some (.int ((many mask wd n : Nat) : Int)), u4, u5, u6, u7, some v, none] ∧ TmAt (ga K "ZERO") H4 v (chain t ((restL wd n (many mask wd n)).take i)) ∧ Same H H4) ⟨v, _, _, _, _, rfl, ht, e3⟩ ?_ ?_
      · rintro i σ H4 hi ⟨v, u4, u5, u6, u7, rfl, hv, e4⟩
        refine ⟨_, rfl, _, rfl, v, many mask wd n * wd + i, _, (by rw [Int.natCast_add]; rfl), hv, fun a H5 h5 e5 => ?_⟩
        exact ⟨_, _, _, _, _, rfl, by rw [take_more (restL_get hi), chain_snoc]; exact h5, e4.trans e5⟩
      · rintro σ H4 ⟨v, u4, u5, u6, u7, rfl, hv, e4⟩
        refine ⟨_, rfl, q v _ H4 hv ?_ e4⟩
        have el := restL_len wd n (many mask wd n)
        rw [← el, List.take_length]
        exact Wd
end
end VW

set_option Elab.async false
set_option linter.all false
set_option maxRecDepth 100000
set_option maxHeartbeats 4000000
namespace VW
open PySem PySem.Spec PyProof.Rows L2
open C8 (Cal pe_c)
open He (ga ma)
def spLaw (K : PySem.W.Frag) : Sp := fun vs H Q _ => ∃ (s : Addr) (ns : List Int), vs = [.ref s] ∧ SqL K H s (ns.map V.int) ∧ ns.length ≤ 63 ∧ ∀ H', Q (.bl true) H'
def kRow : Key := Sum.inr "row"
def kParts : Key := Sum.inr "parts"
def kTree : Key := Sum.inr "tree"
theorem zeros_of (j : Join) (wd : Nat) : valV (mergeK [] [(kRow, V.int 1), (kParts, .int ((wd : Int) + 1)), (kTree, .int (wd : Int))]) (Sum.inr (jS j)) = some (.int ((j.zeros wd : Nat) : Int)) := by
  show valV (putK (putK (putK [] kRow (V.int 1)) kParts (.int ((wd : Int) + 1))) kTree (.int (wd : Int))) (Sum.inr (jS j)) = _
  rw [valV_put, valV_put, valV_put]
  cases j with
  | row =>
    rw [if_neg (by decide +kernel), if_neg (by decide +kernel), if_pos (by decide +kernel)]
    rfl
  | parts =>
    rw [if_neg (by decide +kernel), if_pos (by decide +kernel)]
    rfl
  | tree =>
    rw [if_pos (by decide +kernel)]
    rfl
theorem put_tail {tl tl' : Str} {ah : Int} {g : Bool} {j : Str} {p : Addr} : putK (wayKvs tl ah g j p) kT (.str tl') = wayKvs tl' ah g j p := by
  unfold putK wayKvs
  rfl
theorem PoolAt.put {H : Hp} {a l d : Addr} {o : HO} (p : PoolAt H a l) (n : d ≠ a ∧ d ≠ l) : PoolAt (upd H d o) a l :=
  let ⟨ns, q1, q2, q3, q4, p⟩ := p
  ⟨ns, q1, q2, q3, q4, by rw [upd_ne (Ne.symm n.1)]; exact p.ha, by rw [upd_ne (Ne.symm n.2)]; exact p.hl, p.ne, p.nn, p.len⟩
theorem jS_tree (j : Join) : decide (V.str (jS j) = V.str "tree") = decide (j = .tree) := by cases j <;> decide +kernel
theorem ne_same (x : V) : (!decide (x = x)) = false := by rw [decide_eq_true rfl]; rfl
theorem rgV_range (n : Nat) : rgV 0 (n : Int) = vN (List.range n) := by
  unfold rgV vN
  rw [Int.sub_zero, Int.toNat_natCast]
  refine List.map_congr_left fun k _ => ?_
  rw [Int.zero_add]
section
variable {P : Program} {w : World} {K : PySem.W.Frag} {mg : Str → Option Value} {base : Heap}
abbrev nLaw : List Str := ["script", "pool", "turn", "p", "wide", "many", "way", "numbers", "one", "other", "zeros", "k", "at"]
theorem sc53 : FnScope nLaw ["script"] (defScope (topS 53)) := ⟨rfl, rfl, rfl, by decide +kernel, rfl, by decide +kernel, by decide +kernel⟩
theorem mk_ok {i : Nat} {x : Str} {N ps : List Str} {sp : Sp} {k : Nat} {fd : FuncData} (F : FunD K x x (defArgs (topS i)) (defBody (topS i)) (defScope (topS i)) [] [] (ga K x) fd) (S : FnScope N ps (defScope (topS i))) (len : ∀ vs H Q E, sp vs H Q E → vs.length = ps.length)
    (hbody : ∀ (cdv : Value) (A : Around) (outer : List Env) (s : Shared) (H : Hp) (vs : List V) (Q : VK) (E : XK), Room k (A.deeper (envOfC x (defScope (topS i)) s.heap.objs.size (ga K x) cdv)) → sp vs H Q E →
      ∃ t, PSs (cxOf C8.CX0 P w K mg base N x (defScope (topS i)) (ga K x) cdv A outer s H E).nox (defBody (topS i)) t ∧ t { nx := fun _ H' => Q .non H', rt := Q } (start N vs) H) : FnOk P w K mg base C8.CX0 (k + 1) (ga K x) fd ps sp :=
  F.ok S len fun cdv A outer s H vs Q E hr h => let ⟨t, h1, h2⟩ := hbody cdv A outer s H vs Q E hr h; ⟨t, h1.nox, h2⟩
theorem ok_law (T : Tx K mg) {fd : FuncData} (F : FunD K "law" "law" (defArgs (topS 53)) (defBody (topS 53)) (defScope (topS 53)) [] [] (ga K "law") fd) : FnOk P w K mg base C8.CX0 42 (ga K "law") fd ["script"] (spLaw K) := by
  have GB := ok_begin (P := P) (w := w) (base := base) T
  have GD := ok_draw (P := P) (w := w) (base := base) T
  have GDW := ok_draw_way (P := P) (w := w) (base := base) T
  have GM := ok_make_way (P := P) (w := w) (base := base) T
  have GW := ok_wide (P := P) (w := w) (base := base) T
  have GP := ok_plain (P := P) (w := w) (base := base) T
  have GO := ok_worth (P := P) (w := w) (base := base) T 41
  have GI := ok_items (P := P) (w := w) (base := base) T
  have GZ := ok_zeros (P := P) (w := w) (base := base) T
  have GE := ok_equal (P := P) (w := w) (base := base) T
  refine mk_ok F sc53 (fun vs H Q E h => ?_) (fun cdv A outer s H vs Q E hr h => ?_)
  · obtain ⟨s, ns, rfl, _⟩ := h
    rfl
  obtain ⟨sc, ns, rfl, hS, hl, q⟩ := h
  have hu := hu_of hr
  refine ⟨_, pss_cons (ps_set (i := 1) sc53.nd rfl (Or.inr rfl) (pe_c GB hr (by decide) (by rfl) (pa_cons (pv 0) pa_nil)))
    (pss_cons (ps_for PassesOwn.never rfl (pi_range1 (by rfl) T.z_range (pa_cons pe_int pa_nil)) (pg_name (i := 2) sc53.nd rfl (Or.inl rfl))
      (pss_cons (ps_par3 (i := 3) (j := 4) (l := 5) rfl sc53.nd rfl rfl rfl (by decide) (by decide) (by decide) rfl rfl rfl
        (pa_cons (pe_c GDW hr (by decide) (by rfl) (pa_cons (pv 1) (pa_cons pe_int pa_nil))) (pa_cons (pe_op op_add pe_int (pe_c GD hr (by decide) (by rfl) (pa_cons (pv 1) (pa_cons pe_int pa_nil)))) (pa_cons (pe_c GD hr (by decide) (by rfl) (pa_cons (pv 1) (pa_cons pe_int pa_nil))) pa_nil))) (by rfl))
      (pss_cons (ps_asg (pe_ix ix_list (pe_lst (pa_cons pe_str (pa_cons pe_str pa_nil))) (pe_c GD hr (by decide) (by rfl) (pa_cons (pv 1) (pa_cons pe_int pa_nil))) (fun _ _ => rfl)) (pg_sub (pv 3) pe_str (set_dict hu)))
      (pss_cons (ps_set (i := 6) sc53.nd rfl (Or.inl rfl) (pe_c GM hr (by decide) (by rfl) (pa_cons (pv 3) pa_nil)))
      (pss_cons (ps_setLc (i := 7) (own := [("k", 11)]) (g := gName 11) (tt := tYes) (te := tOp (rI0 fun i j => .int (i - j)) (tCall spDraw [] C8.E0 (tCons (tVar 1) (tCons (tOp (rI CPow fun i j => .int (i ^ j.toNat)) (tC (.int 10)) (tC (.int 30))) tNil))) (tOp (rI CPow fun i j => .int (i ^ j.toNat)) (tC (.int 10)) (tC (.int 29))))
          rfl sc53.nd rfl rfl (sw_true rfl rfl rfl (by decide +kernel)) (pi_range1 (by rfl) T.z_range (pa_cons (pv 5) pa_nil)) (blkOk_by (N := nLaw) (sc := defScope (topS 53)) (by decide +kernel))
          (fun _ _ _ _ _ => pg_name (i := 11) sc53.nd rfl (Or.inl rfl)) (fun _ _ _ _ _ => pts_nil) (fun _ _ _ _ _ => by exact pe_op op_sub (pe_c GD hr (by decide) (by rfl) (pa_cons (pv 1) (pa_cons (pe_op op_pow pe_int pe_int) pa_nil))) (pe_op op_pow pe_int pe_int)))
      (pss_cons (ps_par (i := 8) (j := 9) rfl sc53.nd rfl rfl (by decide) rfl rfl (pa_cons (pe_c GW hr (by decide) (by rfl) (pa_cons (pv 6) (pa_cons (pv 4) (pa_cons (pv 5) pa_nil)))) (pa_cons (pe_c GP hr (by decide) (by rfl) (pa_cons (pv 5) pa_nil)) pa_nil)) (by rfl))
      (pss_cons (ps_if (PW.pt (pw_or (pt_cmpR op_ne (pe_c GO hr (by decide) (by rfl) (pa_cons (pv 8) (pa_cons (pv 7) pa_nil))) (pe_callB (cr_sum rfl) (by rfl) T.z_sum b_sum (pa_cons (pv 7) pa_nil)) (nomark _))
          (pw_or1 (pt_cmpR op_ne (pe_c GO hr (by decide) (by rfl) (pa_cons (pv 9) (pa_cons (pv 7) pa_nil))) (pe_callB (cr_sum rfl) (by rfl) T.z_sum b_sum (pa_cons (pv 7) pa_nil)) (nomark _))))) (pss_one (ps_ret pe_bl)) pss_nil)
      (pss_cons (ps_if (PW.pt (pw_or (pt_cmpR (op_neD hr.units) (pe_callB cr_sorted (by rfl) T.z_sorted b_sorted (pa_cons (pe_lc (own := [("at", 12)]) (g := gName 12) (tt := tYes) (te := tCB (fun xs H Q => (∃ i, xs = [.int i] ∧ Q (.int i) H) ∨ ∃ k, xs = [.bl k] ∧ Q (.int (if k then 1 else 0)) H) (tCons (tVar 12) tNil)) rfl sc53.nd
            (pi_tup (pe_c GI hr (by decide) (by rfl) (pa_cons (pv 8) pa_nil))) (blkOk_by (N := nLaw) (sc := defScope (topS 53)) (by decide +kernel))
            (fun _ _ _ _ _ => pg_name (i := 12) sc53.nd rfl (Or.inl rfl)) (fun _ _ _ _ _ => pts_nil) (fun _ _ _ _ _ => by exact pe_callTy call_int1 (by rfl) T.z_int b_int (pa_cons (pv 12) pa_nil))) pa_nil))
            (pe_listRg rfl (by rfl) T.z_list (prg_1 (by rfl) T.z_range (pv 5))) (nomark _))
          (pw_or1 (pt_cmpR (op_neD hr.units) (pe_callTy call_list_of (by rfl) T.z_list b_list (pa_cons (pe_c GI hr (by decide) (by rfl) (pa_cons (pv 9) pa_nil)) pa_nil)) (pe_listRg rfl (by rfl) T.z_list (prg_1 (by rfl) T.z_range (pv 5))) (nomark _))))) (pss_one (ps_ret pe_bl)) pss_nil)
      (pss_cons (ps_set (i := 10) sc53.nd rfl (Or.inl rfl) (pe_dget hu (pe_disp (pps_cons pe_str pe_int (pps_cons pe_str (pe_op op_add (pv 4) pe_int) (pps_cons pe_str (pv 4) pps_nil))) (by rfl) (by rfl) (fun z => by cases z) (by decide)) (pe_dget hu (pv 3) pe_str (fun _ _ => rfl)) (fun _ _ => rfl)))
      (pss_cons (ps_if (PW.pt (pw_or (pt_cmpR op_ne (pe_c GZ hr (by decide) (by rfl) (pa_cons (pv 8) pa_nil)) (pv 10) (nomark _)) (pw_or1 (pt_cmpR op_ne (pe_c GZ hr (by decide) (by rfl) (pa_cons (pv 9) pa_nil)) pe_int (nomark _))))) (pss_one (ps_ret pe_bl)) pss_nil)
      (pss_cons (ps_if (pt_cmpR op_notBl (pe_c GE hr (by decide) (by rfl) (pa_cons (pv 8) (pa_cons (pv 9) (pa_cons (pe_tup (pa_cons pe_str (pa_cons pe_str (pa_cons pe_str pa_nil)))) pa_nil)))) pe_bl (nomark _)) (pss_one (ps_ret pe_bl)) pss_nil)
      (pss_one (ps_if (PW.pt (pw_and (pt_cmpR (op_neD hr.units) (pv 8) (pv 9) (nomark _)) (pw_and1 (PW.pt (pw_or (pt_cmpR op_eq (pe_dget hu (pv 3) pe_str (fun _ _ => rfl)) pe_str (nomark _))
          (pw_or1 (PW.pt (pw_and (pt_cmpR op_eq (pv 4) pe_int (nomark _)) (pw_and1 (pt_cmpR op_eq (pe_dget hu (pv 3) pe_str (fun _ _ => rfl)) pe_str (nomark _))))))))))) (pss_one (ps_ret pe_bl)) pss_nil)))))))))))))
    (pss_one (ps_ret pe_bl))), ?_⟩
  refine ⟨_, rfl, sc, ns, rfl, hS, hl, fun a l H1 p1 e1 => ?_⟩
  refine ⟨5, rfl, by decide, by decide, ?_⟩
  refine for_range (lo := 0) (fun i σ H1 => PoolAt H1 a l ∧ ∃ u2 u3 u4 u5 u6 u7 u8 u9 u10 : Option V, σ = [some (.ref sc), some (.ref a), u2, u3, u4, u5, u6, u7, u8, u9, u10, none, none]) ⟨p1, none, none, none, none, none, none, none, none, none, rfl⟩ ?_ ?_
  case refine_2 =>
    rintro σ H2 ⟨_, u2, u3, u4, u5, u6, u7, u8, u9, u10, rfl⟩
    exact q H2
  rintro i σ H1 hi ⟨p1, u2, u3, u4, u5, u6, u7, u8, u9, u10, rfl⟩
  -- p, wide, many
  refine ⟨_, rfl, a, l, rfl, p1, fun d tl ah g j pb bs H2 WD p2 k2 => ?_⟩
  refine ⟨_, rfl, a, l, 12, rfl, p2, by decide, by decide, fun r H3 r0 r1 p3 k3 => ⟨_, _, rfl, rfl, ?_⟩⟩
  refine ⟨_, rfl, a, l, 25, rfl, p3, by decide, by decide, fun r' H4 r0' r1' p4 k4 => ⟨_, _, _, rfl, ?_⟩⟩
  obtain ⟨n, rfl⟩ : ∃ n : Nat, r' = (n : Int) := ⟨r'.toNat, by omega⟩
  obtain ⟨wd, hwd⟩ : ∃ wd : Nat, 1 + r = (wd : Int) := ⟨(1 + r).toNat, by omega⟩
  have hw1 : 1 ≤ wd := by omega
  have hw2 : wd ≤ 12 := by omega
  have hn : n ≤ 24 := by omega
  dsimp only
  rw [hwd]
  have nD := p2.ne WD.hd (by intro xs z; cases z)
  have nP := p2.ne WD.hp (by intro xs z; cases z)
  have k24 := k3.trans k4
  -- p["tail"]
  refine ⟨(by show 2 ≤ sizeLine; decide), fun q1 hq1 => ⟨_, rfl, a, l, 2, rfl, p4.same (same_new hq1 _), by decide, by decide, fun r2 H5 r20 r21 p5 k5 => ?_⟩⟩
  obtain ⟨e5, k5⟩ := pick_at p4 hq1 k5
  obtain ⟨v5, hv5, hat5⟩ := at_in (xs := [V.str "mask", .str "rest"]) r20 r21
  obtain ⟨mask, rfl⟩ : ∃ mask : Bool, v5 = .str (tS mask) := by
    simp only [List.mem_cons, List.not_mem_nil, or_false] at hv5
    rcases hv5 with rfl | rfl
    · exact ⟨true, rfl⟩
    · exact ⟨false, rfl⟩
  have k25 := k24.trans k5
  have hd5 := k25 d _ WD.hd nD.1 nD.2
  refine ⟨q1, _, r2, _, rfl, rfl, SqL.of e5, hat5, _, rfl, d, _, rfl, DPut.k (k := kT) hd5 (by show 5 < sizeLine; decide), ?_⟩
  rw [put_tail]
  have WD6 : WayD (upd H5 d (.dK (wayKvs (tS mask) ah g (jS j) pb))) d (tS mask) ah g j pb bs := by
    have tups : ∀ b xs, H2 b = some (.tup xs) → (upd H5 d (.dK (wayKvs (tS mask) ah g (jS j) pb))) b = some (.tup xs) := fun b xs h => by
      have nb := p2.ne h (by intro xs z; cases z)
      have h5 := k25 b _ h nb.1 nb.2
      rw [upd_ne (ne_of h5 hd5 (by intro z; cases z))]
      exact h5
    exact ⟨upd_same, tups _ _ WD.hp, WD.B.keep tups, WD.len, by cases mask; exact .inr (.inl rfl); exact .inl rfl, WD.a0, WD.a3⟩
  have p6 : PoolAt (upd H5 d (.dK (wayKvs (tS mask) ah g (jS j) pb))) a l := p5.put nD
  -- way
  refine ⟨_, rfl, d, tS mask, ah, g, j, pb, bs, rfl, WD6, fun x H7 W7 e7 => ?_⟩
  have p7 := p6.same e7
  have hd7 := e7 _ _ WD6.hd
  clear e7 WD6 p6
  -- numbers
  refine ⟨_, rfl, (n : Int), rfl, by omega, by omega, ?_⟩
  rw [Int.toNat_natCast]
  intro D hD
  have nDD := p7.new hD
  refine lc_range (lo := 0) (fun i H8 => PoolAt H8 a l ∧ (∃ zs : List Int, zs.length = i ∧ H8 D = some (.lst (zs.map V.int))) ∧ Keep a l H7 H8) ⟨p7.same (same_new hD _), ⟨[], rfl, upd_same⟩, fun b o h _ _ => same_new hD _ b o h⟩ ?_ ?_
  · rintro i H8 hi ⟨p8, ⟨zs, hz, hD8⟩, k8⟩
    refine ⟨rfl, _, rfl, _, _, rfl, rfl, ⟨by decide, by decide, by decide⟩, a, l, _, rfl, p8, by decide, by decide, fun r H9 r0 r1 p9 k9 => ?_⟩
    have hD9 := k9 D _ hD8 nDD.1 nDD.2
    refine ⟨_, _, rfl, rfl, ⟨by decide, by decide, by decide⟩, _, _, rfl, rfl, _, hD9, small1000 (by rw [List.length_map]; omega), p9.put nDD, ⟨zs ++ [r - 10 ^ 29], by rw [List.length_append, hz]; rfl, ?_⟩, fun b o h h1 h2 => ?_⟩
    · rw [upd_same, List.map_append]; rfl
    · rw [upd_ne (ne_of_none h hD)]; exact k9 b o (k8 b o h h1 h2) h1 h2
  rintro H8 ⟨p8, ⟨zs, hz, hD8⟩, k8⟩
  have W8 : WayO (ga K "Way") H8 x (tS mask) j := W7.same fun b o h ho => by
    have nb := p7.ne h ho
    exact k8 b o h nb.1 nb.2
  have hd8 := k8 d _ hd7 nD.1 nD.2
  clear k8 W7 hd7 p7
  -- one, other
  refine ⟨_, rfl, _, rfl, _, rfl, x, mask, j, wd, n, rfl, W8, hw1, hw2, hn, fun v1 t1 H9 h1 Wd e9 => ?_⟩
  refine ⟨_, rfl, n, rfl, by omega, fun v2 H10 h2 e10 => ⟨_, _, rfl, ?_⟩⟩
  have eA := e9.trans e10
  have p10 := p8.same eA
  have hd10 := eA _ _ hd8
  have hD10 := eA _ _ hD8
  have h1 := h1.same e10
  clear e9 e10 eA p8 hd8 hD8 W8
  have Wp := Wide.plain n wd
  have c1 : t1.cnt ≤ n + wd + 1 := Wd.cnt
  have c2 : (plain n).cnt ≤ n + wd + 1 := Wp.cnt
  have z1 := Tm.size_le t1
  have z2 := Tm.size_le (plain n)
  have d1 := Tm.depth_le t1
  have d2 := Tm.depth_le (plain n)
  have hlt : ∀ {t : Tm}, t.items.Perm (List.range n) → ∀ i ∈ t.items, i < zs.length := fun pr i h => by
    rw [hz]
    exact List.mem_range.mp (pr.subset h)
  have w1 : t1.worth zs = zs.sum := worth_perm (by rw [hz]; exact Wd.its)
  have w2 : (plain n).worth zs = zs.sum := worth_perm (by rw [hz]; exact Wp.its)
  -- the worths
  refine ⟨_, rfl, _, rfl, v1, D, t1, zs, rfl, h1, by omega, SqL.of hD10, hlt Wd.its, _, rfl, D, zs, rfl, SqL.of hD10, rfl, _, rfl, if_f (by rw [w1]; exact ne_same _) ?_⟩
  refine ⟨_, rfl, _, rfl, v2, D, plain n, zs, rfl, h2, by omega, SqL.of hD10, hlt Wp.its, _, rfl, D, zs, rfl, SqL.of hD10, rfl, _, rfl, if_f (by rw [w2]; exact ne_same _) ?_⟩
  -- the items
  have l1 := Wd.its.length_eq
  rw [List.length_range] at l1

  refine ⟨_, rfl, v1, t1, rfl, h1, by omega, fun p H11 hp e11 => ⟨p, rfl, ⟨_, SqT.of hp⟩, fun D2 hD2 => ?_⟩⟩
  refine lc_tup (K := K) (a := p) (xs := vN t1.items) (fun i H12 => Same H11 H12 ∧ H12 D2 = some (.lst (vN (t1.items.take i)))) ⟨same_new hD2 _, upd_same⟩ (fun i H12 _ ⟨e, _⟩ => Same.seqT e (SqT.of hp)) ?_ ?_
  · rintro i y H12 hi ⟨e12, hD12⟩
    obtain ⟨z, hz, rfl⟩ := vN_get hi
    have hil : i < t1.items.length := (List.getElem?_eq_some_iff.mp hz).1
    refine ⟨rfl, _, rfl, .inl ⟨(z : Int), rfl, _, hD12, small1000 ?_, fun b o h => ?_, ?_⟩⟩
    · rw [vN_len, List.length_take]; omega
    · rw [upd_ne (ne_of_none h hD2)]; exact e12 b o h
    · rw [upd_same, take_more hz]
      exact congrArg (fun z => some (HO.lst z)) (vN_snoc _ _).symm
  rintro H12 ⟨e12, hD12⟩
  rw [vN_len, List.take_length, vN_vI] at hD12
  refine ⟨D2, t1.items.map (fun i : Nat => (i : Int)), rfl, SqL.of hD12, by rw [List.length_map]; omega, fun ks q1 pk sk hq1 => ?_⟩
  have ek := sorted_range Wd.its pk sk
  subst ek
  refine ⟨_, rfl, (n : Int), rfl, RgOk.of_le (by omega) (by omega) (by omega) (by omega), fun f hf => ?_⟩
  have s1 := same_new hq1 (.lst (vI ((List.range n).map fun i : Nat => (i : Int))))
  have s2 := same_new hf (.lst (rgV 0 (n : Int)))
  refine ⟨_, _, .lst (SqL.of (s2 _ _ upd_same)) (dp_ints _), .lst (SqL.of (upd_same.trans (by rw [rgV_range, vN_vI]))) (dp_ints _), ints_shaped _, ints_shaped _, _, rfl, if_f (by rw [ints_refl]; rfl) ?_⟩
  have eB : Same H10 _ := ((e11.trans e12).trans s1).trans s2
  have p13 := p10.same eB
  have hd13 := eB _ _ hd10
  have h1 := h1.same eB
  have h2 := h2.same eB
  clear eB s1 s2 hf hq1 e11 e12 hp hD2 hD12 pk sk hD10 p10 hd10
  refine ⟨_, rfl, v2, plain n, rfl, h2, by omega, fun p H14 hp e14 => ⟨p, _, rfl, .inr (SqT.of hp), fun f2 hf2 => ?_⟩⟩
  refine ⟨_, rfl, (n : Int), rfl, RgOk.of_le (by omega) (by omega) (by omega) (by omega), fun f3 hf3 => ?_⟩
  have s1 := same_new hf2 (.lst (vN (plain n).items))
  have s2 := same_new hf3 (.lst (rgV 0 (n : Int)))
  refine ⟨_, _, .lst (SqL.of ((s2 _ _ upd_same).trans (by rw [plain_items, vN_vI]))) (dp_ints _), .lst (SqL.of (upd_same.trans (by rw [rgV_range, vN_vI]))) (dp_ints _), ints_shaped _, ints_shaped _, _, rfl, if_f (by rw [ints_refl]; rfl) ?_⟩
  have eC := (e14.trans s1).trans s2
  have p15 := p13.same eC
  have hd15 := eC _ _ hd13
  have h1 := h1.same eC
  have h2 := h2.same eC
  clear eC s1 s2 hf2 hf3 e14 hp p13 hd13
  -- zeros
  refine fun dz hdz => ⟨_, rfl, _, _, rfl, rfl, _, rfl, upd_same, [(kRow, .int 1), (kParts, .int ((wd : Int) + 1)), (kTree, .int (wd : Int))], rfl, (by show 3 ≤ 15; decide), ?_⟩
  rw [upd_upd]
  have sz1 := same_new hdz (.dK (mergeK [] [(kRow, V.int 1), (kParts, .int ((wd : Int) + 1)), (kTree, .int (wd : Int))]))
  have gJ : ∀ {H' : Hp}, H' d = some (.dK (wayKvs (tS mask) ah g (jS j) pb)) → DGet H' d (.str "joining") (some (.str (jS j))) := fun h => by rw [← v_joining (tl := tS mask) (ah := ah) (g := g) (j := jS j) (p := pb)]; exact DGet.k (k := kJ) h
  have gZ : ∀ {H' : Hp}, DGet (upd H' dz (.dK (mergeK [] [(kRow, V.int 1), (kParts, .int ((wd : Int) + 1)), (kTree, .int (wd : Int))]))) dz (.str (jS j)) (some (.int ((j.zeros wd : Nat) : Int))) := fun {H'} => by rw [← zeros_of j wd]; exact DGet.k (k := Sum.inr (jS j)) upd_same
  refine ⟨_, rfl, d, _, rfl, gJ (sz1 _ _ hd15), dz, _, rfl, gZ, ?_⟩
  have p16 := p15.same sz1
  have hd16 := sz1 _ _ hd15
  have h1 := h1.same sz1
  have h2 := h2.same sz1
  clear gZ sz1 p15 hd15 hdz
  refine ⟨_, rfl, v1, t1, rfl, h1, by omega, by omega, fun H17 e17 => ⟨_, rfl, rfl, _, rfl, if_f (by rw [Wd.zer]; exact ne_same _) ?_⟩⟩
  refine ⟨_, rfl, v2, plain n, rfl, h2.same e17, by omega, by omega, fun H18 e18 => ⟨rfl, _, rfl, if_f (by rw [plain_zeros]; rfl) ?_⟩⟩
  have e18 := e17.trans e18
  -- are_equal
  refine ⟨_, rfl, _, rfl, (by show 3 ≤ sizeLine; decide), fun rr hrr => ?_⟩
  have e19 := e18.trans (same_new hrr (.tup [V.str "regroup", .str "swap", .str "zero"]))
  refine ⟨v1, v2, rr, t1, plain n, n, rfl, h1.same e19, h2.same e19, by omega, by omega, Wd.its, Wp.its, by omega, upd_same, fun H20 e20 => ⟨true, true, rfl, rfl, _, rfl, if_f rfl ?_⟩⟩
  have e20 := e19.trans e20
  have p20 := p16.same e20
  have hd20 := e20 _ _ hd16
  -- one != other
  refine ⟨_, rfl, _, rfl, tmD t1, tmD (plain n), (h1.same e20).dp T, (h2.same e20).dp T, tmD_shaped (by omega), tmD_shaped (by omega), _, rfl, ?_⟩
  by_cases hs : j = .row ∨ (wd = 1 ∧ j = .tree)
  · rw [Wd.same hs, tmD_refl]
    exact if_f rfl (iteF ⟨p20, _, _, _, _, _, _, _, _, _, rfl⟩)
  · have hj : j ≠ .row := fun h => hs (.inl h)
    refine ite2 (fun _ => ?_) (fun _ => iteF ⟨p20, _, _, _, _, _, _, _, _, _, rfl⟩)
    refine ⟨_, rfl, d, _, rfl, gJ hd20, rfl, _, rfl, if_f (by rw [jS_row]; exact decide_eq_false hj) ?_⟩
    refine ⟨_, rfl, rfl, _, rfl, ?_⟩
    refine ite2 (fun c => ?_) (fun _ => iteF ⟨p20, _, _, _, _, _, _, _, _, _, rfl⟩)
    have c1 : wd = 1 := by
      have c2 := of_decide_eq_true c
      injection c2 with c3
      omega
    exact ⟨_, rfl, d, _, rfl, gJ hd20, rfl, _, rfl, if_f (by rw [jS_tree]; exact decide_eq_false fun h => hs (.inr ⟨c1, h⟩)) ⟨p20, _, _, _, _, _, _, _, _, _, rfl⟩⟩
end
end VW

set_option Elab.async false
set_option linter.all false
set_option maxRecDepth 100000
set_option maxHeartbeats 0
namespace VW
open PySem PySem.Spec PyProof.Rows L2
open He (ga ma)
theorem facts {P : Program} {w : World} {K : PySem.W.Frag} {h : Heap} {mg : Str → Option Value} {f : Addr} (X : K.In h) (G : h.Ns mainGlobals mg) (hfa : mg ("law" : Str) = some (.ref f)) (c : SaysV K) :
    ∃ fd : FuncData, (∀ (s : Shared) (v : Value), BindsTo s fd ⟨[v], []⟩ [("script", v)]) ∧ ∀ base : Heap, K.In base → base.Ns mainGlobals mg → FnOk P w K mg base C8.CX0 42 f fd ["script"] (spLaw K) := by
  have T := tx_of X G c
  obtain ⟨fd, F⟩ := T.f_law
  have e := hfa.symm.trans T.g_law
  cases e
  have b := FunD.bindsA (ps := ["script"]) F fun _ _ _ _ _ _ us hl => match us, hl with | [_], _ => rfl
  exact ⟨fd, fun s v => b s [v] rfl, fun base _ _ => ok_law T F⟩
end VW
open PySem PySem.W PySem.Calls PyProof.Rows
theorem PySem.Challenge.cw_vectorwidths_k65_whole_sums_of_numbers_holds : PySem.Challenge.rw_vectorwidths_k65_whole_sums_of_numbers.Holds := by
  w_on; o_law
  refine HandSHeadRun.head_any (r := OpenLaw.row PySem.Challenge.rw_vectorwidths_k65_whole_sums_of_numbers) (q := view (OpenLaw.row PySem.Challenge.rw_vectorwidths_k65_whole_sums_of_numbers).prog [53]) (H := VW.hookV) (ob := VW.obV) (M := 6000) (loose := VW.loose)
    (d := HandSHeadRun.topDef (OpenLaw.row PySem.Challenge.rw_vectorwidths_k65_whole_sums_of_numbers).prog 53) (kwd := []) VW.obV_eq
    (by kernel_rfl) (fun s => by kernel_rfl) VW.run (by kernel_rfl) (by kernel_rfl) (by kernel_rfl) (by rfl) (by first | assumption | decide +kernel) (by decide +kernel) ⟨rfl, rfl, rfl, rfl, rfl, by decide +kernel⟩ ?hw ?hc
  case hw => w_witness2
  case hc =>
    refine L2.walk_ofE (l := PySem.Challenge.rw_vectorwidths_k65_whole_sums_of_numbers) (n := 63) (k := 42) (x := "script") (CX := C8.CX0) rfl (by decide) (by kernel_rfl) ⟨rfl, by decide, by decide⟩ ?F (fun _ _ _ _ z => z)
    intro w mg fa h Y G hmg0
    obtain ⟨K, KX, c⟩ := Y
    have hmg : mg ("law" : PySem.Str) = some (.ref fa) := by
      have e : (HandSHeadRun.topDef (OpenLaw.row PySem.Challenge.rw_vectorwidths_k65_whole_sums_of_numbers).prog 53).name = ("law" : PySem.Str) := by kernel_rfl
      rw [← e]
      exact hmg0
    obtain ⟨fd, hb, hF⟩ := VW.facts (P := (PySem.Challenge.rw_vectorwidths_k65_whole_sums_of_numbers).prog) (w := w) KX G hmg c
    exact ⟨K, fd, VW.spLaw K, KX, hb, fun H a ns hl _ hS => ⟨a, ns, rfl, hS, hl, fun _ => rfl⟩, hF⟩
