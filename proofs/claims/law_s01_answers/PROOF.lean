import PyProof.Rows.All
import Wide.All
import OpenK.AllK
import Wide.FinOn
import Open.SpecLaws
import KE.OsGo
import KE.HD4
import KE.KNestM
import HandS.ForSpec
import HandS.HeadHook2
import HandS.Lambda
import HandS.Comp
import HandS.WideBits
import KE.KLam
import KE.SortKeyHeap
import KE.SortData
import HandS.SortKw
import PySem.Challenge.RW_breakrows_s01_answers
set_option Elab.async false
set_option linter.all false
set_option maxRecDepth 100000
set_option maxHeartbeats 8000000
/-! The wood as plain numbers: what each def computes. -/
namespace Br
structure W where
  cells : Nat
  most : Nat
  rock : Nat
  fire : Nat
  worths : List Nat
  beside : List Nat
/-- how many bits a number has -/
def bl (n : Nat) : Nat := if n = 0 then 0 else n.log2 + 1
def members (n : Nat) : List Nat := (List.range (bl n)).filter fun c => n.testBit c
/-- the bits of x that y lacks -/
def diff (x y : Nat) : Nat := x - (x &&& y)
def nearTo (m : W) (b : Nat) : Nat → Nat
  | 0 => 0
  | c + 1 => if b.testBit c = true then nearTo m b c ||| m.beside.getD c 0 else nearTo m b c
def near (m : W) (b : Nat) : Nat := nearTo m b m.cells
/-- what burns behind so many minutes -/
def burn (m : W) (dug : Nat) : Nat → Nat
  | 0 => m.fire
  | i + 1 => burn m dug i ||| diff (near m (burn m dug i)) (dug ||| m.rock)
/-- a cell's minute, as the first i minutes tell it -/
def tmTo (m : W) (dug : Nat) : Nat → Nat → Int
  | 0, _ => -1
  | i + 1, c => if tmTo m dug i c = -1 ∧ (near m (burn m dug i)).testBit c = true then (i : Int) else tmTo m dug i c
def tm (m : W) (dug c : Nat) : Int := tmTo m dug (m.cells + 1) c
def times (m : W) (dug : Nat) : List Int := (List.range m.cells).map (tm m dug)
def row (m : W) (dug : Nat) : List Int := ((members dug).filter fun c => !decide (tm m dug c = -1)).map (tm m dug)
def early (m : W) (dug n : Nat) : Nat := ((row m dug).filter fun t => decide (t < (n : Int))).length
def isLate (m : W) (dug n : Nat) : Bool := decide (n * m.most < early m dug n)
/-- the least n from a on, at most k further -/
def tooFrom (m : W) (dug : Nat) : Nat → Nat → Nat × Nat
  | 0, _ => (0, 0)
  | k + 1, a => if isLate m dug a = true then (a, early m dug a) else tooFrom m dug k (a + 1)
def tooMany (m : W) (dug : Nat) : Nat × Nat := tooFrom m dug (m.cells + 1) 1
def inTime (m : W) (dug : Nat) : Bool := if m.most = 0 then decide (dug = 0) else decide (tooMany m dug = (0, 0))
def free (m : W) (dug : Nat) : Bool := decide (dug &&& (m.rock ||| m.fire) = 0)
/-- the order of two cells -/
def sooner (m : W) (dug a b : Nat) : Bool :=
  if tm m dug a = -1 then decide (tm m dug b = -1 ∧ a ≤ b)
  else decide (tm m dug b = -1 ∨ tm m dug a < tm m dug b ∨ (tm m dug a = tm m dug b ∧ a ≤ b))
def order (m : W) (dug : Nat) : List Nat := (members dug).mergeSort (sooner m dug)
def loses (m : W) (dug : Nat) : Nat := ((members (burn m dug m.cells)).map fun c => m.worths.getD c 0).sum
/-- the best of the sets below q: the set, what it loses and how many cells it has, how many are as good -/
def bestTo (m : W) : Nat → Nat × Option (Nat × Nat) × Nat
  | 0 => (0, none, 0)
  | q + 1 =>
    let s := bestTo m q
    if (free m q && inTime m q) = true then
      match s.2.1 with
      | none => (q, some (loses m q, (members q).length), 1)
      | some k => if loses m q < k.1 ∨ (loses m q = k.1 ∧ (members q).length < k.2) then (q, some (loses m q, (members q).length), 1)
        else if loses m q = k.1 ∧ (members q).length = k.2 then (s.1, some k, s.2.2 + 1) else s
    else s
def join (b : List Nat) (one other : Nat) : List Nat :=
  let c := b.set one (b.getD one 0 + 2 ^ other)
  c.set other (c.getD other 0 + 2 ^ one)
def besTo (wide cells : Nat) : Nat → List Nat
  | 0 => List.replicate cells 0
  | c + 1 =>
    let b := besTo wide cells c
    let b1 := if c % wide + 1 < wide then join b c (c + 1) else b
    if c + wide < cells then join b1 c (c + wide) else b1
def W.mk' (wide high most : Nat) : W := ⟨wide * high, most, 0, 0, List.replicate (wide * high) 1, besTo wide (wide * high) (wide * high)⟩
/-! ### the calls -/
def isWood (wide high most : Nat) : Bool := decide (2 ≤ wide ∧ wide ≤ 4 ∧ 2 ≤ high ∧ high ≤ 3 ∧ most ≤ 3)
def cast (l : List Nat) : List Int := l.map fun (n : Nat) => (n : Int)
def setRock (m : W) (c : Nat) : W := { m with rock := m.rock + 2 ^ c }
def setFire (m : W) (c : Nat) : W := { m with fire := m.fire + 2 ^ c }
def setCell (m : W) (call c : Nat) : W × List Int :=
  if m.cells ≤ c then (m, [-2])
  else if (m.rock ||| m.fire).testBit c = true then (m, [-4])
  else if call = 1 then (setRock m c, [((members (m.rock + 2 ^ c)).length : Nat)])
  else (setFire m c, [((members (m.fire + 2 ^ c)).length : Nat)])
def setWorths (m : W) (l : List Nat) : W × List Int :=
  if l.length ≠ m.cells ∨ (l.any fun n => decide (1000 < n)) = true then (m, [-1]) else ({ m with worths := l }, [0])
def after (m : W) (q n : Nat) : List Int :=
  if ¬ q < 2 ^ m.cells ∨ 1000 < n then [-1]
  else if free m q = false then [-4]
  else (((members (burn m q (min n m.cells))).length : Nat) : Int) :: cast (members (burn m q (min n m.cells)))
def check (m : W) (q : Nat) : List Int :=
  if ¬ q < 2 ^ m.cells then [-1]
  else if free m q = false then [-4]
  else if m.most = 0 ∧ q ≠ 0 then [-7]
  else if (tooMany m q).1 ≠ 0 then [-6, ((tooMany m q).1 : Nat), ((tooMany m q).2 : Nat)]
  else (loses m q : Nat) :: ((members (burn m q m.cells)).length : Nat) :: cast (order m q)
def tellBest (m : W) : List Int :=
  let s := bestTo m (2 ^ m.cells)
  (((s.2.1.getD (0, 0)).1 : Nat) : Int) :: ((members s.1).length : Nat) :: (s.2.2 : Nat) :: cast (order m s.1)
def resultOf (m : W) (call : Nat) (nums rows : List Nat) : W × List Int :=
  if call = 1 ∨ call = 2 then setCell m call (nums.getD 0 0)
  else if call = 3 then setWorths m rows
  else if call = 4 then (m, after m (nums.getD 0 0) (nums.getD 1 0))
  else if call = 5 then (m, check m (nums.getD 0 0))
  else (m, tellBest m)
def turn (m : W) (call : Nat) (nums rows : List Nat) : W × List Int :=
  if call ≠ 0 then resultOf m call nums rows
  else if isWood (nums.getD 0 0) (nums.getD 1 0) (nums.getD 2 0) = true then (W.mk' (nums.getD 0 0) (nums.getD 1 0) (nums.getD 2 0), [((nums.getD 0 0 * nums.getD 1 0 : Nat) : Int)])
  else (m, [-1])
end Br

namespace Br
/-! ### bits -/
theorem tb_lt {n k c : Nat} (h : n < 2 ^ k) (hc : k ≤ c) : n.testBit c = false :=
  Nat.testBit_lt_two_pow (Nat.lt_of_lt_of_le h (Nat.pow_le_pow_right (by decide) hc))
theorem lt_of_tb {n k : Nat} (h : ∀ c, k ≤ c → n.testBit c = false) : n < 2 ^ k := by
  apply Nat.lt_of_not_le
  intro q
  obtain ⟨i, h1, h2⟩ := Nat.exists_ge_and_testBit_of_ge_two_pow q
  rw [h i h1] at h2
  cases h2
theorem lt_bl (n : Nat) : n < 2 ^ bl n := by
  unfold bl
  split
  · omega
  · exact Nat.lt_log2_self
theorem bl_le {n k : Nat} (h : n < 2 ^ k) : bl n ≤ k := by
  unfold bl
  split
  · omega
  · rename_i q
    have := (Nat.log2_lt q).mpr h
    omega
theorem filter_range_le (p : Nat → Bool) {j k : Nat} (h : j ≤ k) (hp : ∀ c, j ≤ c → p c = false) : (List.range k).filter p = (List.range j).filter p := by
  induction k with
  | zero =>
    have : j = 0 := by omega
    rw [this]
  | succ k ih =>
    by_cases e : j = k + 1
    · rw [e]
    · rw [List.range_succ, List.filter_append, ih (by omega)]
      simp [hp k (by omega)]
theorem members_eq {n k : Nat} (h : n < 2 ^ k) : members n = (List.range k).filter fun c => n.testBit c := by
  unfold members
  exact (filter_range_le _ (bl_le h) fun c hc => tb_lt (lt_bl n) hc).symm
theorem mem_members {n c : Nat} : c ∈ members n ↔ n.testBit c = true := by
  unfold members
  rw [List.mem_filter, List.mem_range]
  constructor
  · exact fun h => h.2
  · intro h
    refine ⟨?_, h⟩
    apply Nat.lt_of_not_le
    intro q
    rw [tb_lt (lt_bl n) q] at h
    cases h
theorem members_nodup (n : Nat) : (members n).Nodup := List.Pairwise.filter _ List.nodup_range
theorem members_lt {n k : Nat} (h : n < 2 ^ k) : ∀ c ∈ members n, c < k := by
  intro c hc
  apply Nat.lt_of_not_le
  intro q
  rw [mem_members, tb_lt h q] at hc
  cases hc
theorem members_nil {n : Nat} : members n = [] ↔ n = 0 := by
  constructor
  · intro h
    apply Nat.eq_of_testBit_eq
    intro i
    rw [Nat.zero_testBit]
    cases e : n.testBit i with
    | false => rfl
    | true =>
      have := mem_members.mpr e
      rw [h] at this
      cases this
  · intro h
    rw [h]
    rfl
theorem members_len {n k : Nat} (h : n < 2 ^ k) : (members n).length ≤ k := by
  rw [members_eq h]
  have := List.length_filter_le (fun c => n.testBit c) (List.range k)
  rw [List.length_range] at this
  exact this
theorem add_or {a b : Nat} (h : a &&& b = 0) : a + b = a ||| b := by
  have e := BitVec.add_eq_or_of_and_eq_zero (BitVec.ofNat (a + b + 1) a) (BitVec.ofNat (a + b + 1) b) (by
    apply BitVec.eq_of_toNat_eq
    have h1 : a < 2 ^ (a + b + 1) := Nat.lt_of_lt_of_le Nat.lt_two_pow_self (Nat.pow_le_pow_right (by decide) (by omega))
    have h2 : b < 2 ^ (a + b + 1) := Nat.lt_of_lt_of_le Nat.lt_two_pow_self (Nat.pow_le_pow_right (by decide) (by omega))
    rw [BitVec.toNat_and, BitVec.toNat_ofNat, BitVec.toNat_ofNat, Nat.mod_eq_of_lt h1, Nat.mod_eq_of_lt h2, h]
    simp)
  have h0 : a + b < 2 ^ (a + b + 1) := Nat.lt_of_lt_of_le Nat.lt_two_pow_self (Nat.pow_le_pow_right (by decide) (by omega))
  have h1 : a < 2 ^ (a + b + 1) := by omega
  have h2 : b < 2 ^ (a + b + 1) := by omega
  have e2 := congrArg BitVec.toNat e
  rw [BitVec.toNat_add, BitVec.toNat_or, BitVec.toNat_ofNat, BitVec.toNat_ofNat, Nat.mod_eq_of_lt h1, Nat.mod_eq_of_lt h2, Nat.mod_eq_of_lt h0] at e2
  exact e2
theorem tb_diff (x y c : Nat) : (diff x y).testBit c = (x.testBit c && !y.testBit c) := by
  have h : (x ^^^ (x &&& y)) &&& (x &&& y) = 0 := by
    apply Nat.eq_of_testBit_eq
    intro i
    simp only [Nat.testBit_and, Nat.testBit_xor, Nat.zero_testBit]
    cases x.testBit i <;> cases y.testBit i <;> rfl
  have e := add_or h
  have e2 : (x ^^^ (x &&& y)) ||| (x &&& y) = x := by
    apply Nat.eq_of_testBit_eq
    intro i
    simp only [Nat.testBit_and, Nat.testBit_xor, Nat.testBit_or]
    cases x.testBit i <;> cases y.testBit i <;> rfl
  have e3 : diff x y = x ^^^ (x &&& y) := by
    unfold diff
    omega
  rw [e3]
  simp only [Nat.testBit_and, Nat.testBit_xor]
  cases x.testBit c <;> cases y.testBit c <;> rfl
theorem tb_add {n c : Nat} (h : n.testBit c = false) (i : Nat) : (n + 2 ^ c).testBit i = (n.testBit i || decide (c = i)) := by
  have z : n &&& 2 ^ c = 0 := by
    apply Nat.eq_of_testBit_eq
    intro j
    rw [Nat.testBit_and, Nat.testBit_two_pow, Nat.zero_testBit]
    by_cases q : c = j
    · rw [← q, h]
      rfl
    · simp [q]
  rw [add_or z, Nat.testBit_or, Nat.testBit_two_pow]
theorem len_filter_or (p : Nat → Bool) {c : Nat} (hp : p c = false) : ∀ k, ((List.range k).filter fun i => p i || decide (c = i)).length = ((List.range k).filter p).length + (if c < k then 1 else 0)
  | 0 => by simp
  | k + 1 => by
    rw [List.range_succ, List.filter_append, List.filter_append, List.length_append, List.length_append, len_filter_or p hp k]
    by_cases q : c = k
    · subst q
      simp [hp]
    · by_cases q2 : c < k
      · have q3 : c < k + 1 := by omega
        cases e : p k <;> simp [q, q2, q3, e] <;> omega
      · have q3 : ¬ c < k + 1 := by omega
        cases e : p k <;> simp [q, q2, q3, e]
theorem len_add {n k c : Nat} (h : n < 2 ^ k) (hc : c < k) (hb : n.testBit c = false) : n + 2 ^ c < 2 ^ k ∧ (members (n + 2 ^ c)).length = (members n).length + 1 := by
  have l : n + 2 ^ c < 2 ^ k := lt_of_tb fun i hi => by
    rw [tb_add hb, tb_lt h hi]
    have : ¬ c = i := by omega
    simp [this]
  refine ⟨l, ?_⟩
  rw [members_eq l, members_eq h]
  have e : (fun i => (n + 2 ^ c).testBit i) = fun i => n.testBit i || decide (c = i) := funext fun i => tb_add hb i
  rw [e, len_filter_or _ hb, if_pos hc]
end Br

namespace Br
/-! ### the wood of the document and the wood of numbers -/
structure Rel (w : Uw34.Wood) (m : W) : Prop where
  wide : w.wide = 2 ∨ w.wide = 3 ∨ w.wide = 4
  high : w.high = 2 ∨ w.high = 3
  cells : m.cells = w.wide * w.high
  most : m.most = w.dig
  dig : m.most ≤ 3
  rock : ∀ c, m.rock.testBit c = w.rock.contains c
  fire : ∀ c, m.fire.testBit c = w.fire.contains c
  rockLt : m.rock < 2 ^ m.cells
  fireLt : m.fire < 2 ^ m.cells
  rockLen : w.rock.length = (members m.rock).length
  fireLen : w.fire.length = (members m.fire).length
  worthLen : m.worths.length = m.cells
  worthLe : ∀ n ∈ m.worths, n ≤ 1000
  worth : ∀ c, c < m.cells → m.worths.getD c 0 = w.worth.getD c 1
  besLen : m.beside.length = m.cells
  bes : ∀ a c, a < m.cells → (m.beside.getD a 0).testBit c = (decide (c < m.cells) && w.beside a c)
section
variable {w : Uw34.Wood} {m : W}
theorem Rel.wc (R : Rel w m) : w.cells = m.cells := R.cells.symm
theorem Rel.bound (R : Rel w m) : 4 ≤ m.cells ∧ m.cells ≤ 12 := by
  rw [R.cells]
  rcases R.wide with e | e | e <;> rcases R.high with q | q <;> rw [e, q] <;> decide
theorem Rel.mem (R : Rel w m) {q : Nat} (h : q < 2 ^ m.cells) : w.members q = members q := by
  unfold Uw34.Wood.members
  rw [R.wc, members_eq h]
theorem tb_nearTo (m : W) (b c : Nat) : ∀ i, (nearTo m b i).testBit c = (List.range i).any fun a => b.testBit a && (m.beside.getD a 0).testBit c
  | 0 => by
    show (0 : Nat).testBit c = _
    simp
  | i + 1 => by
    have ih := tb_nearTo m b c i
    rw [List.range_succ, List.any_append, ← ih]
    show (if b.testBit i = true then nearTo m b i ||| m.beside.getD i 0 else nearTo m b i).testBit c = _
    by_cases h : b.testBit i = true
    · rw [if_pos h, Nat.testBit_or]
      simp [h]
    · rw [if_neg h]
      have h' : b.testBit i = false := by simpa using h
      simp [h']
theorem any_range_members {b k : Nat} (h : b < 2 ^ k) (p : Nat → Bool) : ((List.range k).any fun a => b.testBit a && p a) = (members b).any p := by
  rw [members_eq h, List.any_filter]
/-- near: just the cells beside one that burns -/
theorem tb_near (R : Rel w m) {b : Nat} (h : b < 2 ^ m.cells) (c : Nat) : (near m b).testBit c = (decide (c < m.cells) && (members b).any fun a => w.beside a c) := by
  unfold near
  rw [tb_nearTo, ← any_range_members h]
  have e : ((List.range m.cells).any fun a => b.testBit a && (m.beside.getD a 0).testBit c) = (List.range m.cells).any fun a => b.testBit a && (decide (c < m.cells) && w.beside a c) := by
    rw [Bool.eq_iff_iff, List.any_eq_true, List.any_eq_true]
    constructor
    · rintro ⟨a, ha, q⟩
      rw [R.bes a c (List.mem_range.mp ha)] at q
      exact ⟨a, ha, q⟩
    · rintro ⟨a, ha, q⟩
      rw [← R.bes a c (List.mem_range.mp ha)] at q
      exact ⟨a, ha, q⟩
  rw [e]
  by_cases hc : c < m.cells
  · simp [hc]
  · simp [hc]
theorem near_lt (R : Rel w m) {b : Nat} (h : b < 2 ^ m.cells) : near m b < 2 ^ m.cells := lt_of_tb fun c hc => by
  rw [tb_near R h]
  have : ¬ c < m.cells := by omega
  simp [this]
theorem burn_lt (R : Rel w m) (dug : Nat) : ∀ i, burn m dug i < 2 ^ m.cells
  | 0 => R.fireLt
  | i + 1 => lt_of_tb fun c hc => by
    have ih := burn_lt R dug i
    show (burn m dug i ||| diff (near m (burn m dug i)) (dug ||| m.rock)).testBit c = false
    rw [Nat.testBit_or, tb_diff, tb_lt ih hc, tb_lt (near_lt R ih) hc]
    rfl
theorem tb_contains {n k c : Nat} (_h : n < 2 ^ k) : (members n).contains c = n.testBit c := by
  rw [Bool.eq_iff_iff, List.contains_iff_mem, mem_members]
/-- what burns behind i minutes -/
theorem after_is (R : Rel w m) {dug : Nat} (h : dug < 2 ^ m.cells) : ∀ i, w.after (w.members dug) i = members (burn m dug i)
  | 0 => by
    show (List.range w.cells).filter (fun c => w.fire.contains c) = members m.fire
    rw [members_eq R.fireLt, R.wc]
    exact congrArg (fun p => List.filter p _) (funext fun c => (R.fire c).symm)
  | i + 1 => by
    have ih := after_is R h i
    have hb := burn_lt R dug i
    show w.spread (w.members dug) (w.after (w.members dug) i) = members (burn m dug (i + 1))
    rw [ih, members_eq (burn_lt R dug (i + 1)), R.mem h]
    unfold Uw34.Wood.spread
    rw [R.wc]
    refine List.filter_congr fun c hc => ?_
    have hc' : c < m.cells := List.mem_range.mp hc
    show _ = (burn m dug i ||| diff (near m (burn m dug i)) (dug ||| m.rock)).testBit c
    rw [Nat.testBit_or, tb_diff, tb_near R hb, Nat.testBit_or, tb_contains hb, tb_contains h, R.rock]
    simp only [hc', decide_true, Bool.true_and]
    cases (burn m dug i).testBit c <;> cases w.rock.contains c <;> cases dug.testBit c <;> simp
/-! ### minutes -/
theorem stages_is (q : List Nat) : ∀ (n i : Nat), w.stages q n (w.after q i) = (List.range (n + 1)).map fun j => w.after q (i + j)
  | 0, i => rfl
  | n + 1, i => by
    show w.after q i :: w.stages q n (w.after q (i + 1)) = _
    rw [stages_is q n (i + 1), List.range_succ_eq_map (n := n + 1), List.map_cons, List.map_map]
    refine congrArg (List.cons _) (List.map_congr_left fun j _ => ?_)
    show w.after q (i + 1 + j) = w.after q (i + (j + 1))
    have : i + 1 + j = i + (j + 1) := by omega
    rw [this]
/-- the first of so many of which p is true -/
def ft (p : Nat → Bool) : Nat → Option Nat
  | 0 => none
  | i + 1 => match ft p i with
    | some j => some j
    | none => if p i = true then some i else none
theorem ft_some {p : Nat → Bool} {i j : Nat} (h : ft p i = some j) : ft p (i + 1) = some j := by
  show (match ft p i with
    | some j => some j
    | none => if p i = true then some i else none) = some j
  rw [h]
theorem ft_none {p : Nat → Bool} {i : Nat} (h : ft p i = none) : ft p (i + 1) = if p i = true then some i else none := by
  show (match ft p i with
    | some j => some j
    | none => if p i = true then some i else none) = _
  rw [h]
theorem ft_is {α : Type} (f : Nat → α) (p : α → Bool) : ∀ n, ((List.range n).map f).findIdx? p = ft (fun i => p (f i)) n
  | 0 => rfl
  | n + 1 => by
    rw [List.range_succ, List.map_append, List.findIdx?_append, ft_is f p n]
    have hl : ((List.range n).map f).length = n := by simp
    cases e : ft (fun i => p (f i)) n with
    | some j =>
      rw [ft_some e]
      simp
    | none =>
      rw [hl, ft_none e]
      cases q : p (f n) with
      | true => simp [List.findIdx?_cons, q]
      | false => simp [List.findIdx?_cons, q]
def toTm : Option Nat → Int
  | none => -1
  | some k => (k : Int)
theorem ft_lt (p : Nat → Bool) : ∀ n k, ft p n = some k → k < n
  | 0, _, h => by cases h
  | n + 1, k, h => by
    cases e : ft p n with
    | some j =>
      rw [ft_some e] at h
      cases h
      have := ft_lt p n k e
      omega
    | none =>
      rw [ft_none e] at h
      by_cases q : p n = true
      · rw [if_pos q] at h
        cases h
        omega
      · rw [if_neg q] at h
        cases h
theorem tmTo_is (m : W) (dug c : Nat) : ∀ i, tmTo m dug i c = toTm (ft (fun j => (near m (burn m dug j)).testBit c) i)
  | 0 => rfl
  | i + 1 => by
    have ih := tmTo_is m dug c i
    show (if tmTo m dug i c = -1 ∧ (near m (burn m dug i)).testBit c = true then (i : Int) else tmTo m dug i c) = _
    rw [ih]
    cases e : ft (fun j => (near m (burn m dug j)).testBit c) i with
    | some j =>
      rw [ft_some e]
      have : ¬ (toTm (some j) = -1 ∧ (near m (burn m dug i)).testBit c = true) := fun z => by
        have z1 : (j : Int) = -1 := z.1
        omega
      rw [if_neg this]
    | none =>
      rw [ft_none e]
      by_cases q : (near m (burn m dug i)).testBit c = true
      · simp [q, toTm]
      · simp [q, toTm]
/-- the minute of a cell -/
theorem tm_is (R : Rel w m) {dug : Nat} (h : dug < 2 ^ m.cells) {c : Nat} (hc : c < m.cells) : tm m dug c = toTm (w.comes (w.members dug) c) := by
  unfold tm Uw34.Wood.comes Uw34.Wood.all_
  rw [tmTo_is]
  have e := stages_is (w := w) (w.members dug) w.cells 0
  rw [e, ft_is, R.wc]
  refine congrArg (fun p => toTm (ft p (m.cells + 1))) (funext fun j => ?_)
  rw [tb_near R (burn_lt R dug j), Nat.zero_add, after_is R h]
  simp [hc]
theorem comes_lt (q : List Nat) (c k : Nat) (h : w.comes q c = some k) : k ≤ w.cells := by
  unfold Uw34.Wood.comes Uw34.Wood.all_ at h
  rw [stages_is q w.cells 0, ft_is] at h
  have := ft_lt _ _ _ h
  omega
theorem tm_bound (m : W) (dug c : Nat) : -1 ≤ tm m dug c ∧ tm m dug c ≤ m.cells := by
  unfold tm
  rw [tmTo_is]
  cases e : ft (fun j => (near m (burn m dug j)).testBit c) (m.cells + 1) with
  | none => exact ⟨Int.le_refl _, by show (-1 : Int) ≤ _; omega⟩
  | some k =>
    have := ft_lt _ _ _ e
    exact ⟨by show (-1 : Int) ≤ (k : Int); omega, by show (k : Int) ≤ _; omega⟩
end
end Br

namespace Br
section
variable {w : Uw34.Wood} {m : W}
/-! ### in time -/
theorem dueBy_row (g : Nat → Option Nat) (t : Nat → Int) (n : Nat) : ∀ l : List Nat, (∀ c ∈ l, t c = toTm (g c)) →
    Uw34.dueBy (l.map g) n = (((l.filter fun c => !decide (t c = -1)).map t).filter fun x => decide (x < (n : Int))).length
  | [], _ => rfl
  | c :: l, h => by
    have ih := dueBy_row g t n l fun x hx => h x (List.mem_cons_of_mem _ hx)
    have hc := h c (List.mem_cons_self ..)
    unfold Uw34.dueBy at ih ⊢
    rw [List.map_cons, List.filter_cons, List.filter_cons]
    cases e : g c with
    | none =>
      rw [e] at hc
      have hc' : t c = -1 := hc
      simp only [hc', decide_true, Bool.not_true, Bool.false_eq_true, if_false]
      exact ih
    | some k =>
      rw [e] at hc
      have hc' : t c = (k : Int) := hc
      have h1 : ¬ t c = -1 := by omega
      simp only [h1, decide_false, Bool.not_false, if_true, List.map_cons, List.filter_cons]
      by_cases q : k < n
      · have q' : t c < (n : Int) := by omega
        simp only [q, q', decide_true, if_true, List.length_cons]
        rw [ih]
      · have q' : ¬ t c < (n : Int) := by omega
        simp only [q, q', decide_false, Bool.false_eq_true, if_false]
        exact ih
theorem times_is (q : List Nat) : w.times q = q.map fun c => w.comes q c := rfl
theorem early_is (R : Rel w m) {dug : Nat} (h : dug < 2 ^ m.cells) (n : Nat) : w.due (w.members dug) n = early m dug n := by
  unfold Uw34.Wood.due early row
  rw [times_is, R.mem h]
  refine dueBy_row _ _ n _ fun c hc => ?_
  rw [tm_is R h (members_lt h c hc), R.mem h]
theorem tooFrom_is (m : W) (dug : Nat) : ∀ k a, tooFrom m dug k a = match (List.range' a k).find? (isLate m dug) with
    | some n => (n, early m dug n)
    | none => (0, 0)
  | 0, a => rfl
  | k + 1, a => by
    rw [List.range'_succ, List.find?_cons]
    show (if isLate m dug a = true then (a, early m dug a) else tooFrom m dug k (a + 1)) = _
    cases e : isLate m dug a with
    | true => rfl
    | false =>
      rw [if_neg Bool.false_ne_true, tooFrom_is m dug k (a + 1)]
theorem late_is (R : Rel w m) {dug : Nat} (h : dug < 2 ^ m.cells) : w.late (w.members dug) = (List.range' 1 (m.cells + 1)).find? (isLate m dug) := by
  have e : w.late (w.members dug) = (List.range (w.cells + 2)).find? fun n => decide (w.dig * n < w.due (w.members dug) n) := rfl
  rw [e, R.wc]
  have e2 : (fun n => decide (w.dig * n < w.due (w.members dug) n)) = isLate m dug := funext fun n => by
    unfold isLate
    rw [early_is R h, R.most, Nat.mul_comm]
  rw [e2, List.range_eq_range', List.range'_succ, List.find?_cons]
  have e3 : isLate m dug 0 = false := by
    unfold isLate
    have : early m dug 0 = 0 := by
      unfold early
      rw [List.length_eq_zero_iff, List.filter_eq_nil_iff]
      intro t ht
      unfold row at ht
      obtain ⟨c, hc, rfl⟩ := List.mem_map.mp ht
      have h2 := (List.mem_filter.mp hc).2
      have h3 := (tm_bound m dug c).1
      have h4 : ¬ tm m dug c = -1 := by simpa using h2
      simp
      omega
    rw [this]
    simp
  rw [e3]
theorem late_some (R : Rel w m) {dug n : Nat} (h : dug < 2 ^ m.cells) (e : w.late (w.members dug) = some n) : tooMany m dug = (n, early m dug n) ∧ n ≠ 0 := by
  rw [late_is R h] at e
  unfold tooMany
  rw [tooFrom_is, e]
  refine ⟨rfl, ?_⟩
  have := List.mem_of_find?_eq_some e
  rw [List.mem_range'_1] at this
  omega
theorem late_none (R : Rel w m) {dug : Nat} (h : dug < 2 ^ m.cells) (e : w.late (w.members dug) = none) : tooMany m dug = (0, 0) := by
  rw [late_is R h] at e
  unfold tooMany
  rw [tooFrom_is, e]
theorem free_is (R : Rel w m) {dug : Nat} (h : dug < 2 ^ m.cells) : w.free (w.members dug) = free m dug := by
  unfold Uw34.Wood.free free
  rw [R.mem h, Bool.eq_iff_iff, List.all_eq_true, decide_eq_true_eq]
  constructor
  · intro z
    apply Nat.eq_of_testBit_eq
    intro c
    rw [Nat.testBit_and, Nat.testBit_or, Nat.zero_testBit]
    cases e : dug.testBit c with
    | false => rfl
    | true =>
      have q := z c (mem_members.mpr e)
      rw [R.rock, R.fire]
      revert q
      cases w.rock.contains c <;> cases w.fire.contains c <;> simp
  · intro z c hc
    have e := mem_members.mp hc
    have q := congrArg (fun n => n.testBit c) z
    simp only [Nat.testBit_and, Nat.testBit_or, Nat.zero_testBit, e, Bool.true_and, R.rock, R.fire] at q
    have hl := members_lt h c hc
    rw [R.wc]
    revert q
    simp only [hl, decide_true, Bool.true_and]
    cases w.rock.contains c <;> cases w.fire.contains c <;> simp
theorem idle_is (R : Rel w m) {dug : Nat} (h : dug < 2 ^ m.cells) : w.idle (w.members dug) = decide (m.most = 0 ∧ dug ≠ 0) := by
  unfold Uw34.Wood.idle
  rw [R.mem h, ← R.most, Bool.eq_iff_iff]
  simp [members_nil]
theorem early_zero (m : W) (n : Nat) : early m 0 n = 0 := by
  have : members 0 = [] := rfl
  unfold early row
  rw [this]
  rfl
theorem right_is (R : Rel w m) {dug : Nat} (h : dug < 2 ^ m.cells) : w.right (w.members dug) = (free m dug && inTime m dug) := by
  unfold Uw34.Wood.right
  rw [free_is R h, idle_is R h]
  refine congrArg _ ?_
  unfold inTime
  by_cases hm : m.most = 0
  · rw [if_pos hm]
    by_cases hd : dug = 0
    · subst hd
      have : w.late (w.members 0) = none := by
        rw [late_is R h, List.find?_eq_none]
        intro n _
        unfold isLate
        rw [early_zero]
        simp
      rw [this]
      simp [hm]
    · simp [hm, hd]
  · rw [if_neg hm]
    cases e : w.late (w.members dug) with
    | none =>
      rw [late_none R h e]
      simp [hm]
    | some n =>
      obtain ⟨e1, e2⟩ := late_some R h e
      rw [e1]
      simp [hm, e2]
/-! ### what is lost -/
theorem total_is : ∀ (l : List Nat) (a : Nat), l.foldl (fun a b => a + b) a = a + l.sum
  | [], a => by simp
  | x :: l, a => by
    rw [List.foldl_cons, total_is l, List.sum_cons]
    omega
theorem loses_is (R : Rel w m) {dug : Nat} (h : dug < 2 ^ m.cells) : w.loss (w.members dug) = loses m dug := by
  unfold Uw34.Wood.loss Uw34.total Uw34.Wood.burnt loses
  rw [total_is, R.wc, after_is R h, Nat.zero_add]
  refine congrArg List.sum (List.map_congr_left fun c hc => ?_)
  exact (R.worth c (members_lt (burn_lt R dug m.cells) c hc)).symm
theorem loses_le (R : Rel w m) (dug : Nat) : loses m dug ≤ 12000 := by
  have gen : ∀ (l : List Nat), (l.map fun c => m.worths.getD c 0).sum ≤ 1000 * l.length := by
    intro l
    induction l with
    | nil => simp
    | cons c l ih =>
      rw [List.map_cons, List.sum_cons, List.length_cons]
      have : m.worths.getD c 0 ≤ 1000 := by
        rw [List.getD_eq_getElem?_getD]
        cases e : m.worths[c]? with
        | none => simp
        | some n => exact R.worthLe n (List.mem_of_getElem? e)
      omega
  have h1 := gen (members (burn m dug m.cells))
  have h2 := members_len (burn_lt R dug m.cells)
  have h3 := R.bound
  unfold loses
  omega
/-! ### the order -/
/-- the document's order of two cells, told with no minutes but numbers -/
def lessTm (t : Nat → Int) (a b : Nat) : Bool :=
  if t a = -1 then decide (t b = -1 ∧ a < b) else decide (t b = -1 ∨ t a < t b ∨ (t a = t b ∧ a < b))
theorem lessTm_comes (q : List Nat) (t : Nat → Int) {a b : Nat} (ha : t a = toTm (w.comes q a)) (hb : t b = toTm (w.comes q b)) : w.sooner q a b = lessTm t a b := by
  unfold Uw34.Wood.sooner lessTm
  rw [ha, hb]
  cases e1 : w.comes q a with
  | none =>
    cases e2 : w.comes q b with
    | none => simp [toTm]
    | some n =>
      have : ¬ toTm (some n) = -1 := by show ¬ (n : Int) = -1; omega
      simp [toTm]
  | some k =>
    have h1 : ¬ toTm (some k) = -1 := by show ¬ (k : Int) = -1; omega
    rw [if_neg h1]
    cases e2 : w.comes q b with
    | none => simp [toTm]
    | some n =>
      have h2 : ¬ toTm (some n) = -1 := by show ¬ (n : Int) = -1; omega
      rw [Bool.eq_iff_iff]
      simp only [h2, false_or, decide_eq_true_eq, Bool.or_eq_true, Bool.and_eq_true, beq_iff_eq]
      show _ ↔ (k : Int) < (n : Int) ∨ ((k : Int) = (n : Int) ∧ a < b)
      omega
theorem lessTm_irrefl_trans {t : Nat → Int} {a b c : Nat} (h1 : lessTm t a b = true) (h2 : lessTm t b c = true) : lessTm t a c = true := by
  unfold lessTm at *
  split at h1 <;> split at h2 <;> simp only [decide_eq_true_eq] at * <;> (try split) <;> simp only [decide_eq_true_eq] <;> omega
theorem lessTm_total {t : Nat → Int} {a b : Nat} (h : lessTm t a b = false) (ne : a ≠ b) : lessTm t b a = true := by
  unfold lessTm at *
  split at h <;> split <;> simp only [decide_eq_true_eq, decide_eq_false_iff_not] at * <;> omega
theorem lessTm_asymm {t : Nat → Int} {a b : Nat} (h1 : lessTm t a b = true) (h2 : lessTm t b a = true) : False := by
  unfold lessTm at *
  split at h1 <;> split at h2 <;> simp only [decide_eq_true_eq] at * <;> omega
/-- one cell put in its place -/
theorem put_is (q : List Nat) (t : Nat → Int) (a : Nat) (ha : t a = toTm (w.comes q a)) : ∀ l : List Nat, (∀ b ∈ l, t b = toTm (w.comes q b)) → a ∉ l → l.Pairwise (fun x y => lessTm t x y = true) →
    (w.put q a l).Perm (a :: l) ∧ (w.put q a l).Pairwise (fun x y => lessTm t x y = true)
  | [], _, _, _ => ⟨List.Perm.refl _, List.pairwise_singleton _ _⟩
  | b :: l, hl, hn, hp => by
    have hb := hl b (List.mem_cons_self ..)
    obtain ⟨hp1, hp2⟩ := List.pairwise_cons.mp hp
    have e := lessTm_comes (w := w) q t ha hb
    show (if w.sooner q a b = true then a :: b :: l else b :: w.put q a l).Perm _ ∧ (if w.sooner q a b = true then a :: b :: l else b :: w.put q a l).Pairwise _
    rw [e]
    by_cases c : lessTm t a b = true
    · rw [if_pos c]
      refine ⟨List.Perm.refl _, List.pairwise_cons.mpr ⟨fun x hx => ?_, hp⟩⟩
      rcases List.mem_cons.mp hx with rfl | hx
      · exact c
      · exact lessTm_irrefl_trans c (hp1 x hx)
    · rw [if_neg c]
      have ne : a ≠ b := fun z => hn (by rw [z]; exact List.mem_cons_self ..)
      have c2 : lessTm t b a = true := lessTm_total (by simpa using c) ne
      obtain ⟨i1, i2⟩ := put_is q t a ha l (fun x hx => hl x (List.mem_cons_of_mem _ hx)) (fun z => hn (List.mem_cons_of_mem _ z)) hp2
      refine ⟨(List.Perm.cons b i1).trans (List.Perm.swap a b l), List.pairwise_cons.mpr ⟨fun x hx => ?_, i2⟩⟩
      rcases List.mem_cons.mp (i1.mem_iff.mp hx) with rfl | hx
      · exact c2
      · exact hp1 x hx
theorem order_spec (q : List Nat) (t : Nat → Int) : ∀ (l acc : List Nat), (∀ b ∈ l ++ acc, t b = toTm (w.comes q b)) → (l ++ acc).Nodup → acc.Pairwise (fun x y => lessTm t x y = true) →
    (l.foldl (fun l a => w.put q a l) acc).Perm (l ++ acc) ∧ (l.foldl (fun l a => w.put q a l) acc).Pairwise (fun x y => lessTm t x y = true)
  | [], acc, _, _, hp => ⟨List.Perm.refl _, hp⟩
  | a :: l, acc, h, hn, hp => by
    rw [List.foldl_cons]
    have hn' : (a :: (l ++ acc)).Nodup := hn
    obtain ⟨n1, n2⟩ := List.nodup_cons.mp hn'
    obtain ⟨p1, p2⟩ := put_is (w := w) q t a (h a (by simp)) acc (fun b hb => h b (by simp [hb])) (fun z => n1 (by simp [z])) hp
    have pm : (l ++ w.put q a acc).Perm (a :: (l ++ acc)) := (p1.append_left l).trans List.perm_middle
    obtain ⟨i1, i2⟩ := order_spec q t l (w.put q a acc) (fun b hb => h b (by
      have := pm.mem_iff.mp hb
      simpa using this)) (pm.nodup_iff.mpr hn') p2
    exact ⟨i1.trans pm, i2⟩
theorem sooner_eq (m : W) (dug a b : Nat) : sooner m dug a b = (lessTm (tm m dug) a b || decide (a = b)) := by
  unfold sooner lessTm
  rw [Bool.eq_iff_iff]
  split <;> simp only [decide_eq_true_eq, Bool.or_eq_true] <;> (constructor <;> intro z)
  · by_cases q : a = b
    · exact .inr q
    · left; omega
  · rcases z with z | z
    · omega
    · rw [← z]; omega
  · by_cases q : a = b
    · exact .inr q
    · left; omega
  · rcases z with z | z
    · omega
    · rw [← z]; omega
theorem order_is (R : Rel w m) {dug : Nat} (h : dug < 2 ^ m.cells) : w.order (w.members dug) = order m dug := by
  have hm : ∀ b ∈ members dug, tm m dug b = toTm (w.comes (w.members dug) b) := fun b hb => tm_is R h (members_lt h b hb)
  obtain ⟨p1, p2⟩ := order_spec (w := w) (w.members dug) (tm m dug) (members dug) [] (fun b hb => hm b (by simpa using hb)) (by simpa using members_nodup dug) List.Pairwise.nil
  have e : w.order (w.members dug) = (members dug).foldl (fun l a => w.put (w.members dug) a l) [] := by
    unfold Uw34.Wood.order
    rw [R.mem h]
  rw [e]
  rw [List.append_nil] at p1
  unfold order
  refine List.Perm.eq_of_pairwise (le := fun a b => sooner m dug a b = true) (fun a b _ _ h1 h2 => ?_) ?_ (List.pairwise_mergeSort (fun a b c h1 h2 => ?_) (fun a b => ?_) _) (p1.trans (List.mergeSort_perm _ _).symm)
  · rw [sooner_eq, Bool.or_eq_true, decide_eq_true_eq] at h1 h2
    rcases h1 with h1 | h1
    · rcases h2 with h2 | h2
      · exact (lessTm_asymm h1 h2).elim
      · exact h2.symm
    · exact h1
  · refine p2.imp fun {a b} z => ?_
    rw [sooner_eq, z]
    rfl
  · rw [sooner_eq, Bool.or_eq_true, decide_eq_true_eq] at h1 h2 ⊢
    rcases h1 with h1 | h1
    · rcases h2 with h2 | h2
      · exact .inl (lessTm_irrefl_trans h1 h2)
      · rw [← h2]; exact .inl h1
    · rw [h1]; exact h2
  · rw [sooner_eq, sooner_eq]
    by_cases q : a = b
    · simp [q]
    · cases z : lessTm (tm m dug) a b with
      | true => rfl
      | false => rw [lessTm_total z q]; simp
end
end Br

namespace Br
/-! ### the best set -/
def conv (s : Nat × Option (Nat × Nat) × Nat) : Option Uw34.Best := match s.2.1 with
  | none => none
  | some k => some ⟨k.1, k.2, s.2.2, s.1⟩
/-- one set more -/
def better (w : Uw34.Wood) (b : Option Uw34.Best) (q : Nat) : Option Uw34.Best :=
  let l := w.members q
  let n := w.loss l
  match b with
  | none => some ⟨n, l.length, 1, q⟩
  | some x => if n < x.loss ∨ (n = x.loss ∧ l.length < x.size) then some ⟨n, l.length, 1, q⟩ else if n = x.loss ∧ l.length = x.size then some { x with many := x.many + 1 } else some x
theorem better_eq (w : Uw34.Wood) (b : Option Uw34.Best) (q : Nat) : better w b q = match b with
  | none => some ⟨w.loss (w.members q), (w.members q).length, 1, q⟩
  | some x => if w.loss (w.members q) < x.loss ∨ (w.loss (w.members q) = x.loss ∧ (w.members q).length < x.size) then some ⟨w.loss (w.members q), (w.members q).length, 1, q⟩ else if w.loss (w.members q) = x.loss ∧ (w.members q).length = x.size then some { x with many := x.many + 1 } else some x := rfl
theorem bestTo_succ (m : W) (n : Nat) : bestTo m (n + 1) = if (free m n && inTime m n) = true then
    (match (bestTo m n).2.1 with
    | none => (n, some (loses m n, (members n).length), 1)
    | some k => if loses m n < k.1 ∨ (loses m n = k.1 ∧ (members n).length < k.2) then (n, some (loses m n, (members n).length), 1)
      else if loses m n = k.1 ∧ (members n).length = k.2 then ((bestTo m n).1, some k, (bestTo m n).2.2 + 1) else bestTo m n)
    else bestTo m n := rfl
theorem best_eq (w : Uw34.Wood) : w.best = ((List.range (2 ^ w.cells)).filter fun q => w.right (w.members q)).foldl (better w) none := rfl
section
variable {w : Uw34.Wood} {m : W}
theorem bestTo_is (R : Rel w m) : ∀ n, n ≤ 2 ^ m.cells → ((List.range n).filter fun q => w.right (w.members q)).foldl (better w) none = conv (bestTo m n)
  | 0, _ => rfl
  | n + 1, hn => by
    have hq : n < 2 ^ m.cells := hn
    rw [List.range_succ, List.filter_append, List.foldl_append, bestTo_is R n (Nat.le_of_lt hq), List.filter_cons, List.filter_nil, right_is R hq]
    have e : bestTo m (n + 1) = if (free m n && inTime m n) = true then
        (match (bestTo m n).2.1 with
        | none => (n, some (loses m n, (members n).length), 1)
        | some k => if loses m n < k.1 ∨ (loses m n = k.1 ∧ (members n).length < k.2) then (n, some (loses m n, (members n).length), 1)
          else if loses m n = k.1 ∧ (members n).length = k.2 then ((bestTo m n).1, some k, (bestTo m n).2.2 + 1) else bestTo m n)
        else bestTo m n := rfl
    rw [e]
    by_cases c : (free m n && inTime m n) = true
    · rw [if_pos c, if_pos c, List.foldl_cons, List.foldl_nil]
      rw [better_eq, loses_is R hq, R.mem hq]
      have cv : conv (bestTo m n) = match (bestTo m n).2.1 with
        | none => none
        | some k => some ⟨k.1, k.2, (bestTo m n).2.2, (bestTo m n).1⟩ := rfl
      rw [cv]
      cases e2 : (bestTo m n).2.1 with
      | none => rfl
      | some k =>
        dsimp only
        by_cases c1 : loses m n < k.1 ∨ (loses m n = k.1 ∧ (members n).length < k.2)
        · rw [if_pos c1, if_pos c1]
          rfl
        · rw [if_neg c1, if_neg c1]
          by_cases c2 : loses m n = k.1 ∧ (members n).length = k.2
          · rw [if_pos c2, if_pos c2]
            rfl
          · rw [if_neg c2, if_neg c2, cv, e2]
    · rw [if_neg c, if_neg c]
      rfl
theorem best_some (m : W) : ∀ n, ∃ k, (bestTo m (n + 1)).2.1 = some k
  | 0 => by
    have h1 : free m 0 = true := by
      unfold free
      simp
    have h2 : inTime m 0 = true := by
      unfold inTime
      by_cases c : m.most = 0
      · rw [if_pos c]
        rfl
      · rw [if_neg c]
        have : tooMany m 0 = (0, 0) := by
          unfold tooMany
          rw [tooFrom_is]
          have e : (List.range' 1 (m.cells + 1)).find? (isLate m 0) = none := by
            rw [List.find?_eq_none]
            intro n _
            unfold isLate
            rw [early_zero]
            simp
          rw [e]
        rw [this]
        rfl
    refine ⟨(loses m 0, (members 0).length), ?_⟩
    rw [bestTo_succ, h1, h2]
    rfl
  | n + 1 => by
    obtain ⟨k, hk⟩ := best_some m n
    rw [bestTo_succ, hk]
    dsimp only
    split
    · split
      · exact ⟨_, rfl⟩
      · split
        · exact ⟨_, rfl⟩
        · exact ⟨_, hk⟩
    · exact ⟨_, hk⟩
theorem best_lt (m : W) : ∀ n, 0 < n → (bestTo m n).1 < n
  | 0, h => absurd h (by decide)
  | n + 1, _ => by
    show (if (free m n && inTime m n) = true then
        (match (bestTo m n).2.1 with
        | none => (n, some (loses m n, (members n).length), 1)
        | some k => if loses m n < k.1 ∨ (loses m n = k.1 ∧ (members n).length < k.2) then (n, some (loses m n, (members n).length), 1)
          else if loses m n = k.1 ∧ (members n).length = k.2 then ((bestTo m n).1, some k, (bestTo m n).2.2 + 1) else bestTo m n)
        else bestTo m n).1 < n + 1
    have ih : (bestTo m n).1 < n + 1 := by
      cases n with
      | zero => exact Nat.lt_succ_self _
      | succ j => exact Nat.lt_succ_of_lt (best_lt m (j + 1) (Nat.succ_pos _))
    split
    · split
      · exact Nat.lt_succ_self _
      · split
        · exact Nat.lt_succ_self _
        · split
          · exact ih
          · exact ih
    · exact ih
theorem best_is (R : Rel w m) : ∃ k, (bestTo m (2 ^ m.cells)).2.1 = some k ∧ w.best = some ⟨k.1, k.2, (bestTo m (2 ^ m.cells)).2.2, (bestTo m (2 ^ m.cells)).1⟩ := by
  obtain ⟨j, hj⟩ : ∃ j, 2 ^ m.cells = j + 1 := ⟨2 ^ m.cells - 1, by have := Nat.two_pow_pos m.cells; omega⟩
  obtain ⟨k, hk⟩ := best_some m j
  rw [← hj] at hk
  refine ⟨k, hk, ?_⟩
  rw [best_eq, R.wc, bestTo_is R _ (Nat.le_refl _)]
  unfold conv
  rw [hk]
/-- how many cells the best set has -/
theorem best_size (m : W) : ∀ n k, (bestTo m n).2.1 = some k → k = (loses m (bestTo m n).1, (members (bestTo m n).1).length)
  | 0, _, h => by cases h
  | n + 1, k, h => by
    have e : bestTo m (n + 1) = if (free m n && inTime m n) = true then
        (match (bestTo m n).2.1 with
        | none => (n, some (loses m n, (members n).length), 1)
        | some k => if loses m n < k.1 ∨ (loses m n = k.1 ∧ (members n).length < k.2) then (n, some (loses m n, (members n).length), 1)
          else if loses m n = k.1 ∧ (members n).length = k.2 then ((bestTo m n).1, some k, (bestTo m n).2.2 + 1) else bestTo m n)
        else bestTo m n := rfl
    rw [e] at h ⊢
    have ih := best_size m n
    by_cases c : (free m n && inTime m n) = true
    · rw [if_pos c] at h ⊢
      cases e2 : (bestTo m n).2.1 with
      | none =>
        rw [e2] at h
        exact (Option.some.inj h).symm
      | some j =>
        rw [e2] at h
        dsimp only at h ⊢
        have ih := ih j e2
        by_cases c1 : loses m n < j.1 ∨ (loses m n = j.1 ∧ (members n).length < j.2)
        · rw [if_pos c1] at h ⊢
          exact (Option.some.inj h).symm
        · rw [if_neg c1] at h ⊢
          by_cases c2 : loses m n = j.1 ∧ (members n).length = j.2
          · rw [if_pos c2] at h ⊢
            rw [← Option.some.inj h]
            exact ih
          · rw [if_neg c2] at h ⊢
            rw [e2] at h
            rw [← Option.some.inj h]
            exact ih
    · rw [if_neg c] at h ⊢
      exact ih k h
/-! ### a new wood -/
theorem bes_all : ∀ wide ∈ [2, 3, 4], ∀ high ∈ [2, 3], (besTo wide (wide * high) (wide * high)).length = wide * high ∧
    ∀ a ∈ List.range (wide * high), ∀ c ∈ List.range 13, ((besTo wide (wide * high) (wide * high)).getD a 0).testBit c = (decide (c < wide * high) && (⟨wide, high, [], [], 0, []⟩ : Uw34.Wood).beside a c) ∧
      (besTo wide (wide * high) (wide * high)).getD a 0 < 2 ^ (wide * high) := by decide +kernel
theorem mk_rel {a b d : Nat} (ha : 2 ≤ a ∧ a ≤ 4) (hb : 2 ≤ b ∧ b ≤ 3) (hd : d ≤ 3) : Rel ⟨a, b, [], [], d, []⟩ (W.mk' a b d) := by
  have ma : a = 2 ∨ a = 3 ∨ a = 4 := by omega
  have mb : b = 2 ∨ b = 3 := by omega
  obtain ⟨h1, h2⟩ := bes_all a (by simpa using ma) b (by simpa using mb)
  refine ⟨ma, mb, rfl, rfl, hd, fun c => ?_, fun c => ?_, Nat.two_pow_pos _, Nat.two_pow_pos _, rfl, rfl, ?_, fun n hn => ?_, fun c hc => ?_, h1, fun x c hx => ?_⟩
  · exact Nat.zero_testBit c
  · exact Nat.zero_testBit c
  · exact List.length_replicate
  · have := List.eq_of_mem_replicate hn
    omega
  · show (List.replicate (a * b) 1).getD c 0 = 1
    have hc' : c < a * b := hc
    rw [List.getD_eq_getElem?_getD, List.getElem?_replicate, if_pos hc']
    rfl
  · have hx' : x ∈ List.range (a * b) := List.mem_range.mpr hx
    by_cases hc : c < 13
    · exact (h2 x hx' c (List.mem_range.mpr hc)).1
    · have hl := (h2 x hx' 0 (by simp)).2
      have hab : a * b ≤ 12 := by rcases ma with e | e | e <;> rcases mb with q | q <;> rw [e, q] <;> decide
      have e1 : ((besTo a (a * b) (a * b)).getD x 0).testBit c = false := tb_lt hl (by omega)
      have e2 : ¬ c < a * b := by omega
      show ((besTo a (a * b) (a * b)).getD x 0).testBit c = (decide (c < a * b) && _)
      rw [e1]
      simp [e2]
theorem init_rel : Rel Uw34.init (W.mk' 2 2 0) := mk_rel ⟨by decide, by decide⟩ ⟨by decide, by decide⟩ (by decide)
/-! ### one call -/
theorem rock_rel (R : Rel w m) {c : Nat} (hc : c < m.cells) (hb : m.rock.testBit c = false) : Rel { w with rock := w.rock ++ [c] } (setRock m c) := by
  obtain ⟨l1, l2⟩ := len_add R.rockLt hc hb
  refine ⟨R.wide, R.high, R.cells, R.most, R.dig, fun i => ?_, R.fire, l1, R.fireLt, ?_, R.fireLen, R.worthLen, R.worthLe, R.worth, R.besLen, fun x i hx => ?_⟩
  · show (m.rock + 2 ^ c).testBit i = (w.rock ++ [c]).contains i
    rw [tb_add hb, R.rock, Bool.eq_iff_iff]
    simp only [Bool.or_eq_true, List.contains_iff_mem, decide_eq_true_eq, List.mem_append, List.mem_singleton]
    exact or_congr Iff.rfl ⟨Eq.symm, Eq.symm⟩
  · show (w.rock ++ [c]).length = (members (m.rock + 2 ^ c)).length
    rw [l2, List.length_append, R.rockLen]
    rfl
  · exact R.bes x i hx
theorem fire_rel (R : Rel w m) {c : Nat} (hc : c < m.cells) (hb : m.fire.testBit c = false) : Rel { w with fire := w.fire ++ [c] } (setFire m c) := by
  obtain ⟨l1, l2⟩ := len_add R.fireLt hc hb
  refine ⟨R.wide, R.high, R.cells, R.most, R.dig, R.rock, fun i => ?_, R.rockLt, l1, R.rockLen, ?_, R.worthLen, R.worthLe, R.worth, R.besLen, fun x i hx => ?_⟩
  · show (m.fire + 2 ^ c).testBit i = (w.fire ++ [c]).contains i
    rw [tb_add hb, R.fire, Bool.eq_iff_iff]
    simp only [Bool.or_eq_true, List.contains_iff_mem, decide_eq_true_eq, List.mem_append, List.mem_singleton]
    exact or_congr Iff.rfl ⟨Eq.symm, Eq.symm⟩
  · show (w.fire ++ [c]).length = (members (m.fire + 2 ^ c)).length
    rw [l2, List.length_append, R.fireLen]
    rfl
  · exact R.bes x i hx
theorem step_begins (R : Rel w m) (a b d : Nat) : Rel (Uw34.step w (.begins a b d)).1 (turn m 0 [a, b, d] []).1 ∧ Uw34Neutral.out (Uw34.step w (.begins a b d)).2 = (turn m 0 [a, b, d] []).2 := by
  have e1 : Uw34.step w (.begins a b d) = if a < 2 ∨ 4 < a ∨ b < 2 ∨ 3 < b ∨ 3 < d then (w, Uw34.ok (-1)) else (⟨a, b, [], [], d, []⟩, Uw34.ok (a * b : Nat)) := rfl
  have e2 : turn m 0 [a, b, d] [] = if isWood a b d = true then (W.mk' a b d, [((a * b : Nat) : Int)]) else (m, [-1]) := rfl
  rw [e1, e2]
  by_cases c : a < 2 ∨ 4 < a ∨ b < 2 ∨ 3 < b ∨ 3 < d
  · have c2 : ¬ isWood a b d = true := by
      unfold isWood
      rw [decide_eq_true_eq]
      omega
    rw [if_pos c, if_neg c2]
    exact ⟨R, rfl⟩
  · have c2 : isWood a b d = true := by
      unfold isWood
      rw [decide_eq_true_eq]
      omega
    rw [if_neg c, if_pos c2]
    exact ⟨mk_rel (by omega) (by omega) (by omega), rfl⟩
theorem or_false_of {x y : Bool} (h : ¬ (x = true ∨ y = true)) : (x || y) = false := by
  cases x <;> cases y <;> simp_all
theorem step_rock (R : Rel w m) (c : Nat) : Rel (Uw34.step w (.rock c)).1 (turn m 1 [c] []).1 ∧ Uw34Neutral.out (Uw34.step w (.rock c)).2 = (turn m 1 [c] []).2 := by
  have e1 : Uw34.step w (.rock c) = if w.cells ≤ c then (w, Uw34.ok (-2)) else if w.rock.contains c = true ∨ w.fire.contains c = true then (w, Uw34.ok (-4)) else ({ w with rock := w.rock ++ [c] }, Uw34.ok (w.rock.length + 1 : Nat)) := rfl
  have e2 : turn m 1 [c] [] = (if m.cells ≤ c then (m, [-2]) else if (m.rock ||| m.fire).testBit c = true then (m, [-4]) else (setRock m c, [((members (m.rock + 2 ^ c)).length : Nat)]) : W × List Int) := rfl
  rw [e1, e2, R.wc]
  by_cases c1 : m.cells ≤ c
  · rw [if_pos c1, if_pos c1]
    exact ⟨R, rfl⟩
  · rw [if_neg c1, if_neg c1, Nat.testBit_or, R.rock, R.fire]
    by_cases c2 : w.rock.contains c = true ∨ w.fire.contains c = true
    · rw [if_pos c2, if_pos (by rw [Bool.or_eq_true]; exact c2)]
      exact ⟨R, rfl⟩
    · rw [if_neg c2, if_neg (by rw [Bool.or_eq_true]; exact c2)]
      have hb : m.rock.testBit c = false := by rw [R.rock]; simpa using fun z => c2 (.inl (by simpa using z))
      obtain ⟨_, l2⟩ := len_add R.rockLt (by omega) hb
      refine ⟨rock_rel R (by omega) hb, ?_⟩
      rw [l2, R.rockLen]
      rfl
theorem step_fire (R : Rel w m) (c : Nat) : Rel (Uw34.step w (.fire c)).1 (turn m 2 [c] []).1 ∧ Uw34Neutral.out (Uw34.step w (.fire c)).2 = (turn m 2 [c] []).2 := by
  have e1 : Uw34.step w (.fire c) = if w.cells ≤ c then (w, Uw34.ok (-2)) else if w.rock.contains c = true ∨ w.fire.contains c = true then (w, Uw34.ok (-4)) else ({ w with fire := w.fire ++ [c] }, Uw34.ok (w.fire.length + 1 : Nat)) := rfl
  have e2 : turn m 2 [c] [] = (if m.cells ≤ c then (m, [-2]) else if (m.rock ||| m.fire).testBit c = true then (m, [-4]) else (setFire m c, [((members (m.fire + 2 ^ c)).length : Nat)]) : W × List Int) := rfl
  rw [e1, e2, R.wc]
  by_cases c1 : m.cells ≤ c
  · rw [if_pos c1, if_pos c1]
    exact ⟨R, rfl⟩
  · rw [if_neg c1, if_neg c1, Nat.testBit_or, R.rock, R.fire]
    by_cases c2 : w.rock.contains c = true ∨ w.fire.contains c = true
    · rw [if_pos c2, if_pos (by rw [Bool.or_eq_true]; exact c2)]
      exact ⟨R, rfl⟩
    · rw [if_neg c2, if_neg (by rw [Bool.or_eq_true]; exact c2)]
      have hb : m.fire.testBit c = false := by rw [R.fire]; simpa using fun z => c2 (.inr (by simpa using z))
      obtain ⟨_, l2⟩ := len_add R.fireLt (by omega) hb
      refine ⟨fire_rel R (by omega) hb, ?_⟩
      rw [l2, R.fireLen]
      rfl
theorem any_all (l : List Nat) : (l.any fun n => decide (1000 < n)) = !(l.all fun n => decide (n ≤ 1000)) := by
  rw [List.not_all_eq_any_not]
  refine congrArg (fun p => List.any l p) (funext fun n => ?_)
  by_cases c : 1000 < n
  · have : ¬ n ≤ 1000 := by omega
    simp [c, this]
  · have : n ≤ 1000 := by omega
    simp [c, this]
theorem step_worth (R : Rel w m) (l : List Nat) : Rel (Uw34.step w (.worth l)).1 (turn m 3 [] l).1 ∧ Uw34Neutral.out (Uw34.step w (.worth l)).2 = (turn m 3 [] l).2 := by
  have e1 : Uw34.step w (.worth l) = if l.length ≠ w.cells ∨ (l.all fun n => decide (n ≤ 1000)) = false then (w, Uw34.ok (-1)) else ({ w with worth := l }, Uw34.ok 0) := rfl
  have e2 : turn m 3 [] l = if l.length ≠ m.cells ∨ (l.any fun n => decide (1000 < n)) = true then (m, [-1]) else ({ m with worths := l }, [0]) := rfl
  rw [e1, e2, R.wc]
  have e3 : ((l.any fun n => decide (1000 < n)) = true) ↔ ((l.all fun n => decide (n ≤ 1000)) = false) := by rw [any_all]; simp
  by_cases c : l.length ≠ m.cells ∨ (l.all fun n => decide (n ≤ 1000)) = false
  · rw [if_pos c, if_pos (or_congr Iff.rfl e3 |>.mpr c)]
    exact ⟨R, rfl⟩
  · rw [if_neg c, if_neg fun z => c (or_congr Iff.rfl e3 |>.mp z)]
    have cl : l.length = m.cells := by
      by_cases z : l.length = m.cells
      · exact z
      · exact absurd (.inl z) c
    have ca : ∀ n ∈ l, n ≤ 1000 := fun n hn => by
      have z : (l.all fun n => decide (n ≤ 1000)) = true := by
        cases q : (l.all fun n => decide (n ≤ 1000)) with
        | true => rfl
        | false => exact absurd (.inr q) c
      exact of_decide_eq_true (List.all_eq_true.mp z n hn)
    refine ⟨⟨R.wide, R.high, R.cells, R.most, R.dig, R.rock, R.fire, R.rockLt, R.fireLt, R.rockLen, R.fireLen, cl, ca, fun i hi => ?_, R.besLen, fun x i hx => R.bes x i hx⟩, rfl⟩
    show l.getD i 0 = l.getD i 1
    have hi' : i < l.length := by rw [cl]; exact hi
    rw [List.getD_eq_getElem?_getD, List.getD_eq_getElem?_getD, List.getElem?_eq_getElem hi']
    rfl
theorem step_after (R : Rel w m) (q n : Nat) : Rel (Uw34.step w (.after q n)).1 (turn m 4 [q, n] []).1 ∧ Uw34Neutral.out (Uw34.step w (.after q n)).2 = (turn m 4 [q, n] []).2 := by
  have e1 : Uw34.step w (.after q n) = if 2 ^ w.cells ≤ q ∨ 1000 < n then (w, Uw34.ok (-1)) else if w.free (w.members q) = false then (w, Uw34.ok (-4)) else (w, ⟨((w.after (w.members q) (min n w.cells)).length : Nat), w.after (w.members q) (min n w.cells)⟩) := rfl
  have e2 : turn m 4 [q, n] [] = (m, after m q n) := rfl
  rw [e1, e2]
  unfold after
  rw [R.wc]
  by_cases c1 : 2 ^ m.cells ≤ q ∨ 1000 < n
  · have c1' : ¬ q < 2 ^ m.cells ∨ 1000 < n := by omega
    rw [if_pos c1, if_pos c1']
    exact ⟨R, rfl⟩
  · have c1' : ¬ (¬ q < 2 ^ m.cells ∨ 1000 < n) := by omega
    have hq : q < 2 ^ m.cells := by omega
    rw [if_neg c1, if_neg c1', free_is R hq]
    by_cases c2 : free m q = false
    · rw [if_pos c2, if_pos c2]
      exact ⟨R, rfl⟩
    · rw [if_neg c2, if_neg c2, after_is R hq]
      exact ⟨R, rfl⟩
theorem step_check (R : Rel w m) (q : Nat) : Rel (Uw34.step w (.check q)).1 (turn m 5 [q] []).1 ∧ Uw34Neutral.out (Uw34.step w (.check q)).2 = (turn m 5 [q] []).2 := by
  have e1 : Uw34.step w (.check q) = if 2 ^ w.cells ≤ q then (w, Uw34.ok (-1)) else if w.free (w.members q) = false then (w, Uw34.ok (-4)) else if w.idle (w.members q) = true then (w, Uw34.ok (-7)) else (w, match w.late (w.members q) with
    | some n => ⟨-6, [n, w.due (w.members q) n]⟩
    | none => ⟨(w.loss (w.members q) : Nat), (w.burnt (w.members q)).length :: w.order (w.members q)⟩) := rfl
  have e2 : turn m 5 [q] [] = (m, check m q) := rfl
  rw [e1, e2]
  unfold check
  rw [R.wc]
  by_cases c1 : 2 ^ m.cells ≤ q
  · rw [if_pos c1, if_pos (show ¬ q < 2 ^ m.cells by omega)]
    exact ⟨R, rfl⟩
  · have hq : q < 2 ^ m.cells := by omega
    rw [if_neg c1, if_neg (show ¬ ¬ q < 2 ^ m.cells by omega), free_is R hq]
    by_cases c2 : free m q = false
    · rw [if_pos c2, if_pos c2]
      exact ⟨R, rfl⟩
    · rw [if_neg c2, if_neg c2, idle_is R hq]
      by_cases c3 : m.most = 0 ∧ q ≠ 0
      · rw [if_pos c3, if_pos (decide_eq_true c3)]
        exact ⟨R, rfl⟩
      · rw [if_neg c3, if_neg (by rw [decide_eq_true_eq]; exact c3)]
        refine ⟨R, ?_⟩
        cases e : w.late (w.members q) with
        | some n =>
          obtain ⟨t1, t2⟩ := late_some R hq e
          rw [t1, if_pos t2]
          dsimp only
          rw [early_is R hq]
          rfl
        | none =>
          rw [late_none R hq e, if_neg (by decide)]
          dsimp only
          rw [loses_is R hq, order_is R hq]
          have eb : w.burnt (w.members q) = members (burn m q m.cells) := by
            unfold Uw34.Wood.burnt
            rw [R.wc, after_is R hq]
          rw [eb]
          rfl
theorem step_best (R : Rel w m) : Rel (Uw34.step w .best).1 (turn m 6 [] []).1 ∧ Uw34Neutral.out (Uw34.step w .best).2 = (turn m 6 [] []).2 := by
  have e1 : Uw34.step w .best = (w, match w.best with
    | none => Uw34.ok (-6)
    | some b => ⟨(b.loss : Nat), b.size :: b.many :: w.order (w.members b.set_)⟩) := rfl
  have e2 : turn m 6 [] [] = (m, tellBest m) := rfl
  rw [e1, e2]
  refine ⟨R, ?_⟩
  obtain ⟨k, hk, hb⟩ := best_is R
  have hl : (bestTo m (2 ^ m.cells)).1 < 2 ^ m.cells := best_lt m _ (Nat.two_pow_pos _)
  have hs := best_size m _ k hk
  have ho := order_is R hl
  have et : tellBest m = ((((bestTo m (2 ^ m.cells)).2.1.getD (0, 0)).1 : Nat) : Int) :: ((members (bestTo m (2 ^ m.cells)).1).length : Nat) :: ((bestTo m (2 ^ m.cells)).2.2 : Nat) :: cast (order m (bestTo m (2 ^ m.cells)).1) := rfl
  rw [et, hb, hk]
  dsimp only
  rw [ho]
  have h2 : k.2 = (members (bestTo m (2 ^ m.cells)).1).length := by rw [hs]
  rw [h2]
  rfl
end
end Br

namespace Br
/-! ### the calls, one behind another -/
abbrev stepS (s : Uw34.Wood) (c : List (List Int)) : Uw34.Wood × List Int := Uw34Neutral.step s (c.headD [])
def size (call : Nat) : Nat := [3, 1, 1, 0, 2, 1, 0].getD call 0
/-- what is left of a line: it reads as calls; told so far and what these answer are all that is due -/
structure Left (rest : List Int) (w : Uw34.Wood) (sofar total : List Int) : Prop where
  dec : ∃ (f : Nat) (raw : List (List (List Int))), PyFlat.calls PyUw34.shape f rest = some raw ∧ (∀ c ∈ raw, Uw34Neutral.asked1 ((PyUw34.whole c).headD []) = true) ∧
    total = sofar ++ PyFlat.told (PyFlat.played stepS w (raw.map PyUw34.whole))
  nn : ∀ x ∈ rest, 0 ≤ x ∧ x ≤ 4294967295
theorem Left.done {w : Uw34.Wood} {sofar total : List Int} (h : Left [] w sofar total) : sofar = total := by
  obtain ⟨⟨f, raw, e, _, q⟩, _⟩ := h
  have : raw = [] := by
    cases f <;> exact (Option.some.inj e).symm
  rw [this] at q
  rw [q]
  exact (List.append_nil _).symm
/-- one call, as it stands in the line -/
structure OneCall (rest : List Int) (call : Nat) (nums rows : List Nat) (rest' : List Int) : Prop where
  le : call ≤ 6
  len : nums.length = size call
  no : call ≠ 3 → rows = []
  few : rows.length ≤ 20
  big : (∀ n ∈ nums, n ≤ 4294967295) ∧ ∀ n ∈ rows, n ≤ 4294967295
  eq : rest = (call : Int) :: (cast nums ++ ((if call = 3 then ((rows.length : Nat) : Int) :: cast rows else []) ++ rest'))
theorem nat_of {x : Int} (h : 0 ≤ x ∧ x ≤ 4294967295) : ∃ n : Nat, x = (n : Int) ∧ n ≤ 4294967295 := ⟨x.toNat, by omega, by omega⟩
theorem nats_of : ∀ {l : List Int}, (∀ x ∈ l, 0 ≤ x ∧ x ≤ 4294967295) → ∃ ns : List Nat, l = cast ns ∧ ∀ n ∈ ns, n ≤ 4294967295
  | [], _ => ⟨[], rfl, fun _ h => by cases h⟩
  | x :: l, h => by
    obtain ⟨n, e1, e2⟩ := nat_of (h x (List.mem_cons_self ..))
    obtain ⟨ns, q1, q2⟩ := nats_of fun y hy => h y (List.mem_cons_of_mem _ hy)
    refine ⟨n :: ns, ?_, fun y hy => ?_⟩
    · rw [e1, q1]
      rfl
    · rcases List.mem_cons.mp hy with rfl | hy
      · exact e2
      · exact q2 y hy
theorem cast_len (l : List Nat) : (cast l).length = l.length := List.length_map _
theorem callOf_cast (l : List Nat) (h : ∀ n ∈ l, n ≤ 4294967295) : Uw34Neutral.callOf (cast l) = Uw34Neutral.callIn l := by
  have e1 : (cast l).all Uw34Neutral.nat = true := by
    rw [List.all_eq_true]
    intro x hx
    obtain ⟨n, hn, rfl⟩ := List.mem_map.mp hx
    have := h n hn
    unfold Uw34Neutral.nat
    have h1 : (0 : Int) ≤ (n : Int) := by omega
    have h2 : (n : Int) < 2 ^ 32 := by
      have : (2 : Int) ^ 32 = 4294967296 := by decide
      omega
    exact Bool.and_eq_true_iff.mpr ⟨decide_eq_true h1, decide_eq_true h2⟩
  have e2 : (cast l).map Int.toNat = l := by
    unfold cast
    rw [List.map_map]
    have : (Int.toNat ∘ fun (n : Nat) => (n : Int)) = id := funext fun n => Int.toNat_natCast n
    rw [this, List.map_id]
  unfold Uw34Neutral.callOf
  rw [e1, if_neg (by decide), e2]
theorem step_of {w : Uw34.Wood} {l : List Int} {x : Uw34.Call} (h : Uw34Neutral.callOf l = some x) : Uw34Neutral.step w l = ((Uw34.step w x).1, Uw34Neutral.out (Uw34.step w x).2) := by
  unfold Uw34Neutral.step
  rw [h]
/-- the raw call is the numbers in a row -/
theorem Left.turn {rest : List Int} {w : Uw34.Wood} {sofar total : List Int} (h : Left rest w sofar total) (ne : rest ≠ []) :
    ∃ call nums rows rest' x, OneCall rest call nums rows rest' ∧ Uw34Neutral.callIn (call :: (nums ++ rows)) = some x ∧
      Left rest' (Uw34.step w x).1 (sofar ++ (((Uw34Neutral.out (Uw34.step w x).2).length : Nat) : Int) :: Uw34Neutral.out (Uw34.step w x).2) total := by
  obtain ⟨⟨f, raw, e, ha, ht⟩, nn⟩ := h
  cases rest with
  | nil => exact absurd rfl ne
  | cons p r =>
    cases f with
    | zero => cases e
    | succ f =>
      have e' : (match PyFlat.call PyUw34.shape (p :: r) with
        | none => none
        | some (c, t) => match PyFlat.calls PyUw34.shape f t with
          | none => none
          | some cs => some (c :: cs)) = some raw := e
      cases e1 : PyFlat.call PyUw34.shape (p :: r) with
      | none =>
        rw [e1] at e'
        cases e'
      | some ct =>
        obtain ⟨c, t⟩ := ct
        rw [e1] at e'
        dsimp only at e'
        cases e2 : PyFlat.calls PyUw34.shape f t with
        | none =>
          rw [e2] at e'
          cases e'
        | some cs =>
          rw [e2] at e'
          have er : raw = c :: cs := (Option.some.inj e').symm
          subst er
          have hask := ha c (List.mem_cons_self ..)
          -- the rest, for any reading of the call
          have fin : ∀ (call : Nat) (nums rows : List Nat), OneCall (p :: r) call nums rows t → (PyUw34.whole c).headD [] = cast (call :: (nums ++ rows)) →
              ∃ call nums rows rest' x, OneCall (p :: r) call nums rows rest' ∧ Uw34Neutral.callIn (call :: (nums ++ rows)) = some x ∧
                Left rest' (Uw34.step w x).1 (sofar ++ (((Uw34Neutral.out (Uw34.step w x).2).length : Nat) : Int) :: Uw34Neutral.out (Uw34.step w x).2) total := by
            intro call nums rows O hw
            have hb : ∀ n ∈ call :: (nums ++ rows), n ≤ 4294967295 := fun n hn => by
              rcases List.mem_cons.mp hn with e | hn
              · have := O.le
                omega
              · rcases List.mem_append.mp hn with hn | hn
                · exact O.big.1 n hn
                · exact O.big.2 n hn
            have hc := callOf_cast _ hb
            have hi : (Uw34Neutral.callIn (call :: (nums ++ rows))).isSome = true := by
              rw [← hc, ← hw]
              exact hask
            obtain ⟨x, hx⟩ := Option.isSome_iff_exists.mp hi
            have hs : stepS w (PyUw34.whole c) = ((Uw34.step w x).1, Uw34Neutral.out (Uw34.step w x).2) := by
              exact step_of ((congrArg Uw34Neutral.callOf hw).trans (hc.trans hx))
            refine ⟨call, nums, rows, t, x, O, hx, ⟨f, cs, e2, fun y hy => ha y (List.mem_cons_of_mem _ hy), ?_⟩, fun y hy => nn y ?_⟩
            · rw [ht, List.map_cons]
              show sofar ++ PyFlat.told ((stepS w (PyUw34.whole c)).2 :: PyFlat.played stepS (stepS w (PyUw34.whole c)).1 (cs.map PyUw34.whole)) = _
              rw [hs]
              show sofar ++ (((Uw34Neutral.out (Uw34.step w x).2).length : Nat) : Int) :: (Uw34Neutral.out (Uw34.step w x).2 ++ PyFlat.told _) = _
              simp
            · rw [O.eq]
              exact List.mem_cons_of_mem _ (List.mem_append_right _ (List.mem_append_right _ hy))
          -- a call without rows
          have plain : ∀ (call k : Nat), call ≤ 6 → call ≠ 3 → size call = k → p = (call : Int) → PyUw34.shape p = some (k, 0) → (∀ nums : List Int, nums.length = k → PyUw34.whole [(call : Int) :: nums] = [(call : Int) :: nums]) →
              ∃ call nums rows rest' x, OneCall (p :: r) call nums rows rest' ∧ Uw34Neutral.callIn (call :: (nums ++ rows)) = some x ∧
                Left rest' (Uw34.step w x).1 (sofar ++ (((Uw34Neutral.out (Uw34.step w x).2).length : Nat) : Int) :: Uw34Neutral.out (Uw34.step w x).2) total := by
            intro call k h1 h2 h3 hp hs hw
            have e3 : (if r.length < k then none else (some ([p :: r.take k], r.drop k) : Option (List (List Int) × List Int))) = some (c, t) := by
              have z : PyFlat.call PyUw34.shape (p :: r) = (match PyUw34.shape p with
                | none => none
                | some (n, k) => if r.length < n then none else match PyFlat.rows k (r.drop n) with
                  | none => none
                  | some (xs, t) => some ((p :: r.take n) :: xs, t)) := rfl
              rw [z, hs] at e1
              exact e1
            by_cases c1 : r.length < k
            · rw [if_pos c1] at e3
              cases e3
            · rw [if_neg c1] at e3
              have e4 := Option.some.inj e3
              have ec : c = [p :: r.take k] := (congrArg Prod.fst e4).symm
              have et : t = r.drop k := (congrArg Prod.snd e4).symm
              obtain ⟨ns, q1, q2⟩ := nats_of (l := r.take k) fun x hx => nn x (List.mem_cons_of_mem _ (List.mem_of_mem_take hx))
              have lk : (r.take k).length = k := by rw [List.length_take]; omega
              have ln : ns.length = k := by rw [← lk, q1, cast_len]
              refine fin call ns [] ⟨h1, by rw [ln, h3], fun _ => rfl, by decide, ⟨q2, fun _ z => by cases z⟩, ?_⟩ ?_
              · rw [if_neg h2, hp, et, List.nil_append, ← q1, List.take_append_drop]
              · rw [ec, hp, hw _ lk, q1, List.append_nil]
                rfl
          have hp := nn p (List.mem_cons_self ..)
          have l1 : ∀ {l : List Int}, l.length = 0 → l = [] := fun h => List.length_eq_zero_iff.mp h
          by_cases c0 : p = 0
          · exact plain 0 3 (by decide) (by decide) rfl c0 (by rw [c0]; rfl) fun nums h => by
              match nums, h with
              | [_, _, _], _ => rfl
          by_cases c1 : p = 1
          · exact plain 1 1 (by decide) (by decide) rfl c1 (by rw [c1]; rfl) fun nums h => by
              match nums, h with
              | [_], _ => rfl
          by_cases c2 : p = 2
          · exact plain 2 1 (by decide) (by decide) rfl c2 (by rw [c2]; rfl) fun nums h => by
              match nums, h with
              | [_], _ => rfl
          by_cases c4 : p = 4
          · exact plain 4 2 (by decide) (by decide) rfl c4 (by rw [c4]; rfl) fun nums h => by
              match nums, h with
              | [_, _], _ => rfl
          by_cases c5 : p = 5
          · exact plain 5 1 (by decide) (by decide) rfl c5 (by rw [c5]; rfl) fun nums h => by
              match nums, h with
              | [_], _ => rfl
          by_cases c6 : p = 6
          · exact plain 6 0 (by decide) (by decide) rfl c6 (by rw [c6]; rfl) fun nums h => by
              match nums, h with
              | [], _ => rfl
          by_cases c3 : p = 3
          · subst c3
            have e3 : (match (match PyFlat.row r with
                | none => none
                | some (x, s) => some ([x], s) : Option (List (List Int) × List Int)) with
              | none => none
              | some (xs, t) => some ([(3 : Int)] :: xs, t)) = some (c, t) := by
              have z : PyFlat.call PyUw34.shape (3 :: r) = (match (match PyFlat.row r with
                | none => none
                | some (x, s) => some ([x], s) : Option (List (List Int) × List Int)) with
                | none => none
                | some (xs, t) => some ([(3 : Int)] :: xs, t)) := by
                show (if r.length < 0 then none else match PyFlat.rows 1 (r.drop 0) with
                  | none => none
                  | some (xs, t) => some (((3 : Int) :: r.take 0) :: xs, t)) = _
                rw [if_neg (Nat.not_lt_zero _), List.drop_zero, List.take_zero]
                show (match (match PyFlat.row r with
                  | none => none
                  | some (x, s) => match PyFlat.rows 0 s with
                    | none => none
                    | some (xs, t) => some (x :: xs, t)) with
                  | none => none
                  | some (xs, t) => some ([(3 : Int)] :: xs, t)) = _
                cases PyFlat.row r with
                | none => rfl
                | some xs => rfl
              rw [← z]
              exact e1
            cases er : PyFlat.row r with
            | none =>
              rw [er] at e3
              cases e3
            | some xs =>
              obtain ⟨x, s⟩ := xs
              rw [er] at e3
              have e4 := Option.some.inj e3
              have ec : c = [[3], x] := (congrArg Prod.fst e4).symm
              have et : t = s := (congrArg Prod.snd e4).symm
              cases r with
              | nil => cases er
              | cons n r2 =>
                have er' : (if 0 ≤ n ∧ n.toNat ≤ r2.length then some (r2.take n.toNat, r2.drop n.toNat) else none) = some (x, s) := er
                by_cases cn : 0 ≤ n ∧ n.toNat ≤ r2.length
                · rw [if_pos cn] at er'
                  have e5 := Option.some.inj er'
                  have ex : x = r2.take n.toNat := (congrArg Prod.fst e5).symm
                  have es : s = r2.drop n.toNat := (congrArg Prod.snd e5).symm
                  obtain ⟨ns, q1, q2⟩ := nats_of (l := r2.take n.toNat) fun x hx => nn x (List.mem_cons_of_mem _ (List.mem_cons_of_mem _ (List.mem_of_mem_take hx)))
                  have lk : (r2.take n.toNat).length = n.toNat := by rw [List.length_take]; omega
                  have ln : ns.length = n.toNat := by rw [← lk, q1, cast_len]
                  have hwc : (PyUw34.whole c).headD [] = cast (3 :: ([] ++ ns)) := by
                    rw [ec, ex, q1]
                    rfl
                  have hfew : ns.length ≤ 20 := by
                    have z := hask
                    rw [hwc] at z
                    have z2 : (Uw34Neutral.callOf (cast (3 :: ns))).isSome = true := z
                    rw [callOf_cast (3 :: ns) fun n hn => by
                      rcases List.mem_cons.mp hn with e | hn
                      · rw [e]
                        omega
                      · exact q2 n hn] at z2
                    have z3 : (if ns.length ≤ 20 then some (Uw34.Call.worth ns) else none).isSome = true := z2
                    by_cases cz : ns.length ≤ 20
                    · exact cz
                    · rw [if_neg cz] at z3
                      cases z3
                  refine fin 3 [] ns ⟨by decide, rfl, fun z => absurd rfl z, hfew, ⟨fun _ z => (by cases z), q2⟩, ?_⟩ hwc
                  show (3 : Int) :: n :: r2 = (3 : Int) :: ([] ++ ((if 3 = 3 then ((ns.length : Nat) : Int) :: cast ns else []) ++ t))
                  rw [if_pos rfl, List.nil_append, ← q1, ln, et, es]
                  have : ((n.toNat : Nat) : Int) = n := by omega
                  rw [this, List.cons_append, List.take_append_drop]
                · rw [if_neg cn] at er'
                  cases er'
          · exfalso
            have z : PyFlat.call PyUw34.shape (p :: r) = (match PyUw34.shape p with
              | none => none
              | some (n, k) => if r.length < n then none else match PyFlat.rows k (r.drop n) with
                | none => none
                | some (xs, t) => some ((p :: r.take n) :: xs, t)) := rfl
            have hs : PyUw34.shape p = none := by
              unfold PyUw34.shape
              rw [if_neg c0, if_neg c1, if_neg c2, if_neg c3, if_neg c4, if_neg c5, if_neg c6]
            rw [z, hs] at e1
            cases e1
/-- a turn of the machine, whichever call it is -/
theorem turn_is {w : Uw34.Wood} {m : W} (R : Rel w m) {rest rest' : List Int} {call : Nat} {nums rows : List Nat} {x : Uw34.Call} (O : OneCall rest call nums rows rest') (hx : Uw34Neutral.callIn (call :: (nums ++ rows)) = some x) :
    Rel (Uw34.step w x).1 (turn m call nums rows).1 ∧ Uw34Neutral.out (Uw34.step w x).2 = (turn m call nums rows).2 := by
  obtain ⟨h1, h2, h3, h4, _, _⟩ := O
  have hc : call = 0 ∨ call = 1 ∨ call = 2 ∨ call = 3 ∨ call = 4 ∨ call = 5 ∨ call = 6 := by omega
  rcases hc with rfl | rfl | rfl | rfl | rfl | rfl | rfl
  · rw [h3 (by decide)] at hx ⊢
    match nums, h2 with
    | [a, b, d], _ =>
      cases hx
      exact step_begins R a b d
  · rw [h3 (by decide)] at hx ⊢
    match nums, h2 with
    | [c], _ =>
      cases hx
      exact step_rock R c
  · rw [h3 (by decide)] at hx ⊢
    match nums, h2 with
    | [c], _ =>
      cases hx
      exact step_fire R c
  · match nums, h2 with
    | [], _ =>
      have z : (if rows.length ≤ 20 then some (Uw34.Call.worth rows) else none) = some x := hx
      rw [if_pos h4] at z
      cases z
      exact step_worth R rows
  · rw [h3 (by decide)] at hx ⊢
    match nums, h2 with
    | [q, n], _ =>
      cases hx
      exact step_after R q n
  · rw [h3 (by decide)] at hx ⊢
    match nums, h2 with
    | [q], _ =>
      cases hx
      exact step_check R q
  · rw [h3 (by decide)] at hx ⊢
    match nums, h2 with
    | [], _ =>
      cases hx
      exact step_best R
/-- the line, at its beginning -/
theorem left_start {l : List Int} (hask : PyUw34.answers_asked l = true) (nn : ∀ x ∈ l, 0 ≤ x ∧ x ≤ 4294967295) : Left l Uw34.init [] (PyUw34.answers l) ∧ (PyUw34.answers l).length ≤ 10000000 := by
  unfold PyUw34.answers_asked at hask
  cases e : PyFlat.calls PyUw34.shape l.length l with
  | none =>
    rw [e] at hask
    cases hask
  | some raw =>
    rw [e] at hask
    dsimp only at hask
    rw [Bool.and_eq_true, Bool.and_eq_true, Bool.and_eq_true, Bool.and_eq_true] at hask
    obtain ⟨⟨⟨⟨_, _⟩, _⟩, h4⟩, h5⟩ := hask
    have ea : PyUw34.answers l = PyFlat.told (PyFlat.played stepS Uw34.init (raw.map PyUw34.whole)) := by
      unfold PyUw34.answers PyUw34.calls
      rw [e]
      rfl
    refine ⟨⟨⟨l.length, raw, e, fun c hc => ?_, ?_⟩, nn⟩, of_decide_eq_true h5⟩
    · unfold Uw34Neutral.asked at h4
      rw [Bool.and_eq_true] at h4
      refine List.all_eq_true.mp h4.1 _ ?_
      exact List.mem_map.mpr ⟨PyUw34.whole c, List.mem_map.mpr ⟨c, hc, rfl⟩, rfl⟩
    · rw [ea]
      exact (List.nil_append _).symm
/-- no more is told than is due -/
theorem Left.room {rest : List Int} {w : Uw34.Wood} {sofar total : List Int} (h : Left rest w sofar total) : sofar.length ≤ total.length := by
  obtain ⟨⟨f, raw, _, _, q⟩, _⟩ := h
  rw [q, List.length_append]
  omega
end Br

/-! The head: what the top has written, by names; the table of the code that makes the lambda. -/
namespace Br
open PySem PySem.Spec PyProof.Rows L2
def top (i : Nat) : Stmt := PySem.Challenge.pw_breakrows_s01_answers.main.body.getD i (.Pass ⟨0, 0, 0, 0⟩)
abbrev sInit : Stmt := inClass (top 1) 0
abbrev sJoin : Stmt := inClass (top 1) 1
abbrev sIsSet : Stmt := inClass (top 1) 2
abbrev sMay : Stmt := inClass (top 1) 3
abbrev sNear : Stmt := inClass (top 1) 4
abbrev sBehind : Stmt := inClass (top 1) 5
abbrev sComes : Stmt := inClass (top 1) 6
abbrev sTooMany : Stmt := inClass (top 1) 7
abbrev sInTime : Stmt := inClass (top 1) 8
abbrev sInOrder : Stmt := inClass (top 1) 9
abbrev sLoses : Stmt := inClass (top 1) 10
abbrev sBest : Stmt := inClass (top 1) 11
abbrev sMembers : Stmt := top 2
abbrev sIsWood : Stmt := top 10
abbrev sSetCell : Stmt := top 11
abbrev sSetWorths : Stmt := top 12
abbrev sAfter : Stmt := top 13
abbrev sCheck : Stmt := top 14
abbrev sTellBest : Stmt := top 15
abbrev sResultOf : Stmt := top 16
abbrev sAnswers : Stmt := top 17
/-! ### the facts -/
def mD (x q : Str) (st : Stmt) : He.FnD := ⟨("Wood", some x), x, q, defArgs st, defBody st, defScope st⟩
def gD (x : Str) (st : Stmt) : He.FnD := ⟨(x, none), x, x, defArgs st, defBody st, defScope st⟩
def fns : List He.FnD := [mD "__init__" "Wood.__init__" sInit, mD "join" "Wood.join" sJoin, mD "is_set" "Wood.is_set" sIsSet, mD "may_be_dug" "Wood.may_be_dug" sMay, mD "near" "Wood.near" sNear,
  mD "behind" "Wood.behind" sBehind, mD "comes" "Wood.comes" sComes, mD "too_many" "Wood.too_many" sTooMany, mD "in_time" "Wood.in_time" sInTime, mD "in_order" "Wood.in_order" sInOrder,
  mD "loses" "Wood.loses" sLoses, mD "best" "Wood.best" sBest, gD "members" sMembers, gD "is_wood" sIsWood, gD "set_cell" sSetCell, gD "set_worths" sSetWorths, gD "after" sAfter, gD "check" sCheck,
  gD "tell_best" sTellBest, gD "result_of" sResultOf, gD "answers" sAnswers]
def fas : List He.Fa := [.cls "Wood", .mkr "Wood", .glo "Wood",
  .noat "Wood" "cells", .noat "Wood" "most", .noat "Wood" "rock", .noat "Wood" "fire", .noat "Wood" "worths", .noat "Wood" "beside",
  .meth "Wood" "join", .meth "Wood" "is_set", .meth "Wood" "may_be_dug", .meth "Wood" "near", .meth "Wood" "behind", .meth "Wood" "comes", .meth "Wood" "too_many", .meth "Wood" "in_time",
  .meth "Wood" "in_order", .meth "Wood" "loses", .meth "Wood" "best",
  .glo "members", .keep "members", .glo "is_wood", .keep "is_wood", .glo "set_cell", .keep "set_cell", .glo "set_worths", .keep "set_worths", .glo "after", .keep "after", .glo "check", .keep "check",
  .glo "tell_best", .keep "tell_best", .glo "result_of", .keep "result_of", .glo "answers", .keep "answers", .glo "SIZES",
  .int "WIDEST" 4, .int "HIGHEST" 3, .int "MOST_DUG" 3, .int "DEAREST" 1000, .int "LONGEST" 1000,
  .free "range", .free "len", .free "min", .free "sorted", .free "sum", .free "any", .free "list"]
def sizes : List He.Dv := [.int 3, .int 1, .int 1, .int 0, .int 2, .int 1, .int 0]
/-- an object that may grow while defs are made -/
def isTab (o : Obj) : Bool := match o.cls, o.data with
  | .none, .fields _ => true
  | _, _ => false
def asB (g : Addr → Option Obj) : List Addr := (He.asG g 5).filter fun a => match g a with
  | some o => !isTab o
  | none => false
/-- the code object of the def that makes the lambda, and its table -/
def codeTab (K : PySem.W.Frag) : Option (Addr × Addr) := match K.lookup (He.fAd K ("Wood", some "in_order")) with
  | some ⟨_, _, .func fd, _⟩ => (match fd.code with
    | .ref c => (match K.lookup c with
      | some ⟨_, _, .fields vs, _⟩ => (match (vs[11]? : Option Value) with
        | some (.ref P) => some (c, P)
        | _ => none)
      | _ => none)
    | _ => none)
  | _ => none
def emptyTab : Option Obj → Bool
  | some ⟨.none, none, .fields vs, sl⟩ => vs.isEmpty && sl.isEmpty
  | _ => false
theorem emptyTab_ok {o : Option Obj} (h : emptyTab o = true) : o = some (PySem.W.tabObj #[]) := by
  unfold emptyTab at h
  split at h
  · rename_i vs sl
    rw [Bool.and_eq_true] at h
    have h1 : vs = #[] := by simpa using h.1
    have h2 : sl = #[] := by simpa using h.2
    rw [h1, h2]
  · cases h
def tabB (K : PySem.W.Frag) (g : Addr → Option Obj) : Bool := match codeTab K with
  | some (c, P) => PySem.W.codeHdIn K c P && ((K.lookup P).isNone && emptyTab (g P))
  | none => false
/-- what the head tells of that table -/
structure TabAt (K : PySem.W.Frag) (h : Heap) (c P : Addr) : Prop where
  code : codeTab K = some (c, P)
  hd : PySem.W.codeHdIn K c P = true
  out : K.lookup P = none
  at_ : h.get? P = some (PySem.W.tabObj #[])
theorem tabB_ok {K : PySem.W.Frag} {h : Heap} (e : tabB K h.get? = true) : ∃ c P, TabAt K h c P := by
  unfold tabB at e
  split at e
  · rename_i c P hc
    rw [Bool.and_eq_true, Bool.and_eq_true] at e
    exact ⟨c, P, hc, e.1, by simpa using e.2.1, emptyTab_ok e.2.2⟩
  · cases e
abbrev AlB : Type := He.Al × Bool
def obsB (g : Addr → Option Obj) : AlB := (He.obsE fas fns (He.frG g (asB g)), He.tupB (He.frG g (asB g)) "SIZES" sizes && tabB (He.frG g (asB g)) g)
def hookB : PySem.W.Hook where
  α := AlB
  obs := fun s => obsB s.heap.get?
  val := fun _ => (He.valE fns, true)
  says := fun _ h => ∃ K : PySem.W.Frag, K.In h ∧ He.SaysE fas fns K ∧ He.tupB K "SIZES" sizes = true ∧ ∃ c P, TabAt K h c P
  of := fun _ _ e => by
    have e1 := congrArg Prod.fst e
    have e2 : (He.tupB _ "SIZES" sizes && tabB _ _) = true := congrArg Prod.snd e
    rw [Bool.and_eq_true] at e2
    exact ⟨_, He.frG_in, e1, e2.1, tabB_ok e2.2⟩
  keeps := fun _ _ _ ⟨K, hK, c, t, cc, P, T⟩ k => ⟨K, PySem.W.Frag.In.keeps hK k, c, t, cc, P, T.code, T.hd, T.out, k _ _ T.at_⟩
def ob (s : PySem.W.SharedT) : AlB := obsB (HeadRun.getT s)
theorem ob_eq (s : PySem.W.SharedT) : ob s = hookB.obs s.abs := by
  have e : HeadRun.getT s = s.abs.heap.get? := funext fun a => HeadRun.getT_eq s a
  show obsB (HeadRun.getT s) = obsB s.abs.heap.get?
  rw [e]
abbrev RR : PySem.W.OpenSpec := PySem.Challenge.rw_breakrows_s01_answers
abbrev qv : Program := PySem.W.view RR.prog [17]
def loose : List Str := ["Wood", "members", "WIDEST", "HIGHEST", "MOST_DUG", "DEAREST", "LONGEST", "SIZES", "is_wood", "set_cell", "set_worths", "after", "check", "tell_best", "result_of"]
theorem run (w : World) : HeadRun.RunEqS RR qv hookB ob 2500 loose w := by
  intro os
  kernel_rfl
end Br

/-! The end of the row where one table of code objects may grow: one argument, a list of ints. -/
namespace Br
open PySem PySem.Spec PyProof.Rows L2
open PySem.W (WData Codec OpenSpec Well WellAll ReadsW ReadsAllW)
/-- the arguments' objects and the table -/
def tabH (H : Hp) (Pt : Addr) : Hp := fun b => if b = Pt then some (.tbl #[]) else H b
theorem tabH_at {H : Hp} {Pt : Addr} : tabH H Pt Pt = some (.tbl #[]) := if_pos rfl
theorem tabH_ne {H : Hp} {Pt b : Addr} (h : b ≠ Pt) : tabH H Pt b = H b := if_neg h
theorem one_list {K : PySem.W.Frag} {H : Hp} {xs : List V} {ns : List Int} (h : DwAll K H xs [.list (ns.map WData.int)]) : ∃ a, xs = [.ref a] ∧ SqL K H a (ns.map V.int) := by
  cases h with
  | cons h1 h2 =>
    cases h2
    cases h1 with
    | lst hs ha =>
      have e := ints_dw ns _ ha
      subst e
      exact ⟨_, rfl, hs⟩
theorem call_tab {P : Program} {w : World} {K : PySem.W.Frag} {mg mb : Str → Option Value} {CX : CXT} {k : Nat} {fa c Pt : Addr} {fd : FuncData} {x : Str} {sp : Sp} {s₁ : Shared} {vals : List Value} {ns : List Int} {R : PySem.W.WRecords} {cl : Str → Option Addr} {d0 : WData}
    (KX : K.In s₁.heap) (hns : s₁.heap.Ns mainGlobals mg) (hb : s₁.heap.Ns builtinsNs mb) (hbb : ∀ x : Str, x ≠ "__name__" → mb x = bootBuiltins x) (hlim : s₁.heap.NoLimit) (hg : s₁.gens = #[]) (T : TabAt K s₁.heap c Pt)
    (hbm : ∃ (bm : Addr) (ob : Obj), mg "__builtins__" = some (.ref bm) ∧ bm ≠ builtinsNs ∧ s₁.heap.get? bm = some ob ∧ ob.cls = .type "module" ∧ ob.dict = some builtinsNs ∧ ob.data = .plain)
    (hwl : WellAll w.params s₁.heap vals [.list (ns.map WData.int)]) (hpl : plWs [.list (ns.map WData.int)] = true) (hwt : ∀ d ∈ [WData.list (ns.map WData.int)], d.weight ≤ 1048576) (hr : Room k callerA)
    (F : ∀ base : Heap, K.In base → base.Ns mainGlobals mg → LamX.TabB base mg c Pt → FnOk P w K mg base CX k fa fd [x] sp) (hbind : ∀ (s : Shared) (us : List Value), us.length = 1 → BindsTo s fd ⟨us, []⟩ (([x] : List Str).zip us))
    (hsp : ∀ (H : Hp) (a : Addr), H Pt = some (.tbl #[]) → SqL K H a (ns.map V.int) → sp [.ref a] H (fun v H' => Dw K H' v d0) fun _ _ _ => False)
    (hCX : ∀ H e s', CX [] H s₁ (fun _ _ _ => False) e s' → False) :
    codeAny (model P w) callerA (.call (.ref fa) ⟨vals, []⟩) (fun r s' => ∃ u as, r = .ok (.ret u) ∧ ReadsW R cl s'.heap u d0 as ∧ OldK s₁.heap s'.heap ∧ s'.os = s₁.os ∧ AllBare s'.gens) s₁ := by
  obtain ⟨A, ho, ar⟩ := area_all _ vals hwl hpl hwt
  have hok0 : HOk P w (argH K s₁.heap A) s₁.heap := argH_ok ar
  obtain ⟨a, ea, hS0⟩ := one_list (dw_all KX ar _ vals hwl hpl ho)
  have hV := vals_toV ho
  -- what is tracked: lists and tuples of the arguments, and the table
  have isA : ∀ b u, argH K s₁.heap A b = some u → K.lookup b = none ∧ (∃ o v, u = .frz o v) ∧ ∃ ob, s₁.heap.get? b = some ob ∧ ∃ vs n, ob.data = .seq vs n := fun b u q => by
    obtain ⟨h1, vs, _, _, ⟨e, rfl⟩ | ⟨e, rfl⟩⟩ := argH_is ar q
    · exact ⟨h1, ⟨_, _, rfl⟩, _, e, _, _, rfl⟩
    · exact ⟨h1, ⟨_, _, rfl⟩, _, e, _, _, rfl⟩
  have nP : argH K s₁.heap A Pt = none := by
    cases q : argH K s₁.heap A Pt with
    | none => rfl
    | some u =>
      obtain ⟨_, _, ob, e, vs, n, hd⟩ := isA _ _ q
      rw [T.at_] at e
      cases e
      cases hd
  generalize argH K s₁.heap A = H0 at hok0 hS0 isA nP
  have sameH : Same H0 (tabH H0 Pt) := fun b o q => by
    rw [tabH_ne (ne_of_none q nP)]
    exact q
  have hok : HOk P w (tabH H0 Pt) s₁.heap := fun b u q => by
    by_cases hb : b = Pt
    · rw [hb, tabH_at] at q
      cases q
      rw [hb]
      exact T.at_
    · rw [tabH_ne hb] at q
      refine (hok0 b u q).stay (fun _ _ _ e => e) (fun d z => sameH d _ z) fun d xs z => sameH d _ z
  have hS : SqL K (tabH H0 Pt) a (ns.map V.int) := sameH.seq hS0
  have kinds : ∀ b, tabH H0 Pt b = none ∨ b = Pt ∨ ∃ o u, tabH H0 Pt b = some (.frz o u) := fun b => by
    by_cases hb : b = Pt
    · exact .inr (.inl hb)
    · rw [tabH_ne hb]
      cases q : H0 b with
      | none => exact .inl rfl
      | some u =>
        obtain ⟨_, ⟨o, v, e⟩, _⟩ := isA b u q
        exact .inr (.inr ⟨o, v, by rw [e]⟩)
  have out : ∀ b u, tabH H0 Pt b = some u → K.lookup b = none := fun b u q => by
    by_cases hb : b = Pt
    · rw [hb]
      exact T.out
    · rw [tabH_ne hb] at q
      exact (isA b u q).1
  -- what is no list, no tuple and no table is not tracked
  have free : ∀ {b : Addr} {o : Obj}, s₁.heap.get? b = some o → (∀ vs n, o.data ≠ .seq vs n) → o.data ≠ .fields #[] → tabH H0 Pt b = none := fun {b o} e h1 h2 => by
    cases q : tabH H0 Pt b with
    | none => rfl
    | some u =>
      by_cases hb : b = Pt
      · rw [hb, T.at_] at e
        cases e
        exact (h2 rfl).elim
      · rw [tabH_ne hb] at q
        obtain ⟨_, _, ob, e2, vs, n, hd⟩ := isA b u q
        rw [e] at e2
        cases e2
        exact (h1 _ _ hd).elim
  have freeD : ∀ {b : Addr} {o : Obj} {es : Array DictEntry} {ep : Nat}, s₁.heap.get? b = some o → o.data = .dict es ep → tabH H0 Pt b = none := fun {b o es ep} e d =>
    free e (fun vs n z => by rw [d] at z; cases z) fun z => by rw [d] at z; cases z
  have hH : tabH H0 Pt Pt = some (.tbl #[]) := tabH_at
  generalize tabH H0 Pt = H at hok hS kinds out free freeD hH
  have kept0 : ∀ {b : Addr} {o : Obj}, s₁.heap.get? b = some o → H b = none → (hidT s₁.heap H).get? b = some o := fun e n => hidT_get e n
  have nsK : ∀ {b : Addr} {m : Str → Option Value}, s₁.heap.Ns b m → (hidT s₁.heap H).Ns b m := fun {b m} ⟨o, es, ep, e, d, r⟩ => ⟨o, es, ep, kept0 e (freeD e d), d, r⟩
  have hKb : K.In (hidT s₁.heap H) := fun b o e => kept0 (KX b o e) (by
    cases q : H b with
    | none => rfl
    | some u =>
      rw [out b u q] at e
      cases e)
  have hM : L2.Mod K mg (hidT s₁.heap H) := ⟨hKb, nsK hns, ⟨mb, nsK hb, hbb⟩, let ⟨mc, h1, h2⟩ := hlim; ⟨mc, nsK h1, h2⟩⟩
  have CH : PySem.W.CodeHd s₁.heap c Pt := PySem.W.codeHd_of_K KX T.hd
  have TB : LamX.TabB (hidT s₁.heap H) mg c Pt := by
    refine ⟨?_, ?_, fun z => ?_⟩
    · obtain ⟨o, us, file, tf, flags, tg, inF, text, tt, e1, r1, r2, r3, rest⟩ := CH
      refine ⟨o, us, file, tf, flags, tg, inF, text, tt, kept0 e1 (free e1 (fun vs n z => ?_) fun z => ?_), r1, r2, r3, rest⟩
      · rw [r2] at z
        cases z
      · rw [r2] at z
        cases z
        simp at r3
    · obtain ⟨bm, ob, b1, b2, b3, b4, b5, b6⟩ := hbm
      refine ⟨bm, ob, b1, b2, fun q => ?_, fun q => ?_, kept0 b3 (free b3 (fun vs n z => ?_) fun z => ?_), b4, b5, b6⟩
      · obtain ⟨o, es, ep, e, hd, _⟩ := hns
        rw [q, e] at b3
        cases b3
        rw [hd] at b6
        cases b6
      · rw [q, T.at_] at b3
        cases b3
        cases b6
      · rw [b6] at z
        cases z
      · rw [b6] at z
        cases z
    · obtain ⟨o, es, ep, e, hd, _⟩ := hns
      rw [z, T.at_] at e
      cases e
      cases hd
  have e0 : Env0 P w K mg (hidT s₁.heap H) callerA [] s₁ H := ⟨rfl, hM, fun b o e => of_hidT e, Nat.le_of_eq (hidT_size _ _), trivial, fun b hb => absurd (show b ∈ ([] : List Addr) from hb) (by simp), hok, .of_eq hg⟩
  have hl : vals.length = 1 := wellAll_len hwl
  rw [ea] at hV
  refine codeAny_mono ((F _ hKb (nsK hns) TB).run callerA [] s₁ H ⟨vals, []⟩ vals [.ref a] _ _ hr e0 (hbind s₁ vals hl) hV (hsp H a hH hS)) fun r s' y => ?_
  cases r with
  | error e => exact (hCX H e s' y).elim
  | ok fl =>
    cases fl with
    | next => exact False.elim y
    | brk => exact False.elim y
    | cont => exact False.elim y
    | ret u =>
      obtain ⟨v, H', os, bare, un, hok', r', q⟩ := y
      have keep : ∀ b o, b ≠ Pt → s₁.heap.get? b = some o → s'.heap.get? b = some o := fun b o nb e => by
        rcases kinds b with z | z | ⟨ob, u2, z⟩
        · exact un.keep b o e z (by intro z; exact absurd (show b ∈ ([] : List Addr) from z) (by simp)) (by simp)
        · exact absurd z nb
        · obtain ⟨e1, _⟩ := hok b _ z
          obtain ⟨e2, _⟩ := hok' b _ (un.frzs b ob _ z)
          rw [e] at e1
          cases e1
          exact e2
      obtain ⟨more, hm⟩ : ∃ more : Array Value, s'.heap.get? Pt = some { cls := .none, data := .fields more } := by
        obtain ⟨more, z⟩ := un.tbls Pt #[] hH
        exact ⟨_, hok' Pt _ z⟩
      have KX' : K.In s'.heap := fun b o e => keep b o (fun z => by rw [z, T.out] at e; cases e) (KX b o e)
      obtain ⟨as, hrd⟩ := Dw.reads (R := R) (cl := cl) hok' KX' d0 v u q r'
      refine ⟨u, as, rfl, hrd, ⟨fun b o e => ?_, fun b o e => ?_⟩, os, bare⟩
      · by_cases hb : b = Pt
        · rw [hb] at e ⊢
          rw [T.at_] at e
          cases e
          exact .inr (.inl ⟨(CH.tab T.at_).isCodeTable, rfl, #[], more, rfl, by rw [Array.empty_append]; exact hm⟩)
        · exact .inl (keep b o hb e)
      · by_cases hb : b = Pt
        · rw [hb]
          exact ⟨_, hm⟩
        · exact ⟨o, keep b o hb e⟩
end Br

/-! Operations on numbers that are not negative, told as naturals. -/
namespace Br
open PySem PySem.Spec PyProof.Rows L2
theorem bl_bits (n : Nat) : Builtin.Int.intBits (n : Int) = bl n := by
  unfold Builtin.Int.intBits bl
  by_cases h : n = 0
  · subst h
    rfl
  · have h1 : ¬ ((n : Int) == 0) = true := by
      rw [beq_iff_eq]
      omega
    rw [if_neg h, if_neg h1]
    rfl
theorem int_and (a b : Nat) : Builtin.bitAnd (a : Int) (b : Int) = ((a &&& b : Nat) : Int) := bitAnd_pp (Int.natCast_nonneg a) (Int.natCast_nonneg b)
theorem int_or (a b : Nat) : Builtin.bitOr (a : Int) (b : Int) = ((a ||| b : Nat) : Int) := bitOr_nn (Int.natCast_nonneg a) (Int.natCast_nonneg b)
theorem int_diff (a b : Nat) : Builtin.bitAnd (a : Int) (Builtin.bitNot (b : Int)) = ((diff a b : Nat) : Int) := by
  have h1 : (0 : Int) ≤ (a : Int) := Int.natCast_nonneg a
  have h2 : ¬ (0 : Int) ≤ Builtin.bitNot (b : Int) := by
    show ¬ (0 : Int) ≤ -(b : Int) - 1
    omega
  have e : Builtin.bitAnd (a : Int) (Builtin.bitNot (b : Int)) = (a : Int) - ((((a : Int).toNat) &&& (Builtin.bitNot (Builtin.bitNot (b : Int))).toNat : Nat) : Int) := by
    unfold Builtin.bitAnd
    rw [decide_eq_true h1, decide_eq_false h2]
  rw [e, bitNot_bitNot, Int.toNat_natCast, Int.toNat_natCast]
  have hl : a &&& b ≤ a := Nat.and_le_left
  unfold diff
  omega
section
variable {X : Cx}
abbrev rN (g : Nat → Nat → Nat) : R2 := fun x y H Q => ∃ n m : Nat, x = .int (n : Int) ∧ y = .int (m : Int) ∧ Q (.int ((g n m : Nat) : Int)) H
theorem op_andN : OpR X (binaryOp .BitAnd) (rN fun n m => n &&& m) := by
  rintro pins s σ H x y v u Q I rx ry ⟨n, m, rfl, rfl, q⟩
  rw [← int_and] at q
  exact op_and pins s σ H _ _ v u Q I rx ry ⟨_, _, rfl, rfl, q⟩
theorem op_orN : OpR X (binaryOp .BitOr) (rN fun n m => n ||| m) := by
  rintro pins s σ H x y v u Q I rx ry ⟨n, m, rfl, rfl, q⟩
  rw [← int_or] at q
  exact op_or pins s σ H _ _ v u Q I rx ry ⟨_, _, rfl, rfl, q⟩
theorem iop_orN : PIp X .BitOr (rN fun n m => n ||| m) := by
  rintro pins s σ H x y v u Q I rx ry ⟨n, m, rfl, rfl, q⟩
  rw [← int_or] at q
  exact iop_or pins s σ H _ _ v u Q I rx ry ⟨_, _, rfl, rfl, q⟩
theorem ip_addN : PIp X .Add (rN fun n m => n + m) := by
  rintro pins s σ H x y v u Q I rx ry ⟨n, m, rfl, rfl, q⟩
  rw [Int.natCast_add] at q
  exact ip_add pins s σ H _ _ v u Q I rx ry ⟨_, _, rfl, rfl, q⟩
/-- x & ~y -/
theorem op_diff : OpR X (binaryOp .BitAnd) (fun x y H Q => ∃ n m : Nat, x = .int (n : Int) ∧ y = .int (Builtin.bitNot (m : Int)) ∧ Q (.int ((diff n m : Nat) : Int)) H) := by
  rintro pins s σ H x y v u Q I rx ry ⟨n, m, rfl, rfl, q⟩
  rw [← int_diff] at q
  exact op_and pins s σ H _ _ v u Q I rx ry ⟨_, _, rfl, rfl, q⟩
theorem op_modNN : OpR X (binaryOp .Mod) (fun x y H Q => ∃ n m : Nat, x = .int (n : Int) ∧ y = .int (m : Int) ∧ 0 < m ∧ Q (.int ((n % m : Nat) : Int)) H) := by
  rintro pins s σ H x y v u Q I rx ry ⟨n, m, rfl, rfl, h, q⟩
  rw [Int.natCast_emod] at q
  exact op_mod pins s σ H _ _ v u Q I rx ry ⟨_, _, rfl, rfl, by omega, q⟩
theorem op_shrNN : OpR X (binaryOp .RShift) (rN fun n m => n >>> m) := by
  rintro pins s σ H x y v u Q I rx ry ⟨n, m, rfl, rfl, q⟩
  have e : ((n >>> m : Nat) : Int) = (n : Int) / 2 ^ (m : Int).toNat := by
    rw [Int.toNat_natCast, Nat.shiftRight_eq_div_pow, Int.natCast_ediv, Int.natCast_pow]
    rfl
  rw [e] at q
  exact op_shr pins s σ H _ _ v u Q I rx ry ⟨_, _, rfl, rfl, Int.natCast_nonneg _, q⟩
/-- 1 << k -/
theorem op_bit : OpR X (binaryOp .LShift) (fun x y H Q => ∃ k : Nat, x = .int 1 ∧ y = .int (k : Int) ∧ k ≤ 1000 ∧ Q (.int ((2 ^ k : Nat) : Int)) H) := by
  rintro pins s σ H x y v u Q I rx ry ⟨k, rfl, rfl, h, q⟩
  refine op_oneShl pins s σ H _ _ v u Q I rx ry ⟨k, rfl, rfl, by omega, ?_⟩
  rw [Int.natCast_pow] at q
  exact q
theorem un_invN : UnR X (unaryOp .Invert) (fun x H Q => ∃ n : Nat, x = .int (n : Int) ∧ Q (.int (Builtin.bitNot (n : Int))) H) := by
  rintro pins s σ H x v Q I rx ⟨n, rfl, q⟩
  exact un_inv pins s σ H _ v Q I rx ⟨_, rfl, q⟩
theorem bit_true (n c : Nat) : ((((n >>> c) &&& 1 : Nat) : Int) != 0) = n.testBit c := by
  unfold Nat.testBit
  rw [Nat.and_comm]
  rw [Bool.eq_iff_iff, bne_iff_ne, bne_iff_ne]
  omega
/-- x >> c & 1, as a test -/
def tBit (ta tb : TE) : TT := fun σ H Q => ta σ H fun x H1 => tb σ H1 fun y H2 => ∃ n c : Nat, x = .int (n : Int) ∧ y = .int (c : Int) ∧ Q (n.testBit c) H2
theorem pt_bit {a b : Expr} {ta tb : TE} {j : Nat} {p1 p2 p3 : Pos} (ha : PE X a ta) (hb : PE X b tb) : PT X (.BinOp (.BinOp a .RShift b p1) .BitAnd (.Constant (.int 1) j p2) p3) (tBit ta tb) := by
  refine ⟨fun pins s σ H Q I h => ?_⟩
  refine isTrue_plain ?_ rfl
  refine wpAny_BinOp (thn (wpAny_BinOp (binT (Q := EP X pins σ fun z H3 => ∃ n c : Nat, z = .int ((n >>> c : Nat) : Int) ∧ Q (n.testBit c) H3) ha hb I h fun v u s2 x y H2 I2 rx ry q => ?_)) fun v s1 ⟨z, H3, I3, r3, n, c, ez, q3⟩ => ?_)
  · obtain ⟨n, c, rfl, rfl, q⟩ := q
    exact op_shrNN pins s2 σ H2 _ _ v u _ I2 rx ry ⟨n, c, rfl, rfl, n, c, rfl, q⟩
  · subst ez
    refine thn ((pe_int (i := 1) (j := j) (pos := p2)).run pins s1 σ H3 (fun w H4 => w = .int 1 ∧ H4 = H3) I3 ⟨rfl, rfl⟩) fun u s2 ⟨w, H4, I4, r4, ew, e4⟩ => ?_
    subst ew
    rw [e4] at I4
    refine thn (op_andN pins s2 σ H3 _ _ v u (fun w H5 => w = .int ((((n >>> c) &&& 1 : Nat)) : Int) ∧ H5 = H3) I4 r3 r4 ⟨n >>> c, 1, rfl, rfl, rfl, rfl⟩) fun o s3 ⟨w, H5, I5, r5, ew, e5⟩ => ?_
    subst ew
    rw [e5] at I5
    refine tru_ok pins s3 σ H3 _ o Q I5 r5 ⟨n.testBit c, ?_, q3⟩
    show n.testBit c = ((((n >>> c) &&& 1 : Nat) : Int) != 0)
    exact (bit_true n c).symm
/-- xs[i], for xs[i] op= e -/
theorem get_list : PGet X (rIxL X.K) := by
  rintro pins s σ H o i ov iv Q I ro ri ⟨p, xs, k, z, rfl, rfl, hq, he, q⟩
  cases ro
  obtain ⟨t, rfl⟩ := ri
  obtain ⟨its, r, pl, hz⟩ := I.list hq
  obtain ⟨j, h1, h2, h3, h4, h5⟩ := atI_get he
  obtain ⟨w', ew, rw'⟩ := r.get h2
  have hl := r.length
  have hn := line63
  by_cases h0 : 0 ≤ k
  · have hj : k.toNat = j := by
      rw [seqIndex_of h0 h5] at h1
      exact Option.some.inj h1
    exact wpAny_getItem_list pl.isList h0 (by omega) (by rw [hj]; simpa using ew) ⟨z, H, I, rw', q⟩
  · have hj : (k + (its.toArray.size : Int)).toNat = j := by
      rw [seqIndex_neg (by omega) h4] at h1
      rw [List.size_toArray, ← hl]
      exact Option.some.inj h1
    exact wpAny_getItem_list_neg pl.isList (by omega) (by rw [List.size_toArray] <;> omega) (by omega) (by rw [hj]; simpa using ew) ⟨z, H, I, rw', q⟩
end
end Br

/-! sorted(e, key=lambda cell: (times[cell] == -1, times[cell], cell)), times a captured list. -/
namespace Br
open PySem PySem.Spec PyProof.Rows L2
open PySem.W (EachIs KeyPure)
/-- the key of a cell -/
def keyD (t : Nat → Int) (c : Nat) : PyData := .tuple [.bool (decide (t c = -1)), .int (t c), .int (c : Int)]
section
variable {P : Program} {w : World} {A : Around} {E : Value → Shared → Prop} {s : Shared} {env : Env}
/-- the lambda's body, over the model itself -/
theorem key_eval {cT t : Addr} {n : Nat} {x : Int} {tk tx : Tok} {m : Str → Option Value} {its : Array Value} {j1 k1 : Nat} {p1 p2 p3 p4 p5 p6 p7 p8 p9 p10 p11 : Pos} {Q : Value → Shared → Prop}
    (hk : env.scope.kind = .function) (kc : env.kindOf "cell" = some .local) (kt : env.kindOf "times" = some .free) (hn : s.heap.Ns env.locals m) (hm : m "cell" = some (.int (n : Int) tk))
    (hc : env.cells.lookup ("times" : Str) = some cT) (hv : s.heap.IsCell cT (some (.ref t))) (hl : s.heap.IsList t its) (hx : its[n]? = some (.int x tx)) (hs : (n : Int) < 2 ^ 63)
    (h : ∀ h' tk', (∀ b o, s.heap.get? b = some o → h'.get? b = some o) → Reads h' (.ref s.heap.objs.size) (.tuple [.bool (decide (x = -1)), .int x, .int (n : Int)]) [] → Q (.ref s.heap.objs.size) { s with heap := h', toks := tk' }) :
    wpAny (model P w) A (eval (.Tuple [.Compare (.Subscript (.Name "times" p1) (.Name "cell" p2) p3) [.Eq] [.UnaryOp .USub (.Constant (.int 1) j1 p4) p5] p6, .Subscript (.Name "times" p7) (.Name "cell" p8) p9, .Name "cell" p10] k1 p11) env) Q E s := by
  have cell : ∀ {p : Pos} {tk' : Nat} {R : Value → Shared → Prop}, R (.int (n : Int) tk) { s with toks := tk' } → wpAny (model P w) A (eval (.Name "cell" p) env) R E { s with toks := tk' } := fun {p tk' R} q =>
    wpAny_Name (wpAny_loadName_local hk kc hn hm q)
  have times : ∀ {p : Pos} {tk' : Nat} {R : Value → Shared → Prop}, R (.ref t) { s with toks := tk' } → wpAny (model P w) A (eval (.Name "times" p) env) R E { s with toks := tk' } := fun {p tk' R} q =>
    wpAny_Name (wpAny_loadName_free hk kt hc hv q)
  have item : ∀ {p q r : Pos} {tk' : Nat} {R : Value → Shared → Prop}, R (.int x tx) { s with toks := tk' } → wpAny (model P w) A (eval (.Subscript (.Name "times" p) (.Name "cell" q) r) env) R E { s with toks := tk' } := fun {p q r tk' R} z =>
    Subscript_ (times (cell (item_listR (s := { s with toks := tk' }) hl (Int.natCast_nonneg n) hs (by rw [Int.toNat_natCast]; exact hx) z)))
  have start : s = { s with toks := s.toks } := rfl
  refine wpAny_Tuple_spliced ?_
  show wpAny (model P w) A (spliced ((false, eval (.Compare (.Subscript (.Name "times" p1) (.Name "cell" p2) p3) [.Eq] [.UnaryOp .USub (.Constant (.int 1) j1 p4) p5] p6) env) ::
    (false, eval (.Subscript (.Name "times" p7) (.Name "cell" p8) p9) env) :: (false, eval (.Name "cell" p10) env) :: [])) _ E { s with toks := s.toks }
  refine Calls.spliced_cons (wpAny_Compare1 (item (UnaryOp_ (wpAny_Constant_int (neg_int (eq_int ?_))))) (nomark _))
  refine Calls.spliced_cons (item ?_)
  refine Calls.spliced_cons (cell ?_)
  refine Calls.spliced_nil ⟨by show 3 ≤ sizeLine; decide, ?_⟩
  refine h _ _ (fun b o e => Heap.get?_push_of_some _ e) ?_
  refine Reads.tuple (Heap.get?_push_size _ rfl) rfl rfl ?_
  have e : (x == -1) = decide (x = -1) := Bool.beq_eq_decide_eq x (-1)
  rw [← e]
  exact ReadsAll.cons (as := []) (Reads.bool _) (ReadsAll.cons (as := []) (Reads.int _ _) (ReadsAll.cons (as := []) (Reads.int _ _) ReadsAll.nil))
/-- the lambda called -/
theorem key_call {cT t f c' : Addr} {qual : Str} {params : Arguments} {scope : Scope} {cl : List (Str × Addr)} {pm ctv : Value} {n : Nat} {x : Int} {tk tx : Tok} {its : Array Value} {j1 k1 : Nat} {p1 p2 p3 p4 p5 p6 p7 p8 p9 p10 p11 : Pos}
    (hf : s.heap.get? f = some (PySem.W.kla_obj "<lambda>" qual params (.Tuple [.Compare (.Subscript (.Name "times" p1) (.Name "cell" p2) p3) [.Eq] [.UnaryOp .USub (.Constant (.int 1) j1 p4) p5] p6, .Subscript (.Name "times" p7) (.Name "cell" p8) p9, .Name "cell" p10] k1 p11) scope cl pm c' ctv))
    (hb : ∀ v : Value, bindArgs (PySem.W.kla_fn "<lambda>" qual params (.Tuple [.Compare (.Subscript (.Name "times" p1) (.Name "cell" p2) p3) [.Eq] [.UnaryOp .USub (.Constant (.int 1) j1 p4) p5] p6, .Subscript (.Name "times" p7) (.Name "cell" p8) p9, .Name "cell" p10] k1 p11) scope cl pm (.ref c') ctv) ⟨[v], []⟩ = pure [(("cell" : Str), v)])
    (sk : scope.kind = .function) (sco : scope.isCoroutine = false) (sgen : scope.isGenerator = false) (snc : ∀ y ∈ scope.names, y.2 ≠ .cell) (s1 : scope.names.lookup ("cell" : Str) = some .local) (s2 : scope.names.lookup ("times" : Str) = some .free)
    (hcd : s.heap.CodeRec (.ref c') qual) (lim : s.heap.NoLimit) (hd : A.depth < recursionLimit)
    (hc : cl.lookup ("times" : Str) = some cT) (hv : s.heap.IsCell cT (some (.ref t))) (hl : s.heap.IsList t its) (hx : its[n]? = some (.int x tx)) (hs : (n : Int) < 2 ^ 63) :
    wpAny (model P w) A (call (.ref f) [.int (n : Int) tk]) (KeyPure (.tuple [.bool (decide (x = -1)), .int x, .int (n : Int)]) s) E s := by
  refine wpAny_call (PySem.W.kla_callFunE (R := fun r s' => ∃ v, r = .ok (.ret v) ∧ KeyPure (.tuple [.bool (decide (x = -1)), .int x, .int (n : Int)]) s v s') hd hf rfl sco sgen rfl hcd ?_ |> fun z => codeAny_mono z fun r s' ⟨v, e, q⟩ => by subst e; exact q)
  rw [hb]
  refine wpAny_pure (wpAny_newFunctionEnv snc (fun y hy => ?_) (fun h₁ hns hsb => ⟨lim.fresh _ hsb, ?_⟩) sk)
  · rw [List.mem_singleton.mp hy]
    exact s1
  have kp : ∀ b o, s.heap.get? b = some o → h₁.get? b = some o := fun b o e => hsb.extBut b o (Nat.ne_of_lt (Heap.lt_size e)) (Heap.get?_push_of_some _ e)
  refine PySem.W.kla_codeExpr (key_eval (cT := cT) (t := t) (tk := tk) (tx := tx) (x := x) sk s1 s2 hns ?_ hc ?_ ?_ hx hs fun h' tk' k r => ⟨_, rfl, _, _, rfl, fun b o e => k b o (kp b o e), r⟩)
  · rfl
  · obtain ⟨o, e, d⟩ := hv
    exact ⟨o, kp _ _ e, d⟩
  · obtain ⟨o, e, d⟩ := hl
    exact ⟨o, kp _ _ e, d⟩
end
end Br

namespace Br
open PySem PySem.Spec PyProof.Rows L2
open PySem.W (EachIs KeyPure)
def leTm (t : Nat → Int) (a b : Nat) : Bool :=
  if t a = -1 then decide (t b = -1 ∧ a ≤ b) else decide (t b = -1 ∨ t a < t b ∨ (t a = t b ∧ a ≤ b))
theorem sooner_le (m : W) (dug : Nat) : sooner m dug = leTm (tm m dug) := rfl
theorem lex_nil : PyProof.Rows.lexLt PyProof.Rows.itemOrd (PySem.W.keyToksAll []) (PySem.W.keyToksAll []) = false := PyProof.Rows.lex_irrefl _
/-- Python's order of the keys -/
theorem key_le (t : Nat → Int) : PySem.W.dataLe false (keyD t) = leTm t := by
  funext a b
  show (!PySem.W.dataLt (keyD t b) (keyD t a)) = leTm t a b
  unfold keyD
  rw [PySem.W.dataLt_tuple, PySem.W.dataLt_cons (by simp [PySem.W.alike]), PySem.W.dataLt_cons (by simp [PySem.W.alike]), PySem.W.dataLt_cons (by simp [PySem.W.alike]), lex_nil, PySem.W.dataLt_int, PySem.W.dataLt_int, PySem.W.dataLt_bool]
  simp only [PyData.eqv, beq_iff_eq]
  unfold leTm
  by_cases ha : t a = -1 <;> by_cases hb : t b = -1
  · simp only [ha, hb, decide_true, if_true, true_and]
    rw [Bool.eq_iff_iff]
    by_cases h : (b : Int) = (a : Int)
    · simp only [h, if_true]
      simp
      omega
    · simp only [h, if_false]
      simp
  · simp [ha, hb, b2i]
  · simp [ha, hb, b2i]
  · simp only [ha, hb, decide_false, if_true, if_false, false_or]
    rw [Bool.eq_iff_iff]
    by_cases h : t b = t a
    · simp only [h, if_true]
      by_cases h2 : (b : Int) = (a : Int)
      · simp only [h2, if_true]
        simp
        omega
      · simp only [h2, if_false]
        simp
    · simp only [h, if_false]
      simp
      omega
theorem each_of {vs : List Value} : ∀ {ns : List Nat}, Vals ((cast ns).map V.int) vs → EachIs (fun v (c : Nat) => ∃ tk, v = Value.int (c : Int) tk) vs ns := by
  induction vs with
  | nil =>
    intro ns h
    cases ns with
    | nil => exact .nil
    | cons n r => cases h
  | cons v vs ih =>
    intro ns h
    cases ns with
    | nil => cases h
    | cons n r =>
      cases h with
      | cons h1 h2 => exact .cons h1 (ih h2)
theorem vals_each {vs : List Value} : ∀ {ns : List Nat}, EachIs (fun v (c : Nat) => ∃ tk, v = Value.int (c : Int) tk) vs ns → Vals ((cast ns).map V.int) vs := by
  induction vs with
  | nil =>
    intro ns h
    cases ns with
    | nil => exact .nil
    | cons n r => cases h
  | cons v vs ih =>
    intro ns h
    cases ns with
    | nil => cases h
    | cons n r =>
      cases h with
      | cons h1 h2 => exact .cons h1 (ih h2)
theorem cast_len' (l : List Nat) : (cast l).length = l.length := List.length_map _
/-- sorted(e, key=lambda ..): e a list of cells, the i-th slot a list of minutes (captured); the new list is in the keys' order -/
def tSortKey (K : PySem.W.Frag) (T : List (Addr × Str)) (i : Nat) (te : TA) : TE := fun σ H Q => te σ H fun xs H1 => ∃ (a t : Addr) (ns : List Nat) (ts : List Int) (g : Nat → Int), xs = [.ref a] ∧ SqL K H1 a ((cast ns).map V.int) ∧
  σ[i]? = some (some (.ref t)) ∧ H1 t = some (.lst (ts.map V.int)) ∧ (∀ c ∈ ns, ts[c]? = some (g c) ∧ c < 1000) ∧ LamX.Tabs T H1 ∧
  ∀ H2 p, LamX.ExtN H1 H2 → LamX.Tabs T H2 → H2 p = none → Q (.ref p) (upd H2 p (.lst ((cast (ns.mergeSort (leTm g))).map V.int)))
theorem pe_sortKey {X : Cx} {T : List (Addr × Str)} {c P : Addr} {k i j1 k1 : Nat} {e : Expr} {te : TA} {params : Arguments} {scope : Scope} {p0 p1 p2 p3 p4 p5 p6 p7 p8 p9 p10 p11 lpos kpos pos : Pos}
    (TB : LamX.TabB X.base X.mg c P) (hcode : X.env.code = .ref c) (hm : (P, X.env.qual ++ "<lambda>") ∈ T) (hu : ∀ p ∈ T, p.1 = P → p.2 = X.env.qual ++ "<lambda>")
    (hr : Room (k + 1) X.A) (hg : Gl X "sorted") (hs : X.mg "sorted" = none) (he : PA X [e] te)
    (hN : X.N[i]? = some ("times" : Str)) (hcell : X.env.scope.names.lookup ("times" : Str) = some .cell)
    (hdef : defaultsOf params X.env = ([], [])) (hnames : scope.names = [(("cell" : Str), NameKind.local), (("times" : Str), NameKind.free)])
    (sk : scope.kind = .function) (sco : scope.isCoroutine = false) (sgen : scope.isGenerator = false)
    (hb : ∀ (q : Str) (cl : List (Str × Addr)) (pm cv ctv v : Value), bindArgs (PySem.W.kla_fn "<lambda>" q params (.Tuple [.Compare (.Subscript (.Name "times" p1) (.Name "cell" p2) p3) [.Eq] [.UnaryOp .USub (.Constant (.int 1) j1 p4) p5] p6, .Subscript (.Name "times" p7) (.Name "cell" p8) p9, .Name "cell" p10] k1 p11) scope cl pm cv ctv) ⟨[v], []⟩ = pure [(("cell" : Str), v)])
    (h1 : backTo pos (starEach [e] X.env) = (false, eval e X.env) :: backTo pos (starEach [] X.env) := by rfl) (h2 : (backTo pos (starEach [e] X.env)).any (·.1) = false := by rfl) :
    PE X (.Call (.Name "sorted" p0) [e] [⟨some "key", .Lambda params (.Tuple [.Compare (.Subscript (.Name "times" p1) (.Name "cell" p2) p3) [.Eq] [.UnaryOp .USub (.Constant (.int 1) j1 p4) p5] p6, .Subscript (.Name "times" p7) (.Name "cell" p8) p9, .Name "cell" p10] k1 p11) scope lpos, kpos⟩] pos)
      (tSortKey X.K T i te) := by
  refine ⟨fun pins s σ H Q I h => ?_⟩
  refine wpAny_Call_Name_kw (ld_blt I hg hs (by decide +kernel : bootBuiltins "sorted" = some (.builtin "sorted")) ?_)
  refine PyProof.Rows.callWith_kw (thn (he.run pos pins s σ H _ I h) fun us s1 ⟨vs, H1, I1, r1, q1⟩ => ?_) h1 h2
  obtain ⟨a, t, ns, ts, g, rfl, hL, hσ, ht, hin, hT, hq⟩ := q1
  obtain rfl := Vals.ref1 r1
  have hcells : ∃ cT, X.env.cells.lookup ("times" : Str) = some cT := I1.ok.has _ (.inl hcell)
  obtain ⟨cT, hcT⟩ := hcells
  have hfree : ∀ y ∈ scope.names, y.2 = .free → ∃ c, X.env.cells.lookup y.1 = some c := fun y hy ef => by
    rw [hnames] at hy
    rcases List.mem_cons.mp hy with e1 | hy
    · rw [e1] at ef
      cases ef
    · rw [List.mem_singleton.mp hy]
      exact ⟨cT, hcT⟩
  have hclo : (cloFrom X.env.cells scope.names []).lookup ("times" : Str) = some cT := by
    rw [hnames]
    show List.lookup ("times" : Str) [(("times" : Str), (X.env.cells.lookup ("times" : Str)).getD 0)] = some cT
    rw [hcT]
    rfl
  show wpAny _ _ (evalAll ((do let v ← eval (.Lambda params _ scope lpos) X.env; standAt pos; pure v) :: [])) _ _ s1
  refine wpAny_evalAll_cons (wpAny_bind (LamX.lam_make2 I1 TB hcode hm hu hT hdef hfree fun f c' pm ctv H2 s2 I2 eN T2 hf hfn hfr hco => ?_))
  refine wpAny_bind (wpAny_standAt (wpAny_pure (wpAny_evalAll_nil ?_)))
  show wpAny _ _ (call (.builtin "sorted") [.ref a] [(Str.ofString "key", .ref f)]) _ _ s2
  -- what is known there
  have hL2 : SqL X.K H2 a ((cast ns).map V.int) := by
    rcases hL with (z | ⟨o, z⟩) | z
    · exact .inl (.inl (eN _ _ z (fun _ w => by cases w)))
    · exact .inl (.inr ⟨o, eN _ _ z (fun _ w => by cases w)⟩)
    · exact .inr z
  have ht2 : H2 t = some (.lst (ts.map V.int)) := eN _ _ ht (fun _ w => by cases w)
  obtain ⟨its, rv, hl, hz⟩ := I2.list hL2
  have hlen : ns.length ≤ sizeLine := by
    rw [List.length_map, cast_len'] at hz
    exact hz
  obtain ⟨tits, trv, htl, _⟩ := I2.list (SqL.of (K := X.K) ht2)
  obtain ⟨u, ru, hcell2⟩ : ∃ u, RelV (.ref t) u ∧ s2.heap.IsCell cT (some u) := by
    obtain ⟨m, hn, hlk⟩ := I2.loc
    obtain ⟨u, r, l⟩ := hlk i _ _ hN hσ (.inr (.inl hcell))
    refine ⟨u, r, ?_⟩
    rcases l with ⟨z, _⟩ | ⟨_, c2, e2, z⟩
    · have z' : X.env.scope.names.lookup ("times" : Str) = some .local := z
      rw [hcell] at z'
      cases z'
    · rw [hcT] at e2
      cases e2
      exact z
  obtain rfl : u = Value.ref t := ru
  obtain ⟨⟨oc, cvs, tq, hoc, hdc, hvc⟩, _, _⟩ := I2.hok c' _ hco
  have hdep : X.A.in1.in1.depth < recursionLimit := by
    have := hr.dp
    show X.A.depth < recursionLimit
    omega
  have hun : X.A.units + 64 < cLine := hr.units
  refine PySem.W.sorted_key_data (b := false) (keyD g) hl.isList (each_of rv) (PySem.W.AllAlike.of fun _ _ => by simp [PySem.W.alike, PySem.W.alikeAll, keyD]) (PySem.W.Sortable.tuples fun _ => ⟨_, _, rfl⟩) hlen (fun x _ => ?_) (ksk_s1 _ _) (fun _ => ksk_l1 _ _) (fun _ => ksk_t1 _ _) ?turn ?fin
  · have hd : (keyD g x).depth = 1 := by simp [keyD, PyData.depth, PyData.depthAll]
    rw [hd]
    omega
  case turn =>
    rintro v n ⟨tk, rfl⟩ hn h' tk' kp
    obtain ⟨hg1, hg2⟩ := hin n hn
    have hx : (ts.map V.int)[n]? = some (.int (g n)) := by rw [List.getElem?_map, hg1]; rfl
    obtain ⟨xv, ex, tx, rfl⟩ := trv.get hx
    exact key_call (s := { s2 with heap := h', toks := tk' }) (cT := cT) (t := t) (tx := tx) (kp _ _ hf) (fun v => hb _ _ _ _ _ v) sk sco sgen (fun y hy z => by
      rw [hnames] at hy
      rcases List.mem_cons.mp hy with e1 | hy
      · rw [e1] at z
        cases z
      · rw [List.mem_singleton.mp hy] at z
        cases z) (by rw [hnames]; rfl) (by rw [hnames]; rfl) ⟨c', oc, cvs, tq, rfl, kp _ _ hoc, hdc, hvc⟩ (I2.nolimit.keeps kp) hdep hclo (let ⟨o, e1, e2⟩ := hcell2; ⟨o, kp _ _ e1, e2⟩) (let ⟨o, e1, e2⟩ := htl.isList; ⟨o, kp _ _ e1, e2⟩) (by simpa using ex) (by omega)
  case fin =>
    intro out ep h' tk' kp fresh hD hlo eo
    have hp2 : H2 (s2.heap.objs.size + 1) = none := I2.hok.fresh (Nat.le_succ _)
    rw [key_le] at eo
    refine ⟨.ref (s2.heap.objs.size + 1), _, I2.laid (o := .lst ((cast (ns.mergeSort (leTm g))).map V.int)) (t' := tk') kp (Nat.le_succ _) ⟨?_, out, ep, vals_each eo, hD⟩, rfl, hq H2 _ eN T2 hp2⟩
    rw [List.length_map, cast_len', List.length_mergeSort]
    exact hlen
end Br

/-! The walk: how a wood lies in the heap; the promises; members. -/
namespace Br
open PySem PySem.Spec PyProof.Rows L2
/-! ### the heap -/
abbrev iN (n : Nat) : V := .int (n : Int)
abbrev vN (l : List Nat) : List V := (cast l).map V.int
theorem vN_len (l : List Nat) : (vN l).length = l.length := by rw [List.length_map, cast_len']
theorem vN_get {l : List Nat} {i : Nat} {n : Nat} (h : l[i]? = some n) : (vN l)[i]? = some (iN n) := by
  rw [List.getElem?_map, cast, List.getElem?_map, h]
  rfl
theorem vN_snoc (l : List Nat) (n : Nat) : vN l ++ [iN n] = vN (l ++ [n]) := by
  show _ = (cast (l ++ [n])).map V.int
  unfold cast
  rw [List.map_append, List.map_append]
  rfl
theorem vN_set (l : List Nat) (i n : Nat) : (vN l).set i (iN n) = vN (l.set i n) := by
  show ((cast l).map V.int).set i (V.int (n : Int)) = (cast (l.set i n)).map V.int
  unfold cast
  rw [List.map_map, List.map_map]
  exact (List.map_set (f := V.int ∘ fun (n : Nat) => (n : Int)) (l := l) (i := i) (a := n)).symm
def wF (m : W) (aw ab : Addr) : List (Str × V) := [("cells", iN m.cells), ("most", iN m.most), ("rock", iN m.rock), ("fire", iN m.fire), ("worths", .ref aw), ("beside", .ref ab)]
/-- a wood at a -/
def WoodAt (C : Addr) (H : Hp) (a : Addr) (m : W) : Prop := ∃ dx aw ab, H a = some (.ins C dx (wF m aw ab)) ∧ H aw = some (.lst (vN m.worths)) ∧ H ab = some (.lst (vN m.beside))
theorem WoodAt.mono {C : Addr} {H H' : Hp} {a : Addr} {m : W} (s : Same H H') (h : WoodAt C H a m) : WoodAt C H' a m := by
  obtain ⟨dx, aw, ab, h1, h2, h3⟩ := h
  exact ⟨dx, aw, ab, s _ _ h1, s _ _ h2, s _ _ h3⟩
theorem same_new {H : Hp} {p : Addr} {o : HO} (h : H p = none) : Same H (upd H p o) := fun b u e => by
  rw [upd_ne (ne_of_none e h)]
  exact e
/-- a new object may change -/
theorem same_mut {H H' : Hp} {p : Addr} {o : HO} (s : Same H H') (h : H p = none) : Same H (upd H' p o) := fun b u e => by
  rw [upd_ne (ne_of_none e h)]
  exact s b u e
theorem ifT {c : Bool} {A B : Prop} (hc : c = true) (h : A) : if c = true then A else B := by
  rw [if_pos hc]
  exact h
theorem ifF {c : Bool} {A B : Prop} (hc : c = false) (h : B) : if c = true then A else B := by
  rw [hc, if_neg Bool.false_ne_true]
  exact h
theorem lk_here {k : Str} {v : V} {r : List (Str × V)} : List.lookup k ((k, v) :: r) = some v := by
  have e : (k == k) = true := beq_self_eq_true k
  simp only [List.lookup, e]
theorem lk_past {k g : Str} {v : V} {r : List (Str × V)} (h : (k == g) = false) : List.lookup k ((g, v) :: r) = List.lookup k r := by
  simp only [List.lookup, h]
section
variable {m : W} {aw ab : Addr}
theorem wF_cells : (wF m aw ab).lookup ("cells" : Str) = some (iN m.cells) := lk_here
theorem wF_most : (wF m aw ab).lookup ("most" : Str) = some (iN m.most) := (lk_past (by decide +kernel)).trans lk_here
theorem wF_rock : (wF m aw ab).lookup ("rock" : Str) = some (iN m.rock) := (lk_past (by decide +kernel)).trans ((lk_past (by decide +kernel)).trans lk_here)
theorem wF_fire : (wF m aw ab).lookup ("fire" : Str) = some (iN m.fire) := (lk_past (by decide +kernel)).trans ((lk_past (by decide +kernel)).trans ((lk_past (by decide +kernel)).trans lk_here))
theorem wF_worths : (wF m aw ab).lookup ("worths" : Str) = some (.ref aw) := (lk_past (by decide +kernel)).trans ((lk_past (by decide +kernel)).trans ((lk_past (by decide +kernel)).trans ((lk_past (by decide +kernel)).trans lk_here)))
theorem wF_beside : (wF m aw ab).lookup ("beside" : Str) = some (.ref ab) := (lk_past (by decide +kernel)).trans ((lk_past (by decide +kernel)).trans ((lk_past (by decide +kernel)).trans ((lk_past (by decide +kernel)).trans ((lk_past (by decide +kernel)).trans lk_here))))
/-- no method's name is a field -/
theorem wF_no {x : Str} (h : ((x == "cells") || (x == "most") || (x == "rock") || (x == "fire") || (x == "worths") || (x == "beside")) = false) : (wF m aw ab).lookup x = none := by
  simp only [Bool.or_eq_false_iff] at h
  obtain ⟨⟨⟨⟨⟨h1, h2⟩, h3⟩, h4⟩, h5⟩, h6⟩ := h
  exact (lk_past h1).trans ((lk_past h2).trans ((lk_past h3).trans ((lk_past h4).trans ((lk_past h5).trans ((lk_past h6).trans rfl)))))
end
/-- what the top has written -/
structure Txt (K : PySem.W.Frag) (mg : Str → Option Value) (C : Addr) : Prop where
  cl : Cls K C
  gC : mg "Wood" = some (.ref C)
  nC : NoAttr K C "cells"
  nM : NoAttr K C "most"
  nR : NoAttr K C "rock"
  nF : NoAttr K C "fire"
  nW : NoAttr K C "worths"
  nB : NoAttr K C "beside"
  range : mg "range" = none
  len : mg "len" = none
  min : mg "min" = none
  sorted : mg "sorted" = none
  sum : mg "sum" = none
  any : mg "any" = none
  list : mg "list" = none
/-- what every wood keeps -/
structure Good (m : W) : Prop where
  lo : 4 ≤ m.cells
  hi : m.cells ≤ 12
  most : m.most ≤ 3
  rock : m.rock < 2 ^ m.cells
  fire : m.fire < 2 ^ m.cells
  wl : m.worths.length = m.cells
  bl : m.beside.length = m.cells
  bes : ∀ a, m.beside.getD a 0 < 2 ^ m.cells
theorem Rel.good {w : Uw34.Wood} {m : W} (R : Rel w m) : Good m := by
  refine ⟨R.bound.1, R.bound.2, R.dig, R.rockLt, R.fireLt, R.worthLen, R.besLen, fun a => ?_⟩
  by_cases h : a < m.cells
  · exact lt_of_tb fun c hc => by
      rw [R.bes a c h]
      have : ¬ c < m.cells := by omega
      simp [this]
  · rw [List.getD_eq_getElem?_getD, List.getElem?_eq_none (by rw [R.besLen]; omega)]
    exact Nat.two_pow_pos _
theorem Good.near_lt {m : W} (G : Good m) (b : Nat) : ∀ i, nearTo m b i < 2 ^ m.cells
  | 0 => Nat.two_pow_pos _
  | i + 1 => by
    show (if b.testBit i = true then nearTo m b i ||| m.beside.getD i 0 else nearTo m b i) < _
    split
    · exact Nat.or_lt_two_pow (G.near_lt b i) (G.bes i)
    · exact G.near_lt b i
theorem diff_lt {x y k : Nat} (h : x < 2 ^ k) : diff x y < 2 ^ k := by
  unfold diff
  omega
theorem Good.burn_lt {m : W} (G : Good m) (dug : Nat) : ∀ i, burn m dug i < 2 ^ m.cells
  | 0 => G.fire
  | i + 1 => Nat.or_lt_two_pow (G.burn_lt dug i) (diff_lt (G.near_lt _ _))
theorem Good.small {m : W} (G : Good m) {n : Nat} (h : n < 2 ^ m.cells) : n < 2 ^ 12 := Nat.lt_of_lt_of_le h (Nat.pow_le_pow_right (by decide) G.hi)
/-! ### members -/
def spMembers : Sp := fun vs H Q _ => ∃ n : Nat, vs = [iN n] ∧ n < 2 ^ 200 ∧ ∀ (H' : Hp) (p : Addr), Same H H' → H p = none → H' p = some (.lst (vN (members n))) → Q (.ref p) H'
def t_members : TS := tRet (tLc (iRng1 (tCons (tBits (tVar 0)) tNil)) (gName 1) (tBit (tVar 0) (tVar 1)) (tVar 1) [1])
theorem pure_members (vs : List V) (H : Hp) (Q : VK) (E : XK) (h : spMembers vs H Q E) : t_members { nx := fun _ H' => Q .non H', rt := Q } (start ["cells", "cell"] vs) H := by
  obtain ⟨n, rfl, hn, k⟩ := h
  have hb : bl n ≤ 200 := bl_le hn
  refine ⟨_, rfl, _, rfl, _, rfl, ?_, ?_, fun D hD => ?_⟩
  · omega
  · rw [bl_bits]
    omega
  rw [bl_bits, Int.toNat_natCast]
  refine lc_range (lo := 0) (n := bl n) (fun i H' => H' D = some (.lst (vN ((List.range i).filter fun c => n.testBit c))) ∧ Same H H') ⟨upd_same, same_new hD⟩ ?_ ?_
  · rintro i H' hi ⟨h1, h2⟩
    refine ⟨rfl, _, rfl, _, rfl, n, i, rfl, congrArg V.int (Int.zero_add _), ?_⟩
    have e : (List.range (i + 1)).filter (fun c => n.testBit c) = (List.range i).filter (fun c => n.testBit c) ++ (if n.testBit i = true then [i] else []) := by
      rw [List.range_succ, List.filter_append]
      cases hq : n.testBit i <;> simp [hq]
    by_cases hq : n.testBit i = true
    · refine ifT hq ?_
      refine ⟨_, rfl, _, h1, ?_, ?_, same_mut h2 hD⟩
      · rw [vN_len]
        have h3 := List.length_filter_le (fun c => n.testBit c) (List.range i)
        rw [List.length_range] at h3
        exact Nat.lt_of_le_of_lt (Nat.le_trans h3 (by omega : i ≤ 1000)) (by decide)
      · rw [e, if_pos hq, ← vN_snoc]
        have e0 : (V.int (0 + (i : Int))) = iN i := congrArg V.int (Int.zero_add _)
        rw [e0]
        exact upd_same
    · refine ifF (by simpa using hq) ?_
      refine ⟨?_, h2⟩
      rw [e, if_neg hq, List.append_nil]
      exact h1
  · rintro H' ⟨h1, h2⟩
    exact k H' D h2 hD h1
theorem scMembers : FnScope ["cells", "cell"] ["cells"] (defScope sMembers) := ⟨rfl, rfl, rfl, by decide +kernel, rfl, by decide +kernel, by decide +kernel⟩
section
variable {P : Program} {w : World} {K : PySem.W.Frag} {mg : Str → Option Value} {base : Heap} {C f : Addr} {fd : FuncData}
theorem ok_members (F : Fun K "members" "members" sMembers f fd) (T : Txt K mg C) : FnOk P w K mg base CX0 1 f fd ["cells"] spMembers := by
  refine F.ok scMembers (fun vs H Q E h => ?_) (fun cdv A outer s H vs Q E hr h => ⟨t_members, ?_, pure_members vs H Q E h⟩)
  · obtain ⟨n, rfl, _⟩ := h
    rfl
  · exact pss_one (ps_ret (pe_lc (own := [(("cell" : Str), 1)]) (g := gName 1) rfl scMembers.nd (pi_range1 (by rfl) T.range (pa_cons (pe_bits (pv 0)) pa_nil)) (blkOk_by (own := [(("cell" : Str), 1)]) (N := ["cells", "cell"]) (sc := defScope sMembers) (by decide +kernel))
      (fun _ _ _ _ _ => pg_name (i := 1) scMembers.nd rfl (Or.inl rfl)) (fun _ _ _ _ _ => pts_one (pt_bit (pv 0) (pv 1))) (fun _ _ _ _ _ => pv 1)))
end
end Br

/-! The walk: is_set, may_be_dug, near, behind. -/
namespace Br
open PySem PySem.Spec PyProof.Rows L2
theorem dec_iN (a b : Nat) : decide (iN a = iN b) = decide (a = b) := by
  by_cases h : a = b
  · subst h
    simp
  · have : ¬ iN a = iN b := fun z => h (by injection z with z; omega)
    rw [decide_eq_false this, decide_eq_false h]
theorem at_nat {α : Type} {xs : List α} {j : Nat} {v : α} (h : xs[j]? = some v) : atI xs (j : Int) = some v := atI_nat h
theorem ixN_nat {n j : Nat} (h : j < n) : ixN n (j : Int) = some j := by
  unfold ixN
  rw [if_pos (Int.natCast_nonneg j), if_pos (by omega), Int.toNat_natCast]
theorem getD_at {l : List Nat} {i : Nat} (h : i < l.length) : l[i]? = some (l.getD i 0) := by
  rw [List.getD_eq_getElem?_getD, List.getElem?_eq_getElem h]
  rfl
theorem scIsSet : FnScope ["self", "cells"] ["self", "cells"] (defScope sIsSet) := ⟨rfl, rfl, rfl, by decide +kernel, rfl, by decide +kernel, by decide +kernel⟩
theorem scMay : FnScope ["self", "cells"] ["self", "cells"] (defScope sMay) := ⟨rfl, rfl, rfl, by decide +kernel, rfl, by decide +kernel, by decide +kernel⟩
theorem scNear : FnScope ["self", "burning", "found", "cell"] ["self", "burning"] (defScope sNear) := ⟨rfl, rfl, rfl, by decide +kernel, rfl, by decide +kernel, by decide +kernel⟩
theorem scBehind : FnScope ["self", "dug", "minutes", "burning", "minute"] ["self", "dug", "minutes"] (defScope sBehind) := ⟨rfl, rfl, rfl, by decide +kernel, rfl, by decide +kernel, by decide +kernel⟩
def spIsSet (C : Addr) : Sp := fun vs H Q _ => ∃ (a : Addr) (m : W) (q : Nat), vs = [.ref a, iN q] ∧ WoodAt C H a m ∧ Good m ∧ Q (.bl (decide (q < 2 ^ m.cells))) H
def spMay (C : Addr) : Sp := fun vs H Q _ => ∃ (a : Addr) (m : W) (q : Nat), vs = [.ref a, iN q] ∧ WoodAt C H a m ∧ Q (.bl (free m q)) H
def spNear (C : Addr) : Sp := fun vs H Q _ => ∃ (a : Addr) (m : W) (b : Nat), vs = [.ref a, iN b] ∧ WoodAt C H a m ∧ Good m ∧ Q (iN (near m b)) H
def spBehind (C : Addr) : Sp := fun vs H Q _ => ∃ (a : Addr) (m : W) (dug mins : Nat), vs = [.ref a, iN dug, iN mins] ∧ WoodAt C H a m ∧ Good m ∧ Q (iN (burn m dug (min mins m.cells))) H
section
variable {P : Program} {w : World} {K : PySem.W.Frag} {mg : Str → Option Value} {base : Heap} {C f fN : Addr} {fd fdN : FuncData}
theorem ok_isSet (F : Fun K "is_set" "Wood.is_set" sIsSet f fd) (T : Txt K mg C) : FnOk P w K mg base CX0 1 f fd ["self", "cells"] (spIsSet C) := by
  refine F.ok scIsSet (fun vs H Q E h => ?_) (fun cdv A outer s H vs Q E hr h => ?_)
  · obtain ⟨a, m, q, rfl, _⟩ := h
    rfl
  · refine ⟨_, pss_one (ps_ret (pe_cmpR op_lt (pv 1) (pe_op op_bit pe_int (pe_fld (pv 0) rfl)) (nomark _))), ?_⟩
    obtain ⟨a, m, q, rfl, ⟨dx, aw, ab, h1, h2, h3⟩, G, hq⟩ := h
    refine ⟨_, rfl, _, rfl, _, _, _, _, _, rfl, h1, T.cl, T.nC, wF_cells, _, rfl, rfl, by have := G.hi; omega, _, _, rfl, rfl, ?_⟩
    have e : decide ((q : Int) < ((2 ^ m.cells : Nat) : Int)) = decide (q < 2 ^ m.cells) := decide_eq_decide.mpr (by omega)
    show Q (.bl (decide ((q : Int) < ((2 ^ m.cells : Nat) : Int)))) H
    rw [e]
    exact hq
theorem ok_may (F : Fun K "may_be_dug" "Wood.may_be_dug" sMay f fd) (T : Txt K mg C) : FnOk P w K mg base CX0 1 f fd ["self", "cells"] (spMay C) := by
  refine F.ok scMay (fun vs H Q E h => ?_) (fun cdv A outer s H vs Q E hr h => ?_)
  · obtain ⟨a, m, q, rfl, _⟩ := h
    rfl
  · refine ⟨_, pss_one (ps_ret (pe_cmpR op_eq (pe_op op_andN (pv 1) (pe_op op_orN (pe_fld (pv 0) rfl) (pe_fld (pv 0) rfl))) pe_int (nomark _))), ?_⟩
    obtain ⟨a, m, q, rfl, ⟨dx, aw, ab, h1, h2, h3⟩, hq⟩ := h
    refine ⟨_, rfl, _, rfl, _, _, _, _, _, rfl, h1, T.cl, T.nR, wF_rock, _, rfl, _, _, _, _, _, rfl, h1, T.cl, T.nF, wF_fire, _, _, rfl, rfl, _, _, rfl, rfl, rfl, ?_⟩
    show Q (.bl (decide (iN (q &&& (m.rock ||| m.fire)) = iN 0))) H
    rw [dec_iN]
    exact hq
theorem ok_near (F : Fun K "near" "Wood.near" sNear f fd) (T : Txt K mg C) : FnOk P w K mg base CX0 1 f fd ["self", "burning"] (spNear C) := by
  refine F.ok scNear (fun vs H Q E h => ?_) (fun cdv A outer s H vs Q E hr h => ?_)
  · obtain ⟨a, m, b, rfl, _⟩ := h
    rfl
  · refine ⟨_, pss_cons (ps_set (i := 2) scNear.nd rfl (Or.inl rfl) pe_int) (pss_cons (ps_for PassesOwn.never rfl (pi_range1 (by rfl) T.range (pa_cons (pe_fld (pv 0) rfl) pa_nil)) (pg_name (i := 3) scNear.nd rfl (Or.inl rfl))
      (pss_one (ps_if (pt_bit (pv 1) (pv 3)) (pss_one (ps_aug (i := 2) scNear.nd rfl (Or.inl rfl) (pe_ix ix_list (pe_fld (pv 0) rfl) (pv 3) (fun _ _ => rfl)) iop_orN)) pss_nil))) (pss_one (ps_ret (pv 2)))), ?_⟩
    obtain ⟨a, m, b, rfl, ⟨dx, aw, ab, h1, h2, h3⟩, G, hq⟩ := h
    have hc := G.hi
    refine ⟨_, rfl, _, _, _, _, _, rfl, h1, T.cl, T.nC, wF_cells, _, rfl, by omega, by omega, ?_⟩
    rw [Int.toNat_natCast]
    refine for_range (lo := 0) (n := m.cells) (fun i σ H' => H' = H ∧ ∃ v, σ = [some (.ref a), some (iN b), some (iN (nearTo m b i)), v]) ⟨rfl, none, rfl⟩ ?_ ?_
    · rintro i σ H' hi ⟨rfl, v, rfl⟩
      have e0 : V.int (0 + (i : Int)) = iN i := congrArg V.int (Int.zero_add _)
      rw [e0]
      refine ⟨_, rfl, _, rfl, b, i, rfl, rfl, ?_⟩
      have en : nearTo m b (i + 1) = if b.testBit i = true then nearTo m b i ||| m.beside.getD i 0 else nearTo m b i := rfl
      by_cases hb : b.testBit i = true
      · refine ifT hb ?_
        rw [if_pos hb] at en
        refine ⟨_, rfl, _, rfl, _, _, _, _, _, rfl, h1, T.cl, T.nB, wF_beside, _, rfl, _, _, _, _, rfl, rfl, SqL.of h3, at_nat (vN_get (getD_at (by rw [G.bl]; exact hi))), _, _, rfl, rfl, rfl, some (iN i), ?_⟩
        rw [en]
        rfl
      · refine ifF (by simpa using hb) ?_
        rw [if_neg hb] at en
        exact ⟨rfl, _, by rw [en]; rfl⟩
    · rintro σ H' ⟨rfl, v, rfl⟩
      exact ⟨_, rfl, hq⟩
theorem ok_behind (F : Fun K "behind" "Wood.behind" sBehind f fd) (T : Txt K mg C) (mN : Meth K C "near" fN) (GN : FnOk P w K mg base CX0 1 fN fdN ["self", "burning"] (spNear C)) (bN : Binds K fdN ["self", "burning"] []) :
    FnOk P w K mg base CX0 2 f fd ["self", "dug", "minutes"] (spBehind C) := by
  refine F.ok scBehind (fun vs H Q E h => ?_) (fun cdv A outer s H vs Q E hr h => ?_)
  · obtain ⟨a, m, d, n, rfl, _⟩ := h
    rfl
  · refine ⟨_, pss_cons (ps_set (i := 3) scBehind.nd rfl (Or.inl rfl) (pe_fld (pv 0) rfl)) (pss_cons (ps_for PassesOwn.never rfl (pi_range1 (by rfl) T.range (pa_cons (pe_callB (call_min2 rfl) (by rfl) T.min (by decide +kernel) (pa_cons (pv 2) (pa_cons (pe_fld (pv 0) rfl) pa_nil))) pa_nil)) (pg_name (i := 4) scBehind.nd rfl (Or.inl rfl))
      (pss_one (ps_aug (i := 3) scBehind.nd rfl (Or.inl rfl) (pe_op op_diff (pe_meth (pv 0) T.cl mN GN hr bN .nil pass0 (pa_cons (pv 3) pa_nil)) (pe_un un_invN (pe_op op_orN (pv 1) (pe_fld (pv 0) rfl)))) iop_orN))) (pss_one (ps_ret (pv 3)))), ?_⟩
    obtain ⟨a, m, d, n, rfl, W0, G, hq⟩ := h
    have hc := G.hi
    obtain ⟨dx, aw, ab, h1, h2, h3⟩ := id W0
    have em : (if ((m.cells : Nat) : Int) < ((n : Nat) : Int) then ((m.cells : Nat) : Int) else ((n : Nat) : Int)) = ((min n m.cells : Nat) : Int) := by
      split <;> omega
    refine ⟨_, rfl, _, _, _, _, _, rfl, h1, T.cl, T.nF, wF_fire, _, rfl, _, rfl, _, _, _, _, _, rfl, h1, T.cl, T.nC, wF_cells, _, _, rfl, ?_⟩
    show ∃ j : Int, [V.int (if ((m.cells : Nat) : Int) < ((n : Nat) : Int) then ((m.cells : Nat) : Int) else ((n : Nat) : Int))] = [.int j] ∧ _
    rw [em]
    refine ⟨_, rfl, by omega, by omega, ?_⟩
    rw [Int.toNat_natCast]
    refine for_range (lo := 0) (n := min n m.cells) (fun i σ H' => H' = H ∧ ∃ v, σ = [some (.ref a), some (iN d), some (iN n), some (iN (burn m d i)), v]) ⟨rfl, none, rfl⟩ ?_ ?_
    · rintro i σ H' hi ⟨rfl, v, rfl⟩
      refine ⟨_, rfl, _, rfl, _, _, _, rfl, h1, wF_no (by decide +kernel), _, rfl, a, m, burn m d i, rfl, W0, G, _, rfl, _, rfl, _, _, _, _, _, rfl, h1, T.cl, T.nR, wF_rock, _, _, rfl, rfl, _, rfl, _, _, rfl, rfl, _, _, rfl, rfl, rfl, _, rfl⟩
    · rintro σ H' ⟨rfl, v, rfl⟩
      exact ⟨_, rfl, hq⟩
end
end Br

/-! The walk: comes. -/
namespace Br
open PySem PySem.Spec PyProof.Rows L2
theorem rep_map {α : Type} (n : Nat) (x : α) : (List.replicate n [x]).flatten = (List.range n).map fun _ => x := by
  rw [List.flatten_replicate_singleton, List.map_const', List.length_range]
/-- the first c told by g, the others by f -/
def mid (n : Nat) (f g : Nat → V) (c : Nat) : List V := (List.range n).map fun x => if x < c then g x else f x
theorem mid_len (n : Nat) (f g : Nat → V) (c : Nat) : (mid n f g c).length = n := by
  unfold mid
  rw [List.length_map, List.length_range]
theorem mid_zero (n : Nat) (f g : Nat → V) : mid n f g 0 = (List.range n).map f := by
  unfold mid
  exact List.map_congr_left fun x _ => if_neg (Nat.not_lt_zero x)
theorem mid_all (n : Nat) (f g : Nat → V) : mid n f g n = (List.range n).map g := by
  unfold mid
  exact List.map_congr_left fun x hx => if_pos (List.mem_range.mp hx)
theorem mid_at {n : Nat} {f g : Nat → V} {c : Nat} (h : c < n) : (mid n f g c)[c]? = some (f c) := by
  unfold mid
  rw [List.getElem?_map, List.getElem?_range h]
  simp
theorem mid_set {n : Nat} {f g : Nat → V} {c : Nat} (h : c < n) : (mid n f g c).set c (g c) = mid n f g (c + 1) := by
  apply List.ext_getElem?
  intro i
  unfold mid
  by_cases e : c = i
  · subst e
    rw [List.getElem?_set_self (by rw [List.length_map, List.length_range]; exact h), List.getElem?_map, List.getElem?_range h]
    simp
  · rw [List.getElem?_set_ne e, List.getElem?_map, List.getElem?_map]
    cases q : (List.range n)[i]? with
    | none => rfl
    | some x =>
      have hx : x = i := by
        have hi : i < n := by
          have := (List.getElem?_eq_some_iff.mp q).1
          rw [List.length_range] at this
          exact this
        rw [List.getElem?_range hi] at q
        exact (Option.some.inj q).symm
      subst hx
      show some (if x < c then g x else f x) = some (if x < c + 1 then g x else f x)
      by_cases h1 : x < c
      · rw [if_pos h1, if_pos (by omega)]
      · rw [if_neg h1, if_neg (by omega)]
theorem mid_same {n : Nat} {f g : Nat → V} {c : Nat} (h : c < n) (e : g c = f c) : mid n f g (c + 1) = mid n f g c := by
  rw [← mid_set h, e]
  apply List.ext_getElem?
  intro i
  by_cases q : c = i
  · subst q
    rw [List.getElem?_set_self (by rw [mid_len]; exact h), mid_at h]
  · rw [List.getElem?_set_ne q]
/-- the minutes behind i turns -/
def tl (m : W) (d i : Nat) : List V := (List.range m.cells).map fun c => V.int (tmTo m d i c)
theorem tl_end (m : W) (d : Nat) : tl m d (m.cells + 1) = (times m d).map V.int := by
  unfold tl times
  rw [List.map_map]
  rfl
theorem tm_yes {m : W} {d i c : Nat} (h : tmTo m d i c = -1) (hb : (near m (burn m d i)).testBit c = true) : tmTo m d (i + 1) c = (i : Int) := if_pos ⟨h, hb⟩
theorem tm_no {m : W} {d i c : Nat} (h : ¬ (tmTo m d i c = -1 ∧ (near m (burn m d i)).testBit c = true)) : tmTo m d (i + 1) c = tmTo m d i c := if_neg h
theorem dec_int' (i j : Int) : decide (V.int i = V.int j) = decide (i = j) := by
  by_cases h : i = j
  · subst h
    simp
  · have : ¬ V.int i = V.int j := fun z => h (by injection z)
    rw [decide_eq_false this, decide_eq_false h]
def spComes (C : Addr) : Sp := fun vs H Q _ => ∃ (a : Addr) (m : W) (d : Nat), vs = [.ref a, iN d] ∧ WoodAt C H a m ∧ Good m ∧ ∀ (H' : Hp) (p : Addr), Same H H' → H p = none → H' p = some (.lst ((times m d).map V.int)) → Q (.ref p) H'
theorem scComes : FnScope ["self", "dug", "times", "burning", "minute", "near", "cell"] ["self", "dug"] (defScope sComes) := ⟨rfl, rfl, rfl, by decide +kernel, rfl, by decide +kernel, by decide +kernel⟩
section
variable {P : Program} {w : World} {K : PySem.W.Frag} {mg : Str → Option Value} {base : Heap} {C f fN : Addr} {fd fdN : FuncData}
theorem ok_comes (F : Fun K "comes" "Wood.comes" sComes f fd) (T : Txt K mg C) (mN : Meth K C "near" fN) (GN : FnOk P w K mg base CX0 1 fN fdN ["self", "burning"] (spNear C)) (bN : Binds K fdN ["self", "burning"] []) :
    FnOk P w K mg base CX0 2 f fd ["self", "dug"] (spComes C) := by
  refine F.ok scComes (fun vs H Q E h => ?_) (fun cdv A outer s H vs Q E hr h => ?_)
  · obtain ⟨a, m, d, rfl, _⟩ := h
    rfl
  · refine ⟨_, pss_cons (ps_set (i := 2) scComes.nd rfl (Or.inl rfl) (pe_op op_rep (pe_lst (pa_cons (pe_un un_neg pe_int) pa_nil)) (pe_fld (pv 0) rfl)))
      (pss_cons (ps_set (i := 3) scComes.nd rfl (Or.inl rfl) (pe_fld (pv 0) rfl))
      (pss_cons (ps_for PassesOwn.never rfl (pi_range1 (by rfl) T.range (pa_cons (pe_op op_addN (pe_fld (pv 0) rfl) pe_int) pa_nil)) (pg_name (i := 4) scComes.nd rfl (Or.inl rfl))
        (pss_cons (ps_set (i := 5) scComes.nd rfl (Or.inl rfl) (pe_meth (pv 0) T.cl mN GN hr bN .nil pass0 (pa_cons (pv 3) pa_nil)))
        (pss_cons (ps_for PassesOwn.never rfl (pi_range1 (by rfl) T.range (pa_cons (pe_fld (pv 0) rfl) pa_nil)) (pg_name (i := 6) scComes.nd rfl (Or.inl rfl))
          (pss_one (ps_if (PW.pt (pw_and (pt_cmpR op_eq (pe_ix ix_list (pv 2) (pv 6) (fun _ _ => rfl)) (pe_un un_neg pe_int) (nomark _)) (pw_and1 (pt_bit (pv 5) (pv 6))))) (pss_one (ps_asg (pv 4) (pg_sub (pv 2) (pv 6) set_list))) pss_nil)))
        (pss_one (ps_aug (i := 3) scComes.nd rfl (Or.inl rfl) (pe_op op_diff (pv 5) (pe_un un_invN (pe_op op_orN (pv 1) (pe_fld (pv 0) rfl)))) iop_orN)))))
      (pss_one (ps_ret (pv 2))))), ?_⟩
    obtain ⟨a, m, d, rfl, W0, G, hq⟩ := h
    have hc := G.hi
    -- times = [-1] * self.cells
    refine ⟨1, rfl, (by show 1 ≤ sizeLine; decide), fun l hl => ?_⟩
    obtain ⟨dx, aw, ab, h1, h2, h3⟩ := WoodAt.mono (same_new hl (o := .lst [.int (-1)])) W0
    refine ⟨_, rfl, _, _, _, _, _, rfl, h1, T.cl, T.nC, wF_cells, l, _, _, rfl, rfl, upd_same, by omega, by omega, ?_, fun p hp => ?_⟩
    · rw [Int.toNat_natCast]
      show 1 * m.cells ≤ sizeLine
      exact Nat.le_trans (by omega : 1 * m.cells ≤ 12) (by decide)
    have s0 : Same H (upd (upd H l (.lst [.int (-1)])) p (.lst (tl m d 0))) := (same_new hl).trans (same_new hp)
    have hp0 : H p = none := (same_new hl).free hp
    have e0 : (List.replicate ((m.cells : Nat) : Int).toNat [V.int (-1)]).flatten = tl m d 0 := by
      rw [Int.toNat_natCast, rep_map]
      rfl
    rw [e0]
    obtain ⟨dx, aw, ab, h1, h2, h3⟩ := WoodAt.mono s0 W0
    refine ⟨_, rfl, _, _, _, _, _, rfl, h1, T.cl, T.nF, wF_fire, ?_⟩
    refine ⟨_, rfl, _, _, _, _, _, rfl, h1, T.cl, T.nC, wF_cells, m.cells, 1, rfl, rfl, _, rfl, by omega, by omega, ?_⟩
    rw [Int.toNat_natCast]
    refine for_range (lo := 0) (n := m.cells + 1) (fun i σ H' => Same H H' ∧ H' p = some (.lst (tl m d i)) ∧ ∃ v4 v5 v6, σ = [some (.ref a), some (iN d), some (.ref p), some (iN (burn m d i)), v4, v5, v6]) ⟨s0, upd_same, none, none, none, rfl⟩ ?_ ?_
    · rintro i σ H' hi ⟨sH, hP, v4, v5, v6, rfl⟩
      have ei : V.int (0 + (i : Int)) = iN i := congrArg V.int (Int.zero_add _)
      rw [ei]
      obtain ⟨dx, aw, ab, h1, h2, h3⟩ := WoodAt.mono sH W0
      refine ⟨_, rfl, a, dx, _, rfl, h1, wF_no (by decide +kernel), _, rfl, a, m, burn m d i, rfl, WoodAt.mono sH W0, G, ?_⟩
      refine ⟨_, rfl, _, _, _, _, _, rfl, h1, T.cl, T.nC, wF_cells, _, rfl, by omega, by omega, ?_⟩
      rw [Int.toNat_natCast]
      refine for_range (lo := 0) (n := m.cells) (fun c σ H2 => Same H H2 ∧ H2 p = some (.lst (mid m.cells (fun x => V.int (tmTo m d i x)) (fun x => V.int (tmTo m d (i + 1) x)) c)) ∧
        ∃ v6, σ = [some (.ref a), some (iN d), some (.ref p), some (iN (burn m d i)), some (iN i), some (iN (near m (burn m d i))), v6]) ⟨sH, ?_, v6, rfl⟩ ?_ ?_
      · rw [mid_zero]
        exact hP
      · rintro c σ H2 hcl ⟨sH2, hP2, v6, rfl⟩
        have ec : V.int (0 + (c : Int)) = iN c := congrArg V.int (Int.zero_add _)
        rw [ec]
        refine ⟨_, rfl, _, rfl, p, _, _, _, rfl, rfl, SqL.of hP2, at_nat (mid_at hcl), 1, rfl, rfl, _, rfl, ?_⟩
        rw [dec_int']
        have keep : ¬ (tmTo m d i c = -1 ∧ (near m (burn m d i)).testBit c = true) → Same H H2 ∧ H2 p = some (.lst (mid m.cells (fun x => V.int (tmTo m d i x)) (fun x => V.int (tmTo m d (i + 1) x)) (c + 1))) := fun z =>
          ⟨sH2, by rw [mid_same hcl (congrArg V.int (tm_no z))]; exact hP2⟩
        by_cases ht : tmTo m d i c = -1
        · refine ifT (decide_eq_true ht) ?_
          refine ⟨_, rfl, _, rfl, near m (burn m d i), c, rfl, rfl, ?_⟩
          by_cases hb : (near m (burn m d i)).testBit c = true
          · refine ifT hb ?_
            refine ⟨_, rfl, _, rfl, _, rfl, p, _, _, c, rfl, rfl, hP2, ?_, ?_⟩
            · rw [mid_len]
              exact ixN_nat hcl
            · refine ⟨same_mut sH2 hp0, ?_, some (iN c), rfl⟩
              have es : iN i = V.int (tmTo m d (i + 1) c) := by rw [tm_yes ht hb]
              rw [es, mid_set (f := fun x => V.int (tmTo m d i x)) (g := fun x => V.int (tmTo m d (i + 1) x)) hcl]
              exact upd_same
          · refine ifF (by simpa using hb) ?_
            obtain ⟨k1, k2⟩ := keep fun z => hb z.2
            exact ⟨k1, k2, some (iN c), rfl⟩
        · refine ifF (decide_eq_false ht) ?_
          refine ifF rfl ?_
          obtain ⟨k1, k2⟩ := keep fun z => ht z.1
          exact ⟨k1, k2, some (iN c), rfl⟩
      · rintro σ H2 ⟨sH2, hP2, v6, rfl⟩
        obtain ⟨dx, aw, ab, h1, h2, h3⟩ := WoodAt.mono sH2 W0
        refine ⟨_, rfl, _, rfl, _, rfl, _, rfl, _, _, _, _, _, rfl, h1, T.cl, T.nR, wF_rock, _, _, rfl, rfl, _, rfl, _, _, rfl, rfl, _, _, rfl, rfl, ?_⟩
        refine ⟨sH2, ?_, some (iN i), some (iN (near m (burn m d i))), v6, rfl⟩
        rw [hP2, mid_all]
        rfl
    · rintro σ H' ⟨sH, hP, v4, v5, v6, rfl⟩
      refine ⟨_, rfl, hq H' p sH hp0 ?_⟩
      rw [hP, tl_end]
end
end Br

/-! The walk: too_many, in_time. -/
namespace Br
open PySem PySem.Spec PyProof.Rows L2
abbrev vI (l : List Int) : List V := l.map V.int
theorem vI_len (l : List Int) : (vI l).length = l.length := List.length_map _
theorem vI_snoc (l : List Int) (n : Int) : vI l ++ [V.int n] = vI (l ++ [n]) := by
  show _ = (l ++ [n]).map V.int
  rw [List.map_append]
  rfl
/-- filter and map, one item more -/
theorem fm_more {α β : Type} (p : α → Bool) (g : α → β) {l : List α} {i : Nat} {x : α} (h : l[i]? = some x) :
    ((l.take (i + 1)).filter p).map g = ((l.take i).filter p).map g ++ (if p x = true then [g x] else []) := by
  have e : l.take (i + 1) = l.take i ++ [x] := by
    rw [List.take_add_one, h]
    rfl
  rw [e, List.filter_append, List.map_append]
  cases q : p x <;> simp [q]
theorem fm_len {α β : Type} (p : α → Bool) (g : α → β) (l : List α) (i : Nat) : (((l.take i).filter p).map g).length ≤ l.length := by
  rw [List.length_map]
  refine Nat.le_trans (List.length_filter_le _ _) ?_
  rw [List.length_take]
  omega
theorem take_all {α : Type} (l : List α) : l.take l.length = l := List.take_length
theorem times_at {m : W} {d c : Nat} (h : c < m.cells) : (vI (times m d))[c]? = some (V.int (tm m d c)) := by
  unfold times
  rw [List.getElem?_map, List.getElem?_map, List.getElem?_range h]
  rfl
theorem times_at' {m : W} {d c : Nat} (h : c < m.cells) : (times m d)[c]? = some (tm m d c) := by
  unfold times
  rw [List.getElem?_map, List.getElem?_range h]
  rfl
theorem vN_at {l : List Nat} {i : Nat} {y : V} (h : (vN l)[i]? = some y) : ∃ n, l[i]? = some n ∧ y = iN n := by
  rw [List.getElem?_map, cast, List.getElem?_map] at h
  cases q : l[i]? with
  | none =>
    rw [q] at h
    cases h
  | some n =>
    rw [q] at h
    exact ⟨n, rfl, (Option.some.inj h).symm⟩
theorem vI_at {l : List Int} {i : Nat} {y : V} (h : (vI l)[i]? = some y) : ∃ n, l[i]? = some n ∧ y = V.int n := by
  rw [List.getElem?_map] at h
  cases q : l[i]? with
  | none =>
    rw [q] at h
    cases h
  | some n =>
    rw [q] at h
    exact ⟨n, rfl, (Option.some.inj h).symm⟩
theorem small12 {n : Nat} (h : n < 100) : n < sizeLine := Nat.lt_of_lt_of_le h (by decide)
theorem pow_big {m : W} (G : Good m) {n : Nat} (h : n < 2 ^ m.cells) : n < 2 ^ 200 := Nat.lt_of_lt_of_le h (Nat.pow_le_pow_right (by decide) (by have := G.hi; omega))
theorem row_len {m : W} (G : Good m) {d : Nat} (h : d < 2 ^ m.cells) : (row m d).length ≤ 12 := by
  unfold row
  rw [List.length_map]
  exact Nat.le_trans (List.length_filter_le _ _) (Nat.le_trans (members_len h) G.hi)
theorem too_yes {m : W} {d k a : Nat} (h : isLate m d a = true) : tooFrom m d (k + 1) a = (a, early m d a) := if_pos h
theorem too_no {m : W} {d k a : Nat} (h : isLate m d a = false) : tooFrom m d (k + 1) a = tooFrom m d k (a + 1) := if_neg (by rw [h]; exact Bool.false_ne_true)
def spTooMany (C : Addr) : Sp := fun vs H Q _ => ∃ (a : Addr) (m : W) (d : Nat), vs = [.ref a, iN d] ∧ WoodAt C H a m ∧ Good m ∧ d < 2 ^ m.cells ∧
  ∀ (H' : Hp) (p : Addr), Same H H' → H p = none → H' p = some (.tup [iN (tooMany m d).1, iN (tooMany m d).2]) → Q (.ref p) H'
theorem scTooMany : FnScope ["self", "dug", "times", "row", "number", "early", "cell", "time"] ["self", "dug"] (defScope sTooMany) := ⟨rfl, rfl, rfl, by decide +kernel, rfl, by decide +kernel, by decide +kernel⟩
section
variable {P : Program} {w : World} {K : PySem.W.Frag} {mg : Str → Option Value} {base : Heap} {C f fC fM : Addr} {fd fdC fdM : FuncData}
theorem ok_tooMany (F : Fun K "too_many" "Wood.too_many" sTooMany f fd) (T : Txt K mg C) (mC : Meth K C "comes" fC) (GC : FnOk P w K mg base CX0 2 fC fdC ["self", "dug"] (spComes C)) (bC : Binds K fdC ["self", "dug"] [])
    (gM : mg "members" = some (.ref fM)) (kM : PySem.W.keepIn K (.ref fM) = true) (GM : FnOk P w K mg base CX0 1 fM fdM ["cells"] spMembers) (bM : Binds K fdM ["cells"] []) :
    FnOk P w K mg base CX0 3 f fd ["self", "dug"] (spTooMany C) := by
  refine F.ok scTooMany (fun vs H Q E h => ?_) (fun cdv A outer s H vs Q E hr h => ?_)
  · obtain ⟨a, m, d, rfl, _⟩ := h
    rfl
  · have hr1 : Room 1 _ := hr.mono (by decide)
    refine ⟨_, pss_cons (ps_set (i := 2) scTooMany.nd rfl (Or.inr rfl) (pe_meth (pv 0) T.cl mC GC hr bC .nil pass0 (pa_cons (pv 1) pa_nil)))
      (pss_cons (ps_setLc (i := 3) (own := [(("cell" : Str), 6)]) (g := gName 6) (tt := tTest (tOp rNe (tOp (rIxL K) (tVar 2) (tVar 6)) (tUn (rU fun i => .int (-i)) (tC (.int 1))))) (te := tOp (rIxL K) (tVar 2) (tVar 6)) rfl scTooMany.nd rfl rfl (sw_true rfl rfl rfl (by decide +kernel))
        (pi_list (pe_call GM hr1 rfl gM kM bM .nil pass0 (pa_cons (pv 1) pa_nil))) (blkOk_by (own := [(("cell" : Str), 6)]) (N := ["self", "dug", "times", "row", "number", "early", "cell", "time"]) (sc := defScope sTooMany) (by decide +kernel))
        (fun _ _ _ _ _ => pg_name (i := 6) scTooMany.nd rfl (Or.inl rfl)) (fun _ _ _ _ _ => pts_one (pt_cmpR op_ne (pe_ix ix_list (pv 2) (pv 6) (fun _ _ => rfl)) (pe_un un_neg pe_int) (nomark _))) (fun _ _ _ _ _ => pe_ix ix_list (pv 2) (pv 6) (fun _ _ => rfl)))
      (pss_cons (ps_for PassesOwn.never rfl (pi_range2 (by rfl) T.range (pa_cons pe_int (pa_cons (pe_op op_addN (pe_fld (pv 0) rfl) pe_int) pa_nil))) (pg_name (i := 4) scTooMany.nd rfl (Or.inr rfl))
        (pss_cons (ps_set (i := 5) scTooMany.nd rfl (Or.inl rfl) (pe_callB call_len_seq (by rfl) T.len PySem.boot_len (pa_cons (pe_lc (own := [(("time" : Str), 7)]) (g := gName 7) rfl scTooMany.nd (pi_list (pv 3))
          (blkOk_by (own := [(("time" : Str), 7)]) (N := ["self", "dug", "times", "row", "number", "early", "cell", "time"]) (sc := defScope sTooMany) (by decide +kernel))
          (fun _ _ _ _ _ => pg_name (i := 7) scTooMany.nd rfl (Or.inl rfl)) (fun _ _ _ _ _ => pts_one (pt_cmpR op_lt (pv 7) (pv 4) (nomark _))) (fun _ _ _ _ _ => pv 7)) pa_nil)))
        (pss_one (ps_if (pt_cmpR op_gt (pv 5) (pe_op op_mulN (pv 4) (pe_fld (pv 0) rfl)) (nomark _)) (pss_one (ps_ret (pe_tup (pa_cons (pv 4) (pa_cons (pv 5) pa_nil))))) pss_nil))))
      (pss_one (ps_ret (pe_tup (pa_cons pe_int (pa_cons pe_int pa_nil))))))), ?_⟩
    obtain ⟨a, m, d, rfl, W0, G, hd, hq⟩ := h
    have hc := G.hi
    obtain ⟨dx, aw, ab, h1, h2, h3⟩ := id W0
    -- times
    refine ⟨_, rfl, a, dx, _, rfl, h1, wF_no (by decide +kernel), _, rfl, a, m, d, rfl, W0, G, fun H1 tp s1 _ hT => ?_⟩
    -- row
    refine ⟨_, rfl, d, rfl, pow_big G hd, fun H2 mp s2 hmp hM => ?_⟩
    have s02 : Same H H2 := s1.trans s2
    refine ⟨mp, rfl, ⟨_, SqL.of hM⟩, fun D hD => ?_⟩
    refine lc_list (K := K) (a := mp) (xs := vN (members d)) (fun j H' => H' D = some (.lst (vI ((((members d).take j).filter fun c => !decide (tm m d c = -1)).map (tm m d)))) ∧ Same H2 H') ⟨upd_same, same_new hD⟩
      (fun j H' _ ⟨_, sj⟩ => sj.seq (SqL.of hM)) ?_ ?_
    · rintro j y H' hy ⟨hD1, sj⟩
      obtain ⟨c, hcj, rfl⟩ := vN_at hy
      have hcl : c < m.cells := members_lt hd c (List.mem_of_getElem? hcj)
      have hT' : H' tp = some (.lst (vI (times m d))) := sj _ _ (s2 _ _ hT)
      refine ⟨rfl, _, rfl, _, rfl, tp, _, _, _, rfl, rfl, SqL.of hT', at_nat (times_at hcl), 1, rfl, rfl, _, rfl, ?_⟩
      rw [dec_int']
      have e := fm_more (fun c => !decide (tm m d c = -1)) (tm m d) hcj
      by_cases ht : tm m d c = -1
      · refine ifF (by rw [decide_eq_true ht]; rfl) ⟨?_, sj⟩
        rw [e, if_neg (by rw [decide_eq_true ht]; decide), List.append_nil]
        exact hD1
      · refine ifT (by rw [decide_eq_false ht]; rfl) ?_
        refine ⟨_, rfl, _, rfl, tp, _, _, _, rfl, rfl, SqL.of hT', at_nat (times_at hcl), _, hD1, ?_, ?_, same_mut sj hD⟩
        · rw [vI_len]
          refine small12 (Nat.lt_of_le_of_lt (fm_len _ _ _ _) ?_)
          have := members_len hd
          omega
        · rw [e, if_pos (by rw [decide_eq_false ht]; rfl), ← vI_snoc]
          exact upd_same
    rintro H3 ⟨hR, s3⟩
    have eR : vI ((((members d).take (vN (members d)).length).filter fun c => !decide (tm m d c = -1)).map (tm m d)) = vI (row m d) := by
      rw [vN_len, take_all]
      rfl
    rw [eR] at hR
    have s03 : Same H H3 := s02.trans s3
    obtain ⟨dx, aw, ab, h1, h2, h3⟩ := WoodAt.mono s03 W0
    -- the loop
    refine ⟨_, rfl, _, _, _, _, _, rfl, h1, T.cl, T.nC, wF_cells, m.cells, 2, rfl, rfl, 1, _, rfl, ⟨by omega, by omega, by omega, by omega⟩, ?_⟩
    have en : (((m.cells + 2 : Nat) : Int) - 1).toNat = m.cells + 1 := by omega
    rw [en]
    refine for_range (lo := 1) (n := m.cells + 1) (fun i σ H' => Same H H' ∧ H' D = some (.lst (vI (row m d))) ∧ tooMany m d = tooFrom m d (m.cells + 1 - i) (1 + i) ∧
      ∃ v4 v5, σ = [some (.ref a), some (iN d), some (.ref tp), some (.ref D), v4, v5, none, none]) ⟨s03, hR, rfl, none, none, rfl⟩ ?_ ?_
    · rintro i σ H' hi ⟨sH, hR', eT, v4, v5, rfl⟩
      have ei : V.int (1 + (i : Int)) = iN (1 + i) := congrArg V.int (by omega)
      rw [ei]
      refine ⟨_, rfl, D, rfl, ⟨_, SqL.of hR'⟩, fun D2 hD2 => ?_⟩
      refine lc_list (K := K) (a := D) (xs := vI (row m d)) (fun j H2 => H2 D2 = some (.lst (vI ((((row m d).take j).filter fun t => decide (t < ((1 + i : Nat) : Int))).map id))) ∧ Same H' H2) ⟨upd_same, same_new hD2⟩
        (fun j H2 _ ⟨_, sj⟩ => sj.seq (SqL.of hR')) ?_ ?_
      · rintro j y H2 hy ⟨hj, sj⟩
        obtain ⟨t, htj, rfl⟩ := vI_at hy
        have e := fm_more (fun t => decide (t < ((1 + i : Nat) : Int))) id htj
        refine ⟨rfl, _, rfl, _, rfl, _, _, rfl, rfl, _, rfl, ?_⟩
        by_cases hl : t < ((1 + i : Nat) : Int)
        · refine ifT (decide_eq_true hl) ?_
          refine ⟨_, rfl, _, hj, ?_, ?_, same_mut sj hD2⟩
          · rw [vI_len]
            refine small12 (Nat.lt_of_le_of_lt (fm_len _ _ _ _) ?_)
            have := row_len G hd
            omega
          · rw [e, if_pos (decide_eq_true hl), ← vI_snoc]
            exact upd_same
        · refine ifF (decide_eq_false hl) ⟨?_, sj⟩
          rw [e, if_neg (by rw [decide_eq_false hl]; decide), List.append_nil]
          exact hj
      rintro H2 ⟨hE, s2'⟩
      have eE : (vI ((((row m d).take (vI (row m d)).length).filter fun t => decide (t < ((1 + i : Nat) : Int))).map id)).length = early m d (1 + i) := by
        rw [vI_len, vI_len, take_all, List.map_id]
        rfl
      refine ⟨D2, _, rfl, .inl (SqL.of hE), ?_⟩
      rw [eE]
      have sH2 : Same H H2 := sH.trans s2'
      obtain ⟨dx, aw, ab, h1, h2, h3⟩ := WoodAt.mono sH2 W0
      refine ⟨_, rfl, _, rfl, _, rfl, _, _, _, _, _, rfl, h1, T.cl, T.nM, wF_most, 1 + i, m.most, rfl, rfl, by omega, _, _, rfl, rfl, _, rfl, ?_⟩
      have ed : decide (((((1 + i) * m.most : Nat)) : Int) < ((early m d (1 + i) : Nat) : Int)) = isLate m d (1 + i) := decide_eq_decide.mpr (by omega)
      rw [ed]
      have ek : m.cells + 1 - i = (m.cells - i) + 1 := by omega
      cases hL : isLate m d (1 + i) with
      | true =>
        refine ifT rfl ?_
        refine ⟨_, rfl, _, rfl, (by show 2 ≤ sizeLine; decide), fun p hp => hq _ p (sH2.trans (same_new hp)) (sH2.free hp) ?_⟩
        rw [eT, ek, too_yes hL]
        exact upd_same
      | false =>
        refine ifF rfl ⟨sH2, s2' _ _ hR', ?_, some (iN (1 + i)), some (iN (early m d (1 + i))), rfl⟩
        rw [eT, ek, too_no hL]
        have e1 : m.cells + 1 - (i + 1) = m.cells - i := by omega
        rw [e1, Nat.add_assoc]
    · rintro σ H' ⟨sH, hR', eT, v4, v5, rfl⟩
      refine ⟨(by show 2 ≤ sizeLine; decide), fun p hp => hq _ p (sH.trans (same_new hp)) (sH.free hp) ?_⟩
      have e0 : tooMany m d = (0, 0) := by
        rw [eT, Nat.sub_self]
        rfl
      rw [e0]
      exact upd_same
end
end Br

/-! The walk: in_time, loses, in_order. -/
namespace Br
open PySem PySem.Spec PyProof.Rows L2
theorem eqv_two (a b c d : Nat) : PyData.eqv (.tuple [.int (a : Int), .int (b : Int)]) (.tuple [.int (c : Int), .int (d : Int)]) = decide ((a, b) = (c, d)) := by
  rw [Bool.eq_iff_iff]
  simp [PyData.eqv, PyData.eqvAll]
  omega
theorem cast_sum : ∀ l : List Nat, (cast l).sum = ((l.sum : Nat) : Int)
  | [] => rfl
  | n :: l => by
    show (n : Int) + (cast l).sum = _
    rw [cast_sum l, List.sum_cons, Int.natCast_add]
def spInTime (C : Addr) : Sp := fun vs H Q _ => ∃ (a : Addr) (m : W) (d : Nat), vs = [.ref a, iN d] ∧ WoodAt C H a m ∧ Good m ∧ d < 2 ^ m.cells ∧ ∀ H' : Hp, Same H H' → Q (.bl (inTime m d)) H'
def spLoses (C : Addr) : Sp := fun vs H Q _ => ∃ (a : Addr) (m : W) (d : Nat), vs = [.ref a, iN d] ∧ WoodAt C H a m ∧ Good m ∧ ∀ H' : Hp, Same H H' → Q (iN (loses m d)) H'
theorem scInTime : FnScope ["self", "dug"] ["self", "dug"] (defScope sInTime) := ⟨rfl, rfl, rfl, by decide +kernel, rfl, by decide +kernel, by decide +kernel⟩
theorem scLoses : FnScope ["self", "dug", "cell"] ["self", "dug"] (defScope sLoses) := ⟨rfl, rfl, rfl, by decide +kernel, rfl, by decide +kernel, by decide +kernel⟩
section
variable {P : Program} {w : World} {K : PySem.W.Frag} {mg : Str → Option Value} {base : Heap} {C f fT fB fM : Addr} {fd fdT fdB fdM : FuncData}
theorem ok_inTime (F : Fun K "in_time" "Wood.in_time" sInTime f fd) (T : Txt K mg C) (mT : Meth K C "too_many" fT) (GT : FnOk P w K mg base CX0 3 fT fdT ["self", "dug"] (spTooMany C)) (bT : Binds K fdT ["self", "dug"] []) :
    FnOk P w K mg base CX0 4 f fd ["self", "dug"] (spInTime C) := by
  refine F.ok scInTime (fun vs H Q E h => ?_) (fun cdv A outer s H vs Q E hr h => ?_)
  · obtain ⟨a, m, d, rfl, _⟩ := h
    rfl
  · refine ⟨_, pss_cons (ps_if (pt_cmpR op_eq (pe_fld (pv 0) rfl) pe_int (nomark _)) (pss_one (ps_ret (pe_cmpR op_eq (pv 1) pe_int (nomark _)))) pss_nil)
      (pss_one (ps_ret (pe_cmpR (op_eqD hr.units) (pe_meth (pv 0) T.cl mT GT hr bT .nil pass0 (pa_cons (pv 1) pa_nil)) (pe_tup (pa_cons pe_int (pa_cons pe_int pa_nil))) (nomark _)))), ?_⟩
    obtain ⟨a, m, d, rfl, W0, G, hd, hq⟩ := h
    obtain ⟨dx, aw, ab, h1, h2, h3⟩ := id W0
    refine ⟨_, rfl, _, _, _, _, _, rfl, h1, T.cl, T.nM, wF_most, rfl, _, rfl, ?_⟩
    show if decide (iN m.most = iN 0) = true then _ else _
    rw [dec_iN]
    by_cases hm : m.most = 0
    · refine ifT (decide_eq_true hm) ?_
      refine ⟨_, rfl, rfl, ?_⟩
      show Q (.bl (decide (iN d = iN 0))) H
      have e : inTime m d = decide (d = 0) := if_pos hm
      rw [dec_iN, ← e]
      exact hq H (Same.refl H)
    · refine ifF (decide_eq_false hm) ?_
      refine ⟨_, rfl, a, dx, _, rfl, h1, wF_no (by decide +kernel), _, rfl, a, m, d, rfl, W0, G, hd, fun H1 p s1 _ hP => ?_⟩
      refine ⟨(by show 2 ≤ sizeLine; decide), fun z hz => ?_⟩
      refine ⟨_, _, .tup (SqT.of (by rw [upd_ne (ne_of_none hP hz)]; exact hP)) (.cons (.int _) (.cons (.int _) .nil)), .tup (SqT.of upd_same) (.cons (.int _) (.cons (.int _) .nil)), rfl, rfl, ?_⟩
      show Q (.bl (PyData.eqv (.tuple [.int (((tooMany m d).1 : Nat) : Int), .int (((tooMany m d).2 : Nat) : Int)]) (.tuple [.int ((0 : Nat) : Int), .int ((0 : Nat) : Int)]))) _
      rw [eqv_two]
      have e : inTime m d = decide (tooMany m d = (0, 0)) := if_neg hm
      have e2 : decide (((tooMany m d).1, (tooMany m d).2) = (0, 0)) = inTime m d := e.symm
      rw [e2]
      exact hq _ (s1.trans (same_new hz))
theorem ok_loses (F : Fun K "loses" "Wood.loses" sLoses f fd) (T : Txt K mg C) (mB : Meth K C "behind" fB) (GB : FnOk P w K mg base CX0 2 fB fdB ["self", "dug", "minutes"] (spBehind C)) (bB : Binds K fdB ["self", "dug", "minutes"] [])
    (gM : mg "members" = some (.ref fM)) (kM : PySem.W.keepIn K (.ref fM) = true) (GM : FnOk P w K mg base CX0 1 fM fdM ["cells"] spMembers) (bM : Binds K fdM ["cells"] []) :
    FnOk P w K mg base CX0 3 f fd ["self", "dug"] (spLoses C) := by
  refine F.ok scLoses (fun vs H Q E h => ?_) (fun cdv A outer s H vs Q E hr h => ?_)
  · obtain ⟨a, m, d, rfl, _⟩ := h
    rfl
  · have hr1 : Room 1 _ := hr.mono (by decide)
    refine ⟨_, pss_one (ps_ret (pe_callB (cr_sum rfl) (by rfl) T.sum (by decide +kernel) (pa_cons (pe_lc (own := [(("cell" : Str), 2)]) (g := gName 2) (tt := tYes) (te := tOp (rIxL K) (tFld K (tVar 0) "worths") (tVar 2)) rfl scLoses.nd
        (pi_list (pe_call GM hr1 rfl gM kM bM .nil pass0 (pa_cons (pe_meth (pv 0) T.cl mB GB hr bB .nil pass0 (pa_cons (pv 1) (pa_cons (pe_fld (pv 0) rfl) pa_nil))) pa_nil)))
        (blkOk_by (own := [(("cell" : Str), 2)]) (N := ["self", "dug", "cell"]) (sc := defScope sLoses) (by decide +kernel))
        (fun _ _ _ _ _ => pg_name (i := 2) scLoses.nd rfl (Or.inl rfl)) (fun _ _ _ _ _ => pts_nil) (fun _ _ _ _ _ => pe_ix ix_list (pe_fld (pv 0) rfl) (pv 2) (fun _ _ => rfl))) pa_nil))), ?_⟩
    obtain ⟨a, m, d, rfl, W0, G, hq⟩ := h
    obtain ⟨dx, aw, ab, h1, h2, h3⟩ := id W0
    have hl := G.burn_lt d m.cells
    refine ⟨_, rfl, a, dx, _, rfl, h1, wF_no (by decide +kernel), _, rfl, _, rfl, _, _, _, _, _, rfl, h1, T.cl, T.nC, wF_cells, a, m, d, m.cells, rfl, W0, G, ?_⟩
    rw [Nat.min_self]
    refine ⟨_, rfl, pow_big G hl, fun H1 mp s1 _ hM => ?_⟩
    refine ⟨mp, rfl, ⟨_, SqL.of hM⟩, fun D hD => ?_⟩
    refine lc_list (K := K) (a := mp) (xs := vN (members (burn m d m.cells))) (fun j H' => H' D = some (.lst (vN (((members (burn m d m.cells)).take j).map fun c => m.worths.getD c 0))) ∧ Same H1 H') ⟨upd_same, same_new hD⟩
      (fun j H' _ ⟨_, sj⟩ => sj.seq (SqL.of hM)) ?_ ?_
    · rintro j y H' hy ⟨hj, sj⟩
      obtain ⟨c, hcj, rfl⟩ := vN_at hy
      have hcl : c < m.cells := members_lt hl c (List.mem_of_getElem? hcj)
      obtain ⟨dx, aw, ab, h1, h2, h3⟩ := WoodAt.mono (s1.trans sj) W0
      refine ⟨rfl, _, rfl, _, _, _, _, _, rfl, h1, T.cl, T.nW, wF_worths, _, rfl, _, _, _, _, rfl, rfl, SqL.of h2, at_nat (vN_get (getD_at (by rw [G.wl]; exact hcl))), _, hj, ?_, ?_, same_mut sj hD⟩
      · rw [vN_len, List.length_map, List.length_take]
        refine small12 ?_
        have := members_len hl
        have := G.hi
        omega
      · have e : ((members (burn m d m.cells)).take (j + 1)).map (fun c => m.worths.getD c 0) = ((members (burn m d m.cells)).take j).map (fun c => m.worths.getD c 0) ++ [m.worths.getD c 0] := by
          rw [List.take_add_one, hcj, List.map_append]
          rfl
        rw [e, ← vN_snoc]
        exact upd_same
    rintro H3 ⟨hR, s3⟩
    rw [vN_len, take_all] at hR
    refine ⟨D, _, rfl, SqL.of hR, ?_⟩
    rw [cast_sum]
    exact hq H3 (s1.trans s3)
end
end Br

/-! The walk: in_order. -/
namespace Br
open PySem PySem.Spec PyProof.Rows L2
open LamX (ExtN Tabs TabB)
/-- the table of the code that makes the lambda, and the lambda's name -/
abbrev tabs (Pt : Addr) : List (Addr × Str) := [(Pt, (("Wood.in_order" : Str) ++ ".<locals>.") ++ "<lambda>")]
/-- p is none of what was tracked -/
def NewN (H : Hp) (p : Addr) : Prop := ∀ b o, H b = some o → (∀ ps, o ≠ .tbl ps) → b ≠ p
theorem extN_same {H H' : Hp} (s : Same H H') : ExtN H H' := fun b o e _ => s b o e
theorem WoodAt.monoN {C : Addr} {H H' : Hp} {a : Addr} {m : W} (s : ExtN H H') (h : WoodAt C H a m) : WoodAt C H' a m := by
  obtain ⟨dx, aw, ab, h1, h2, h3⟩ := h
  exact ⟨dx, aw, ab, s _ _ h1 (fun _ z => by cases z), s _ _ h2 (fun _ z => by cases z), s _ _ h3 (fun _ z => by cases z)⟩
def spInOrder (C Pt : Addr) : Sp := fun vs H Q _ => ∃ (a : Addr) (m : W) (d : Nat), vs = [.ref a, iN d] ∧ WoodAt C H a m ∧ Good m ∧ d < 2 ^ m.cells ∧ Tabs (tabs Pt) H ∧
  ∀ (H' : Hp) (p : Addr), ExtN H H' → Tabs (tabs Pt) H' → NewN H p → H' p = some (.lst (vN (order m d))) → Q (.ref p) H'
theorem scInOrder : FnScope ["self", "dug", "times"] ["self", "dug"] (defScope sInOrder) := ⟨rfl, rfl, rfl, by decide +kernel, rfl, by decide +kernel, by decide +kernel⟩
section
variable {P : Program} {w : World} {K : PySem.W.Frag} {mg : Str → Option Value} {base : Heap} {C f fC fM c Pt : Addr} {fdC fdM : FuncData} {oc : Value} {od : Option Addr} {kV doc pm : Value} {an : Option Addr} {ct : Value} {osl : Array (Option Value)}
theorem ok_inOrder (lk : K.lookup f = some ⟨oc, od, .func (PySem.W.fnOf "in_order" "Wood.in_order" (defArgs sInOrder) (defBody sInOrder) (defScope sInOrder) .none kV doc pm an (.ref c) ct), osl⟩) (hcd : PySem.W.codeIn K (.ref c) "Wood.in_order" = true)
    (T : Txt K mg C) (TB : TabB base mg c Pt) (mC : Meth K C "comes" fC) (GC : FnOk P w K mg base CX0 2 fC fdC ["self", "dug"] (spComes C)) (bC : Binds K fdC ["self", "dug"] [])
    (gM : mg "members" = some (.ref fM)) (kM : PySem.W.keepIn K (.ref fM) = true) (GM : FnOk P w K mg base CX0 1 fM fdM ["cells"] spMembers) (bM : Binds K fdM ["cells"] []) :
    FnOk P w K mg base CX0 4 f (PySem.W.fnOf "in_order" "Wood.in_order" (defArgs sInOrder) (defBody sInOrder) (defScope sInOrder) .none kV doc pm an (.ref c) ct) ["self", "dug"] (spInOrder C Pt) := by
  refine fn_of lk hcd scInOrder (fun vs H Q E h => ?_) fun A outer s H vs Q E hr h => ?_
  · obtain ⟨a, m, d, rfl, _⟩ := h
    rfl
  · have hr1 : Room 1 _ := hr.mono (by decide)
    have hr2 : Room 2 _ := hr.mono (by decide)
    refine ⟨_, PSs.nox (pss_cons (ps_set (i := 2) scInOrder.nd rfl (Or.inr rfl) (pe_meth (pv 0) T.cl mC GC hr2 bC .nil pass0 (pa_cons (pv 1) pa_nil)))
      (pss_one (ps_ret (pe_sortKey (T := tabs Pt) (c := c) (P := Pt) (k := 2) (i := 2) TB rfl (List.mem_singleton.mpr rfl) (fun p hp _ => by rw [List.mem_singleton.mp hp] <;> rfl) hr rfl T.sorted
        (pa_cons (pe_call GM hr1 rfl gM kM bM .nil pass0 (pa_cons (pv 1) pa_nil)) pa_nil) rfl rfl rfl rfl rfl rfl rfl (fun _ _ _ _ _ _ => rfl))))), ?_⟩
    obtain ⟨a, m, d, rfl, W0, G, hd, hT, hq⟩ := h
    obtain ⟨dx, aw, ab, h1, h2, h3⟩ := id W0
    refine ⟨_, rfl, a, dx, _, rfl, h1, wF_no (by decide +kernel), _, rfl, a, m, d, rfl, W0, G, fun H1 tp s1 _ hP => ?_⟩
    refine ⟨_, rfl, d, rfl, pow_big G hd, fun H2 mp s2 hmp hM => ?_⟩
    refine ⟨mp, tp, members d, times m d, tm m d, rfl, SqL.of hM, rfl, s2 _ _ hP, fun x hx => ?_, (hT.ext s1).ext s2, fun H3 p eN T3 hp => ?_⟩
    · have hxl := members_lt hd x hx
      have := G.hi
      exact ⟨times_at' hxl, by omega⟩
    · have s02 := s1.trans s2
      have e3 : ExtN H H3 := (extN_same s02).trans eN
      refine hq _ p (e3.trans (extN_same (same_new hp))) (T3.ext (same_new hp)) (fun b o hb ho => ne_of_none (e3 b o hb ho) hp) ?_
      exact upd_same
end
end Br

/-! The walk: best. -/
namespace Br
open PySem PySem.Spec PyProof.Rows L2
/-- what the best so far loses and how many cells it has, as a value -/
def MarkAt (H : Hp) (v : V) : Option (Nat × Nat) → Prop
  | none => v = .non
  | some k => ∃ p, v = .ref p ∧ H p = some (.tup [iN k.1, iN k.2])
theorem MarkAt.mono {H H' : Hp} {v : V} {o : Option (Nat × Nat)} (s : Same H H') (h : MarkAt H v o) : MarkAt H' v o := by
  cases o with
  | none => exact h
  | some k =>
    obtain ⟨p, e, hp⟩ := h
    exact ⟨p, e, s _ _ hp⟩
theorem lex_two (a b c d : Nat) : HT.lexLt [(a : Int), (b : Int)] [(c : Int), (d : Int)] = decide (a < c ∨ (a = c ∧ b < d)) := by
  rw [HT.lexLt_cons, HT.lexLt_cons, HT.lexLt_nil_nil, Bool.eq_iff_iff]
  by_cases h1 : a = c
  · subst h1
    by_cases h2 : b = d
    · subst h2
      simp
    · have : ¬ (b : Int) = (d : Int) := by omega
      simp [this]
  · have : ¬ (a : Int) = (c : Int) := by omega
    simp [this, h1]
def spBest (C : Addr) : Sp := fun vs H Q _ => ∃ (a : Addr) (m : W), vs = [.ref a] ∧ WoodAt C H a m ∧ Good m ∧
  ∀ (H' : Hp) (p : Addr), Same H H' → H p = none → H' p = some (.tup [iN ((bestTo m (2 ^ m.cells)).2.1.getD (0, 0)).1, iN (bestTo m (2 ^ m.cells)).2.2, iN (bestTo m (2 ^ m.cells)).1]) → Q (.ref p) H'
theorem scBest : FnScope ["self", "found", "mark", "number", "dug", "this"] ["self"] (defScope sBest) := ⟨rfl, rfl, rfl, by decide +kernel, rfl, by decide +kernel, by decide +kernel⟩
section
variable {P : Program} {w : World} {K : PySem.W.Frag} {mg : Str → Option Value} {base : Heap} {C f fY fI fL fM : Addr} {fd fdY fdI fdL fdM : FuncData}
theorem ok_best (F : Fun K "best" "Wood.best" sBest f fd) (T : Txt K mg C) (mY : Meth K C "may_be_dug" fY) (GY : FnOk P w K mg base CX0 1 fY fdY ["self", "cells"] (spMay C)) (bY : Binds K fdY ["self", "cells"] [])
    (mI : Meth K C "in_time" fI) (GI : FnOk P w K mg base CX0 4 fI fdI ["self", "dug"] (spInTime C)) (bI : Binds K fdI ["self", "dug"] [])
    (mL : Meth K C "loses" fL) (GL : FnOk P w K mg base CX0 3 fL fdL ["self", "dug"] (spLoses C)) (bL : Binds K fdL ["self", "dug"] [])
    (gM : mg "members" = some (.ref fM)) (kM : PySem.W.keepIn K (.ref fM) = true) (GM : FnOk P w K mg base CX0 1 fM fdM ["cells"] spMembers) (bM : Binds K fdM ["cells"] []) :
    FnOk P w K mg base CX0 5 f fd ["self"] (spBest C) := by
  refine F.ok scBest (fun vs H Q E h => ?_) (fun cdv A outer s H vs Q E hr h => ?_)
  · obtain ⟨a, m, rfl, _⟩ := h
    rfl
  · have hr1 : Room 1 _ := hr.mono (by decide)
    have hr3 : Room 3 _ := hr.mono (by decide)
    refine ⟨_, pss_cons (ps_set (i := 1) scBest.nd rfl (Or.inl rfl) pe_int) (pss_cons (ps_set (i := 2) scBest.nd rfl (Or.inl rfl) pe_non) (pss_cons (ps_set (i := 3) scBest.nd rfl (Or.inl rfl) pe_int)
      (pss_cons (ps_for PassesOwn.never rfl (pi_range1 (by rfl) T.range (pa_cons (pe_op op_bit pe_int (pe_fld (pv 0) rfl)) pa_nil)) (pg_name (i := 4) scBest.nd rfl (Or.inl rfl))
        (pss_one (ps_if (PW.pt (pw_and (pt_val (pe_meth (pv 0) T.cl mY GY hr1 bY .nil pass0 (pa_cons (pv 4) pa_nil))) (pw_and1 (pt_val (pe_meth (pv 0) T.cl mI GI hr bI .nil pass0 (pa_cons (pv 4) pa_nil))))))
          (pss_cons (ps_set (i := 5) scBest.nd rfl (Or.inl rfl) (pe_tup (pa_cons (pe_meth (pv 0) T.cl mL GL hr3 bL .nil pass0 (pa_cons (pv 4) pa_nil)) (pa_cons (pe_callB call_len_seq (by rfl) T.len PySem.boot_len (pa_cons (pe_call GM hr1 rfl gM kM bM .nil pass0 (pa_cons (pv 4) pa_nil)) pa_nil)) pa_nil))))
          (pss_one (ps_if (PW.pt (pw_or (pt_cmp (pc_isN (pv 2))) (pw_or1 (pt_cmpR (op_ltT hr.units0) (pv 5) (pv 2) (nomark _)))))
            (pss_cons (ps_set (i := 1) scBest.nd rfl (Or.inl rfl) (pv 4)) (pss_cons (ps_set (i := 2) scBest.nd rfl (Or.inl rfl) (pv 5)) (pss_one (ps_set (i := 3) scBest.nd rfl (Or.inl rfl) pe_int))))
            (pss_one (ps_if (pt_cmpR (op_eqD hr.units) (pv 5) (pv 2) (nomark _)) (pss_one (ps_aug (i := 3) scBest.nd rfl (Or.inl rfl) pe_int ip_addN)) pss_nil)))))
          pss_nil)))
      (pss_one (ps_ret (pe_tup (pa_cons (pe_ix ix_tup (pv 2) pe_int (fun _ _ => rfl)) (pa_cons (pv 3) (pa_cons (pv 1) pa_nil))))))))), ?_⟩
    obtain ⟨a, m, rfl, W0, G, hq⟩ := h
    obtain ⟨dx, aw, ab, h1, h2, h3⟩ := id W0
    have hc := G.hi
    have hpow : 2 ^ m.cells ≤ 2 ^ 12 := Nat.pow_le_pow_right (by decide) hc
    have hlo : -(2 ^ 62) ≤ ((2 ^ m.cells : Nat) : Int) := Int.le_trans (by decide) (Int.natCast_nonneg _)
    have hhi : ((2 ^ m.cells : Nat) : Int) < 2 ^ 62 := Int.lt_of_le_of_lt (Int.ofNat_le.mpr hpow) (by decide)
    refine ⟨_, rfl, _, _, _, _, _, rfl, h1, T.cl, T.nC, wF_cells, m.cells, rfl, rfl, by omega, _, rfl, hlo, hhi, ?_⟩
    rw [Int.toNat_natCast]
    refine for_range (lo := 0) (n := 2 ^ m.cells) (fun i σ H' => Same H H' ∧ ∃ mv v4 v5, MarkAt H' mv (bestTo m i).2.1 ∧
      σ = [some (.ref a), some (iN (bestTo m i).1), some mv, some (iN (bestTo m i).2.2), v4, v5]) ⟨Same.refl H, .non, none, none, rfl, rfl⟩ ?_ ?_
    · rintro i σ H' hi ⟨sH, mv, v4, v5, hM, rfl⟩
      have ei : V.int (0 + (i : Int)) = iN i := congrArg V.int (Int.zero_add _)
      rw [ei]
      have eb := bestTo_succ m i
      obtain ⟨dx, aw, ab, h1, h2, h3⟩ := WoodAt.mono sH W0
      refine ⟨_, rfl, a, dx, _, rfl, h1, wF_no (by decide +kernel), _, rfl, a, m, i, rfl, WoodAt.mono sH W0, _, rfl, ?_⟩
      by_cases hf : free m i = true
      · refine ifT hf ?_
        refine ⟨_, rfl, a, dx, _, rfl, h1, wF_no (by decide +kernel), _, rfl, a, m, i, rfl, WoodAt.mono sH W0, G, hi, fun H1 s1 => ⟨_, rfl, ?_⟩⟩
        by_cases ht : inTime m i = true
        · refine ifT ht ?_
          rw [if_pos (by rw [hf, ht]; rfl)] at eb
          have sH1 := sH.trans s1
          obtain ⟨dx, aw, ab, h1, h2, h3⟩ := WoodAt.mono sH1 W0
          refine ⟨_, rfl, a, dx, _, rfl, h1, wF_no (by decide +kernel), _, rfl, a, m, i, rfl, WoodAt.mono sH1 W0, G, fun H2 s2 => ?_⟩
          refine ⟨_, rfl, i, rfl, pow_big G hi, fun H3 mp s3 _ hmp => ⟨mp, _, rfl, .inl (SqL.of hmp), ?_⟩⟩
          rw [vN_len]
          refine ⟨(by show 2 ≤ sizeLine; decide), fun p hp => ?_⟩
          have s03 : Same H' H3 := (s1.trans s2).trans s3
          have sE : Same H' (upd H3 p (.tup [iN (loses m i), iN (members i).length])) := s03.trans (same_new hp)
          have hM2 := MarkAt.mono sE hM
          refine ⟨_, rfl, _, rfl, ?_⟩
          cases e2 : (bestTo m i).2.1 with
          | none =>
            rw [e2] at hM2 eb
            obtain rfl : mv = .non := hM2
            refine ifT rfl ?_
            refine ifT rfl ?_
            refine ⟨_, rfl, _, rfl, ?_⟩
            refine ⟨sH.trans sE, .ref p, some (iN i), some (.ref p), ?_, ?_⟩
            · rw [eb]
              exact ⟨p, rfl, upd_same⟩
            · rw [eb]
              rfl
          | some k =>
            rw [e2] at hM2 eb
            obtain ⟨q, rfl, hq2⟩ := hM2
            refine ifF rfl ?_
            refine ⟨_, rfl, _, rfl, p, q, [(loses m i : Int), ((members i).length : Int)], [(k.1 : Int), (k.2 : Int)], rfl, rfl, SqT.of upd_same, SqT.of hq2, _, rfl, ?_⟩
            rw [lex_two]
            by_cases c1 : loses m i < k.1 ∨ (loses m i = k.1 ∧ (members i).length < k.2)
            · refine ifT (decide_eq_true c1) ?_
              dsimp only at eb
              rw [if_pos c1] at eb
              refine ⟨_, rfl, _, rfl, ?_⟩
              refine ⟨sH.trans sE, .ref p, some (iN i), some (.ref p), ?_, ?_⟩
              · rw [eb]
                exact ⟨p, rfl, upd_same⟩
              · rw [eb]
                rfl
            · refine ifF (decide_eq_false c1) ?_
              dsimp only at eb
              rw [if_neg c1] at eb
              refine ⟨_, rfl, _, rfl, _, _, .tup (SqT.of upd_same) (.cons (.int _) (.cons (.int _) .nil)), .tup (SqT.of hq2) (.cons (.int _) (.cons (.int _) .nil)), rfl, rfl, _, rfl, ?_⟩
              rw [eqv_two]
              by_cases c2 : loses m i = k.1 ∧ (members i).length = k.2
              · refine ifT (decide_eq_true (Prod.ext c2.1 c2.2)) ?_
                rw [if_pos c2] at eb
                refine ⟨_, rfl, _, 1, rfl, rfl, ?_⟩
                refine ⟨sH.trans sE, .ref q, some (iN i), some (.ref p), ?_, ?_⟩
                · rw [eb]
                  exact ⟨q, rfl, hq2⟩
                · rw [eb]
                  rfl
              · refine ifF (decide_eq_false fun z => c2 ⟨congrArg Prod.fst z, congrArg Prod.snd z⟩) ?_
                rw [if_neg c2] at eb
                refine ⟨sH.trans sE, .ref q, some (iN i), some (.ref p), ?_, ?_⟩
                · rw [eb, e2]
                  exact ⟨q, rfl, hq2⟩
                · rw [eb]
                  rfl
        · refine ifF (by simpa using ht) ?_
          rw [if_neg (by rw [Bool.and_eq_true]; exact fun z => ht z.2)] at eb
          refine ⟨sH.trans s1, mv, some (iN i), v5, ?_, ?_⟩
          · rw [eb]
            exact hM.mono s1
          · rw [eb]
            rfl
      · refine ifF (by simpa using hf) (ifF rfl ?_)
        rw [if_neg (by rw [Bool.and_eq_true]; exact fun z => hf z.1)] at eb
        refine ⟨sH, mv, some (iN i), v5, ?_, ?_⟩
        · rw [eb]
          exact hM
        · rw [eb]
          rfl
    · rintro σ H' ⟨sH, mv, v4, v5, hM, rfl⟩
      obtain ⟨j, hj⟩ : ∃ j, 2 ^ m.cells = j + 1 := ⟨2 ^ m.cells - 1, by have := Nat.two_pow_pos m.cells; omega⟩
      obtain ⟨k, hk⟩ := best_some m j
      rw [← hj] at hk
      rw [hk] at hM
      obtain ⟨q, rfl, hq2⟩ := hM
      refine ⟨_, rfl, q, _, 0, _, rfl, rfl, SqT.of hq2, rfl, _, rfl, _, rfl, (by show 3 ≤ sizeLine; decide), fun p hp => hq _ p (sH.trans (same_new hp)) (sH.free hp) ?_⟩
      rw [hk]
      exact upd_same
end
end Br

/-! The walk: join, __init__. -/
namespace Br
open PySem PySem.Spec PyProof.Rows L2
theorem put_new {f : Str} {v : V} : ∀ fs : List (Str × V), (∀ g ∈ fs.map (·.1), g ≠ f) → putF f v fs = fs ++ [(f, v)]
  | [], _ => rfl
  | (g, x) :: r, h => by
    have e : putF f v ((g, x) :: r) = (g, x) :: putF f v r := if_neg (h g (List.mem_cons_self ..))
    rw [e, put_new r fun y hy => h y (List.mem_cons_of_mem _ hy)]
    rfl
theorem rep_vN (n x : Nat) : (List.replicate n [V.int ((x : Nat) : Int)]).flatten = vN (List.replicate n x) := by
  rw [List.flatten_replicate_singleton]
  show _ = ((List.replicate n x).map fun (n : Nat) => (n : Int)).map V.int
  rw [List.map_replicate, List.map_replicate]
/-- a new list is stored in a field -/
theorem list_step {H4 : Hp} {p l aw C dx : Addr} {fs fs' : List (Str × V)} {o : HO} {xs : List V} (hp : H4 p = some (.ins C dx fs)) (hl : H4 l = none) (ha : upd H4 l o aw = none) :
    upd (upd (upd H4 l o) aw (.lst xs)) p (.ins C dx fs') p = some (.ins C dx fs') ∧ upd (upd (upd H4 l o) aw (.lst xs)) p (.ins C dx fs') aw = some (.lst xs) ∧ aw ≠ p ∧
      ∀ b u, b ≠ p → H4 b = some u → upd (upd (upd H4 l o) aw (.lst xs)) p (.ins C dx fs') b = some u := by
  have ne : aw ≠ p := fun z => by
    have h1 : upd H4 l o p = some (.ins C dx fs) := (upd_ne (ne_of_none hp hl)).trans hp
    rw [z, h1] at ha
    cases ha
  refine ⟨upd_same, (upd_ne ne).trans upd_same, ne, fun b u hb e => ?_⟩
  have e1 : upd H4 l o b = some u := (upd_ne (ne_of_none e hl)).trans e
  rw [upd_ne hb, upd_ne (ne_of_none e1 ha)]
  exact e1
theorem join_len (b : List Nat) (x y : Nat) : (join b x y).length = b.length := by
  unfold join
  rw [List.length_set, List.length_set]
theorem besTo_len (wide n : Nat) : ∀ i, (besTo wide n i).length = n
  | 0 => List.length_replicate
  | i + 1 => by
    have ih := besTo_len wide n i
    show (if i + wide < n then join (if i % wide + 1 < wide then join (besTo wide n i) i (i + 1) else besTo wide n i) i (i + wide) else (if i % wide + 1 < wide then join (besTo wide n i) i (i + 1) else besTo wide n i)).length = n
    split
    · rw [join_len]
      split
      · rw [join_len, ih]
      · exact ih
    · split
      · rw [join_len, ih]
      · exact ih
theorem in_row {wide high c : Nat} (hw : wide = 2 ∨ wide = 3 ∨ wide = 4) (hh : high = 2 ∨ high = 3) (hc : c < wide * high) (h : c % wide + 1 < wide) : c + 1 < wide * high := by
  rcases hw with rfl | rfl | rfl <;> rcases hh with rfl | rfl <;> omega
def spJoin (C : Addr) : Sp := fun vs H Q _ => ∃ (a dx aw ab : Addr) (m : W) (b : List Nat) (x y : Nat), vs = [.ref a, iN x, iN y] ∧ H a = some (.ins C dx (wF m aw ab)) ∧ H ab = some (.lst (vN b)) ∧ x < b.length ∧ y < b.length ∧ b.length ≤ 12 ∧
  ∀ H' : Hp, H' ab = some (.lst (vN (join b x y))) → (∀ z o, z ≠ ab → H z = some o → H' z = some o) → Q .non H'
def spInit (C : Addr) : Sp := fun vs H Q _ => ∃ (p dx : Addr) (wide high most : Nat), vs = [.ref p, iN wide, iN high, iN most] ∧ H p = some (.ins C dx []) ∧ (wide = 2 ∨ wide = 3 ∨ wide = 4) ∧ (high = 2 ∨ high = 3) ∧
  ∀ (H' : Hp) (aw ab : Addr), H' p = some (.ins C dx (wF (W.mk' wide high most) aw ab)) → H' aw = some (.lst (vN (W.mk' wide high most).worths)) → H' ab = some (.lst (vN (W.mk' wide high most).beside)) → H aw = none → H ab = none → (∀ b o, H b = some o → b ≠ p → H' b = some o) → Q .non H'
theorem scJoin : FnScope ["self", "one", "other"] ["self", "one", "other"] (defScope sJoin) := ⟨rfl, rfl, rfl, by decide +kernel, rfl, by decide +kernel, by decide +kernel⟩
theorem scInit : FnScope ["self", "wide", "high", "most", "cell"] ["self", "wide", "high", "most"] (defScope sInit) := ⟨rfl, rfl, rfl, by decide +kernel, rfl, by decide +kernel, by decide +kernel⟩
section
variable {P : Program} {w : World} {K : PySem.W.Frag} {mg : Str → Option Value} {base : Heap} {C f fJ : Addr} {fd fdJ : FuncData}
theorem ok_join (F : Fun K "join" "Wood.join" sJoin f fd) (T : Txt K mg C) : FnOk P w K mg base CX0 1 f fd ["self", "one", "other"] (spJoin C) := by
  refine F.ok scJoin (fun vs H Q E h => ?_) (fun cdv A outer s H vs Q E hr h => ?_)
  · obtain ⟨a, dx, aw, ab, m, b, x, y, rfl, _⟩ := h
    rfl
  · refine ⟨_, pss_cons (ps_augS (pe_fld (pv 0) rfl) (pv 1) get_list (pe_op op_bit pe_int (pv 2)) ip_addN set_list) (pss_one (ps_augS (pe_fld (pv 0) rfl) (pv 2) get_list (pe_op op_bit pe_int (pv 1)) ip_addN set_list)), ?_⟩
    obtain ⟨a, dx, aw, ab, m, b, x, y, rfl, h1, h3, hx, hy, hl, hq⟩ := h
    have ne : a ≠ ab := ne_of h1 h3 (by intro z; cases z)
    refine ⟨_, rfl, _, _, _, _, _, rfl, h1, T.cl, T.nB, wF_beside, _, rfl, _, _, _, _, rfl, rfl, SqL.of h3, at_nat (vN_get (getD_at hx)), _, rfl, y, rfl, rfl, by omega, _, _, rfl, rfl, ab, _, _, x, rfl, rfl, h3, ?_, ?_⟩
    · rw [vN_len]
      exact ixN_nat hx
    rw [vN_set]
    have hx' : y < (b.set x (b.getD x 0 + 2 ^ y)).length := by rw [List.length_set]; exact hy
    refine ⟨_, rfl, _, _, _, _, _, rfl, (upd_ne ne).trans h1, T.cl, T.nB, wF_beside, _, rfl, _, _, _, _, rfl, rfl, SqL.of upd_same, at_nat (vN_get (getD_at hx')), _, rfl, x, rfl, rfl, by omega, _, _, rfl, rfl, ab, _, _, y, rfl, rfl, upd_same, ?_, ?_⟩
    · rw [vN_len]
      exact ixN_nat hx'
    rw [vN_set]
    refine hq _ upd_same fun z o hz e => ?_
    rw [upd_ne hz, upd_ne hz]
    exact e
theorem ok_init (F : Fun K "__init__" "Wood.__init__" sInit f fd) (T : Txt K mg C) (mJ : Meth K C "join" fJ) (GJ : FnOk P w K mg base CX0 1 fJ fdJ ["self", "one", "other"] (spJoin C)) (bJ : Binds K fdJ ["self", "one", "other"] []) :
    FnOk P w K mg base CX0 2 f fd ["self", "wide", "high", "most"] (spInit C) := by
  refine F.ok scInit (fun vs H Q E h => ?_) (fun cdv A outer s H vs Q E hr h => ?_)
  · obtain ⟨p, dx, a, b, d, rfl, _⟩ := h
    rfl
  · refine ⟨_, pss_cons (ps_fld (pv 0) (pe_op op_mulN (pv 1) (pv 2)) rfl) (pss_cons (ps_fld (pv 0) (pv 3) rfl) (pss_cons (ps_fld (pv 0) pe_int rfl) (pss_cons (ps_fld (pv 0) pe_int rfl)
      (pss_cons (ps_fld (pv 0) (pe_op op_rep (pe_lst (pa_cons pe_int pa_nil)) (pe_fld (pv 0) rfl)) rfl) (pss_cons (ps_fld (pv 0) (pe_op op_rep (pe_lst (pa_cons pe_int pa_nil)) (pe_fld (pv 0) rfl)) rfl)
      (pss_one (ps_for PassesOwn.never rfl (pi_range1 (by rfl) T.range (pa_cons (pe_fld (pv 0) rfl) pa_nil)) (pg_name (i := 4) scInit.nd rfl (Or.inl rfl))
        (pss_cons (ps_if (pt_cmpR op_lt (pe_op op_addN (pe_op op_modNN (pv 4) (pv 1)) pe_int) (pv 1) (nomark _)) (pss_one (ps_expr (pe_meth (pv 0) T.cl mJ GJ hr bJ .nil pass0 (pa_cons (pv 4) (pa_cons (pe_op op_addN (pv 4) pe_int) pa_nil))))) pss_nil)
        (pss_one (ps_if (pt_cmpR op_lt (pe_op op_addN (pv 4) (pv 1)) (pe_fld (pv 0) rfl) (nomark _)) (pss_one (ps_expr (pe_meth (pv 0) T.cl mJ GJ hr bJ .nil pass0 (pa_cons (pv 4) (pa_cons (pe_op op_addN (pv 4) (pv 1)) pa_nil))))) pss_nil))))))))))
      , ?_⟩
    obtain ⟨p, dx, wide, high, most, rfl, h0, hw, hh, hq⟩ := h
    have hcl : wide * high ≤ 12 := by rcases hw with rfl | rfl | rfl <;> rcases hh with rfl | rfl <;> decide
    have hw4 : 2 ≤ wide ∧ wide ≤ 4 := by omega
    have er1 : (List.replicate (wide * high) [V.int 1]).flatten = vN (List.replicate (wide * high) 1) := rep_vN _ 1
    have er0 : (List.replicate (wide * high) [V.int 0]).flatten = vN (List.replicate (wide * high) 0) := rep_vN _ 0
    -- cells, most, rock, fire
    refine ⟨_, rfl, _, rfl, wide, high, rfl, rfl, by omega, _, rfl, p, C, dx, _, rfl, h0, T.cl, T.nC, (by show 0 < 1000; decide), ?_⟩
    rw [put_new]
    rotate_left
    · exact (show ∀ g ∈ ([] : List Str), g ≠ ("cells" : Str) from by decide +kernel)
    refine ⟨_, rfl, _, rfl, p, C, dx, _, rfl, upd_same, T.cl, T.nM, (by show 1 < 1000; decide), ?_⟩
    rw [put_new]
    rotate_left
    · exact (show ∀ g ∈ (["cells"] : List Str), g ≠ ("most" : Str) from by decide +kernel)
    rw [upd_upd]
    refine ⟨_, rfl, p, C, dx, _, rfl, upd_same, T.cl, T.nR, (by show 2 < 1000; decide), ?_⟩
    rw [put_new]
    rotate_left
    · exact (show ∀ g ∈ (["cells", "most"] : List Str), g ≠ ("rock" : Str) from by decide +kernel)
    rw [upd_upd]
    refine ⟨_, rfl, p, C, dx, _, rfl, upd_same, T.cl, T.nF, (by show 3 < 1000; decide), ?_⟩
    rw [put_new]
    rotate_left
    · exact (show ∀ g ∈ (["cells", "most", "rock"] : List Str), g ≠ ("fire" : Str) from by decide +kernel)
    rw [upd_upd]
    obtain ⟨H4, e4⟩ : ∃ H4, H4 = upd H p (.ins C dx ([] ++ [(("cells" : Str), iN (wide * high))] ++ [(("most" : Str), iN most)] ++ [(("rock" : Str), V.int 0)] ++ [(("fire" : Str), V.int 0)])) := ⟨_, rfl⟩
    rw [← e4]
    have hp4 : H4 p = some (.ins C dx ([] ++ [(("cells" : Str), iN (wide * high))] ++ [(("most" : Str), iN most)] ++ [(("rock" : Str), V.int 0)] ++ [(("fire" : Str), V.int 0)])) := by rw [e4]; exact upd_same
    have k4 : ∀ b o, H b = some o → b ≠ p → H4 b = some o := fun b o e hb => by rw [e4, upd_ne hb]; exact e
    clear e4
    -- worths
    refine ⟨(by show 1 ≤ sizeLine; decide), fun l hl => ?_⟩
    refine ⟨_, rfl, p, C, dx, _, _, rfl, (upd_ne (ne_of_none hp4 hl)).trans hp4, T.cl, T.nC, lk_here, l, _, _, rfl, rfl, upd_same, by omega, by omega, ?_, fun aw haw => ?_⟩
    · rw [Int.toNat_natCast]
      exact Nat.le_trans (by show 1 * (wide * high) ≤ 12; omega) (by decide)
    rw [Int.toNat_natCast, er1]
    obtain ⟨g1, g2, g3, g4⟩ := list_step (fs' := [] ++ [(("cells" : Str), iN (wide * high))] ++ [(("most" : Str), iN most)] ++ [(("rock" : Str), V.int 0)] ++ [(("fire" : Str), V.int 0)] ++ [(("worths" : Str), .ref aw)]) (xs := vN (List.replicate (wide * high) 1)) hp4 hl haw
    refine ⟨_, rfl, p, C, dx, _, rfl, (upd_ne g3.symm).trans ((upd_ne (ne_of_none hp4 hl)).trans hp4), T.cl, T.nW, (by show 4 < 1000; decide), ?_⟩
    rw [put_new]
    rotate_left
    · exact (show ∀ g ∈ (["cells", "most", "rock", "fire"] : List Str), g ≠ ("worths" : Str) from by decide +kernel)
    revert g1 g2 g4
    generalize upd (upd (upd H4 l (.lst [V.int 1])) aw (.lst (vN (List.replicate (wide * high) 1)))) p (.ins C dx ([] ++ [(("cells" : Str), iN (wide * high))] ++ [(("most" : Str), iN most)] ++ [(("rock" : Str), V.int 0)] ++ [(("fire" : Str), V.int 0)] ++ [(("worths" : Str), .ref aw)])) = H5
    intro hp5 hw5 k5
    have k5' : ∀ b o, H b = some o → b ≠ p → H5 b = some o := fun b o e hb => k5 b o hb (k4 b o e hb)
    -- beside
    refine ⟨(by show 1 ≤ sizeLine; decide), fun l2 hl2 => ?_⟩
    refine ⟨_, rfl, p, C, dx, _, _, rfl, (upd_ne (ne_of_none hp5 hl2)).trans hp5, T.cl, T.nC, lk_here, l2, _, _, rfl, rfl, upd_same, by omega, by omega, ?_, fun ab hab => ?_⟩
    · rw [Int.toNat_natCast]
      exact Nat.le_trans (by show 1 * (wide * high) ≤ 12; omega) (by decide)
    rw [Int.toNat_natCast, er0]
    obtain ⟨g1, g2, g3b, g4⟩ := list_step (fs' := wF (W.mk' wide high most) aw ab) (xs := vN (List.replicate (wide * high) 0)) hp5 hl2 hab
    have hab5 : H5 ab = none := (same_new (o := .lst [V.int 0]) hl2).free hab
    refine ⟨_, rfl, p, C, dx, _, rfl, (upd_ne g3b.symm).trans ((upd_ne (ne_of_none hp5 hl2)).trans hp5), T.cl, T.nB, (by show 5 < 1000; decide), ?_⟩
    rw [put_new]
    rotate_left
    · exact (show ∀ g ∈ (["cells", "most", "rock", "fire", "worths"] : List Str), g ≠ ("beside" : Str) from by decide +kernel)
    have ef : [] ++ [(("cells" : Str), iN (wide * high))] ++ [(("most" : Str), iN most)] ++ [(("rock" : Str), V.int 0)] ++ [(("fire" : Str), V.int 0)] ++ [(("worths" : Str), .ref aw)] ++ [(("beside" : Str), .ref ab)] = wF (W.mk' wide high most) aw ab := rfl
    rw [ef]
    revert g1 g2 g4
    generalize upd (upd (upd H5 l2 (.lst [V.int 0])) ab (.lst (vN (List.replicate (wide * high) 0)))) p (.ins C dx (wF (W.mk' wide high most) aw ab)) = H6
    intro hp6 hb6 k6
    have k6' : ∀ b o, H b = some o → b ≠ p → H6 b = some o := fun b o e hb => k6 b o hb (k5' b o e hb)
    have neb : aw ≠ ab := ne_of_none hw5 hab5
    have hw6 : H6 aw = some (.lst (vN (List.replicate (wide * high) 1))) := k6 _ _ g3 hw5
    have fab : ∀ b o, H b = some o → b ≠ p → b ≠ ab := fun b o e hb => ne_of_none (k5' b o e hb) hab5
    have pab : p ≠ ab := g3b.symm
    have naw : H aw = none := by
      cases q : H aw with
      | none => rfl
      | some o =>
        have z := same_new (o := .lst [V.int 1]) hl _ _ (k4 _ _ q g3)
        rw [haw] at z
        cases z
    have nab : H ab = none := by
      cases q : H ab with
      | none => rfl
      | some o =>
        have z := same_new (o := .lst [V.int 0]) hl2 _ _ (k5' _ _ q g3b)
        rw [hab] at z
        cases z
    -- the loop
    refine ⟨_, rfl, p, C, dx, _, _, rfl, hp6, T.cl, T.nC, wF_cells, _, rfl, ?_, ?_, ?_⟩
    · show -(2 ^ 62) ≤ ((wide * high : Nat) : Int)
      omega
    · show ((wide * high : Nat) : Int) < 2 ^ 62
      omega
    rw [show (((W.mk' wide high most).cells : Nat) : Int).toNat = wide * high from Int.toNat_natCast _]
    refine for_range (lo := 0) (n := wide * high) (fun i σ H' => H' p = some (.ins C dx (wF (W.mk' wide high most) aw ab)) ∧ H' aw = some (.lst (vN (List.replicate (wide * high) 1))) ∧ H' ab = some (.lst (vN (besTo wide (wide * high) i))) ∧
      (∀ b o, H b = some o → b ≠ p → H' b = some o) ∧ ∃ v, σ = [some (.ref p), some (iN wide), some (iN high), some (iN most), v]) ⟨hp6, hw6, hb6, k6', none, rfl⟩ ?_ ?_
    · rintro i σ H' hi ⟨a1, a2, a3, a4, v, rfl⟩
      have ei : V.int (0 + (i : Int)) = iN i := congrArg V.int (Int.zero_add _)
      rw [ei]
      have lb := besTo_len wide (wide * high) i
      -- the second test, whatever the first has done
      have second : ∀ (H2 : Hp) (b1 : List Nat), H2 p = some (.ins C dx (wF (W.mk' wide high most) aw ab)) → H2 aw = some (.lst (vN (List.replicate (wide * high) 1))) → H2 ab = some (.lst (vN b1)) → (∀ b o, H b = some o → b ≠ p → H2 b = some o) → b1.length = wide * high →
          (i % wide + 1 < wide → b1 = join (besTo wide (wide * high) i) i (i + 1)) → (¬ i % wide + 1 < wide → b1 = besTo wide (wide * high) i) →
          tIfS (tTest (tOp (rI0 fun i j => .bl (decide (i < j))) (tOp (fun x y H Q => ∃ n m : Nat, x = .int (n : Int) ∧ y = .int (m : Int) ∧ Q (.int ((n + m : Nat) : Int)) H) (tVar 4) (tVar 1)) (tFld K (tVar 0) "cells")))
            (tDrop (tMeth C "join" (spJoin C) [] E0 (tVar 0) (tCons (tVar 4) (tCons (tOp (fun x y H Q => ∃ n m : Nat, x = .int (n : Int) ∧ y = .int (m : Int) ∧ Q (.int ((n + m : Nat) : Int)) H) (tVar 4) (tVar 1)) tNil)))) tNext
            { nx := fun σ H' => H' p = some (.ins C dx (wF (W.mk' wide high most) aw ab)) ∧ H' aw = some (.lst (vN (List.replicate (wide * high) 1))) ∧ H' ab = some (.lst (vN (besTo wide (wide * high) (i + 1)))) ∧
              (∀ b o, H b = some o → b ≠ p → H' b = some o) ∧ ∃ v, σ = [some (.ref p), some (iN wide), some (iN high), some (iN most), v], rt := Q,
              bk := fun _ H' => Q .non H', ct := fun σ H' => H' p = some (.ins C dx (wF (W.mk' wide high most) aw ab)) ∧ H' aw = some (.lst (vN (List.replicate (wide * high) 1))) ∧ H' ab = some (.lst (vN (besTo wide (wide * high) (i + 1)))) ∧
              (∀ b o, H b = some o → b ≠ p → H' b = some o) ∧ ∃ v, σ = [some (.ref p), some (iN wide), some (iN high), some (iN most), v] }
            [some (.ref p), some (iN wide), some (iN high), some (iN most), some (iN i)] H2 := by
        intro H2 b1 c1 c2 c3 c4 c5 c6 c7
        have eb : besTo wide (wide * high) (i + 1) = if i + wide < wide * high then join b1 i (i + wide) else b1 := by
          show (if i + wide < wide * high then join (if i % wide + 1 < wide then join (besTo wide (wide * high) i) i (i + 1) else besTo wide (wide * high) i) i (i + wide) else (if i % wide + 1 < wide then join (besTo wide (wide * high) i) i (i + 1) else besTo wide (wide * high) i)) = _
          by_cases t : i % wide + 1 < wide
          · rw [if_pos t, c6 t]
          · rw [if_neg t, c7 t]
        refine ⟨_, rfl, _, rfl, i, wide, rfl, rfl, _, rfl, p, C, dx, _, _, rfl, c1, T.cl, T.nC, wF_cells, _, _, rfl, rfl, _, rfl, ?_⟩
        show if decide (((i + wide : Nat) : Int) < ((wide * high : Nat) : Int)) = true then _ else _
        by_cases t : i + wide < wide * high
        · refine ifT (decide_eq_true (Int.ofNat_lt.mpr t)) ?_
          rw [if_pos t] at eb
          refine ⟨_, rfl, p, dx, _, rfl, c1, wF_no (by decide +kernel), _, rfl, _, rfl, _, rfl, i, wide, rfl, rfl, p, dx, aw, ab, W.mk' wide high most, b1, i, i + wide, rfl, c1, c3, by rw [c5]; exact hi, by rw [c5]; exact t, by rw [c5]; exact hcl, fun H3 d1 d2 => ?_⟩
          refine ⟨d2 _ _ pab c1, d2 _ _ neb c2, ?_, fun b o e hb => d2 _ _ (fab b o e hb) (c4 b o e hb), some (iN i), rfl⟩
          rw [eb]
          exact d1
        · refine ifF (decide_eq_false fun z => t (Int.ofNat_lt.mp z)) ?_
          rw [if_neg t] at eb
          refine ⟨c1, c2, ?_, c4, some (iN i), rfl⟩
          rw [eb]
          exact c3
      refine ⟨_, rfl, _, rfl, i, wide, rfl, rfl, by omega, _, 1, rfl, rfl, _, rfl, _, _, rfl, rfl, _, rfl, ?_⟩
      show if decide (((i % wide + 1 : Nat) : Int) < ((wide : Nat) : Int)) = true then _ else _
      by_cases t : i % wide + 1 < wide
      · refine ifT (decide_eq_true (Int.ofNat_lt.mpr t)) ?_
        have t2 := in_row hw hh hi t
        refine ⟨_, rfl, p, dx, _, rfl, a1, wF_no (by decide +kernel), _, rfl, _, rfl, i, 1, rfl, rfl, p, dx, aw, ab, W.mk' wide high most, besTo wide (wide * high) i, i, i + 1, rfl, a1, a3, by rw [lb]; exact hi, by rw [lb]; exact t2, by rw [lb]; exact hcl, fun H3 d1 d2 => ?_⟩
        exact second H3 _ (d2 _ _ pab a1) (d2 _ _ neb a2) d1 (fun b o e hb => d2 _ _ (fab b o e hb) (a4 b o e hb)) (by rw [join_len, lb]) (fun _ => rfl) fun z => absurd t z
      · refine ifF (decide_eq_false fun z => t (Int.ofNat_lt.mp z)) ?_
        exact second H' _ a1 a2 a3 a4 lb (fun z => absurd z t) fun _ => rfl
    · rintro σ H' ⟨a1, a2, a3, a4, v, rfl⟩
      exact hq H' aw ab a1 a2 a3 naw nab a4
end
end Br

/-! The walk: is_wood, set_cell, set_worths, after. -/
namespace Br
open PySem PySem.Spec PyProof.Rows L2
open LamX (ExtN Tabs TabB)
/-- all but a stays -/
def KeepA (a : Addr) (H H' : Hp) : Prop := ∀ b o, H b = some o → b ≠ a → H' b = some o
/-- all but a and the tables stays -/
def KeepN (a : Addr) (H H' : Hp) : Prop := ∀ b o, H b = some o → (∀ ps, o ≠ .tbl ps) → b ≠ a → H' b = some o
def WoodIn (C : Addr) (H : Hp) (a dx aw ab : Addr) (m : W) : Prop := H a = some (.ins C dx (wF m aw ab)) ∧ H aw = some (.lst (vN m.worths)) ∧ H ab = some (.lst (vN m.beside))
theorem WoodIn.wood {C : Addr} {H : Hp} {a dx aw ab : Addr} {m : W} (h : WoodIn C H a dx aw ab m) : WoodAt C H a m := ⟨dx, aw, ab, h⟩
theorem WoodIn.ext {C : Addr} {H H' : Hp} {a dx aw ab : Addr} {m : W} (e : ExtN H H') (h : WoodIn C H a dx aw ab m) : WoodIn C H' a dx aw ab m :=
  ⟨e _ _ h.1 (fun _ z => by cases z), e _ _ h.2.1 (fun _ z => by cases z), e _ _ h.2.2 (fun _ z => by cases z)⟩
theorem WoodIn.same {C : Addr} {H H' : Hp} {a dx aw ab : Addr} {m : W} (e : Same H H') (h : WoodIn C H a dx aw ab m) : WoodIn C H' a dx aw ab m := h.ext (extN_same e)
theorem tabs_keepA {T : List (Addr × Str)} {H H' : Hp} {a C dx : Addr} {fs : List (Str × V)} (ha : H a = some (.ins C dx fs)) (k : KeepA a H H') (t : Tabs T H) : Tabs T H' := fun p hp => by
  obtain ⟨ps, h1, h2, h3⟩ := t p hp
  refine ⟨ps, k _ _ h1 ?_, h2, fun pos cv hc => ?_⟩
  · intro z
    rw [z, ha] at h1
    cases h1
  · obtain ⟨c, e1, e2⟩ := h3 pos cv hc
    refine ⟨c, e1, k _ _ e2 ?_⟩
    intro z
    rw [z, ha] at e2
    exact HO.noConfusion (Option.some.inj e2)
/-- how a call ends: the wood has turned to m', the list l is new -/
def Told (C Pt : Addr) (H : Hp) (a dx aw ab : Addr) (r : W × List Int) (Q : VK) : Prop :=
  ∀ (H' : Hp) (p aw' : Addr), KeepN a H H' → Tabs (tabs Pt) H' → NewN H p → (aw' = aw ∨ H aw' = none) → WoodIn C H' a dx aw' ab r.1 → H' p = some (.lst (vI r.2)) → Q (.ref p) H'
theorem told_mut {C Pt : Addr} {H H2 : Hp} {a dx aw ab aw' p : Addr} {m m' : W} {l : List Int} {Q : VK} (hq : Told C Pt H a dx aw ab (m', l) Q) (W0 : WoodIn C H a dx aw ab m) (hT : Tabs (tabs Pt) H) (k : KeepA a H H2) (W2 : WoodIn C H2 a dx aw' ab m') (hw : aw' = aw ∨ H aw' = none)
    (hp : H2 p = none) : Q (.ref p) (upd H2 p (.lst (vI l))) := by
  have s : Same H2 (upd H2 p (.lst (vI l))) := same_new hp
  refine hq _ p aw' (fun b o e _ hb => s _ _ (k b o e hb)) ((tabs_keepA W0.1 k hT).ext s) (fun b o e _ => ?_) hw (W2.same s) upd_same
  by_cases hb : b = a
  · rw [hb]
    exact ne_of_none W2.1 hp
  · exact ne_of_none (k b o e hb) hp
theorem told_ext {C Pt : Addr} {H H2 : Hp} {a dx aw ab p : Addr} {m : W} {l : List Int} {Q : VK} (hq : Told C Pt H a dx aw ab (m, l) Q) (W0 : WoodIn C H a dx aw ab m) (e : ExtN H H2) (hT : Tabs (tabs Pt) H2) (hp : H2 p = none) : Q (.ref p) (upd H2 p (.lst (vI l))) := by
  have s : Same H2 (upd H2 p (.lst (vI l))) := same_new hp
  exact hq _ p aw (fun b o q n _ => s _ _ (e b o q n)) (hT.ext s) (fun b o q n => ne_of_none (e b o q n) hp) (.inl rfl) ((W0.ext e).same s) upd_same
theorem told_same {C Pt : Addr} {H H2 : Hp} {a dx aw ab p : Addr} {m : W} {l : List Int} {Q : VK} (hq : Told C Pt H a dx aw ab (m, l) Q) (W0 : WoodIn C H a dx aw ab m) (hT : Tabs (tabs Pt) H) (s : Same H H2) (hp : H2 p = none) : Q (.ref p) (upd H2 p (.lst (vI l))) :=
  told_ext hq W0 (extN_same s) (hT.ext s) hp
section
variable {m : W} {aw ab : Addr}
theorem put_rock (n : Nat) : putF ("rock" : Str) (iN n) (wF m aw ab) = wF { m with rock := n } aw ab := by
  unfold wF
  simp only [putF]
  rw [if_neg (by decide +kernel), if_neg (by decide +kernel), if_pos trivial]
theorem put_fire (n : Nat) : putF ("fire" : Str) (iN n) (wF m aw ab) = wF { m with fire := n } aw ab := by
  unfold wF
  simp only [putF]
  rw [if_neg (by decide +kernel), if_neg (by decide +kernel), if_neg (by decide +kernel), if_pos trivial]
theorem put_worths (b : Addr) (l : List Nat) : putF ("worths" : Str) (.ref b) (wF m aw ab) = wF { m with worths := l } b ab := by
  unfold wF
  simp only [putF]
  rw [if_neg (by decide +kernel), if_neg (by decide +kernel), if_neg (by decide +kernel), if_neg (by decide +kernel), if_pos trivial]
end
def spIsWood : Sp := fun vs H Q _ => ∃ a b d : Nat, vs = [iN a, iN b, iN d] ∧ Q (.bl (isWood a b d)) H
def spSetCell (C Pt : Addr) : Sp := fun vs H Q _ => ∃ (a dx aw ab : Addr) (m : W) (call c : Nat), vs = [.ref a, iN call, iN c] ∧ WoodIn C H a dx aw ab m ∧ Good m ∧ Tabs (tabs Pt) H ∧ Told C Pt H a dx aw ab (setCell m call c) Q
def spSetWorths (C Pt : Addr) : Sp := fun vs H Q _ => ∃ (a dx aw ab r : Addr) (m : W) (l : List Nat), vs = [.ref a, .ref r] ∧ H r = some (.lst (vN l)) ∧ l.length ≤ 20 ∧ WoodIn C H a dx aw ab m ∧ Good m ∧ Tabs (tabs Pt) H ∧ Told C Pt H a dx aw ab (setWorths m l) Q
def spAfter (C Pt : Addr) : Sp := fun vs H Q _ => ∃ (a dx aw ab : Addr) (m : W) (q n : Nat), vs = [.ref a, iN q, iN n] ∧ WoodIn C H a dx aw ab m ∧ Good m ∧ Tabs (tabs Pt) H ∧ Told C Pt H a dx aw ab (m, after m q n) Q
theorem scIsWood : FnScope ["wide", "high", "most"] ["wide", "high", "most"] (defScope sIsWood) := ⟨rfl, rfl, rfl, by decide +kernel, rfl, by decide +kernel, by decide +kernel⟩
theorem scSetCell : FnScope ["wood", "call", "cell"] ["wood", "call", "cell"] (defScope sSetCell) := ⟨rfl, rfl, rfl, by decide +kernel, rfl, by decide +kernel, by decide +kernel⟩
theorem scSetWorths : FnScope ["wood", "worths", "worth"] ["wood", "worths"] (defScope sSetWorths) := ⟨rfl, rfl, rfl, by decide +kernel, rfl, by decide +kernel, by decide +kernel⟩
theorem scAfter : FnScope ["wood", "cells", "minutes", "burning"] ["wood", "cells", "minutes"] (defScope sAfter) := ⟨rfl, rfl, rfl, by decide +kernel, rfl, by decide +kernel, by decide +kernel⟩
theorem no_and {a b c d e : Prop} [Decidable (a ∧ b ∧ c ∧ d ∧ e)] (h : ¬ (a ∧ b ∧ c ∧ d ∧ e)) : decide (a ∧ b ∧ c ∧ d ∧ e) = false := decide_eq_false h
section
variable {P : Program} {w : World} {K : PySem.W.Frag} {mg : Str → Option Value} {base : Heap} {C Pt f fM fI fY fB : Addr} {fd fdM fdI fdY fdB : FuncData}
theorem ok_isWood (F : Fun K "is_wood" "is_wood" sIsWood f fd) {t1 t2 t3 : Tok} (g1 : mg "WIDEST" = some (.int 4 t1)) (g2 : mg "HIGHEST" = some (.int 3 t2)) (g3 : mg "MOST_DUG" = some (.int 3 t3)) :
    FnOk P w K mg base CX0 1 f fd ["wide", "high", "most"] spIsWood := by
  refine F.ok scIsWood (fun vs H Q E h => ?_) (fun cdv A outer s H vs Q E hr h => ?_)
  · obtain ⟨a, b, d, rfl, _⟩ := h
    rfl
  · refine ⟨_, pss_one (ps_ret (pe_and (pe_cmpR op_le pe_int (pv 0) (nomark _)) (pe_and (pe_cmpR op_le (pv 0) (pe_glob (v := .int 4) rfl g1 ⟨_, rfl⟩) (nomark _)) (pe_and (pe_cmpR op_le pe_int (pv 1) (nomark _))
      (pe_and (pe_cmpR op_le (pv 1) (pe_glob (v := .int 3) rfl g2 ⟨_, rfl⟩) (nomark _)) (pe_one (pe_cmpR op_le (pv 2) (pe_glob (v := .int 3) rfl g3 ⟨_, rfl⟩) (nomark _)))))))), ?_⟩
    obtain ⟨a, b, d, rfl, hq⟩ := h
    have no : ¬ (2 ≤ a ∧ a ≤ 4 ∧ 2 ≤ b ∧ b ≤ 3 ∧ d ≤ 3) → Q (.bl false) H := fun z => by
      have e : isWood a b d = false := decide_eq_false z
      rw [← e]
      exact hq
    refine ⟨_, rfl, _, _, rfl, rfl, _, rfl, ?_⟩
    by_cases c1 : 2 ≤ a
    · refine ifT (decide_eq_true (by omega)) ⟨_, rfl, _, _, rfl, rfl, _, rfl, ?_⟩
      by_cases c2 : a ≤ 4
      · refine ifT (decide_eq_true (by omega)) ⟨_, rfl, _, _, rfl, rfl, _, rfl, ?_⟩
        by_cases c3 : 2 ≤ b
        · refine ifT (decide_eq_true (by omega)) ⟨_, rfl, _, _, rfl, rfl, _, rfl, ?_⟩
          by_cases c4 : b ≤ 3
          · refine ifT (decide_eq_true (by omega)) ⟨_, rfl, _, _, rfl, rfl, ?_⟩
            have e : isWood a b d = decide ((d : Int) ≤ 3) := by
              unfold isWood
              rw [decide_eq_decide]
              omega
            show Q (.bl (decide ((d : Int) ≤ 3))) H
            rw [← e]
            exact hq
          · exact ifF (decide_eq_false (by omega)) (no fun z => c4 z.2.2.2.1)
        · exact ifF (decide_eq_false (by omega)) (no fun z => c3 z.2.2.1)
      · exact ifF (decide_eq_false (by omega)) (no fun z => c2 z.2.1)
    · exact ifF (decide_eq_false (by omega)) (no fun z => c1 z.1)
theorem ok_setCell (F : Fun K "set_cell" "set_cell" sSetCell f fd) (T : Txt K mg C) (gM : mg "members" = some (.ref fM)) (kM : PySem.W.keepIn K (.ref fM) = true) (GM : FnOk P w K mg base CX0 1 fM fdM ["cells"] spMembers) (bM : Binds K fdM ["cells"] []) :
    FnOk P w K mg base CX0 2 f fd ["wood", "call", "cell"] (spSetCell C Pt) := by
  refine F.ok scSetCell (fun vs H Q E h => ?_) (fun cdv A outer s H vs Q E hr h => ?_)
  · obtain ⟨a, dx, aw, ab, m, call, c, rfl, _⟩ := h
    rfl
  · refine ⟨_, pss_cons (ps_if (pt_cmpR op_ge (pv 2) (pe_fld (pv 0) rfl) (nomark _)) (pss_one (ps_ret (pe_lst (pa_cons (pe_un un_neg pe_int) pa_nil)))) pss_nil)
      (pss_cons (ps_if (pt_bit (pe_op op_orN (pe_fld (pv 0) rfl) (pe_fld (pv 0) rfl)) (pv 2)) (pss_one (ps_ret (pe_lst (pa_cons (pe_un un_neg pe_int) pa_nil)))) pss_nil)
      (pss_cons (ps_if (pt_cmpR op_eq (pv 1) pe_int (nomark _)) (pss_cons (ps_fldaug (pv 0) (pe_op op_bit pe_int (pv 2)) in_add)
          (pss_one (ps_ret (pe_lst (pa_cons (pe_callB call_len_seq (by rfl) T.len PySem.boot_len (pa_cons (pe_call GM hr rfl gM kM bM .nil pass0 (pa_cons (pe_fld (pv 0) rfl) pa_nil)) pa_nil)) pa_nil))))) pss_nil)
      (pss_cons (ps_fldaug (pv 0) (pe_op op_bit pe_int (pv 2)) in_add)
        (pss_one (ps_ret (pe_lst (pa_cons (pe_callB call_len_seq (by rfl) T.len PySem.boot_len (pa_cons (pe_call GM hr rfl gM kM bM .nil pass0 (pa_cons (pe_fld (pv 0) rfl) pa_nil)) pa_nil)) pa_nil))))))), ?_⟩
    obtain ⟨a, dx, aw, ab, m, call, c, rfl, W0, G, hT, hq⟩ := h
    obtain ⟨h1, h2, h3⟩ := id W0
    have hc := G.hi
    have naw : aw ≠ a := ne_of h2 h1 (by intro z; cases z)
    have nab : ab ≠ a := ne_of h3 h1 (by intro z; cases z)
    refine ⟨_, rfl, _, rfl, _, _, _, _, _, rfl, h1, T.cl, T.nC, wF_cells, _, _, rfl, rfl, _, rfl, ?_⟩
    show if decide (((m.cells : Nat) : Int) ≤ ((c : Nat) : Int)) = true then _ else _
    by_cases c1 : m.cells ≤ c
    · refine ifT (decide_eq_true (Int.ofNat_le.mpr c1)) ?_
      have e : setCell m call c = (m, [-2]) := if_pos c1
      rw [e] at hq
      exact ⟨2, rfl, (by show 1 ≤ sizeLine; decide), fun p hp => told_same hq W0 hT (Same.refl H) hp⟩
    refine ifF (decide_eq_false fun z => c1 (Int.ofNat_le.mp z)) ?_
    refine ⟨_, rfl, _, _, _, _, _, rfl, h1, T.cl, T.nR, wF_rock, _, rfl, _, _, _, _, _, rfl, h1, T.cl, T.nF, wF_fire, _, _, rfl, rfl, _, rfl, _, c, rfl, rfl, ?_⟩
    by_cases c2 : (m.rock ||| m.fire).testBit c = true
    · refine ifT c2 ?_
      have e : setCell m call c = (m, [-4]) := (if_neg c1).trans (if_pos c2)
      rw [e] at hq
      exact ⟨4, rfl, (by show 1 ≤ sizeLine; decide), fun p hp => told_same hq W0 hT (Same.refl H) hp⟩
    refine ifF (by simpa using c2) ?_
    have hpw : 2 ^ c < 2 ^ 12 := Nat.pow_lt_pow_right (by decide) (by omega)
    have hr2 := G.small G.rock
    have hf2 := G.small G.fire
    have b200 : ∀ n : Nat, n < 2 ^ 12 → n + 2 ^ c < 2 ^ 200 := fun n hn => Nat.lt_of_lt_of_le (by omega : n + 2 ^ c < 2 ^ 13) (Nat.pow_le_pow_right (by decide) (by decide))
    refine ⟨_, rfl, rfl, _, rfl, ?_⟩
    show if decide (iN call = iN 1) = true then _ else _
    rw [dec_iN]
    by_cases c3 : call = 1
    · refine ifT (decide_eq_true c3) ?_
      have e : setCell m call c = (setRock m c, [(((members (m.rock + 2 ^ c)).length : Nat) : Int)]) := (if_neg c1).trans ((if_neg c2).trans (if_pos c3))
      rw [e] at hq
      refine ⟨_, rfl, a, C, dx, _, _, rfl, h1, T.cl, T.nR, wF_rock, _, rfl, c, rfl, rfl, by omega, _, _, rfl, rfl, dx, _, h1, (by show 6 < 1000; decide), ?_⟩
      have ep : putF ("rock" : Str) (V.int ((m.rock : Int) + ((2 ^ c : Nat) : Int))) (wF m aw ab) = wF (setRock m c) aw ab := put_rock (m.rock + 2 ^ c)
      rw [ep]
      refine ⟨_, rfl, a, C, dx, _, _, rfl, upd_same, T.cl, T.nR, wF_rock, m.rock + 2 ^ c, rfl, b200 _ hr2, fun H2 mp s2 hmp hM => ⟨mp, _, rfl, .inl (SqL.of hM), ?_⟩⟩
      rw [vN_len]
      refine ⟨(by show 1 ≤ sizeLine; decide), fun p hp => ?_⟩
      exact told_mut hq W0 hT (fun b o q hb => s2 _ _ ((upd_ne hb).trans q)) ⟨s2 _ _ upd_same, s2 _ _ ((upd_ne naw).trans h2), s2 _ _ ((upd_ne nab).trans h3)⟩ (.inl rfl) hp
    · refine ifF (decide_eq_false c3) ?_
      have e : setCell m call c = (setFire m c, [(((members (m.fire + 2 ^ c)).length : Nat) : Int)]) := (if_neg c1).trans ((if_neg c2).trans (if_neg c3))
      rw [e] at hq
      refine ⟨_, rfl, a, C, dx, _, _, rfl, h1, T.cl, T.nF, wF_fire, _, rfl, c, rfl, rfl, by omega, _, _, rfl, rfl, dx, _, h1, (by show 6 < 1000; decide), ?_⟩
      have ep : putF ("fire" : Str) (V.int ((m.fire : Int) + ((2 ^ c : Nat) : Int))) (wF m aw ab) = wF (setFire m c) aw ab := put_fire (m.fire + 2 ^ c)
      rw [ep]
      refine ⟨_, rfl, a, C, dx, _, _, rfl, upd_same, T.cl, T.nF, wF_fire, m.fire + 2 ^ c, rfl, b200 _ hf2, fun H2 mp s2 hmp hM => ⟨mp, _, rfl, .inl (SqL.of hM), ?_⟩⟩
      rw [vN_len]
      refine ⟨(by show 1 ≤ sizeLine; decide), fun p hp => ?_⟩
      exact told_mut hq W0 hT (fun b o q hb => s2 _ _ ((upd_ne hb).trans q)) ⟨s2 _ _ upd_same, s2 _ _ ((upd_ne naw).trans h2), s2 _ _ ((upd_ne nab).trans h3)⟩ (.inl rfl) hp
end
end Br

/-! The walk: set_worths, after, check, tell_best, result_of. -/
namespace Br
open PySem PySem.Spec PyProof.Rows L2
open LamX (ExtN Tabs TabB)
theorem any_take (l : List Nat) : ((l.map fun n => decide (1000 < n)).any id) = l.any fun n => decide (1000 < n) := by
  rw [List.any_map]
  rfl
theorem cast_cons (n : Nat) (l : List Nat) : cast (n :: l) = (n : Int) :: cast l := rfl
theorem best_lt2 (m : W) : (bestTo m (2 ^ m.cells)).1 < 2 ^ m.cells := best_lt m _ (Nat.two_pow_pos _)
def spCheck (C Pt : Addr) : Sp := fun vs H Q _ => ∃ (a dx aw ab : Addr) (m : W) (q : Nat), vs = [.ref a, iN q] ∧ WoodIn C H a dx aw ab m ∧ Good m ∧ Tabs (tabs Pt) H ∧ Told C Pt H a dx aw ab (m, check m q) Q
def spTellBest (C Pt : Addr) : Sp := fun vs H Q _ => ∃ (a dx aw ab : Addr) (m : W), vs = [.ref a] ∧ WoodIn C H a dx aw ab m ∧ Good m ∧ Tabs (tabs Pt) H ∧ Told C Pt H a dx aw ab (m, tellBest m) Q
def spResultOf (C Pt : Addr) : Sp := fun vs H Q _ => ∃ (a dx aw ab b r : Addr) (m : W) (call : Nat) (nums rows : List Nat), vs = [.ref a, iN call, .ref b, .ref r] ∧ H b = some (.lst (vN nums)) ∧ H r = some (.lst (vN rows)) ∧ 1 ≤ call ∧ call ≤ 6 ∧ nums.length = size call ∧ rows.length ≤ 20 ∧
  WoodIn C H a dx aw ab m ∧ Good m ∧ Tabs (tabs Pt) H ∧ Told C Pt H a dx aw ab (resultOf m call nums rows) Q
theorem scCheck : FnScope ["wood", "cells", "number", "early", "burnt"] ["wood", "cells"] (defScope sCheck) := ⟨rfl, rfl, rfl, by decide +kernel, rfl, by decide +kernel, by decide +kernel⟩
theorem scTellBest : FnScope ["wood", "loses", "number", "cells"] ["wood"] (defScope sTellBest) := ⟨rfl, rfl, rfl, by decide +kernel, rfl, by decide +kernel, by decide +kernel⟩
theorem scResultOf : FnScope ["wood", "call", "numbers", "row"] ["wood", "call", "numbers", "row"] (defScope sResultOf) := ⟨rfl, rfl, rfl, by decide +kernel, rfl, by decide +kernel, by decide +kernel⟩
section
variable {P : Program} {w : World} {K : PySem.W.Frag} {mg : Str → Option Value} {base : Heap} {C Pt f fM fI fY fB : Addr} {fd fdM fdI fdY fdB : FuncData}
theorem ok_setWorths (F : Fun K "set_worths" "set_worths" sSetWorths f fd) (T : Txt K mg C) {t1 : Tok} (g1 : mg "DEAREST" = some (.int 1000 t1)) : FnOk P w K mg base CX0 1 f fd ["wood", "worths"] (spSetWorths C Pt) := by
  refine F.ok scSetWorths (fun vs H Q E h => ?_) (fun cdv A outer s H vs Q E hr h => ?_)
  · obtain ⟨a, dx, aw, ab, r, m, l, rfl, _⟩ := h
    rfl
  · refine ⟨_, pss_cons (ps_if (PW.pt (pw_or (pt_cmpR op_ne (pe_callB call_len_seq (by rfl) T.len PySem.boot_len (pa_cons (pv 1) pa_nil)) (pe_fld (pv 0) rfl) (nomark _))
        (pw_or1 (pt_val (pe_callB (cr_any rfl) (by rfl) T.any (by decide +kernel) (pa_cons (pe_lc (own := [(("worth" : Str), 2)]) (g := gName 2) (tt := tYes) (te := tOp (rI0 fun i j => .bl (decide (j < i))) (tVar 2) (tC (.int 1000))) rfl scSetWorths.nd
          (pi_list (pv 1)) (blkOk_by (own := [(("worth" : Str), 2)]) (N := ["wood", "worths", "worth"]) (sc := defScope sSetWorths) (by decide +kernel))
          (fun _ _ _ _ _ => pg_name (i := 2) scSetWorths.nd rfl (Or.inl rfl)) (fun _ _ _ _ _ => pts_nil) (fun _ _ _ _ _ => pe_cmpR op_gt (pv 2) (pe_glob (v := .int 1000) rfl g1 ⟨_, rfl⟩) (nomark _))) pa_nil))))))
        (pss_one (ps_ret (pe_lst (pa_cons (pe_un un_neg pe_int) pa_nil)))) pss_nil)
      (pss_cons (ps_fld (pv 0) (pe_callTy call_list_of (by rfl) T.list boot_list (pa_cons (pv 1) pa_nil)) rfl)
      (pss_one (ps_ret (pe_lst (pa_cons pe_int pa_nil))))), ?_⟩
    obtain ⟨a, dx, aw, ab, r, m, l, rfl, hr1, hl, W0, G, hT, hq⟩ := h
    obtain ⟨h1, h2, h3⟩ := id W0
    have naw : aw ≠ a := ne_of h2 h1 (by intro z; cases z)
    have nab : ab ≠ a := ne_of h3 h1 (by intro z; cases z)
    have nra : r ≠ a := ne_of hr1 h1 (by intro z; cases z)
    have bad : (l.length ≠ m.cells ∨ (l.any fun n => decide (1000 < n)) = true) → ∀ H1 : Hp, Same H H1 → 1 ≤ sizeLine ∧ ∀ p, H1 p = none → Q (.ref p) (upd H1 p (.lst [V.int (-2 + 1)])) := fun z H1 s1 => by
      have e : setWorths m l = (m, [-1]) := if_pos z
      rw [e] at hq
      exact ⟨by decide, fun p hp => told_same hq W0 hT s1 hp⟩
    have good : ¬ (l.length ≠ m.cells ∨ (l.any fun n => decide (1000 < n)) = true) → setWorths m l = ({ m with worths := l }, [0]) := fun z => if_neg z
    refine ⟨_, rfl, r, _, rfl, .inl (SqL.of hr1), _, rfl, _, _, _, _, _, rfl, h1, T.cl, T.nC, wF_cells, rfl, _, rfl, ?_⟩
    rw [vN_len, dec_iN]
    by_cases c1 : l.length = m.cells
    · refine ifF (by rw [decide_eq_true c1]; rfl) ?_
      refine ⟨_, rfl, r, rfl, ⟨_, SqL.of hr1⟩, fun D hD => ?_⟩
      refine lc_list (K := K) (a := r) (xs := vN l) (fun j H' => H' D = some (.lst (((l.take j).map fun n => decide (1000 < n)).map V.bl)) ∧ Same H H') ⟨upd_same, same_new hD⟩
        (fun j H' _ ⟨_, sj⟩ => sj.seq (SqL.of hr1)) ?_ ?_
      · rintro j y H' hy ⟨hj, sj⟩
        obtain ⟨c, hcj, rfl⟩ := vN_at hy
        refine ⟨rfl, _, rfl, _, _, rfl, rfl, _, hj, ?_, ?_, same_mut sj hD⟩
        · rw [List.length_map, List.length_map, List.length_take]
          exact small12 (by omega)
        · have hjl : j < l.length := (List.getElem?_eq_some_iff.mp hcj).1
          have e : l.take (j + 1) = l.take j ++ [c] := by
            rw [List.take_succ, hcj]
            rfl
          rw [e, List.map_append, List.map_append]
          have e2 : decide ((1000 : Int) < ((c : Nat) : Int)) = decide (1000 < c) := decide_eq_decide.mpr (by omega)
          show upd H' D (.lst (_ ++ [V.bl (decide ((1000 : Int) < ((c : Nat) : Int)))])) D = _
          rw [e2]
          exact upd_same
      rintro H2 ⟨hD2, s2⟩
      rw [vN_len, List.take_length] at hD2
      refine ⟨D, _, rfl, SqL.of hD2, _, rfl, ?_⟩
      rw [any_take]
      by_cases c2 : (l.any fun n => decide (1000 < n)) = true
      · refine ifT c2 ?_
        exact ⟨1, rfl, bad (.inr c2) H2 s2⟩
      · refine ifF (by simpa using c2) ?_
        have e := good fun z => z.elim (fun y => y c1) c2
        rw [e] at hq
        refine ⟨_, rfl, r, _, rfl, .inl (SqL.of (s2 _ _ hr1)), fun q hq0 => ?_⟩
        have sq : Same H (upd H2 q (.lst (vN l))) := s2.trans (same_new hq0)
        have nqa : q ≠ a := fun z => by
          rw [z, s2 _ _ h1] at hq0
          cases hq0
        refine ⟨_, rfl, a, C, dx, _, rfl, sq _ _ h1, T.cl, T.nW, (by show 6 < 1000; decide), ?_⟩
        rw [put_worths]
        refine ⟨(by show 1 ≤ sizeLine; decide), fun p hp => ?_⟩
        exact told_mut (aw' := q) hq W0 hT (fun b o z hb => (upd_ne hb).trans (sq _ _ z)) ⟨upd_same, (upd_ne nqa).trans upd_same, (upd_ne nab).trans (sq _ _ h3)⟩ (.inr (s2.free hq0)) hp
    · refine ifT (by rw [decide_eq_false c1]; rfl) ?_
      exact ⟨1, rfl, bad (.inl c1) H (Same.refl H)⟩
theorem ok_after (F : Fun K "after" "after" sAfter f fd) (T : Txt K mg C) {t1 : Tok} (g1 : mg "LONGEST" = some (.int 1000 t1)) (mI : Meth K C "is_set" fI) (GI : FnOk P w K mg base CX0 1 fI fdI ["self", "cells"] (spIsSet C)) (bI : Binds K fdI ["self", "cells"] [])
    (mY : Meth K C "may_be_dug" fY) (GY : FnOk P w K mg base CX0 1 fY fdY ["self", "cells"] (spMay C)) (bY : Binds K fdY ["self", "cells"] [])
    (mB : Meth K C "behind" fB) (GB : FnOk P w K mg base CX0 2 fB fdB ["self", "dug", "minutes"] (spBehind C)) (bB : Binds K fdB ["self", "dug", "minutes"] [])
    (gM : mg "members" = some (.ref fM)) (kM : PySem.W.keepIn K (.ref fM) = true) (GM : FnOk P w K mg base CX0 1 fM fdM ["cells"] spMembers) (bM : Binds K fdM ["cells"] []) :
    FnOk P w K mg base CX0 3 f fd ["wood", "cells", "minutes"] (spAfter C Pt) := by
  refine F.ok scAfter (fun vs H Q E h => ?_) (fun cdv A outer s H vs Q E hr h => ?_)
  · obtain ⟨a, dx, aw, ab, m, q, n, rfl, _⟩ := h
    rfl
  · have hr1 : Room 1 _ := hr.mono (by decide)
    refine ⟨_, pss_cons (ps_if (PW.pt (pw_or (pt_not (pt_val (pe_meth (pv 0) T.cl mI GI hr1 bI .nil pass0 (pa_cons (pv 1) pa_nil)))) (pw_or1 (pt_cmpR op_gt (pv 2) (pe_glob (v := .int 1000) rfl g1 ⟨_, rfl⟩) (nomark _)))))
        (pss_one (ps_ret (pe_lst (pa_cons (pe_un un_neg pe_int) pa_nil)))) pss_nil)
      (pss_cons (ps_if (pt_not (pt_val (pe_meth (pv 0) T.cl mY GY hr1 bY .nil pass0 (pa_cons (pv 1) pa_nil)))) (pss_one (ps_ret (pe_lst (pa_cons (pe_un un_neg pe_int) pa_nil)))) pss_nil)
      (pss_cons (ps_set (i := 3) scAfter.nd rfl (Or.inl rfl) (pe_call GM hr1 rfl gM kM bM .nil pass0 (pa_cons (pe_meth (pv 0) T.cl mB GB hr bB .nil pass0 (pa_cons (pv 1) (pa_cons (pv 2) pa_nil))) pa_nil)))
      (pss_one (ps_ret (pe_op op_cat (pe_lst (pa_cons (pe_callB call_len_seq (by rfl) T.len PySem.boot_len (pa_cons (pv 3) pa_nil)) pa_nil)) (pv 3)))))), ?_⟩
    obtain ⟨a, dx, aw, ab, m, q, n, rfl, W0, G, hT, hq⟩ := h
    obtain ⟨h1, h2, h3⟩ := id W0
    refine ⟨_, rfl, a, dx, _, rfl, h1, wF_no (by decide +kernel), _, rfl, a, m, q, rfl, W0.wood, G, _, rfl, ?_⟩
    by_cases c1 : q < 2 ^ m.cells
    · rw [decide_eq_true c1]
      refine ifF rfl ⟨_, rfl, _, _, rfl, rfl, _, rfl, ?_⟩
      by_cases c2 : 1000 < n
      · refine ifT (decide_eq_true (by omega)) ?_
        have e : after m q n = [-1] := if_pos (.inr c2)
        rw [e] at hq
        exact ⟨1, rfl, (by show 1 ≤ sizeLine; decide), fun p hp => told_same hq W0 hT (Same.refl H) hp⟩
      refine ifF (decide_eq_false (by omega)) ?_
      have e0 : after m q n = if free m q = false then [-4] else (((members (burn m q (min n m.cells))).length : Nat) : Int) :: cast (members (burn m q (min n m.cells))) := if_neg fun z => z.elim (fun y => y c1) c2
      refine ⟨_, rfl, a, dx, _, rfl, h1, wF_no (by decide +kernel), _, rfl, a, m, q, rfl, W0.wood, _, rfl, ?_⟩
      by_cases c3 : free m q = true
      · rw [c3]
        refine ifF rfl ?_
        have e := e0.trans (if_neg (by rw [c3]; decide))
        rw [e] at hq
        refine ⟨_, rfl, a, dx, _, rfl, h1, wF_no (by decide +kernel), _, rfl, _, rfl, a, m, q, n, rfl, W0.wood, G, _, rfl, pow_big G (G.burn_lt q _), fun H1 mp s1 hmp hM => ?_⟩
        refine ⟨_, rfl, mp, _, rfl, .inl (SqL.of hM), (by show 1 ≤ sizeLine; decide), fun l hl => ?_⟩
        rw [vN_len]
        have hM2 : upd H1 l (.lst [V.int (((members (burn m q (min n m.cells))).length : Nat) : Int)]) mp = some (.lst (vN (members (burn m q (min n m.cells))))) := (upd_ne (ne_of_none hM hl)).trans hM
        refine ⟨_, rfl, l, mp, _, _, rfl, rfl, upd_same, hM2, ?_, fun p hp => ?_⟩
        · rw [vN_len]
          exact Nat.le_of_lt (small12 (by show 1 + _ < 100; have := members_len (G.burn_lt q (min n m.cells)); have := G.hi; omega))
        · exact told_same hq W0 hT (s1.trans (same_new hl)) hp
      · have c3' : free m q = false := by simpa using c3
        rw [c3']
        refine ifT rfl ?_
        have e := e0.trans (if_pos c3')
        rw [e] at hq
        exact ⟨4, rfl, (by show 1 ≤ sizeLine; decide), fun p hp => told_same hq W0 hT (Same.refl H) hp⟩
    · rw [decide_eq_false c1]
      refine ifT rfl ?_
      have e : after m q n = [-1] := if_pos (.inl c1)
      rw [e] at hq
      exact ⟨1, rfl, (by show 1 ≤ sizeLine; decide), fun p hp => told_same hq W0 hT (Same.refl H) hp⟩
end
end Br

/-! The walk: check, tell_best. -/
namespace Br
open PySem PySem.Spec PyProof.Rows L2
open LamX (ExtN Tabs TabB)
theorem mem12 {m : W} (G : Good m) {d : Nat} (h : d < 2 ^ m.cells) : (members d).length ≤ 12 := Nat.le_trans (members_len h) G.hi
theorem order_len {m : W} (G : Good m) {d : Nat} (h : d < 2 ^ m.cells) : (order m d).length ≤ 12 := by
  unfold order
  rw [List.length_mergeSort]
  exact mem12 G h
section
variable {P : Program} {w : World} {K : PySem.W.Frag} {mg : Str → Option Value} {base : Heap} {C Pt f fM fI fY fB fT fL fO fE : Addr} {fd fdM fdI fdY fdB fdT fdL fdO fdE : FuncData}
theorem ok_check (F : Fun K "check" "check" sCheck f fd) (T : Txt K mg C) (mI : Meth K C "is_set" fI) (GI : FnOk P w K mg base CX0 1 fI fdI ["self", "cells"] (spIsSet C)) (bI : Binds K fdI ["self", "cells"] [])
    (mY : Meth K C "may_be_dug" fY) (GY : FnOk P w K mg base CX0 1 fY fdY ["self", "cells"] (spMay C)) (bY : Binds K fdY ["self", "cells"] [])
    (mB : Meth K C "behind" fB) (GB : FnOk P w K mg base CX0 2 fB fdB ["self", "dug", "minutes"] (spBehind C)) (bB : Binds K fdB ["self", "dug", "minutes"] [])
    (mT : Meth K C "too_many" fT) (GT : FnOk P w K mg base CX0 3 fT fdT ["self", "dug"] (spTooMany C)) (bT : Binds K fdT ["self", "dug"] [])
    (mL : Meth K C "loses" fL) (GL : FnOk P w K mg base CX0 3 fL fdL ["self", "dug"] (spLoses C)) (bL : Binds K fdL ["self", "dug"] [])
    (mO : Meth K C "in_order" fO) (GO : FnOk P w K mg base CX0 4 fO fdO ["self", "dug"] (spInOrder C Pt)) (bO : Binds K fdO ["self", "dug"] [])
    (gM : mg "members" = some (.ref fM)) (kM : PySem.W.keepIn K (.ref fM) = true) (GM : FnOk P w K mg base CX0 1 fM fdM ["cells"] spMembers) (bM : Binds K fdM ["cells"] []) :
    FnOk P w K mg base CX0 5 f fd ["wood", "cells"] (spCheck C Pt) := by
  refine F.ok scCheck (fun vs H Q E h => ?_) (fun cdv A outer s H vs Q E hr h => ?_)
  · obtain ⟨a, dx, aw, ab, m, q, rfl, _⟩ := h
    rfl
  · have hr1 : Room 1 _ := hr.mono (by decide)
    have hr2 : Room 2 _ := hr.mono (by decide)
    have hr3 : Room 3 _ := hr.mono (by decide)
    refine ⟨_, pss_cons (ps_if (pt_not (pt_val (pe_meth (pv 0) T.cl mI GI hr1 bI .nil pass0 (pa_cons (pv 1) pa_nil)))) (pss_one (ps_ret (pe_lst (pa_cons (pe_un un_neg pe_int) pa_nil)))) pss_nil)
      (pss_cons (ps_if (pt_not (pt_val (pe_meth (pv 0) T.cl mY GY hr1 bY .nil pass0 (pa_cons (pv 1) pa_nil)))) (pss_one (ps_ret (pe_lst (pa_cons (pe_un un_neg pe_int) pa_nil)))) pss_nil)
      (pss_cons (ps_if (PW.pt (pw_and (pt_cmpR op_eq (pe_fld (pv 0) rfl) pe_int (nomark _)) (pw_and1 (pt_cmpR op_ne (pv 1) pe_int (nomark _))))) (pss_one (ps_ret (pe_lst (pa_cons (pe_un un_neg pe_int) pa_nil)))) pss_nil)
      (pss_cons (ps_asg (pe_meth (pv 0) T.cl mT GT hr3 bT .nil pass0 (pa_cons (pv 1) pa_nil)) (pg_tup rfl (pgs_cons (pg_name (i := 2) scCheck.nd rfl (Or.inl rfl)) (pgs_cons (pg_name (i := 3) scCheck.nd rfl (Or.inl rfl)) pgs_nil))))
      (pss_cons (ps_if (pt_cmpR op_ne (pv 2) pe_int (nomark _)) (pss_one (ps_ret (pe_lst (pa_cons (pe_un un_neg pe_int) (pa_cons (pv 2) (pa_cons (pv 3) pa_nil)))))) pss_nil)
      (pss_cons (ps_set (i := 4) scCheck.nd rfl (Or.inl rfl) (pe_call GM hr1 rfl gM kM bM .nil pass0 (pa_cons (pe_meth (pv 0) T.cl mB GB hr2 bB .nil pass0 (pa_cons (pv 1) (pa_cons (pe_fld (pv 0) rfl) pa_nil))) pa_nil)))
      (pss_one (ps_ret (pe_op op_cat (pe_lst (pa_cons (pe_meth (pv 0) T.cl mL GL hr3 bL .nil pass0 (pa_cons (pv 1) pa_nil)) (pa_cons (pe_callB call_len_seq (by rfl) T.len PySem.boot_len (pa_cons (pv 4) pa_nil)) pa_nil)))
        (pe_meth (pv 0) T.cl mO GO hr bO .nil pass0 (pa_cons (pv 1) pa_nil))))))))))
      , ?_⟩
    obtain ⟨a, dx, aw, ab, m, q, rfl, W0, G, hT, hq⟩ := h
    obtain ⟨h1, h2, h3⟩ := id W0
    refine ⟨_, rfl, a, dx, _, rfl, h1, wF_no (by decide +kernel), _, rfl, a, m, q, rfl, W0.wood, G, _, rfl, ?_⟩
    by_cases c1 : q < 2 ^ m.cells
    · rw [decide_eq_true c1]
      refine ifF rfl ?_
      have e1 : check m q = _ := if_neg (not_not_intro c1)
      refine ⟨_, rfl, a, dx, _, rfl, h1, wF_no (by decide +kernel), _, rfl, a, m, q, rfl, W0.wood, _, rfl, ?_⟩
      by_cases c2 : free m q = true
      · rw [c2]
        refine ifF rfl ?_
        have e2 := e1.trans (if_neg (by rw [c2]; decide))
        refine ⟨_, rfl, _, _, _, _, _, rfl, h1, T.cl, T.nM, wF_most, rfl, _, rfl, ?_⟩
        show if decide (iN m.most = iN 0) = true then _ else _
        rw [dec_iN]
        have rest : ¬ (m.most = 0 ∧ q ≠ 0) → tSeq (tAsg (tMeth C "too_many" (spTooMany C) [] E0 (tVar 0) (tCons (tVar 1) tNil)) (gTup K 2 (gCons (gName 2) (gCons (gName 3) gNil))))
            (tSeq (tIfS (tTest (tOp rNe (tVar 2) (tC (.int 0)))) (tRet (tLst (tCons (tUn (rU fun i => .int (-i)) (tC (.int 6))) (tCons (tVar 2) (tCons (tVar 3) tNil))))) tNext)
            (tSeq (tAsg (tCall spMembers [] E0 (tCons (tMeth C "behind" (spBehind C) [] E0 (tVar 0) (tCons (tVar 1) (tCons (tFld K (tVar 0) "cells") tNil))) tNil)) (gName 4))
            (tRet (tOp rCat (tLst (tCons (tMeth C "loses" (spLoses C) [] E0 (tVar 0) (tCons (tVar 1) tNil)) (tCons (tCB (fun xs H Q => ∃ p ys, xs = [.ref p] ∧ (SqL K H p ys ∨ SqT K H p ys) ∧ Q (.int ys.length) H) (tCons (tVar 4) tNil)) tNil)))
              (tMeth C "in_order" (spInOrder C Pt) [] E0 (tVar 0) (tCons (tVar 1) tNil)))))) { nx := fun _ H' => Q .non H', rt := Q } (start ["wood", "cells", "number", "early", "burnt"] [.ref a, iN q]) H := by
          intro c3
          have e3 := e2.trans (if_neg c3)
          refine ⟨_, rfl, a, dx, _, rfl, h1, wF_no (by decide +kernel), _, rfl, a, m, q, rfl, W0.wood, G, c1, fun H1 p s1 _ hP => ?_⟩
          refine ⟨p, _, rfl, SqT.of hP, rfl, _, _, rfl, _, _, rfl, rfl, ?_⟩
          refine ⟨_, rfl, rfl, _, rfl, ?_⟩
          show if (!decide (iN (tooMany m q).1 = iN 0)) = true then _ else _
          rw [dec_iN]
          by_cases c4 : (tooMany m q).1 = 0
          · refine ifF (by rw [decide_eq_true c4]; rfl) ?_
            have e := e3.trans (if_neg (not_not_intro c4))
            rw [e] at hq
            obtain ⟨k1, k2, k3⟩ := W0.same s1
            have hb := G.burn_lt q m.cells
            refine ⟨_, rfl, a, dx, _, rfl, k1, wF_no (by decide +kernel), _, rfl, _, rfl, _, _, _, _, _, rfl, k1, T.cl, T.nC, wF_cells, a, m, q, m.cells, rfl, (W0.same s1).wood, G, ?_⟩
            rw [Nat.min_self]
            refine ⟨_, rfl, pow_big G hb, fun H2 mp s2 hmp hM => ?_⟩
            have s02 := s1.trans s2
            obtain ⟨k1, k2, k3⟩ := W0.same s02
            refine ⟨_, rfl, a, dx, _, rfl, k1, wF_no (by decide +kernel), _, rfl, a, m, q, rfl, (W0.same s02).wood, G, fun H3 s3 => ?_⟩
            refine ⟨_, rfl, mp, _, rfl, .inl (SqL.of (s3 _ _ hM)), (by show 2 ≤ sizeLine; decide), fun l hl => ?_⟩
            rw [vN_len]
            have s04 : Same H (upd H3 l (.lst [iN (loses m q), V.int (((members (burn m q m.cells)).length : Nat) : Int)])) := (s02.trans s3).trans (same_new hl)
            obtain ⟨k1, k2, k3⟩ := W0.same s04
            refine ⟨_, rfl, a, dx, _, rfl, k1, wF_no (by decide +kernel), _, rfl, a, m, q, rfl, (W0.same s04).wood, G, c1, hT.ext s04, fun H5 op eN T5 hn hO => ?_⟩
            refine ⟨l, op, _, _, rfl, rfl, eN _ _ upd_same (fun _ z => by cases z), hO, ?_, fun p hp => ?_⟩
            · rw [vN_len]
              exact Nat.le_of_lt (small12 (by show 2 + _ < 100; have := order_len G c1; omega))
            · exact told_ext hq W0 ((extN_same s04).trans eN) T5 hp
          · refine ifT (by rw [decide_eq_false c4]; rfl) ?_
            have e := e3.trans (if_pos c4)
            rw [e] at hq
            exact ⟨6, rfl, _, rfl, _, rfl, (by show 3 ≤ sizeLine; decide), fun p hp => told_same hq W0 hT s1 hp⟩
        by_cases c3 : m.most = 0
        · refine ifT (decide_eq_true c3) ?_
          refine ⟨_, rfl, rfl, _, rfl, ?_⟩
          show if (!decide (iN q = iN 0)) = true then _ else _
          rw [dec_iN]
          by_cases c5 : q = 0
          · refine ifF (by rw [decide_eq_true c5]; rfl) ?_
            exact rest fun z => z.2 c5
          · refine ifT (by rw [decide_eq_false c5]; rfl) ?_
            have e := e2.trans (if_pos ⟨c3, c5⟩)
            rw [e] at hq
            exact ⟨7, rfl, (by show 1 ≤ sizeLine; decide), fun p hp => told_same hq W0 hT (Same.refl H) hp⟩
        · refine ifF (decide_eq_false c3) ?_
          exact rest fun z => c3 z.1
      · have c2' : free m q = false := by simpa using c2
        rw [c2']
        refine ifT rfl ?_
        have e := e1.trans (if_pos c2')
        rw [e] at hq
        exact ⟨4, rfl, (by show 1 ≤ sizeLine; decide), fun p hp => told_same hq W0 hT (Same.refl H) hp⟩
    · rw [decide_eq_false c1]
      refine ifT rfl ?_
      have e : check m q = [-1] := if_pos c1
      rw [e] at hq
      exact ⟨1, rfl, (by show 1 ≤ sizeLine; decide), fun p hp => told_same hq W0 hT (Same.refl H) hp⟩
theorem ok_tellBest (F : Fun K "tell_best" "tell_best" sTellBest f fd) (T : Txt K mg C) (mE : Meth K C "best" fE) (GE : FnOk P w K mg base CX0 5 fE fdE ["self"] (spBest C)) (bE : Binds K fdE ["self"] [])
    (mO : Meth K C "in_order" fO) (GO : FnOk P w K mg base CX0 4 fO fdO ["self", "dug"] (spInOrder C Pt)) (bO : Binds K fdO ["self", "dug"] [])
    (gM : mg "members" = some (.ref fM)) (kM : PySem.W.keepIn K (.ref fM) = true) (GM : FnOk P w K mg base CX0 1 fM fdM ["cells"] spMembers) (bM : Binds K fdM ["cells"] []) :
    FnOk P w K mg base CX0 6 f fd ["wood"] (spTellBest C Pt) := by
  refine F.ok scTellBest (fun vs H Q E h => ?_) (fun cdv A outer s H vs Q E hr h => ?_)
  · obtain ⟨a, dx, aw, ab, m, rfl, _⟩ := h
    rfl
  · have hr1 : Room 1 _ := hr.mono (by decide)
    have hr4 : Room 4 _ := hr.mono (by decide)
    refine ⟨_, pss_cons (ps_asg (pe_meth0 (pv 0) T.cl mE GE hr bE .nil pass0) (pg_tup rfl (pgs_cons (pg_name (i := 1) scTellBest.nd rfl (Or.inl rfl)) (pgs_cons (pg_name (i := 2) scTellBest.nd rfl (Or.inl rfl)) (pgs_cons (pg_name (i := 3) scTellBest.nd rfl (Or.inl rfl)) pgs_nil)))))
      (pss_one (ps_ret (pe_op op_cat (pe_lst (pa_cons (pv 1) (pa_cons (pe_callB call_len_seq (by rfl) T.len PySem.boot_len (pa_cons (pe_call GM hr1 rfl gM kM bM .nil pass0 (pa_cons (pv 3) pa_nil)) pa_nil)) (pa_cons (pv 2) pa_nil))))
        (pe_meth (pv 0) T.cl mO GO hr4 bO .nil pass0 (pa_cons (pv 3) pa_nil))))), ?_⟩
    obtain ⟨a, dx, aw, ab, m, rfl, W0, G, hT, hq⟩ := h
    obtain ⟨h1, h2, h3⟩ := id W0
    have hb := best_lt2 m
    refine ⟨_, rfl, a, dx, _, rfl, h1, wF_no (by decide +kernel), a, m, rfl, W0.wood, G, fun H1 p s1 _ hP => ?_⟩
    refine ⟨p, _, rfl, SqT.of hP, rfl, _, _, rfl, _, _, rfl, _, _, rfl, rfl, ?_⟩
    refine ⟨_, rfl, _, rfl, _, rfl, pow_big G hb, fun H2 mp s2 hmp hM => ⟨mp, _, rfl, .inl (SqL.of hM), _, rfl, ?_⟩⟩
    rw [vN_len]
    refine ⟨(by show 3 ≤ sizeLine; decide), fun l hl => ?_⟩
    have s04 := (s1.trans s2).trans (same_new (o := .lst [iN ((bestTo m (2 ^ m.cells)).2.1.getD (0, 0)).1, V.int (((members (bestTo m (2 ^ m.cells)).1).length : Nat) : Int), iN (bestTo m (2 ^ m.cells)).2.2]) hl)
    obtain ⟨k1, k2, k3⟩ := W0.same s04
    refine ⟨_, rfl, a, dx, _, rfl, k1, wF_no (by decide +kernel), _, rfl, a, m, _, rfl, (W0.same s04).wood, G, hb, hT.ext s04, fun H5 op eN T5 hn hO => ?_⟩
    refine ⟨l, op, _, _, rfl, rfl, eN _ _ upd_same (fun _ z => by cases z), hO, ?_, fun p hp => ?_⟩
    · rw [vN_len]
      exact Nat.le_of_lt (small12 (by show 3 + _ < 100; have := order_len G hb; omega))
    · exact told_ext hq W0 ((extN_same s04).trans eN) T5 hp
end
end Br

/-! The walk: result_of; a turn of the loop, by parts. -/
namespace Br
open PySem PySem.Spec PyProof.Rows L2
open LamX (ExtN Tabs TabB)
section
variable {P : Program} {w : World} {K : PySem.W.Frag} {mg : Str → Option Value} {base : Heap} {C Pt f fS fW fA fC fT : Addr} {fd fdS fdW fdA fdC fdT : FuncData}
theorem ok_resultOf (F : Fun K "result_of" "result_of" sResultOf f fd)
    (gS : mg "set_cell" = some (.ref fS)) (kS : PySem.W.keepIn K (.ref fS) = true) (GS : FnOk P w K mg base CX0 2 fS fdS ["wood", "call", "cell"] (spSetCell C Pt)) (bS : Binds K fdS ["wood", "call", "cell"] [])
    (gW : mg "set_worths" = some (.ref fW)) (kW : PySem.W.keepIn K (.ref fW) = true) (GW : FnOk P w K mg base CX0 1 fW fdW ["wood", "worths"] (spSetWorths C Pt)) (bW : Binds K fdW ["wood", "worths"] [])
    (gA : mg "after" = some (.ref fA)) (kA : PySem.W.keepIn K (.ref fA) = true) (GA : FnOk P w K mg base CX0 3 fA fdA ["wood", "cells", "minutes"] (spAfter C Pt)) (bA : Binds K fdA ["wood", "cells", "minutes"] [])
    (gC : mg "check" = some (.ref fC)) (kC : PySem.W.keepIn K (.ref fC) = true) (GC : FnOk P w K mg base CX0 5 fC fdC ["wood", "cells"] (spCheck C Pt)) (bC : Binds K fdC ["wood", "cells"] [])
    (gT : mg "tell_best" = some (.ref fT)) (kT : PySem.W.keepIn K (.ref fT) = true) (GT : FnOk P w K mg base CX0 6 fT fdT ["wood"] (spTellBest C Pt)) (bT : Binds K fdT ["wood"] []) :
    FnOk P w K mg base CX0 7 f fd ["wood", "call", "numbers", "row"] (spResultOf C Pt) := by
  refine F.ok scResultOf (fun vs H Q E h => ?_) (fun cdv A outer s H vs Q E hr h => ?_)
  · obtain ⟨a, dx, aw, ab, b, r, m, call, nums, rows, rfl, _⟩ := h
    rfl
  · have hr1 : Room 1 _ := hr.mono (by decide)
    have hr2 : Room 2 _ := hr.mono (by decide)
    have hr3 : Room 3 _ := hr.mono (by decide)
    have hr5 : Room 5 _ := hr.mono (by decide)
    refine ⟨_, pss_cons (ps_if (PW.pt (pw_or (pt_cmpR op_eq (pv 1) pe_int (nomark _)) (pw_or1 (pt_cmpR op_eq (pv 1) pe_int (nomark _)))))
        (pss_one (ps_ret (pe_call GS hr2 rfl gS kS bS .nil pass0 (pa_cons (pv 0) (pa_cons (pv 1) (pa_cons (pe_ix ix_list (pv 2) pe_int (fun _ _ => rfl)) pa_nil)))))) pss_nil)
      (pss_cons (ps_if (pt_cmpR op_eq (pv 1) pe_int (nomark _)) (pss_one (ps_ret (pe_call GW hr1 rfl gW kW bW .nil pass0 (pa_cons (pv 0) (pa_cons (pv 3) pa_nil))))) pss_nil)
      (pss_cons (ps_if (pt_cmpR op_eq (pv 1) pe_int (nomark _)) (pss_one (ps_ret (pe_call GA hr3 rfl gA kA bA .nil pass0 (pa_cons (pv 0) (pa_cons (pe_ix ix_list (pv 2) pe_int (fun _ _ => rfl)) (pa_cons (pe_ix ix_list (pv 2) pe_int (fun _ _ => rfl)) pa_nil)))))) pss_nil)
      (pss_cons (ps_if (pt_cmpR op_eq (pv 1) pe_int (nomark _)) (pss_one (ps_ret (pe_call GC hr5 rfl gC kC bC .nil pass0 (pa_cons (pv 0) (pa_cons (pe_ix ix_list (pv 2) pe_int (fun _ _ => rfl)) pa_nil))))) pss_nil)
      (pss_one (ps_ret (pe_call GT hr rfl gT kT bT .nil pass0 (pa_cons (pv 0) pa_nil))))))), ?_⟩
    obtain ⟨a, dx, aw, ab, b, r, m, call, nums, rows, rfl, hb, hw, lo, hi, hl, hrl, W0, G, hT, hq⟩ := h
    have at0 : 0 < nums.length → atI (vN nums) ((0 : Nat) : Int) = some (iN (nums.getD 0 0)) := fun z => at_nat (vN_get (getD_at z))
    have at1 : 1 < nums.length → atI (vN nums) ((1 : Nat) : Int) = some (iN (nums.getD 1 0)) := fun z => at_nat (vN_get (getD_at z))
    refine ⟨_, rfl, rfl, _, rfl, ?_⟩
    show if decide (iN call = iN 1) = true then _ else _
    rw [dec_iN]
    have setc : call = 1 ∨ call = 2 → tRet (tCall (spSetCell C Pt) [] E0 (tCons (tVar 0) (tCons (tVar 1) (tCons (tOp (rIxL K) (tVar 2) (tC (.int 0))) tNil)))) { nx := fun _ H' => Q .non H', rt := Q } (start ["wood", "call", "numbers", "row"] [.ref a, iN call, .ref b, .ref r]) H := by
      intro z
      have e : resultOf m call nums rows = setCell m call (nums.getD 0 0) := if_pos z
      rw [e] at hq
      have h0 : 0 < nums.length := by
        rw [hl]
        rcases z with rfl | rfl <;> decide
      exact ⟨_, rfl, _, rfl, _, rfl, b, _, _, _, rfl, rfl, SqL.of hb, at0 h0, a, dx, aw, ab, m, call, _, rfl, W0, G, hT, hq⟩
    by_cases c1 : call = 1
    · exact ifT (decide_eq_true c1) (setc (.inl c1))
    refine ifF (decide_eq_false c1) ?_
    refine ⟨_, rfl, rfl, _, rfl, ?_⟩
    show if decide (iN call = iN 2) = true then _ else _
    rw [dec_iN]
    by_cases c2 : call = 2
    · exact ifT (decide_eq_true c2) (setc (.inr c2))
    refine ifF (decide_eq_false c2) ?_
    have e1 : resultOf m call nums rows = _ := if_neg fun z => z.elim c1 c2
    refine ⟨_, rfl, rfl, _, rfl, ?_⟩
    show if decide (iN call = iN 3) = true then _ else _
    rw [dec_iN]
    by_cases c3 : call = 3
    · refine ifT (decide_eq_true c3) ?_
      have e := e1.trans (if_pos c3)
      rw [e] at hq
      exact ⟨_, rfl, _, rfl, a, dx, aw, ab, r, m, rows, rfl, hw, hrl, W0, G, hT, hq⟩
    refine ifF (decide_eq_false c3) ?_
    have e2 := e1.trans (if_neg c3)
    refine ⟨_, rfl, rfl, _, rfl, ?_⟩
    show if decide (iN call = iN 4) = true then _ else _
    rw [dec_iN]
    by_cases c4 : call = 4
    · refine ifT (decide_eq_true c4) ?_
      have e := e2.trans (if_pos c4)
      rw [e] at hq
      have h1 : 1 < nums.length := by
        rw [hl, c4]
        decide
      exact ⟨_, rfl, _, rfl, b, _, _, _, rfl, rfl, SqL.of hb, at0 (by omega), _, rfl, b, _, _, _, rfl, rfl, SqL.of hb, at1 h1, a, dx, aw, ab, m, _, _, rfl, W0, G, hT, hq⟩
    refine ifF (decide_eq_false c4) ?_
    have e3 := e2.trans (if_neg c4)
    refine ⟨_, rfl, rfl, _, rfl, ?_⟩
    show if decide (iN call = iN 5) = true then _ else _
    rw [dec_iN]
    by_cases c5 : call = 5
    · refine ifT (decide_eq_true c5) ?_
      have e := e3.trans (if_pos c5)
      rw [e] at hq
      have h1 : 0 < nums.length := by
        rw [hl, c5]
        decide
      exact ⟨_, rfl, _, rfl, b, _, _, _, rfl, rfl, SqL.of hb, at0 h1, a, dx, aw, ab, m, _, rfl, W0, G, hT, hq⟩
    refine ifF (decide_eq_false c5) ?_
    have e := e3.trans (if_neg c5)
    rw [e] at hq
    exact ⟨_, rfl, a, dx, aw, ab, m, rfl, W0, G, hT, hq⟩
end
/-! ### a turn of the loop -/
abbrev rLenQ (K : PySem.W.Frag) : List V → Hp → VK → Prop := fun xs H Q => ∃ p ys, xs = [.ref p] ∧ (SqL K H p ys ∨ SqT K H p ys) ∧ Q (.int ys.length) H
/-- told.append(len(result)); told.extend(result) -/
def t_fin (K : PySem.W.Frag) : TS := tSeq (tDrop (tBM K "list" rAppend (tVar 2) (tCons (tCB (rLenQ K) (tCons (tVar 9) tNil)) tNil))) (tDrop (tBM K "list" rExtend (tVar 2) (tCons (tVar 9) tNil)))
theorem fin_run {K : PySem.W.Frag} {a t p cp : Addr} {sofar r : List Int} {D : Ends} {H : Hp} {v3 v4 v5 v6 v7 v8 : Option V} (hp : H p = some (.lst (vI r))) (ht : H t = some (.lst (vI sofar))) (ntp : p ≠ t) (hb : (sofar ++ (r.length : Int) :: r).length ≤ 10000000)
    (k : ∀ H' : Hp, (∀ b o, H b = some o → b ≠ t → H' b = some o) → H' t = some (.lst (vI (sofar ++ (r.length : Int) :: r))) → D.nx [some (.ref cp), some (.ref a), some (.ref t), v3, v4, v5, v6, v7, v8, some (.ref p)] H') :
    t_fin K D [some (.ref cp), some (.ref a), some (.ref t), v3, v4, v5, v6, v7, v8, some (.ref p)] H := by
  have hb2 : sofar.length + (r.length + 1) ≤ 10000000 := by
    rw [List.length_append, List.length_cons] at hb
    exact hb
  have hs : (10000000 : Nat) ≤ sizeLine := by decide
  have hq : upd H t (.lst (vI sofar ++ [V.int ((vI r).length : Int)])) p = some (.lst (vI r)) := (upd_ne ntp).trans hp
  refine ⟨_, rfl, .inl ⟨rfl, _, SqL.of ht⟩, _, rfl, p, _, rfl, .inl (SqL.of hp), t, _, _, rfl, rfl, ht, ?_, ?_⟩
  · rw [vI_len]
    omega
  refine ⟨_, rfl, .inl ⟨rfl, _, SqL.of upd_same⟩, _, rfl, t, p, _, _, rfl, rfl, upd_same, hq, ?_, ?_⟩
  · rw [List.length_append, vI_len, vI_len]
    show sofar.length + 1 + r.length ≤ sizeLine
    omega
  refine k _ (fun b o e hbt => ?_) ?_
  · rw [upd_ne hbt, upd_ne hbt]
    exact e
  · have e : vI sofar ++ [V.int ((vI r).length : Int)] ++ vI r = vI (sofar ++ (r.length : Int) :: r) := by
      rw [vI_len]
      unfold vI
      rw [List.map_append, List.append_assoc]
      rfl
    rw [e]
    exact upd_same
end Br

/-! The walk: a turn of the loop, its call told. -/
namespace Br
open PySem PySem.Spec PyProof.Rows L2
open LamX (ExtN Tabs TabB)
theorem drop_step {l : List Int} {i : Nat} {A B : List Int} (h : l.drop i = A ++ B) : l.drop (i + A.length) = B := by
  have z := congrArg (List.drop A.length) h
  rw [List.drop_drop, List.drop_left] at z
  exact z
theorem drop_head {l : List Int} {i : Nat} {x : Int} {B : List Int} (h : l.drop i = x :: B) : l[i]? = some x := by
  have z := congrArg (fun y : List Int => y[0]?) h
  rw [List.getElem?_drop] at z
  exact z
theorem vI_get {l : List Int} {i : Nat} {x : Int} (h : l[i]? = some x) : (vI l)[i]? = some (V.int x) := by
  rw [List.getElem?_map, h]
  rfl
theorem cut_vN {l : List Int} {i : Nat} {A : List Nat} {B : List Int} (hi : i ≤ l.length) (h : l.drop i = cast A ++ B) : cutV (vI l) (some ((i : Nat) : Int)) (some ((i + A.length : Nat) : Int)) = vN A := by
  have hl : (l.drop i).length = A.length + B.length := by
    rw [h, List.length_append, cast_len]
  rw [List.length_drop] at hl
  unfold cutV
  rw [HT.sIx_nat, HT.sIx_nat, vI_len, Nat.min_eq_left hi, Nat.min_eq_left (by omega), Nat.add_sub_cancel_left]
  show ((l.map V.int).drop i).take A.length = (cast A).map V.int
  rw [← List.map_drop, ← List.map_take, h]
  have e : A.length = (cast A).length := (cast_len A).symm
  rw [e, List.take_left]
/-- the calls, read from an object that nothing changes -/
def CallsAt (K : PySem.W.Frag) (cp : Addr) (xs : List V) (t : Addr) (H : Hp) : Prop := (∀ H', SqL K H' cp xs) ∨ (cp ≠ t ∧ Rd H cp (.lst xs))
theorem CallsAt.seq {K : PySem.W.Frag} {cp t : Addr} {xs : List V} {H : Hp} (h : CallsAt K cp xs t H) : SqL K H cp xs := by
  rcases h with h | ⟨_, h⟩
  · exact h H
  · exact .inl h
theorem CallsAt.keep {K : PySem.W.Frag} {cp t a C dx : Addr} {fs : List (Str × V)} {xs : List V} {H H' : Hp} (h : CallsAt K cp xs t H) (ha : H a = some (.ins C dx fs)) (k : ∀ b o, H b = some o → (∀ ps, o ≠ .tbl ps) → b ≠ a → b ≠ t → H' b = some o) : CallsAt K cp xs t H' := by
  rcases h with h | ⟨n, h | ⟨o, h⟩⟩
  · exact .inl h
  · exact .inr ⟨n, .inl (k _ _ h (fun _ z => by cases z) (ne_of h ha (by intro z; cases z)) n)⟩
  · exact .inr ⟨n, .inr ⟨o, k _ _ h (fun _ z => by cases z) (ne_of h ha (by intro z; cases z)) n⟩⟩
theorem CallsAt.new {K : PySem.W.Frag} {cp t : Addr} {xs : List V} {H H' : Hp} (h : SqL K H cp xs) (s : Same H H') (ht : H t = none) : CallsAt K cp xs t H' := by
  rcases h with (h | ⟨o, h⟩) | h
  · exact .inr ⟨ne_of_none h ht, .inl (s _ _ h)⟩
  · exact .inr ⟨ne_of_none h ht, .inr ⟨o, s _ _ h⟩⟩
  · exact .inl fun _ => .inr h
theorem tabs_keepL {T : List (Addr × Str)} {H H' : Hp} {t : Addr} {xs : List V} (ht : H t = some (.lst xs)) (k : ∀ b o, H b = some o → b ≠ t → H' b = some o) (h : Tabs T H) : Tabs T H' := fun p hp => by
  obtain ⟨ps, h1, h2, h3⟩ := h p hp
  refine ⟨ps, k _ _ h1 ?_, h2, fun pos cv hc => ?_⟩
  · intro z
    rw [z, ht] at h1
    cases h1
  · obtain ⟨c, e1, e2⟩ := h3 pos cv hc
    refine ⟨c, e1, k _ _ e2 ?_⟩
    intro z
    rw [z, ht] at e2
    exact HO.noConfusion (Option.some.inj e2)
/-- where the loop stands -/
structure Stand (K : PySem.W.Frag) (C Pt cp t : Addr) (l : List Int) (a dx aw ab : Addr) (m : W) (sofar : List Int) (H : Hp) : Prop where
  wood : WoodIn C H a dx aw ab m
  tabs : Tabs (tabs Pt) H
  told : H t = some (.lst (vI sofar))
  naw : aw ≠ t
  nab : ab ≠ t
  calls : CallsAt K cp (vI l) t H
theorem Stand.same {K : PySem.W.Frag} {C Pt cp t : Addr} {l : List Int} {a dx aw ab : Addr} {m : W} {sofar : List Int} {H H' : Hp} (S : Stand K C Pt cp t l a dx aw ab m sofar H) (s : Same H H') : Stand K C Pt cp t l a dx aw ab m sofar H' :=
  ⟨S.wood.same s, S.tabs.ext s, s _ _ S.told, S.naw, S.nab, S.calls.keep S.wood.1 fun b o e _ _ _ => s _ _ e⟩
/-- told, once more is told -/
theorem Stand.more {K : PySem.W.Frag} {C Pt cp t : Addr} {l : List Int} {a dx aw ab : Addr} {m : W} {sofar next : List Int} {H H' : Hp} (S : Stand K C Pt cp t l a dx aw ab m sofar H) (k : ∀ b o, H b = some o → b ≠ t → H' b = some o) (ht : H' t = some (.lst (vI next))) :
    Stand K C Pt cp t l a dx aw ab m next H' :=
  ⟨⟨k _ _ S.wood.1 (ne_of S.wood.1 S.told (by intro z; cases z)), k _ _ S.wood.2.1 S.naw, k _ _ S.wood.2.2 S.nab⟩, tabs_keepL S.told k S.tabs, ht, S.naw, S.nab, S.calls.keep S.wood.1 fun b o e _ _ h => k _ _ e h⟩
/-- the call is answered -/
def t_two (K : PySem.W.Frag) (C Pt : Addr) : TS :=
  tIfS (tTest (tOp rNe (tVar 4) (tC (.int 0)))) (tAsg (tCall (spResultOf C Pt) [] E0 (tCons (tVar 1) (tCons (tVar 4) (tCons (tVar 6) (tCons (tVar 7) tNil))))) (gName 9))
    (tIfS (tB (tCall spIsWood [] E0 (tCons (tOp (rIxL K) (tVar 6) (tC (.int 0))) (tCons (tOp (rIxL K) (tVar 6) (tC (.int 1))) (tCons (tOp (rIxL K) (tVar 6) (tC (.int 2))) tNil)))))
      (tSeq (tAsg (tMake C (spInit C) [] E0 (tCons (tOp (rIxL K) (tVar 6) (tC (.int 0))) (tCons (tOp (rIxL K) (tVar 6) (tC (.int 1))) (tCons (tOp (rIxL K) (tVar 6) (tC (.int 2))) tNil)))) (gName 1))
        (tAsg (tLst (tCons (tFld K (tVar 1) "cells") tNil)) (gName 9)))
      (tAsg (tLst (tCons (tUn (rU fun i => .int (-i)) (tC (.int 1))) tNil)) (gName 9)))
theorem two_run {K : PySem.W.Frag} {mg : Str → Option Value} {C Pt cp t a dx aw ab b r : Addr} {l sofar : List Int} {m : W} {wd : Uw34.Wood} {call : Nat} {nums rows : List Nat} {D : Ends} {H : Hp} {v3 v5 v8 v9 : Option V} (T : Txt K mg C) (S : Stand K C Pt cp t l a dx aw ab m sofar H) (R : Rel wd m)
    (hb : H b = some (.lst (vN nums))) (hr : H r = some (.lst (vN rows))) (hc : call ≤ 6) (hn : nums.length = size call) (hrl : rows.length ≤ 20) (hs : (sofar ++ ((turn m call nums rows).2.length : Int) :: (turn m call nums rows).2).length ≤ 10000000)
    (k : ∀ (H' : Hp) (a' dx' aw' ab' p : Addr), Stand K C Pt cp t l a' dx' aw' ab' (turn m call nums rows).1 (sofar ++ ((turn m call nums rows).2.length : Int) :: (turn m call nums rows).2) H' →
      D.nx [some (.ref cp), some (.ref a'), some (.ref t), v3, some (iN call), v5, some (.ref b), some (.ref r), v8, some (.ref p)] H') :
    tSeq (t_two K C Pt) (t_fin K) D [some (.ref cp), some (.ref a), some (.ref t), v3, some (iN call), v5, some (.ref b), some (.ref r), v8, v9] H := by
  have nat_ : a ≠ t := ne_of S.wood.1 S.told (by intro z; cases z)
  refine ⟨_, rfl, rfl, _, rfl, ?_⟩
  show if (!decide (iN call = iN 0)) = true then _ else _
  rw [dec_iN]
  by_cases c : call = 0
  · refine ifF (by rw [decide_eq_true c]; rfl) ?_
    have h3 : nums.length = 3 := by
      rw [hn, c]
      rfl
    have at0 : atI (vN nums) ((0 : Nat) : Int) = some (iN (nums.getD 0 0)) := at_nat (vN_get (getD_at (by omega)))
    have at1 : atI (vN nums) ((1 : Nat) : Int) = some (iN (nums.getD 1 0)) := at_nat (vN_get (getD_at (by omega)))
    have at2 : atI (vN nums) ((2 : Nat) : Int) = some (iN (nums.getD 2 0)) := at_nat (vN_get (getD_at (by omega)))
    have e0 : turn m call nums rows = if isWood (nums.getD 0 0) (nums.getD 1 0) (nums.getD 2 0) = true then (W.mk' (nums.getD 0 0) (nums.getD 1 0) (nums.getD 2 0), [((nums.getD 0 0 * nums.getD 1 0 : Nat) : Int)]) else (m, [-1]) := if_neg (not_not_intro c)
    refine ⟨_, rfl, b, _, _, _, rfl, rfl, SqL.of hb, at0, _, rfl, b, _, _, _, rfl, rfl, SqL.of hb, at1, _, rfl, b, _, _, _, rfl, rfl, SqL.of hb, at2, nums.getD 0 0, nums.getD 1 0, nums.getD 2 0, rfl, _, rfl, ?_⟩
    by_cases g : isWood (nums.getD 0 0) (nums.getD 1 0) (nums.getD 2 0) = true
    · refine ifT g ?_
      have e := e0.trans (if_pos g)
      rw [e] at hs k
      have gg := of_decide_eq_true g
      refine ⟨_, rfl, b, _, _, _, rfl, rfl, SqL.of hb, at0, _, rfl, b, _, _, _, rfl, rfl, SqL.of hb, at1, _, rfl, b, _, _, _, rfl, rfl, SqL.of hb, at2, fun x dx2 n1 n2 ne => ?_⟩
      have sm : Same H (upd (upd H dx2 (.own x)) x (.ins C dx2 [])) := fun b o e => by
        rw [upd_ne (ne_of_none e n1), upd_ne (ne_of_none e n2)]
        exact e
      refine ⟨x, dx2, _, _, _, rfl, upd_same, by omega, by omega, fun H' aw' ab' w1 w2 w3 naw nab kp => ⟨rfl, ?_⟩⟩
      have sH : Same H H' := fun b o e => kp _ _ (sm _ _ e) (ne_of_none e n1)
      have off : ∀ z : Addr, (upd (upd H dx2 (.own x)) x (.ins C dx2 [])) z = none → z ≠ t := fun z h y => by
        have q := sm _ _ S.told
        rw [← y, h] at q
        cases q
      have S1 : Stand K C Pt cp t l x dx2 aw' ab' (W.mk' (nums.getD 0 0) (nums.getD 1 0) (nums.getD 2 0)) sofar H' :=
        ⟨⟨w1, w2, w3⟩, S.tabs.ext sH, sH _ _ S.told, off _ naw, off _ nab, S.calls.keep S.wood.1 fun b o e _ _ _ => sH _ _ e⟩
      refine ⟨_, rfl, x, C, dx2, _, _, rfl, w1, T.cl, T.nC, wF_cells, (by show 1 ≤ sizeLine; decide), fun p hp => ?_⟩
      have S2 := S1.same (same_new (o := .lst [iN (nums.getD 0 0 * nums.getD 1 0)]) hp)
      exact fin_run (r := [((nums.getD 0 0 * nums.getD 1 0 : Nat) : Int)]) upd_same S2.told (ne_of_none S1.told hp).symm hs fun H3 k3 h3 => k H3 x dx2 aw' ab' p (S2.more k3 h3)
    · refine ifF (by simpa using g) ?_
      have e := e0.trans (if_neg g)
      rw [e] at hs k
      refine ⟨1, rfl, (by show 1 ≤ sizeLine; decide), fun p hp => ?_⟩
      have S2 := S.same (same_new (o := .lst [V.int (-1)]) hp)
      exact fin_run (r := [-1]) upd_same S2.told (ne_of_none S.told hp).symm hs fun H3 k3 h3 => k H3 a dx aw ab p (S2.more k3 h3)
  · refine ifT (by rw [decide_eq_false c]; rfl) ?_
    have e : turn m call nums rows = resultOf m call nums rows := if_pos c
    rw [e] at hs k
    refine ⟨_, rfl, _, rfl, _, rfl, _, rfl, a, dx, aw, ab, b, r, m, call, nums, rows, rfl, hb, hr, by omega, hc, hn, hrl, S.wood, R.good, S.tabs, fun H' p aw' kn T' hnew haw W' hp => ?_⟩
    have ht : H' t = some (.lst (vI sofar)) := kn _ _ S.told (fun _ z => by cases z) nat_.symm
    have ntp : p ≠ t := fun z => hnew _ _ S.told (fun _ z => by cases z) z.symm
    have nw : aw' ≠ t := by
      rcases haw with z | z
      · rw [z]
        exact S.naw
      · intro y
        rw [y, S.told] at z
        cases z
    have S1 : Stand K C Pt cp t l a dx aw' ab (resultOf m call nums rows).1 sofar H' := ⟨W', T', ht, nw, S.nab, S.calls.keep S.wood.1 fun b o e n h _ => kn _ _ e n h⟩
    exact fin_run (r := (resultOf m call nums rows).2) hp ht ntp hs fun H3 k3 h3 => k H3 a dx aw' ab p (S1.more k3 h3)
end Br

/-! The walk: answers. -/
namespace Br
open PySem PySem.Spec PyProof.Rows L2
open LamX (ExtN Tabs TabB)
def szs : List Nat := [3, 1, 1, 0, 2, 1, 0]
theorem size_at {call : Nat} (h : call ≤ 6) : atI (vN szs) ((call : Nat) : Int) = some (iN (size call)) := at_nat (vN_get (getD_at (by show call < 7; omega)))
def spAnswers (K : PySem.W.Frag) (Pt : Addr) : Sp := fun vs H Q _ => ∃ (cp : Addr) (l total : List Int), vs = [.ref cp] ∧ SqL K H cp (vI l) ∧ Left l Uw34.init [] total ∧ total.length ≤ 10000000 ∧ Tabs (tabs Pt) H ∧
  ∀ (H' : Hp) (p : Addr), H' p = some (.lst (vI total)) → Q (.ref p) H'
theorem scAnswers : FnScope ["calls", "wood", "told", "place", "call", "behind", "numbers", "row", "size", "result"] ["calls"] (defScope sAnswers) := ⟨rfl, rfl, rfl, by decide +kernel, rfl, by decide +kernel, by decide +kernel⟩
section
variable {P : Program} {w : World} {K : PySem.W.Frag} {mg : Str → Option Value} {base : Heap} {C Pt f fR fW fI pS : Addr} {fd fdR fdW fdI : FuncData}
theorem ok_answers (F : Fun K "answers" "answers" sAnswers f fd) (T : Txt K mg C) (gS : mg "SIZES" = some (.ref pS)) (hSz : ∀ H, SqT K H pS (vN szs))
    (M : Mk K C fI) (GI : FnOk P w K mg base CX0 2 fI fdI ["self", "wide", "high", "most"] (spInit C)) (bI : Binds K fdI ["self", "wide", "high", "most"] [])
    (gR : mg "result_of" = some (.ref fR)) (kR : PySem.W.keepIn K (.ref fR) = true) (GR : FnOk P w K mg base CX0 7 fR fdR ["wood", "call", "numbers", "row"] (spResultOf C Pt)) (bR : Binds K fdR ["wood", "call", "numbers", "row"] [])
    (gW : mg "is_wood" = some (.ref fW)) (kW : PySem.W.keepIn K (.ref fW) = true) (GW : FnOk P w K mg base CX0 1 fW fdW ["wide", "high", "most"] spIsWood) (bW : Binds K fdW ["wide", "high", "most"] []) :
    FnOk P w K mg base CX0 8 f fd ["calls"] (spAnswers K Pt) := by
  refine F.ok scAnswers (fun vs H Q E h => ?_) (fun cdv A outer s H vs Q E hr h => ?_)
  · obtain ⟨cp, l, total, rfl, _⟩ := h
    rfl
  · have hr1 : Room 1 _ := hr.mono (by decide)
    have hr3 : Room 3 _ := hr.mono (by decide)
    refine ⟨_, pss_cons (ps_set (i := 1) scAnswers.nd rfl (Or.inl rfl) (pe_make M GI hr3 rfl T.gC bI .nil pass0 (pa_cons pe_int (pa_cons pe_int (pa_cons pe_int pa_nil)))))
      (pss_cons (ps_set (i := 2) scAnswers.nd rfl (Or.inl rfl) (pe_lst pa_nil))
      (pss_cons (ps_set (i := 3) scAnswers.nd rfl (Or.inl rfl) pe_int)
      (pss_cons (ps_while PassesOwn.never (pt_cmpR op_lt (pv 3) (pe_callB call_len_seq (by rfl) T.len PySem.boot_len (pa_cons (pv 0) pa_nil)) (nomark _))
        (pss_cons (ps_set (i := 4) scAnswers.nd rfl (Or.inl rfl) (pe_ix ix_list (pv 0) (pv 3) (fun _ _ => rfl)))
        (pss_cons (ps_set (i := 5) scAnswers.nd rfl (Or.inl rfl) (pe_op op_addN (pe_op op_addN (pv 3) pe_int) (pe_ix ix_tup (pe_glob (v := .ref pS) rfl gS rfl) (pv 4) (fun _ _ => rfl))))
        (pss_cons (ps_set (i := 6) scAnswers.nd rfl (Or.inl rfl) (pe_slice sl_list (pv 0) (po_some (pe_op op_addN (pv 3) pe_int)) (po_some (pv 5))))
        (pss_cons (ps_set (i := 7) scAnswers.nd rfl (Or.inl rfl) (pe_lst pa_nil))
        (pss_cons (ps_if (pt_cmpR op_eq (pv 4) pe_int (nomark _))
          (pss_cons (ps_set (i := 8) scAnswers.nd rfl (Or.inl rfl) (pe_ix ix_list (pv 0) (pv 5) (fun _ _ => rfl)))
          (pss_cons (ps_set (i := 7) scAnswers.nd rfl (Or.inl rfl) (pe_slice sl_list (pv 0) (po_some (pe_op op_addN (pv 5) pe_int)) (po_some (pe_op op_addN (pe_op op_addN (pv 5) pe_int) (pv 8)))))
          (pss_one (ps_aug (i := 5) scAnswers.nd rfl (Or.inl rfl) (pe_op op_addN pe_int (pv 8)) ip_addN)))) pss_nil)
        (pss_cons (ps_set (i := 3) scAnswers.nd rfl (Or.inl rfl) (pv 5))
        (pss_cons (ps_if (pt_cmpR op_ne (pv 4) pe_int (nomark _)) (pss_one (ps_set (i := 9) scAnswers.nd rfl (Or.inl rfl) (pe_call GR hr rfl gR kR bR .nil pass0 (pa_cons (pv 1) (pa_cons (pv 4) (pa_cons (pv 6) (pa_cons (pv 7) pa_nil)))))))
          (pss_one (ps_if (pt_val (pe_call GW hr1 rfl gW kW bW .nil pass0 (pa_cons (pe_ix ix_list (pv 6) pe_int (fun _ _ => rfl)) (pa_cons (pe_ix ix_list (pv 6) pe_int (fun _ _ => rfl)) (pa_cons (pe_ix ix_list (pv 6) pe_int (fun _ _ => rfl)) pa_nil)))))
            (pss_cons (ps_set (i := 1) scAnswers.nd rfl (Or.inl rfl) (pe_make M GI hr3 rfl T.gC bI .nil pass0 (pa_cons (pe_ix ix_list (pv 6) pe_int (fun _ _ => rfl)) (pa_cons (pe_ix ix_list (pv 6) pe_int (fun _ _ => rfl)) (pa_cons (pe_ix ix_list (pv 6) pe_int (fun _ _ => rfl)) pa_nil)))))
              (pss_one (ps_set (i := 9) scAnswers.nd rfl (Or.inl rfl) (pe_lst (pa_cons (pe_fld (pv 1) rfl) pa_nil)))))
            (pss_one (ps_set (i := 9) scAnswers.nd rfl (Or.inl rfl) (pe_lst (pa_cons (pe_un un_neg pe_int) pa_nil)))))))
        (pss_cons (ps_expr (pe_bm PySem.F.plainAttrs_list PySem.F.slot_list_append PySem.F.type_list_append mt_append (pv 2) (pa_cons (pe_callB call_len_seq (by rfl) T.len PySem.boot_len (pa_cons (pv 9) pa_nil)) pa_nil)))
        (pss_one (ps_expr (pe_bm PySem.F.plainAttrs_list PySem.F.slot_list_extend PySem.F.type_list_extend mt_extend (pv 2) (pa_cons (pv 9) pa_nil)))))))))))))
      (pss_one (ps_ret (pv 2)))))), ?_⟩
    obtain ⟨cp, l, total, rfl, hC, L0, hbig, hT, hq⟩ := h
    -- wood = Wood(2, 2, 0)
    intro x dx n1 n2 ne
    refine ⟨x, dx, 2, 2, 0, rfl, upd_same, .inl rfl, .inl rfl, fun H1 aw ab w1 w2 w3 naw nab kp => ⟨rfl, ?_⟩⟩
    have s1 : Same H H1 := Same.made n1 n2 kp
    -- told = []
    refine ⟨Nat.zero_le _, fun t ht => ?_⟩
    have st := same_new (o := .lst []) ht
    have S0 : Stand K C Pt cp t l x dx aw ab (W.mk' 2 2 0) [] (upd H1 t (.lst [])) :=
      ⟨⟨st _ _ w1, st _ _ w2, st _ _ w3⟩, (hT.ext s1).ext st, upd_same, ne_of_none w2 ht, ne_of_none w3 ht, CallsAt.new (s1.seq hC) st ht⟩
    -- the loop
    refine ⟨fun n σ H => ∃ (place : Nat) (a dx aw ab : Addr) (m : W) (wd : Uw34.Wood) (sofar : List Int) (v4 v5 v6 v7 v8 v9 : Option V), place + n = l.length ∧ Left (l.drop place) wd sofar total ∧ Rel wd m ∧ Stand K C Pt cp t l a dx aw ab m sofar H ∧
      σ = [some (.ref cp), some (.ref a), some (.ref t), some (iN place), v4, v5, v6, v7, v8, v9], ⟨l.length, 0, x, dx, aw, ab, _, _, _, none, none, none, none, none, none, Nat.zero_add _, L0, init_rel, S0, rfl⟩, ?_⟩
    rintro n σ H2 ⟨place, a, dx, aw, ab, m, wd, sofar, v4, v5, v6, v7, v8, v9, hpl, L, R, S, rfl⟩
    refine ⟨_, rfl, _, rfl, cp, _, rfl, .inl S.calls.seq, _, _, rfl, rfl, _, rfl, ?_⟩
    rw [vI_len]
    show if decide (((place : Nat) : Int) < ((l.length : Nat) : Int)) = true then _ else _
    by_cases c : place < l.length
    · refine ifT (decide_eq_true (Int.ofNat_lt.mpr c)) ⟨fun σ' H' => ∃ m', m' < n ∧ ∃ (place : Nat) (a dx aw ab : Addr) (m : W) (wd : Uw34.Wood) (sofar : List Int) (v4 v5 v6 v7 v8 v9 : Option V), place + m' = l.length ∧ Left (l.drop place) wd sofar total ∧ Rel wd m ∧ Stand K C Pt cp t l a dx aw ab m sofar H' ∧
        σ' = [some (.ref cp), some (.ref a), some (.ref t), some (iN place), v4, v5, v6, v7, v8, v9], fun σ' H' z => z, ?_⟩
      obtain ⟨call, nums, rows, rest', X, O, hx, L'⟩ := L.turn (by
        intro z
        have := congrArg List.length z
        rw [List.length_drop] at this
        have : l.length - place = 0 := this
        omega)
      obtain ⟨R', ho⟩ := turn_is R O hx
      rw [ho] at L'
      have room := Nat.le_trans L'.room hbig
      have hd := O.eq
      have g0 := drop_head hd
      have hd1 : l.drop (place + 1) = cast nums ++ ((if call = 3 then ((rows.length : Nat) : Int) :: cast rows else []) ++ rest') := drop_step (A := [(call : Int)]) hd
      have hd2 : l.drop (place + 1 + size call) = (if call = 3 then ((rows.length : Nat) : Int) :: cast rows else []) ++ rest' := by
        have z := drop_step hd1
        rw [cast_len, O.len] at z
        exact z
      have hcut : cutV (vI l) (some ((place + 1 : Nat) : Int)) (some ((place + 1 + size call : Nat) : Int)) = vN nums := by
        rw [← O.len]
        exact cut_vN (by omega) hd1
      have hlen2 : place + 1 + size call ≤ l.length := by
        have z := congrArg List.length hd1
        rw [List.length_drop, List.length_append, cast_len, O.len] at z
        omega
      refine ⟨_, rfl, _, rfl, cp, _, _, _, rfl, rfl, S.calls.seq, at_nat (vI_get g0), ?_⟩
      refine ⟨_, rfl, place, 1, rfl, rfl, _, rfl, pS, _, _, _, rfl, rfl, hSz _, size_at O.le, place + 1, size call, rfl, rfl, ?_⟩
      refine ⟨_, rfl, _, rfl, place, 1, rfl, rfl, _, rfl, _, rfl, _, rfl, cp, _, rfl, S.calls.seq, fun b hb => ?_⟩
      rw [hcut]
      refine ⟨Nat.zero_le _, fun r hr => ?_⟩
      have sb := same_new (o := .lst (vN nums)) hb
      have sr := same_new (o := .lst []) hr
      have S2 := (S.same sb).same sr
      have hbn : upd (upd H2 b (.lst (vN nums))) r (.lst []) b = some (.lst (vN nums)) := sr _ _ upd_same
      refine ⟨_, rfl, rfl, _, rfl, ?_⟩
      show if decide (iN call = iN 3) = true then _ else _
      rw [dec_iN]
      by_cases c3 : call = 3
      · refine ifT (decide_eq_true c3) ?_
        rw [if_pos c3] at hd2
        have g1 := drop_head hd2
        have hd3 : l.drop (place + 1 + size call + 1) = cast rows ++ rest' := drop_step (A := [((rows.length : Nat) : Int)]) hd2
        have hd4 : l.drop (place + 1 + size call + 1 + rows.length) = rest' := by
          have z := drop_step hd3
          rw [cast_len] at z
          exact z
        have hlen3 : place + 1 + size call + 1 + rows.length ≤ l.length := by
          have z := congrArg List.length hd2
          rw [List.length_drop, List.length_append, List.length_cons, cast_len] at z
          omega
        have hcut2 : cutV (vI l) (some ((place + 1 + size call + 1 : Nat) : Int)) (some ((place + 1 + size call + 1 + rows.length : Nat) : Int)) = vN rows := cut_vN (by omega) hd3
        refine ⟨_, rfl, _, rfl, cp, _, _, _, rfl, rfl, S2.calls.seq, at_nat (vI_get g1), ?_⟩
        refine ⟨_, rfl, _, rfl, place + 1 + size call, 1, rfl, rfl, _, rfl, _, rfl, place + 1 + size call, 1, rfl, rfl, _, rfl, place + 1 + size call + 1, rows.length, rfl, rfl, _, rfl, cp, _, rfl, S2.calls.seq, fun r2 hr2 => ?_⟩
        rw [hcut2]
        have s3 := same_new (o := .lst (vN rows)) hr2
        refine ⟨_, rfl, _, rfl, 1, rows.length, rfl, rfl, place + 1 + size call, 1 + rows.length, rfl, rfl, ?_⟩
        refine ⟨_, rfl, ?_⟩
        refine two_run (nums := nums) (rows := rows) T (S2.same s3) R (s3 _ _ hbn) upd_same O.le O.len O.few room fun H' a' dx' aw' ab' p S' => ?_
        refine ⟨l.length - (place + 1 + size call + (1 + rows.length)), by omega, place + 1 + size call + (1 + rows.length), a', dx', aw', ab', _, _, _, _, _, _, _, _, _, by omega, ?_, R', S', rfl⟩
        rw [← Nat.add_assoc, hd4]
        exact L'
      · refine ifF (decide_eq_false c3) ?_
        rw [if_neg c3, List.nil_append] at hd2
        have er : rows = [] := O.no c3
        have hrr : upd (upd H2 b (.lst (vN nums))) r (.lst []) r = some (.lst (vN rows)) := by
          rw [er]
          exact upd_same
        refine ⟨_, rfl, ?_⟩
        refine two_run (nums := nums) (rows := rows) T S2 R hbn hrr O.le O.len O.few room fun H' a' dx' aw' ab' p S' => ?_
        refine ⟨l.length - (place + 1 + size call), by omega, place + 1 + size call, a', dx', aw', ab', _, _, _, _, _, _, _, _, _, by omega, ?_, R', S', rfl⟩
        rw [hd2]
        exact L'
    · refine ifF (decide_eq_false fun z => c (Int.ofNat_lt.mp z)) ?_
      have e : l.drop place = [] := List.drop_eq_nil_of_le (by omega)
      rw [e] at L
      refine ⟨_, rfl, hq H2 t ?_⟩
      rw [← L.done]
      exact S.told
end
end Br

/-! What the top has written, handed to the walk. -/
namespace Br
open PySem PySem.Spec PyProof.Rows L2
theorem fun_of {K : PySem.W.Frag} {p : Str × Option Str} {x q : Str} {st : Stmt} (h : ∃ oc od osl kV doc pm an cdv ct, K.lookup (He.fAd K p) = some ⟨oc, od, .func (PySem.W.fnOf x q (defArgs st) (defBody st) (defScope st) .none kV doc pm an cdv ct), osl⟩ ∧ PySem.W.codeIn K cdv q = true) :
    ∃ fd, Fun K x q st (He.fAd K p) fd := by
  obtain ⟨oc, od, osl, kV, doc, pm, an, cdv, ct, l, c⟩ := h
  have k : PySem.W.keepIn K (.ref (He.fAd K p)) = true := by
    unfold PySem.W.keepIn
    dsimp only
    rw [l]
  exact ⟨_, fun_mk l c k⟩
theorem fun_m {K : PySem.W.Frag} (cc : He.SaysE fas fns K) (i : Nat) {x q : Str} {st : Stmt} (h : fns[i]? = some (mD x q st)) : ∃ fd, Fun K x q st (He.fAd K ("Wood", some x)) fd := fun_of (p := ("Wood", some x)) (cc.def_ i (d := mD x q st) h)
theorem fun_g {K : PySem.W.Frag} (cc : He.SaysE fas fns K) (i : Nat) {x : Str} {st : Stmt} (h : fns[i]? = some (gD x st)) : ∃ fd, Fun K x x st (He.fAd K (x, none)) fd := fun_of (p := (x, none)) (cc.def_ i (d := gD x st) h)
theorem code_is {K : PySem.W.Frag} {c P : Addr} {oc : Value} {od : Option Addr} {osl : Array (Option Value)} {fd : FuncData} (h : codeTab K = some (c, P)) (l : K.lookup (He.fAd K ("Wood", some "in_order")) = some ⟨oc, od, .func fd, osl⟩) : fd.code = .ref c := by
  unfold codeTab at h
  rw [l] at h
  dsimp only at h
  split at h
  · rename_i c' hc
    split at h
    · split at h
      · cases h
        exact hc
      · cases h
    · cases h
  · cases h
theorem sizes_is (K : PySem.W.Frag) : sizes.map (He.Dv.v K) = vN szs := rfl
theorem facts {P : Program} {w : World} {K : PySem.W.Frag} {h : Heap} {mg : Str → Option Value} {fa c Pt : Addr} (X : K.In h) (G : h.Ns mainGlobals mg) (hfa : mg "answers" = some (.ref fa)) (cc : He.SaysE fas fns K) (ct : He.tupB K "SIZES" sizes = true) (T : TabAt K h c Pt) :
    ∃ fd : FuncData, (∀ (s : Shared) (us : List Value), us.length = 1 → BindsTo s fd ⟨us, []⟩ ((["calls"] : List Str).zip us)) ∧ ∀ base : Heap, K.In base → base.Ns mainGlobals mg → LamX.TabB base mg c Pt → FnOk P w K mg base CX0 8 fa fd ["calls"] (spAnswers K Pt) := by
  obtain ⟨fd0, F0⟩ := fun_m cc 0 (x := "__init__") (q := "Wood.__init__") (st := sInit) rfl
  obtain ⟨fd1, F1⟩ := fun_m cc 1 (x := "join") (q := "Wood.join") (st := sJoin) rfl
  obtain ⟨fd2, F2⟩ := fun_m cc 2 (x := "is_set") (q := "Wood.is_set") (st := sIsSet) rfl
  obtain ⟨fd3, F3⟩ := fun_m cc 3 (x := "may_be_dug") (q := "Wood.may_be_dug") (st := sMay) rfl
  obtain ⟨fd4, F4⟩ := fun_m cc 4 (x := "near") (q := "Wood.near") (st := sNear) rfl
  obtain ⟨fd5, F5⟩ := fun_m cc 5 (x := "behind") (q := "Wood.behind") (st := sBehind) rfl
  obtain ⟨fd6, F6⟩ := fun_m cc 6 (x := "comes") (q := "Wood.comes") (st := sComes) rfl
  obtain ⟨fd7, F7⟩ := fun_m cc 7 (x := "too_many") (q := "Wood.too_many") (st := sTooMany) rfl
  obtain ⟨fd8, F8⟩ := fun_m cc 8 (x := "in_time") (q := "Wood.in_time") (st := sInTime) rfl
  obtain ⟨oc9, od9, osl9, kV9, doc9, pm9, an9, cdv9, ct9, l9, c9⟩ := cc.def_ 9 (d := mD "in_order" "Wood.in_order" sInOrder) rfl
  obtain rfl : cdv9 = .ref c := code_is T.code l9
  obtain ⟨fd10, F10⟩ := fun_m cc 10 (x := "loses") (q := "Wood.loses") (st := sLoses) rfl
  obtain ⟨fd11, F11⟩ := fun_m cc 11 (x := "best") (q := "Wood.best") (st := sBest) rfl
  obtain ⟨fd12, F12⟩ := fun_g cc 12 (x := "members") (st := sMembers) rfl
  obtain ⟨fd13, F13⟩ := fun_g cc 13 (x := "is_wood") (st := sIsWood) rfl
  obtain ⟨fd14, F14⟩ := fun_g cc 14 (x := "set_cell") (st := sSetCell) rfl
  obtain ⟨fd15, F15⟩ := fun_g cc 15 (x := "set_worths") (st := sSetWorths) rfl
  obtain ⟨fd16, F16⟩ := fun_g cc 16 (x := "after") (st := sAfter) rfl
  obtain ⟨fd17, F17⟩ := fun_g cc 17 (x := "check") (st := sCheck) rfl
  obtain ⟨fd18, F18⟩ := fun_g cc 18 (x := "tell_best") (st := sTellBest) rfl
  obtain ⟨fd19, F19⟩ := fun_g cc 19 (x := "result_of") (st := sResultOf) rfl
  obtain ⟨fd20, F20⟩ := fun_g cc 20 (x := "answers") (st := sAnswers) rfl
  have b0 := F0.binds (ps := ["self", "wide", "high", "most"]) fun _ _ _ _ _ _ us hl => match us, hl with | [_, _, _, _], _ => rfl
  have b1 := F1.binds (ps := ["self", "one", "other"]) fun _ _ _ _ _ _ us hl => match us, hl with | [_, _, _], _ => rfl
  have b2 := F2.binds (ps := ["self", "cells"]) fun _ _ _ _ _ _ us hl => match us, hl with | [_, _], _ => rfl
  have b3 := F3.binds (ps := ["self", "cells"]) fun _ _ _ _ _ _ us hl => match us, hl with | [_, _], _ => rfl
  have b4 := F4.binds (ps := ["self", "burning"]) fun _ _ _ _ _ _ us hl => match us, hl with | [_, _], _ => rfl
  have b5 := F5.binds (ps := ["self", "dug", "minutes"]) fun _ _ _ _ _ _ us hl => match us, hl with | [_, _, _], _ => rfl
  have b6 := F6.binds (ps := ["self", "dug"]) fun _ _ _ _ _ _ us hl => match us, hl with | [_, _], _ => rfl
  have b7 := F7.binds (ps := ["self", "dug"]) fun _ _ _ _ _ _ us hl => match us, hl with | [_, _], _ => rfl
  have b8 := F8.binds (ps := ["self", "dug"]) fun _ _ _ _ _ _ us hl => match us, hl with | [_, _], _ => rfl
  have b9 : Binds K (PySem.W.fnOf "in_order" "Wood.in_order" (defArgs sInOrder) (defBody sInOrder) (defScope sInOrder) .none kV9 doc9 pm9 an9 (.ref c) ct9) ["self", "dug"] [] := .all fun us hl => match us, hl with | [_, _], _ => rfl
  have b10 := F10.binds (ps := ["self", "dug"]) fun _ _ _ _ _ _ us hl => match us, hl with | [_, _], _ => rfl
  have b11 := F11.binds (ps := ["self"]) fun _ _ _ _ _ _ us hl => match us, hl with | [_], _ => rfl
  have b12 := F12.binds (ps := ["cells"]) fun _ _ _ _ _ _ us hl => match us, hl with | [_], _ => rfl
  have b13 := F13.binds (ps := ["wide", "high", "most"]) fun _ _ _ _ _ _ us hl => match us, hl with | [_, _, _], _ => rfl
  have b14 := F14.binds (ps := ["wood", "call", "cell"]) fun _ _ _ _ _ _ us hl => match us, hl with | [_, _, _], _ => rfl
  have b15 := F15.binds (ps := ["wood", "worths"]) fun _ _ _ _ _ _ us hl => match us, hl with | [_, _], _ => rfl
  have b16 := F16.binds (ps := ["wood", "cells", "minutes"]) fun _ _ _ _ _ _ us hl => match us, hl with | [_, _, _], _ => rfl
  have b17 := F17.binds (ps := ["wood", "cells"]) fun _ _ _ _ _ _ us hl => match us, hl with | [_, _], _ => rfl
  have b18 := F18.binds (ps := ["wood"]) fun _ _ _ _ _ _ us hl => match us, hl with | [_], _ => rfl
  have b19 := F19.binds (ps := ["wood", "call", "numbers", "row"]) fun _ _ _ _ _ _ us hl => match us, hl with | [_, _, _, _], _ => rfl
  have b20 := F20.binds (ps := ["calls"]) fun _ _ _ _ _ _ us hl => match us, hl with | [_], _ => rfl
  have TX : Txt K mg (He.ga K "Wood") := ⟨He.cls_ok (cc.fact 0), He.glo_ok X G (cc.fact 2), He.noat_ok (cc.fact 3), He.noat_ok (cc.fact 4), He.noat_ok (cc.fact 5), He.noat_ok (cc.fact 6), He.noat_ok (cc.fact 7), He.noat_ok (cc.fact 8),
    He.free_ok X G (cc.fact 44), He.free_ok X G (cc.fact 45), He.free_ok X G (cc.fact 46), He.free_ok X G (cc.fact 47), He.free_ok X G (cc.fact 48), He.free_ok X G (cc.fact 49), He.free_ok X G (cc.fact 50)⟩
  have M : Mk K (He.ga K "Wood") (He.fAd K ("Wood", some "__init__")) := He.mkr_ok (cc.fact 1)
  have mJ : Meth K (He.ga K "Wood") "join" (He.fAd K ("Wood", some "join")) := He.meth_ok (cc.fact 9)
  have mS : Meth K (He.ga K "Wood") "is_set" (He.fAd K ("Wood", some "is_set")) := He.meth_ok (cc.fact 10)
  have mY : Meth K (He.ga K "Wood") "may_be_dug" (He.fAd K ("Wood", some "may_be_dug")) := He.meth_ok (cc.fact 11)
  have mN : Meth K (He.ga K "Wood") "near" (He.fAd K ("Wood", some "near")) := He.meth_ok (cc.fact 12)
  have mB : Meth K (He.ga K "Wood") "behind" (He.fAd K ("Wood", some "behind")) := He.meth_ok (cc.fact 13)
  have mC : Meth K (He.ga K "Wood") "comes" (He.fAd K ("Wood", some "comes")) := He.meth_ok (cc.fact 14)
  have mT : Meth K (He.ga K "Wood") "too_many" (He.fAd K ("Wood", some "too_many")) := He.meth_ok (cc.fact 15)
  have mI : Meth K (He.ga K "Wood") "in_time" (He.fAd K ("Wood", some "in_time")) := He.meth_ok (cc.fact 16)
  have mO : Meth K (He.ga K "Wood") "in_order" (He.fAd K ("Wood", some "in_order")) := He.meth_ok (cc.fact 17)
  have mL : Meth K (He.ga K "Wood") "loses" (He.fAd K ("Wood", some "loses")) := He.meth_ok (cc.fact 18)
  have mE : Meth K (He.ga K "Wood") "best" (He.fAd K ("Wood", some "best")) := He.meth_ok (cc.fact 19)
  have gM : mg "members" = some (.ref (He.fAd K ("members", none))) := He.glo_ok X G (cc.fact 20)
  have kM : PySem.W.keepIn K (.ref (He.fAd K ("members", none))) = true := He.keep_ok (cc.fact 21)
  obtain ⟨t39, i39⟩ := He.int_ok X G (cc.fact 39)
  obtain ⟨t40, i40⟩ := He.int_ok X G (cc.fact 40)
  obtain ⟨t41, i41⟩ := He.int_ok X G (cc.fact 41)
  obtain ⟨t42, i42⟩ := He.int_ok X G (cc.fact 42)
  obtain ⟨t43, i43⟩ := He.int_ok X G (cc.fact 43)
  have e := hfa.symm.trans (He.glo_ok X G (cc.fact 36))
  cases e
  refine ⟨fd20, fun s us hu => ?_, fun base hK hG TB => ?_⟩
  · obtain ⟨oc, od, kV, doc, pm, an, cdv, ct', osl, rfl, lk, hcd⟩ := F20.ex
    exact match us, hu with | [_], _ => .of_eq rfl
  have GM := ok_members (P := P) (w := w) (mg := mg) (base := base) F12 TX
  have GS := ok_isSet (P := P) (w := w) (mg := mg) (base := base) F2 TX
  have GY := ok_may (P := P) (w := w) (mg := mg) (base := base) F3 TX
  have GN := ok_near (P := P) (w := w) (mg := mg) (base := base) F4 TX
  have GB := ok_behind (P := P) (w := w) (mg := mg) (base := base) F5 TX mN GN b4
  have GC := ok_comes (P := P) (w := w) (mg := mg) (base := base) F6 TX mN GN b4
  have GT := ok_tooMany (P := P) (w := w) (mg := mg) (base := base) F7 TX mC GC b6 gM kM GM b12
  have GI := ok_inTime (P := P) (w := w) (mg := mg) (base := base) F8 TX mT GT b7
  have GL := ok_loses (P := P) (w := w) (mg := mg) (base := base) F10 TX mB GB b5 gM kM GM b12
  have GO := ok_inOrder (P := P) (w := w) (mg := mg) (base := base) l9 c9 TX TB mC GC b6 gM kM GM b12
  have GE := ok_best (P := P) (w := w) (mg := mg) (base := base) F11 TX mY GY b3 mI GI b8 mL GL b10 gM kM GM b12
  have GJ := ok_join (P := P) (w := w) (mg := mg) (base := base) F1 TX
  have G0 := ok_init (P := P) (w := w) (mg := mg) (base := base) F0 TX mJ GJ b1
  have H13 := ok_isWood (P := P) (w := w) (mg := mg) (base := base) F13 i39 i40 i41
  have H14 := ok_setCell (P := P) (w := w) (mg := mg) (base := base) (Pt := Pt) F14 TX gM kM GM b12
  have H15 := ok_setWorths (P := P) (w := w) (mg := mg) (base := base) (Pt := Pt) F15 TX i42
  have H16 := ok_after (P := P) (w := w) (mg := mg) (base := base) (Pt := Pt) F16 TX i43 mS GS b2 mY GY b3 mB GB b5 gM kM GM b12
  have H17 := ok_check (P := P) (w := w) (mg := mg) (base := base) (Pt := Pt) F17 TX mS GS b2 mY GY b3 mB GB b5 mT GT b7 mL GL b10 mO GO b9 gM kM GM b12
  have H18 := ok_tellBest (P := P) (w := w) (mg := mg) (base := base) (Pt := Pt) F18 TX mE GE b11 mO GO b9 gM kM GM b12
  have H19 := ok_resultOf (P := P) (w := w) (mg := mg) (base := base) (Pt := Pt) F19 (He.glo_ok X G (cc.fact 24)) (He.keep_ok (cc.fact 25)) H14 b14 (He.glo_ok X G (cc.fact 26)) (He.keep_ok (cc.fact 27)) H15 b15
    (He.glo_ok X G (cc.fact 28)) (He.keep_ok (cc.fact 29)) H16 b16 (He.glo_ok X G (cc.fact 30)) (He.keep_ok (cc.fact 31)) H17 b17 (He.glo_ok X G (cc.fact 32)) (He.keep_ok (cc.fact 33)) H18 b18
  exact ok_answers F20 TX (He.glo_ok X G (cc.fact 38)) (fun H => by rw [← sizes_is K]; exact He.tupB_ok ct H) M G0 b0 (He.glo_ok X G (cc.fact 34)) (He.keep_ok (cc.fact 35)) H19 b19 (He.glo_ok X G (cc.fact 22)) (He.keep_ok (cc.fact 23)) H13 b13
end Br

namespace Br
open PySem PySem.Spec PyProof.Rows L2
open PySem.W (WData Codec OpenSpec)
theorem within_line {a : Codec.denoteAll RR.args} (h : Codec.withinAll RR.args a = true) : ∀ x ∈ a.1, 0 ≤ x ∧ x ≤ 4294967295 := by
  have q : ((Codec.inLen 0 30000 a.1 && a.1.all (Codec.inInt 0 4294967295)) && true) = true := h
  rw [Bool.and_eq_true, Bool.and_eq_true] at q
  intro x hx
  exact Codec.inInt_iff.mp (List.all_eq_true.mp q.1.2 x hx)
theorem walk : PySem.W.WalkOS qv loose (PySem.W.XL qv []) hookB.says RR (HeadRun.topDef RR.prog 17) [] (fun f vs => PySem.call f vs) := by
  intro w s₀ s₁ mg mb G Y fa o pm cd doc dV kV ho hd hcd hD hmg hg args vals as hpre hlay hrd hwl hlo
  obtain ⟨a, e1, e2⟩ := PySem.W.os_pre_some hpre
  obtain ⟨e3, hwi⟩ := Codec.encAll_of_decAll RR.args args a e1
  subst e3
  obtain ⟨K, KX, cc, ct, c, Pt, T⟩ := Y
  have hmg' : mg "answers" = some (.ref fa) := by
    have e : (HeadRun.topDef RR.prog 17).name = ("answers" : Str) := by kernel_rfl
    rw [← e]
    exact hmg
  obtain ⟨fd, hb, hF⟩ := facts (P := RR.prog) (w := w) KX G.T.g hmg' cc ct T
  have hask : PyUw34.answers_asked a.1 = true := e2
  obtain ⟨L0, hbig⟩ := left_start hask (within_line hwi)
  have hsp : ∀ (H : Hp) (b : Addr), H Pt = some (.tbl #[]) → SqL K H b (a.1.map V.int) → spAnswers K Pt [.ref b] H (fun v H' => Dw K H' v (RR.ret.enc (Codec.app RR.args RR.f a))) fun _ _ _ => False := fun H b hP hS =>
    ⟨b, a.1, PyUw34.answers a.1, rfl, hS, L0, hbig, fun p hp => by
      rw [List.mem_singleton.mp hp]
      exact LamX.TabS.nil hP, fun H' p hp => .lst (SqL.of hp) (dw_ints _)⟩
  refine PySem.W.enter_call (codeAny_mono (call_tab (R := []) (cl := PySem.classAt s₀.heap) (ns := a.1) (x := "calls") (k := 8) (CX := CX0) (d0 := RR.ret.enc (Codec.app RR.args RR.f a)) KX G.T.g G.T.b G.T.builtins G.T.nolimit hg T G.T.bmain hwl (pl_encAll RR.args a) (layable_weight hlay) ⟨rfl, by decide, by decide⟩ hF hb hsp
    (fun _ _ _ z => z)) fun r' s' hq => ?_)
  obtain ⟨u, as', rfl, h1, h2, h3, h4⟩ := hq
  exact ⟨.inl ⟨u, _, as', rfl, fun _ => rfl, h1, (OpenSpec.post_iff (by decide +kernel) hwi _ _).mpr rfl, fun z => Bool.noConfusion (show false = true from z)⟩, h2, h3, h4⟩
end Br
open PySem PySem.W PyProof.Rows
theorem PySem.Challenge.cw_breakrows_s01_answers_holds : PySem.Challenge.rw_breakrows_s01_answers.Holds := by
  w_on
  refine HeadRun.head_spec (r := Br.RR) (q := Br.qv) (H := Br.hookB) (ob := Br.ob) (M := 2500) (loose := Br.loose) (d := HeadRun.topDef Br.RR.prog 17) (kwd := []) Br.ob_eq
    (by kernel_rfl) (fun s => by kernel_rfl) Br.run (by kernel_rfl) (by kernel_rfl) (by kernel_rfl) os_shapes (by decide +kernel) (by decide +kernel) ⟨rfl, rfl, rfl, rfl, rfl, by decide +kernel⟩ ?hw Br.walk
  case hw => exact ⟨[.list [.int 6]], by decide +kernel, by decide +kernel⟩
