import PyProof.Rows.All
import Wide.All
import OpenK.AllK
import Wide.FinOn
import PyProof.EqAt
import PyProof.EqKinds
import PyProof.TupleCall
import PyProof.SumAny
import Open.SpecLaws
import KE.OsGo
import KE.DataMinMax
import KE.KAssignIn
import HandS.ForSpec
import HandS.Comp
import HandS.Dict
import HandS.Iter
import HandS.Walk
import HandS.Zip
import HandS.Evl
import HandS.Sort
import HandS.SortRule
import HandS.SortKw
import HandS.WideBits
import HandS.NoneIn
import HandS.WordsDict
import HandS.TupAny
import PySem.Challenge.RW_dutyrules_s01_answers
set_option Elab.async false
set_option linter.all false
set_option maxRecDepth 100000
set_option maxHeartbeats 4000000
/-! Plain mathematics about the specification's functions: no program in sight. -/
namespace Dm
open Sw82

/-! ### the least of a list -/
abbrev minF : Option Nat → Nat → Option Nat := fun x n => match x with
  | none => some n
  | some m => some (min m n)
theorem minF_some : ∀ (l : List Nat) (k m : Nat), (m = k ∨ m ∈ l) → m ≤ k → (∀ y ∈ l, m ≤ y) → l.foldl minF (some k) = some m
  | [], k, m, h, _, _ => by
    rcases h with h | h
    · subst h; rfl
    · cases h
  | x :: l, k, m, h, hk, hl => by
    show l.foldl minF (some (min k x)) = some m
    have hx : m ≤ x := hl x (List.mem_cons_self)
    refine minF_some l (min k x) m ?_ (by omega) fun y hy => hl y (List.mem_cons_of_mem _ hy)
    rcases h with h | h
    · left; omega
    · rcases List.mem_cons.mp h with h | h
      · left; omega
      · right; exact h
theorem minF_none : ∀ (l : List Nat) (m : Nat), m ∈ l → (∀ y ∈ l, m ≤ y) → l.foldl minF none = some m
  | [], _, h, _ => by cases h
  | x :: l, m, h, hl => by
    show l.foldl minF (some x) = some m
    refine minF_some l x m ?_ (hl x List.mem_cons_self) fun y hy => hl y (List.mem_cons_of_mem _ hy)
    rcases List.mem_cons.mp h with h | h
    · exact .inl h
    · exact .inr h

/-! ### ways -/
/-- the minutes of the ways from a to b -/
def fits (p : Plan) (a b : Nat) : List Nat := (p.ways.filter fun w => decide (w.1 = a) && decide (w.2.1 = b)).map fun w => w.2.2
theorem fits_is (a b : Nat) : ∀ l : List (Nat × Nat × Nat), (l.filterMap fun w => if w.1 = a ∧ w.2.1 = b then some w.2.2 else none) = (l.filter fun w => decide (w.1 = a) && decide (w.2.1 = b)).map fun w => w.2.2
  | [] => rfl
  | x :: l => by
    have ih := fits_is a b l
    by_cases h : x.1 = a ∧ x.2.1 = b
    · rw [List.filterMap_cons, if_pos h, List.filter_cons, if_pos (by simp [h.1, h.2]), List.map_cons, ih]
    · rw [List.filterMap_cons, if_neg h, List.filter_cons, if_neg (by simpa using h), ih]
theorem way_self (p : Plan) (a : Nat) : p.way a a = some 0 := by unfold Plan.way; rw [if_pos rfl]
theorem way_none {p : Plan} {a b : Nat} (h : a ≠ b) (e : fits p a b = []) : p.way a b = none := by
  unfold Plan.way
  rw [if_neg h, fits_is]
  have e' : ((p.ways.filter fun w => decide (w.1 = a) && decide (w.2.1 = b)).map fun w => w.2.2) = [] := e
  rw [e']
  rfl
theorem way_some {p : Plan} {a b m : Nat} (h : a ≠ b) (hm : m ∈ fits p a b) (hl : ∀ y ∈ fits p a b, m ≤ y) : p.way a b = some m := by
  unfold Plan.way
  rw [if_neg h, fits_is]
  exact minF_none _ m hm hl

/-! ### gaps, breaks -/
theorem gap_none {p : Plan} {x y : Work} (h : p.way x.to y.from_ = none) : p.gap x y = none := by unfold Plan.gap; rw [h]; rfl
theorem gap_late {p : Plan} {x y : Work} {n : Nat} (h : p.way x.to y.from_ = some n) (c : ¬ x.halt_ + n + p.rules.change ≤ y.start) : p.gap x y = none := by
  unfold Plan.gap; rw [h]; show (if _ then _ else _) = _; rw [if_neg c]
theorem gap_some {p : Plan} {x y : Work} {n : Nat} (h : p.way x.to y.from_ = some n) (c : x.halt_ + n + p.rules.change ≤ y.start) : p.gap x y = some (y.start - x.halt_ - n) := by
  unfold Plan.gap; rw [h]; show (if _ then _ else _) = _; rw [if_pos c]
theorem gap_le {p : Plan} {x y : Work} (h : (p.gap x y).isSome = true) : x.halt_ ≤ y.start := by
  cases e : p.way x.to y.from_ with
  | none => rw [gap_none e] at h; cases h
  | some n =>
    by_cases c : x.halt_ + n + p.rules.change ≤ y.start
    · omega
    · rw [gap_late e c] at h; cases h
theorem breaks_none {p : Plan} {x y : Work} (h : p.gap x y = none) : p.breaks_ x y = false := by unfold Plan.breaks_; rw [h]; simp
theorem breaks_short {p : Plan} {x y : Work} {n : Nat} (h : p.gap x y = some n) (c : n < p.rules.rest) : p.breaks_ x y = false := by
  unfold Plan.breaks_; rw [h]; simp; intro _; omega
theorem breaks_long {p : Plan} {x y : Work} {n : Nat} (h : p.gap x y = some n) (c : ¬ n < p.rules.rest) : p.breaks_ x y = (p.breaks.contains x.to || p.breaks.contains y.from_) := by
  unfold Plan.breaks_; rw [h]; show (_ && decide _) = _
  rw [decide_eq_true (by omega : p.rules.rest ≤ n), Bool.and_true]

/-! ### the home -/
def homeStep (p : Plan) (a b : Nat) (x : Option (Nat × Nat × Nat)) (h : Nat) : Option (Nat × Nat × Nat) := match p.way h a, p.way b h with
  | some m, some n => (match x with
    | none => some (h, m, n)
    | some y => if m + n < y.2.1 + y.2.2 then some (h, m, n) else some y)
  | _, _ => x
theorem home_fold (p : Plan) (a b : Nat) : p.home a b = p.homes.foldl (homeStep p a b) none := rfl

/-! ### how much is driven together -/
def mx : List Nat → Nat
  | [] => 0
  | x :: l => max x (mx l)
theorem mx_snoc : ∀ (l : List Nat) (x : Nat), mx (l ++ [x]) = max (mx l) x
  | [], x => by show max x 0 = max 0 x; omega
  | y :: l, x => by show max y (mx (l ++ [x])) = max (max y (mx l)) x; rw [mx_snoc l x]; omega
theorem mx_ge : ∀ {l : List Nat} {x : Nat}, x ∈ l → x ≤ mx l
  | y :: l, x, h => by
    show x ≤ max y (mx l)
    rcases List.mem_cons.mp h with h | h
    · omega
    · have := mx_ge h; omega
theorem mx_le : ∀ {l : List Nat} {m : Nat}, (∀ y ∈ l, y ≤ m) → mx l ≤ m
  | [], m, _ => Nat.zero_le m
  | y :: l, m, h => by
    show max y (mx l) ≤ m
    have h1 := h y List.mem_cons_self
    have h2 := mx_le (l := l) (m := m) fun z hz => h z (List.mem_cons_of_mem _ hz)
    omega
theorem mx_is {l : List Nat} {m : Nat} (h : m ∈ l) (hl : ∀ y ∈ l, y ≤ m) : mx l = m := Nat.le_antisymm (mx_le hl) (mx_ge h)
def len (x : Work) : Nat := x.halt_ - x.start
theorem drive_two (p : Plan) (n : Nat) (x y : Work) (l : List Work) : p.driveFrom n (x :: y :: l) = max (n + len x) (p.driveFrom (if p.breaks_ x y = true then 0 else n + len x) (y :: l)) := by
  rw [Plan.driveFrom]
  rfl
theorem drive_one (p : Plan) (n : Nat) (x : Work) : p.driveFrom n [x] = n + len x := by
  rw [Plan.driveFrom]
  rfl
theorem drive_ge (p : Plan) (n : Nat) (x : Work) (l : List Work) : n + len x ≤ p.driveFrom n (x :: l) := by
  cases l with
  | nil => rw [drive_one]; exact Nat.le_refl _
  | cons y l => rw [drive_two]; exact Nat.le_max_left _ _
/-- one turn of the loop over neighbours: the rows told, n ahead of the piece x -/
theorem drive_turn (p : Plan) (dn : List Nat) (n : Nat) (x y : Work) (l : List Work) {z : Nat} (h : z = max (mx dn) (p.driveFrom n (x :: y :: l))) :
    if p.breaks_ x y = true then z = max (mx (dn ++ [n + len x])) (p.driveFrom 0 (y :: l)) else z = max (mx dn) (p.driveFrom (n + len x) (y :: l)) := by
  rw [drive_two] at h
  by_cases c : p.breaks_ x y = true
  · rw [if_pos c] at h ⊢
    rw [mx_snoc]; omega
  · rw [if_neg c] at h ⊢
    have := drive_ge p (n + len x) y l
    omega

/-! ### totals -/
theorem total_acc : ∀ (l : List Nat) (a : Nat), l.foldl (fun a b => a + b) a = a + l.sum
  | [], a => by simp
  | x :: l, a => by
    rw [List.foldl_cons, total_acc l (a + x), List.sum_cons]; omega
theorem total_sum (l : List Nat) : total l = l.sum := by unfold total; rw [total_acc, Nat.zero_add]
theorem worked_sum (l : List Work) : Plan.worked l = (l.map len).sum := total_sum _
theorem sum_int : ∀ l : List Nat, ((l.map fun n : Nat => (n : Int)).sum) = ((l.sum : Nat) : Int)
  | [] => rfl
  | x :: l => by rw [List.map_cons, List.sum_cons, List.sum_cons, sum_int l]; omega

/-! ### linked duties -/
theorem linked_cons (p : Plan) (x y : Work) (l : List Work) : p.linked (x :: y :: l) = ((p.gap x y).isSome && p.linked (y :: l)) := by rw [Plan.linked]
theorem linked_one (p : Plan) (x : Work) : p.linked [x] = true := by rw [Plan.linked]; intro a b c h; cases h
theorem linked_nil (p : Plan) : p.linked [] = true := by rw [Plan.linked]; intro a b c h; cases h
def okW (w : Work) : Prop := w.start < w.halt_
theorem linked_le (p : Plan) : ∀ (l : List Work) (x y : Work), (∀ w ∈ l, okW w) → p.linked l = true → l.head? = some x → l.getLast? = some y → x.start ≤ y.halt_
  | [], _, _, _, _, h, _ => by cases h
  | [a], x, y, hw, _, h1, h2 => by
    have e1 : a = x := Option.some.inj h1
    have e2 : a = y := by simpa using h2
    have := hw a List.mem_cons_self
    unfold okW at this
    subst e1; subst e2; omega
  | a :: b :: l, x, y, hw, hl, h1, h2 => by
    have e1 : a = x := Option.some.inj h1
    subst e1
    rw [linked_cons, Bool.and_eq_true] at hl
    have h3 := gap_le hl.1
    have h4 := linked_le p (b :: l) b y (fun w hw' => hw w (List.mem_cons_of_mem _ hw')) hl.2 rfl (by rw [List.getLast?_cons_cons] at h2; exact h2)
    have := hw a List.mem_cons_self
    unfold okW at this
    omega
theorem linked_gaps (p : Plan) : ∀ l : List Work, p.linked l = (l.zip l.tail).all fun q => (p.gap q.1 q.2).isSome
  | [] => linked_nil p
  | [x] => linked_one p x
  | x :: y :: l => by
    rw [linked_cons, linked_gaps p (y :: l)]
    rfl

/-! ### the pay -/
theorem pay_is {p : Plan} {l : List Work} {d : Duty} (h : p.duty l = some d) (hm : 0 ≤ d.halt_ - d.start) :
    ((p.pay l : Nat) : Int) = (let m := d.halt_ - d.start
      let q := m + (if m - (p.rules.twice : Int) > 0 then m - p.rules.twice else 0)
      if q > (p.rules.least : Int) then q else p.rules.least) := by
  unfold Plan.pay
  rw [h]
  show ((max p.rules.least ((d.halt_ - d.start).toNat + ((d.halt_ - d.start).toNat - p.rules.twice)) : Nat) : Int) = _
  generalize d.halt_ - d.start = m at hm
  obtain ⟨k, rfl⟩ := Int.eq_ofNat_of_zero_le hm
  show _ = (if ((k : Int) + (if (k : Int) - (p.rules.twice : Int) > 0 then (k : Int) - p.rules.twice else 0)) > (p.rules.least : Int) then ((k : Int) + (if (k : Int) - (p.rules.twice : Int) > 0 then (k : Int) - p.rules.twice else 0)) else (p.rules.least : Int))
  simp only [Int.toNat_natCast]
  split <;> split <;> omega
end Dm

namespace Dm
open Sw82

/-! ### pieces in order -/
def before (p : Plan) (i j : Nat) : Prop := (p.work i).start < (p.work j).start ∨ ((p.work i).start = (p.work j).start ∧ i < j)
instance (p : Plan) (i j : Nat) : Decidable (before p i j) := by unfold before; exact inferInstance
theorem before_trans {p : Plan} {i j k : Nat} (h1 : before p i j) (h2 : before p j k) : before p i k := by
  unfold before at *; omega
theorem before_tri {p : Plan} {i j : Nat} (h : ¬ before p i j) (n : i ≠ j) : before p j i := by
  unfold before at *; omega
theorem before_asym {p : Plan} {i j : Nat} (h : before p i j) : ¬ before p j i := by
  unfold before at *; omega
theorem putIn_cons (p : Plan) (i j : Nat) (l : List Nat) : putIn p i (j :: l) = if before p i j then i :: j :: l else j :: putIn p i l := rfl
theorem putIn_perm (p : Plan) (i : Nat) : ∀ l : List Nat, (putIn p i l).Perm (i :: l)
  | [] => List.Perm.refl _
  | j :: l => by
    rw [putIn_cons]
    by_cases h : before p i j
    · rw [if_pos h]
    · rw [if_neg h]
      exact ((putIn_perm p i l).cons j).trans (List.Perm.swap i j l)
theorem putIn_sorted (p : Plan) (i : Nat) : ∀ l : List Nat, i ∉ l → l.Pairwise (before p) → (putIn p i l).Pairwise (before p)
  | [], _, _ => List.pairwise_singleton _ _
  | j :: l, hi, hl => by
    rw [putIn_cons]
    have h1 := List.pairwise_cons.mp hl
    by_cases h : before p i j
    · rw [if_pos h]
      refine List.pairwise_cons.mpr ⟨fun k hk => ?_, hl⟩
      rcases List.mem_cons.mp hk with e | hk
      · rw [e]; exact h
      · exact before_trans h (h1.1 k hk)
    · rw [if_neg h]
      refine List.pairwise_cons.mpr ⟨fun k hk => ?_, putIn_sorted p i l (fun q => hi (List.mem_cons_of_mem _ q)) h1.2⟩
      rcases List.mem_cons.mp ((putIn_perm p i l).mem_iff.mp hk) with e | hk
      · rw [e]; exact before_tri h fun e => hi (by rw [e]; exact List.mem_cons_self)
      · exact h1.1 k hk
theorem fold_perm (p : Plan) : ∀ (l m : List Nat), (l.foldl (fun m i => putIn p i m) m).Perm (m ++ l)
  | [], m => by rw [List.append_nil]; exact List.Perm.refl _
  | i :: l, m => by
    rw [List.foldl_cons]
    refine (fold_perm p l (putIn p i m)).trans ?_
    refine ((putIn_perm p i m).append_right l).trans ?_
    exact (List.perm_middle (a := i) (l₁ := m) (l₂ := l)).symm
theorem inOrder_perm (p : Plan) (l : List Nat) : (p.inOrder l).Perm l := by
  have h := fold_perm p l []
  rw [List.nil_append] at h
  exact h
theorem fold_sorted (p : Plan) : ∀ (l m : List Nat), (m ++ l).Nodup → m.Pairwise (before p) → (l.foldl (fun m i => putIn p i m) m).Pairwise (before p)
  | [], m, _, h => h
  | i :: l, m, hn, h => by
    rw [List.foldl_cons]
    have hi : i ∉ m := fun q => (List.nodup_append.mp hn).2.2 i q i List.mem_cons_self rfl
    refine fold_sorted p l _ ?_ (putIn_sorted p i m hi h)
    have e : (putIn p i m ++ l).Perm (m ++ i :: l) := ((putIn_perm p i m).append_right l).trans (List.perm_middle (a := i) (l₁ := m) (l₂ := l)).symm
    exact e.nodup_iff.mpr hn
theorem inOrder_sorted (p : Plan) {l : List Nat} (h : l.Nodup) : (p.inOrder l).Pairwise (before p) := fold_sorted p l [] h List.Pairwise.nil
theorem sorted_one (p : Plan) : ∀ {l m : List Nat}, l.Perm m → l.Pairwise (before p) → m.Pairwise (before p) → l = m
  | [], m, h, _, _ => (List.Perm.eq_nil h.symm).symm
  | x :: l, [], h, _, _ => absurd h.length_eq (by simp)
  | x :: l, y :: m, h, hl, hm => by
    have e : x = y := by
      by_cases q : x = y
      · exact q
      · have a : before p x y := by
          rcases List.mem_cons.mp (h.mem_iff.mpr (List.mem_cons_self (a := y) (l := m))) with e | hy
          · exact absurd e.symm q
          · exact (List.pairwise_cons.mp hl).1 y hy
        have b : before p y x := by
          rcases List.mem_cons.mp (h.mem_iff.mp (List.mem_cons_self (a := x) (l := l))) with e | hx
          · exact absurd e q
          · exact (List.pairwise_cons.mp hm).1 x hx
        exact absurd b (before_asym a)
    subst e
    rw [sorted_one p h.cons_inv (List.pairwise_cons.mp hl).2 (List.pairwise_cons.mp hm).2]
theorem inOrder_uniq {p : Plan} {zs ns : List Nat} (h : zs.Perm ns) (hn : ns.Nodup) (hs : zs.Pairwise fun i j => ¬ before p j i) : zs = p.inOrder ns := by
  refine sorted_one p (h.trans (inOrder_perm p ns).symm) ?_ (inOrder_sorted p hn)
  have hz : zs.Nodup := h.nodup_iff.mpr hn
  refine List.Pairwise.imp₂ (R := fun i j => ¬ before p j i) (S := fun i j => i ≠ j) (fun a b h1 h2 => before_tri h1 (Ne.symm h2)) hs hz
theorem inOrder_mem {p : Plan} {l : List Nat} {i : Nat} : i ∈ p.inOrder l ↔ i ∈ l := (inOrder_perm p l).mem_iff
theorem inOrder_length (p : Plan) (l : List Nat) : (p.inOrder l).length = l.length := (inOrder_perm p l).length_eq
theorem inOrder_ne {p : Plan} {l : List Nat} (h : l ≠ []) : p.inOrder l ≠ [] := fun e => h (List.length_eq_zero_iff.mp (by rw [← inOrder_length p l, e]; rfl))

/-! ### sets of pieces -/
theorem bit_small {s n k : Nat} (h : s < 2 ^ n) (hk : n ≤ k) : s.testBit k = false := Nat.testBit_lt_two_pow (Nat.lt_of_lt_of_le h (Nat.pow_le_pow_right (by omega) hk))
theorem members_add {s n : Nat} (h : s < 2 ^ n) : ∀ d : Nat, members (n + d) s = members n s
  | 0 => rfl
  | d + 1 => by
    have ih := members_add h d
    unfold members at *
    rw [show n + (d + 1) = (n + d) + 1 from rfl, List.range_succ, List.filter_append, ih, List.filter_cons, if_neg (by rw [bit_small h (by omega)]; decide)]
    simp
theorem members_eq {s n m : Nat} (h : s < 2 ^ n) (g : s < 2 ^ m) : members n s = members m s := by
  rcases Nat.le_total n m with q | q
  · obtain ⟨d, rfl⟩ := Nat.exists_eq_add_of_le q
    exact (members_add h d).symm
  · obtain ⟨d, rfl⟩ := Nat.exists_eq_add_of_le q
    exact members_add g d
theorem members_mem {n s i : Nat} : i ∈ members n s ↔ i < n ∧ s.testBit i = true := by
  unfold members; rw [List.mem_filter, List.mem_range]
theorem members_rise (n s : Nat) : (members n s).Pairwise (· < ·) := List.Pairwise.filter _ List.pairwise_lt_range
theorem rise_nodup {l : List Nat} (h : l.Pairwise (· < ·)) : l.Nodup := h.imp fun h => Nat.ne_of_lt h
theorem members_length (n s : Nat) : (members n s).length ≤ n := by
  have := List.length_filter_le (fun i => s.testBit i) (List.range n)
  rw [List.length_range] at this
  exact this
theorem members_ne {n s : Nat} (h : s < 2 ^ n) (h0 : s ≠ 0) : members n s ≠ [] := fun e => h0 (by
  refine Nat.eq_of_testBit_eq fun i => ?_
  rw [Nat.zero_testBit]
  cases hb : s.testBit i with
  | false => rfl
  | true =>
    have hi : i < n := by
      rcases Nat.lt_or_ge i n with q | q
      · exact q
      · rw [bit_small h q] at hb; cases hb
    have : i ∈ members n s := members_mem.mpr ⟨hi, hb⟩
    rw [e] at this
    cases this)
end Dm

namespace Dm
open Sw82

/-! ### the table of the cheapest duties: the specification's, by sets -/
def payOf (p : Plan) (g : Nat) : Option Nat := if g = 0 then none else if p.wrong (p.works_ g) = 0 then some (p.pay (p.works_ g)) else none
def paysA (p : Plan) : Array (Option Nat) := ((List.range (2 ^ p.works.length)).map fun g => if g = 0 then none else let l := p.works_ g
    if p.wrong l = 0 then some (p.pay l) else none).toArray
theorem paysA_get (p : Plan) {g : Nat} (h : g < 2 ^ p.works.length) : (paysA p).getD g none = payOf p g := by
  unfold paysA payOf
  simp [Array.getD, h]
def hadA (p : Plan) (k : Nat) : Array (Option Best) := (List.range k).foldl (fun (had : Array (Option Best)) m => had.push (p.cell (paysA p) had m)) #[]
theorem hadA_succ (p : Plan) (k : Nat) : hadA p (k + 1) = (hadA p k).push (p.cell (paysA p) (hadA p k) k) := by
  unfold hadA
  rw [List.range_succ, List.foldl_append]
  rfl
theorem hadA_size (p : Plan) : ∀ k, (hadA p k).size = k
  | 0 => rfl
  | k + 1 => by rw [hadA_succ, Array.size_push, hadA_size p k]
/-- of a set the best -/
def B (p : Plan) (m : Nat) : Option Best := p.cell (paysA p) (hadA p m) m
theorem hadA_get (p : Plan) : ∀ (k m : Nat), m < k → (hadA p k).getD m none = B p m
  | 0, m, h => absurd h (Nat.not_lt_zero m)
  | k + 1, m, h => by
    rw [hadA_succ]
    rw [Array.getD_eq_getD_getElem?, Array.getElem?_push, hadA_size]
    by_cases e : m = k
    · subst e
      rw [if_pos rfl]
      rfl
    · rw [if_neg e, ← Array.getD_eq_getD_getElem?]
      exact hadA_get p k m (by omega)
theorem best_is (p : Plan) : p.best = B p (2 ^ p.works.length - 1) := by
  have h := hadA_get p (2 ^ p.works.length) (2 ^ p.works.length - 1) (by have := Nat.two_pow_pos p.works.length; omega)
  exact h
end Dm

namespace Dm
open Sw82

/-! ### bits -/
/-- the lowest bit of a number -/
def low (m : Nat) : Nat := m - (m &&& (m - 1))
theorem low_table : ∀ m, m < 128 → m ≠ 0 → low m = 2 ^ ((members 7 m).headD 0) := by decide +kernel
theorem low_is {n m : Nat} (hn : n ≤ 7) (h : m < 2 ^ n) (h0 : m ≠ 0) : low m = 2 ^ ((members n m).headD 0) := by
  have h7 : m < 2 ^ 7 := Nat.lt_of_lt_of_le h (Nat.pow_le_pow_right (by omega) hn)
  rw [members_eq h h7]
  exact low_table m h7 h0
theorem and_low (g i : Nat) : decide (g &&& 2 ^ i > 0) = g.testBit i := by
  have e : g &&& 2 ^ i = if g.testBit i = true then 2 ^ i else 0 := by
    refine Nat.eq_of_testBit_eq fun j => ?_
    rw [Nat.testBit_and, Nat.testBit_two_pow]
    by_cases c : i = j
    · subst c
      cases h : g.testBit i with
      | false => simp
      | true => simp [Nat.testBit_two_pow]
    · rw [decide_eq_false c, Bool.and_false]
      split
      · rw [Nat.testBit_two_pow, decide_eq_false c]
      · rw [Nat.zero_testBit]
  rw [e]
  cases g.testBit i with
  | false => rfl
  | true => exact decide_eq_true (Nat.two_pow_pos i)
theorem inside_and {n g m : Nat} (h : g < 2 ^ n) : inside n g m = decide (g &&& m = g) := by
  rw [Bool.eq_iff_iff, decide_eq_true_iff]
  unfold inside
  rw [List.all_eq_true]
  constructor
  · intro q
    refine Nat.eq_of_testBit_eq fun i => ?_
    rw [Nat.testBit_and]
    rcases Nat.lt_or_ge i n with hi | hi
    · have := q i (List.mem_range.mpr hi)
      cases hg : g.testBit i with
      | false => rfl
      | true => rw [hg] at this; simpa using this
    · rw [bit_small h hi]; rfl
  · intro q i _
    cases hg : g.testBit i with
    | false => rfl
    | true =>
      have : (g &&& m).testBit i = true := by rw [q]; exact hg
      rw [Nat.testBit_and, hg, Bool.true_and] at this
      rw [this]; rfl
/-- whether a set g holds the lowest piece of m, and of m alone -/
def cond (g m : Nat) : Bool := decide (g &&& low m > 0) && decide (g &&& m = g)
theorem cond_is {n g m : Nat} (hn : n ≤ 7) (hm : m < 2 ^ n) (h0 : m ≠ 0) (hg : g < 2 ^ n) : (g.testBit ((members n m).headD 0) && inside n g m) = cond g m := by
  unfold cond
  rw [low_is hn hm h0, and_low, inside_and hg]
theorem cond_le {g m : Nat} (h : cond g m = true) : g ≤ m := by
  unfold cond at h
  rw [Bool.and_eq_true, decide_eq_true_iff, decide_eq_true_iff] at h
  have := Nat.and_le_right (n := g) (m := m)
  omega
theorem cond_pos {g m : Nat} (h : cond g m = true) : g ≠ 0 := by
  rintro rfl
  unfold cond at h
  rw [Bool.and_eq_true, decide_eq_true_iff] at h
  have h1 := h.1
  rw [Nat.zero_and] at h1
  omega

/-! ### the choices for a set -/
def cand (p : Plan) (m g : Nat) : Option Best := if cond g m = true then (payOf p g).bind fun c => (B p (m - g)).map fun b => (⟨c + b.cost, b.many, g :: b.duties⟩ : Best) else none
theorem cheaper_none (a : Option Best) : cheaper a none = a := by cases a <;> rfl
theorem none_cheaper (a : Option Best) : cheaper none a = a := by cases a <;> rfl
theorem fold_none : ∀ (l : List (Option Best)) (a : Option Best), (∀ o ∈ l, o = none) → l.foldl cheaper a = a
  | [], _, _ => rfl
  | o :: l, a, h => by
    rw [List.foldl_cons, h o List.mem_cons_self, cheaper_none]
    exact fold_none l a fun q hq => h q (List.mem_cons_of_mem _ hq)
theorem B_zero (p : Plan) : B p 0 = some ⟨0, 1, []⟩ := by unfold B Plan.cell; rw [if_pos rfl]
theorem B_cell {p : Plan} {m : Nat} (hn : p.works.length ≤ 7) (hm : m < 2 ^ p.works.length) (h0 : m ≠ 0) : B p m = ((List.range (2 ^ p.works.length)).map (cand p m)).foldl cheaper none := by
  have e : B p m = ((List.range (m + 1)).map (cand p m)).foldl cheaper none := by
    unfold B Plan.cell
    rw [if_neg h0]
    show List.foldl _ _ _ = _
    congr 1
    refine List.map_congr_left fun g hg => ?_
    have hg' : g < 2 ^ p.works.length := Nat.lt_of_le_of_lt (Nat.le_of_lt_succ (List.mem_range.mp hg)) hm
    show (if (g.testBit ((members p.works.length m).headD 0) && inside p.works.length g m) = false then none else _) = _
    unfold cand
    rw [cond_is hn hm h0 hg']
    cases hc : cond g m with
    | false => rw [if_pos rfl, if_neg Bool.false_ne_true]
    | true =>
      rw [if_neg (by decide), if_pos rfl, paysA_get p hg', hadA_get p m (m - g) (Nat.sub_lt (Nat.pos_of_ne_zero h0) (Nat.pos_of_ne_zero (cond_pos hc)))]
  obtain ⟨d, hd⟩ := Nat.exists_eq_add_of_le (show m + 1 ≤ 2 ^ p.works.length from hm)
  rw [e, hd, List.range_add (n := m + 1) (m := d), List.map_append, List.foldl_append]
  refine (fold_none _ _ fun o ho => ?_).symm
  obtain ⟨g, hg, rfl⟩ := List.mem_map.mp ho
  obtain ⟨i, _, rfl⟩ := List.mem_map.mp hg
  unfold cand
  rw [if_neg fun q => by have := cond_le q; omega]

/-! ### the program's tables -/
/-- the sets of the right duties, rising -/
def rights (p : Plan) : List Nat := (List.range (2 ^ p.works.length)).filter fun s => (payOf p s).isSome
def firsts (p : Plan) (m : Nat) : List Nat := (rights p).filter fun s => cond s m
/-- with a duty s for some of m, the rest by the table T -/
def payWith (p : Plan) (T : List (Option Nat × Nat)) (s m : Nat) : Option Nat := (T.getD (m - s) (none, 0)).1.map fun r => r + p.pay (p.works_ s)
def lookStep (p : Plan) (T : List (Option Nat × Nat)) (m : Nat) (a : Option Nat × Nat) (s : Nat) : Option Nat × Nat := match payWith p T s m with
  | none => a
  | some c =>
    let a1 := match a.1 with
      | none => (some c, 0)
      | some b => if c < b then (some c, 0) else a
    if some c = a1.1 then (a1.1, a1.2 + (T.getD (m - s) (none, 0)).2) else a1
def look (p : Plan) (T : List (Option Nat × Nat)) (m : Nat) : Option Nat × Nat := (firsts p m).foldl (lookStep p T m) (none, 0)
def tab (p : Plan) : Nat → List (Option Nat × Nat)
  | 0 => [(some 0, 1)]
  | k + 1 => tab p k ++ [look p (tab p k) (k + 1)]
def ofB : Option Best → Option Nat × Nat
  | none => (none, 0)
  | some b => (some b.cost, b.many)
theorem tab_len (p : Plan) : ∀ k, (tab p k).length = k + 1
  | 0 => rfl
  | k + 1 => by show (tab p k ++ [_]).length = _; rw [List.length_append, tab_len p k]; rfl
/-- T holds the least pays for all sets below m -/
def Holds (p : Plan) (T : List (Option Nat × Nat)) (m : Nat) : Prop := ∀ j, j < m → T.getD j (none, 0) = ofB (B p j)
theorem pay_cand {p : Plan} {T : List (Option Nat × Nat)} {m s : Nat} (hT : Holds p T m) (hs : cond s m = true) (hr : (payOf p s).isSome = true) :
    (match cand p m s with
      | none => payWith p T s m = none
      | some b => payWith p T s m = some b.cost ∧ (T.getD (m - s) (none, 0)).2 = b.many) := by
  have h1 := cond_pos hs
  have h2 := cond_le hs
  have e := hT (m - s) (by omega)
  unfold cand payWith
  rw [if_pos hs, e]
  have h3 : payOf p s = some (p.pay (p.works_ s)) := by
    unfold payOf at hr ⊢
    rw [if_neg h1] at hr ⊢
    by_cases c : p.wrong (p.works_ s) = 0
    · rw [if_pos c]
    · rw [if_neg c] at hr; cases hr
  rw [h3]
  cases hb : B p (m - s) with
  | none => rfl
  | some b => exact ⟨congrArg some (Nat.add_comm _ _), rfl⟩
theorem look_fold {p : Plan} {T : List (Option Nat × Nat)} {m : Nat} (hT : Holds p T m) : ∀ (l : List Nat) (a : Option Best),
    ((l.filter fun s => (payOf p s).isSome).filter fun s => cond s m).foldl (lookStep p T m) (ofB a) = ofB ((l.map (cand p m)).foldl cheaper a)
  | [], _ => rfl
  | s :: l, a => by
    rw [List.map_cons, List.foldl_cons]
    by_cases h1 : (payOf p s).isSome = true
    · rw [List.filter_cons, if_pos h1]
      by_cases h2 : cond s m = true
      · rw [List.filter_cons, if_pos h2, List.foldl_cons]
        have q := pay_cand hT h2 h1
        have e : lookStep p T m (ofB a) s = ofB (cheaper a (cand p m s)) := by
          cases hc : cand p m s with
          | none =>
            rw [hc] at q
            rw [cheaper_none]
            unfold lookStep
            rw [q]
          | some b =>
            rw [hc] at q
            unfold lookStep
            rw [q.1, q.2]
            cases a with
            | none =>
              show (if some b.cost = some b.cost then ((some b.cost : Option Nat), 0 + b.many) else _) = _
              rw [if_pos rfl, none_cheaper, Nat.zero_add]
              rfl
            | some x =>
              show (let a1 := (if b.cost < x.cost then ((some b.cost : Option Nat), 0) else (some x.cost, x.many)); if some b.cost = a1.1 then (a1.1, a1.2 + b.many) else a1) = ofB (if b.cost < x.cost then some b else if x.cost < b.cost then some x else some ⟨x.cost, x.many + b.many, x.duties⟩)
              by_cases c1 : b.cost < x.cost
              · rw [if_pos c1, if_pos c1]
                show (if some b.cost = some b.cost then ((some b.cost : Option Nat), 0 + b.many) else _) = _
                rw [if_pos rfl, Nat.zero_add]
                rfl
              · rw [if_neg c1, if_neg c1]
                by_cases c2 : x.cost < b.cost
                · rw [if_pos c2]
                  show (if some b.cost = some x.cost then _ else ((some x.cost : Option Nat), x.many)) = _
                  rw [if_neg (fun z => by have := Option.some.inj z; omega)]
                  rfl
                · rw [if_neg c2]
                  have e : b.cost = x.cost := by omega
                  show (if some b.cost = some x.cost then ((some x.cost : Option Nat), x.many + b.many) else _) = _
                  rw [e, if_pos rfl]
                  rfl
        rw [e]
        exact look_fold hT l _
      · rw [List.filter_cons, if_neg h2]
        have e : cand p m s = none := by unfold cand; rw [if_neg h2]
        rw [e, cheaper_none]
        exact look_fold hT l a
    · rw [List.filter_cons, if_neg h1]
      have e : cand p m s = none := by
        unfold cand
        split
        · cases h3 : payOf p s with
          | none => rfl
          | some c => rw [h3] at h1; exact absurd rfl h1
        · rfl
      rw [e, cheaper_none]
      exact look_fold hT l a
theorem look_is {p : Plan} {T : List (Option Nat × Nat)} {m : Nat} (hn : p.works.length ≤ 7) (hm : m < 2 ^ p.works.length) (h0 : m ≠ 0) (hT : Holds p T m) : look p T m = ofB (B p m) := by
  rw [B_cell hn hm h0]
  exact look_fold hT _ none
theorem tab_holds {p : Plan} (hn : p.works.length ≤ 7) : ∀ k, k < 2 ^ p.works.length → Holds p (tab p k) (k + 1)
  | 0, _, j, hj => by
    have e : j = 0 := by omega
    subst e
    rw [B_zero]
    rfl
  | k + 1, hk, j, hj => by
    have ih := tab_holds hn k (by omega)
    show (tab p k ++ [look p (tab p k) (k + 1)]).getD j (none, 0) = _
    rw [List.getD_eq_getElem?_getD]
    by_cases e : j = k + 1
    · subst e
      rw [List.getElem?_append_right (by rw [tab_len]; exact Nat.le_refl _), tab_len, Nat.sub_self]
      show look p (tab p k) (k + 1) = _
      exact look_is hn hk (by omega) ih
    · rw [List.getElem?_append_left (by rw [tab_len]; omega), ← List.getD_eq_getElem?_getD]
      exact ih j (by omega)
end Dm

namespace Dm
open Sw82

/-! ### the earliest of the cheapest -/
def costs (c : Nat) : Option Best → Bool
  | none => false
  | some b => decide (b.cost = c)
theorem fold_le : ∀ (l : List (Option Best)) (x b : Best), l.foldl cheaper (some x) = some b → b.cost ≤ x.cost
  | [], x, b, h => by
    have e : x = b := Option.some.inj h
    rw [e]; exact Nat.le_refl _
  | none :: l, x, b, h => fold_le l x b h
  | some y :: l, x, b, h => by
    rw [List.foldl_cons] at h
    have e : cheaper (some x) (some y) = if y.cost < x.cost then some y else if x.cost < y.cost then some x else some ⟨x.cost, x.many + y.many, x.duties⟩ := rfl
    rw [e] at h
    by_cases c1 : y.cost < x.cost
    · rw [if_pos c1] at h
      have := fold_le l y b h
      omega
    · rw [if_neg c1] at h
      by_cases c2 : x.cost < y.cost
      · rw [if_pos c2] at h
        exact fold_le l x b h
      · rw [if_neg c2] at h
        exact fold_le l ⟨x.cost, x.many + y.many, x.duties⟩ b h
theorem fold_first : ∀ (l : List (Option Best)) (a : Option Best) (b : Best), l.foldl cheaper a = some b → ∃ x, (a :: l).find? (costs b.cost) = some (some x) ∧ x.duties = b.duties
  | [], a, b, h => by
    have e : a = some b := h
    subst e
    refine ⟨b, ?_, rfl⟩
    show (match decide (b.cost = b.cost) with | true => _ | false => _) = _
    rw [decide_eq_true rfl]
  | c :: l, none, b, h => by
    rw [List.foldl_cons, none_cheaper] at h
    exact fold_first l c b h
  | none :: l, some x, b, h => by
    rw [List.foldl_cons, cheaper_none] at h
    obtain ⟨z, h1, h2⟩ := fold_first l (some x) b h
    refine ⟨z, ?_, h2⟩
    rw [List.find?_cons] at h1 ⊢
    exact h1
  | some y :: l, some x, b, h => by
    rw [List.foldl_cons] at h
    have e : cheaper (some x) (some y) = if y.cost < x.cost then some y else if x.cost < y.cost then some x else some ⟨x.cost, x.many + y.many, x.duties⟩ := rfl
    rw [e] at h
    by_cases c1 : y.cost < x.cost
    · rw [if_pos c1] at h
      have q := fold_le l y b h
      obtain ⟨z, h1, h2⟩ := fold_first l (some y) b h
      refine ⟨z, ?_, h2⟩
      have n : costs b.cost (some x) = false := decide_eq_false (by omega)
      rw [List.find?_cons, n]
      exact h1
    · rw [if_neg c1] at h
      by_cases c2 : x.cost < y.cost
      · rw [if_pos c2] at h
        have q := fold_le l x b h
        obtain ⟨z, h1, h2⟩ := fold_first l (some x) b h
        refine ⟨z, ?_, h2⟩
        have n : costs b.cost (some y) = false := decide_eq_false (by omega)
        rw [List.find?_cons] at h1 ⊢
        rw [List.find?_cons, n]
        exact h1
      · rw [if_neg c2] at h
        have ec : y.cost = x.cost := by omega
        obtain ⟨z, h1, h2⟩ := fold_first l (some ⟨x.cost, x.many + y.many, x.duties⟩) b h
        rw [List.find?_cons] at h1
        rw [List.find?_cons, List.find?_cons]
        have e1 : costs b.cost (some ⟨x.cost, x.many + y.many, x.duties⟩) = costs b.cost (some x) := rfl
        have e2 : costs b.cost (some y) = costs b.cost (some x) := by show decide _ = decide _; rw [ec]
        rw [e1] at h1
        rw [e2]
        cases hc : costs b.cost (some x) with
        | true =>
          rw [hc] at h1
          have e3 : (⟨x.cost, x.many + y.many, x.duties⟩ : Best) = z := Option.some.inj (Option.some.inj h1)
          refine ⟨x, rfl, ?_⟩
          rw [← h2, ← e3]
        | false =>
          rw [hc] at h1
          exact ⟨z, h1, h2⟩
/-- the first set of the earliest way for m -/
def pick (p : Plan) (T : List (Option Nat × Nat)) (m : Nat) : List Nat := (firsts p m).filter fun s => decide (payWith p T s m = (T.getD m (none, 0)).1)
theorem find_filter {α : Type} (f g : α → Bool) : ∀ l : List α, (l.filter f).find? g = l.find? fun x => f x && g x
  | [] => rfl
  | x :: l => by
    rw [List.filter_cons]
    cases hf : f x with
    | true =>
      rw [if_pos rfl, List.find?_cons, List.find?_cons, hf, Bool.true_and, find_filter f g l]
    | false =>
      rw [if_neg Bool.false_ne_true, List.find?_cons, hf, Bool.false_and]
      exact find_filter f g l
theorem find_map {α β : Type} (f : α → β) (g : β → Bool) : ∀ l : List α, (l.map f).find? g = (l.find? fun x => g (f x)).map f
  | [] => rfl
  | x :: l => by
    rw [List.map_cons, List.find?_cons, List.find?_cons]
    cases h : g (f x) with
    | true => rfl
    | false => exact find_map f g l
theorem find_congr {α : Type} {f g : α → Bool} : ∀ {l : List α}, (∀ x ∈ l, f x = g x) → l.find? f = l.find? g
  | [], _ => rfl
  | x :: l, h => by
    rw [List.find?_cons, List.find?_cons, h x List.mem_cons_self, find_congr (l := l) fun y hy => h y (List.mem_cons_of_mem _ hy)]
theorem pick_is {p : Plan} {T : List (Option Nat × Nat)} {m : Nat} {b : Best} (hn : p.works.length ≤ 7) (hm : m < 2 ^ p.works.length) (h0 : m ≠ 0) (hT : Holds p T (m + 1)) (hb : B p m = some b) :
    ∃ (s : Nat) (b' : Best), (pick p T m).head? = some s ∧ s ∈ rights p ∧ s ≠ 0 ∧ s ≤ m ∧ B p (m - s) = some b' ∧ b.duties = s :: b'.duties := by
  have hc := hb
  rw [B_cell hn hm h0] at hc
  obtain ⟨x, h1, h2⟩ := fold_first _ _ _ hc
  have e0 : costs b.cost none = false := rfl
  rw [List.find?_cons, e0, find_map] at h1
  have hT' : Holds p T m := fun j hj => hT j (by omega)
  have eT : (T.getD m (none, 0)).1 = some b.cost := by rw [hT m (Nat.lt_succ_self m), hb]; rfl
  have ep : (pick p T m).head? = (List.range (2 ^ p.works.length)).find? fun g => costs b.cost (cand p m g) := by
    unfold pick firsts rights
    rw [List.head?_filter, find_filter, find_filter]
    refine find_congr fun g _ => ?_
    show ((payOf p g).isSome && (cond g m && decide (payWith p T g m = (T.getD m (none, 0)).1))) = _
    rw [eT]
    cases hr : (payOf p g).isSome with
    | false =>
      have e : cand p m g = none := by
        unfold cand
        split
        · cases h3 : payOf p g with
          | none => rfl
          | some c => rw [h3] at hr; cases hr
        · rfl
      rw [e]
      rfl
    | true =>
      cases hd : cond g m with
      | false =>
        have e : cand p m g = none := by unfold cand; rw [hd, if_neg Bool.false_ne_true]
        rw [e]
        rfl
      | true =>
        have q := pay_cand hT' hd hr
        cases hq : cand p m g with
        | none =>
          rw [hq] at q
          rw [q]
          rfl
        | some y =>
          rw [hq] at q
          rw [q.1]
          show decide (some y.cost = some b.cost) = decide (y.cost = b.cost)
          simp
  rw [← ep] at h1
  cases hs : (pick p T m).head? with
  | none => rw [hs] at h1; cases h1
  | some s =>
    rw [hs] at h1
    have hx : cand p m s = some x := Option.some.inj h1
    have hmem : s ∈ pick p T m := List.mem_of_mem_head? (by rw [hs]; rfl)
    unfold pick firsts at hmem
    have m1 := (List.mem_filter.mp (List.mem_filter.mp hmem).1)
    have hcond : cond s m = true := m1.2
    unfold cand at hx
    rw [if_pos hcond] at hx
    cases h3 : payOf p s with
    | none => rw [h3] at hx; cases hx
    | some c =>
      rw [h3] at hx
      cases h4 : B p (m - s) with
      | none => rw [h4] at hx; cases hx
      | some b' =>
        rw [h4] at hx
        have ex : (⟨c + b'.cost, b'.many, s :: b'.duties⟩ : Best) = x := Option.some.inj hx
        exact ⟨s, b', rfl, m1.1, cond_pos hcond, cond_le hcond, h4 ▸ rfl, by rw [← h2, ← ex]⟩
theorem rights_mem {p : Plan} {s : Nat} : s ∈ rights p ↔ s < 2 ^ p.works.length ∧ s ≠ 0 ∧ p.wrong (p.works_ s) = 0 := by
  unfold rights
  rw [List.mem_filter, List.mem_range]
  unfold payOf
  by_cases h0 : s = 0
  · subst h0; simp
  · rw [if_neg h0]
    by_cases h1 : p.wrong (p.works_ s) = 0
    · rw [if_pos h1]; simp [h0, h1]
    · rw [if_neg h1]; simp [h1]

/-! ### pieces that no duty can have -/
theorem never_is (p : Plan) : p.never = (List.range p.works.length).filter fun k => !((rights p).any fun s => s.testBit k) := by
  unfold Plan.never
  refine List.filter_congr fun k _ => ?_
  rw [Bool.eq_iff_iff]
  simp only [List.all_eq_true, Bool.not_eq_true', List.any_eq_false, rights_mem, List.mem_range]
  constructor
  · intro h s hs hb
    have := h s hs.1
    rw [hb, hs.2.2] at this
    cases this
  · intro h s hs
    cases hb : s.testBit k with
    | false => rfl
    | true =>
      have h0 : s ≠ 0 := by rintro rfl; rw [Nat.zero_testBit] at hb; cases hb
      by_cases hw : p.wrong (p.works_ s) = 0
      · exact absurd hb (h s ⟨hs, h0, hw⟩)
      · simp [hw]
end Dm

namespace Dr
open PySem PySem.Spec PyProof.Rows L2
/-! ### rules that the layer lacks -/
/-- o.f as a target -/
def gAtt (K : PySem.W.Frag) (ta : TE) (f : Str) : TG := fun v σ H Q => ta σ H fun x H1 => ∃ a C dx fs, x = .ref a ∧ H1 a = some (.ins C dx fs) ∧ Cls K C ∧ NoAttr K C f ∧ fs.length < 1000 ∧ Q σ (upd H1 a (.ins C dx (putF f v fs)))
theorem pg_att {X : Cx} {o : Expr} {f : Str} {pos : Pos} {ta : TE} (ha : PE X o ta) : PG X (.Attribute o f pos) (gAtt X.K ta f) := by
  refine ⟨fun pins s σ H v u Q I r h => ?_⟩
  refine PySem.W.kas_attr (thn (ha.run pins s σ H _ I h) fun ov s1 ⟨x, H1, I1, rx, a, C, dx, fs, ex, ea, c, n, l, q⟩ => ?_)
  subst ex
  obtain rfl : ov = Value.ref a := rx
  exact setattr_ok I1 ea c n l r fun s3 I3 => ⟨σ, _, I3, q⟩
/-- sum of a tuple of ints -/
def rSumT (K : PySem.W.Frag) : List V → Hp → VK → Prop := fun vs H Q => ∃ (a : Addr) (ns : List Int), vs = [V.ref a] ∧ SqT K H a (ns.map V.int) ∧ Q (.int ns.sum) H
theorem preSum_getD (ns : List Int) : ∀ n, n ≤ ns.length → preSum (fun i => ns.getD i 0) n = (ns.take n).sum
  | 0, _ => rfl
  | n + 1, h => by
    have e : ns[n]? = some (ns.getD n 0) := by
      rw [List.getD_eq_getElem?_getD]
      have : n < ns.length := h
      simp [this]
    rw [sum_take e]
    show preSum _ n + _ = _
    rw [preSum_getD ns n (Nat.le_of_succ_le h)]
theorem cr_sumT {X : Cx} (hc : X.calm = true) : CallR X (.builtin "sum") (rSumT X.K) := by
  intro pins s σ H vs us Q I r h
  obtain ⟨a, ns, rfl, hs, q⟩ := h
  obtain ⟨its, rv, ht, _⟩ := I.tuple hs
  rw [Vals.ref1 r]
  have hi := rv.ints
  have hlen := rv.length
  rw [List.length_map] at hlen
  refine call_sum_walkAnyS (PySem.W.iter_tupleW (A := X.A.in1) (I.ok.hd hc) (show s.heap.IsTuple a its.toArray from ht) fun s2 e W st hfp hw hk => ?_)
  refine ⟨_, _, _, _, _, _, _, fun i => ns.getD i 0, rfl, W, st, hfp, fun i v hv => ?_, fun s' t' m => ?_⟩
  · have hv' : its[i]? = some v := by simpa using hv
    have hi' : i < ns.length := by
      have := (List.getElem?_eq_some_iff.mp hv').1
      omega
    obtain ⟨u, hu, ru⟩ := Vals.get rv (show (ns.map V.int)[i]? = some (V.int (ns.getD i 0)) by simp [hi'])
    rw [hv'] at hu
    cases hu
    exact ru
  · obtain ⟨h', tk, rfl, hk'⟩ := PySem.W.moved_old e rfl m
    have e1 : preSum (fun i => ns.getD i 0) its.toArray.size = ns.sum := by
      rw [List.size_toArray, ← hlen, preSum_getD ns _ (Nat.le_refl _), List.take_length]
    rw [e1]
    exact ⟨.int _, H, I.kept hk', ⟨_, rfl⟩, q⟩
/-- min(xs, default=None) of a list of ints -/
def rMinD (K : PySem.W.Frag) : List V → List V → Hp → VK → Prop := fun vs zs H Q => ∃ (a : Addr) (ns : List Int), vs = [V.ref a] ∧ zs = [V.non] ∧ SqL K H a (ns.map V.int) ∧ (ns = [] → Q .non H) ∧ ∀ m, m ∈ ns → (∀ y, y ∈ ns → m ≤ y) → Q (.int m) H
theorem reads_ints {h : Heap} : ∀ {ns : List Int} {its : List Value}, Vals (ns.map V.int) its → ∃ as, ReadsAll h its (ns.map PyData.int) as
  | [], _, r => by cases r; exact ⟨_, .nil⟩
  | n :: ns, _, r => by
    rw [List.map_cons] at r
    cases r with
    | cons r1 r2 =>
      obtain ⟨t, rfl⟩ := r1
      obtain ⟨as, ra⟩ := reads_ints (h := h) r2
      exact ⟨_, .cons (.int n t) ra⟩
theorem fold_min_mem : ∀ (ns : List Int) (n : Int), ns.foldl min n = n ∨ ns.foldl min n ∈ ns
  | [], n => .inl rfl
  | k :: ns, n => by
    rw [List.foldl_cons]
    rcases fold_min_mem ns (min n k) with h | h
    · rcases Int.le_total n k with q | q
      · rw [Int.min_eq_left q] at h ⊢
        exact .inl h
      · rw [Int.min_eq_right q] at h ⊢
        exact .inr (by rw [h]; exact List.mem_cons_self)
    · exact .inr (List.mem_cons_of_mem _ h)
theorem fold_min_le : ∀ (ns : List Int) (n : Int), ns.foldl min n ≤ n ∧ ∀ y ∈ ns, ns.foldl min n ≤ y
  | [], n => ⟨Int.le_refl _, fun _ h => by cases h⟩
  | k :: ns, n => by
    rw [List.foldl_cons]
    obtain ⟨h1, h2⟩ := fold_min_le ns (min n k)
    refine ⟨Int.le_trans h1 (Int.min_le_left _ _), fun y hy => ?_⟩
    rcases List.mem_cons.mp hy with e | hy
    · rw [e]; exact Int.le_trans h1 (Int.min_le_right _ _)
    · exact h2 y hy
theorem alike_ints (ns : List Int) : PySem.W.AlikeAll (ns.map PyData.int) := by
  refine ⟨fun x hx y hy => ?_, fun x hx => ?_⟩
  · obtain ⟨i, _, rfl⟩ := List.mem_map.mp hx
    obtain ⟨j, _, rfl⟩ := List.mem_map.mp hy
    rfl
  · obtain ⟨i, _, rfl⟩ := List.mem_map.mp hx
    intro h
    cases h
theorem depth_ints : ∀ ns : List Int, PyData.depthAll (ns.map PyData.int) ≤ 1
  | [] => by rw [List.map_nil]; exact Nat.zero_le _
  | n :: ns => by
    rw [List.map_cons]
    exact Nat.max_le.mpr ⟨Nat.zero_le 1, depth_ints ns⟩
theorem cr_minD {X : Cx} (hc : X.calm = true) (hu : X.A.units + 64 < cLine) : CallRK X (.builtin "min") [Str.ofString "default"] (rMinD X.K) := by
  intro pins s σ H vs zs us ws Q I r rz h
  obtain ⟨a, ns, rfl, rfl, hs, q0, q⟩ := h
  obtain ⟨its, rv, hl, _⟩ := I.list hs
  rw [Vals.ref1 r]
  obtain ⟨w1, rfl, e1⟩ := vals1 rz
  obtain rfl : w1 = Value.none := e1
  obtain ⟨as, ra⟩ := reads_ints (h := s.heap) rv
  refine PySem.W.min_list_default (I.ok.hd hc) hl.isList ra (alike_ints ns) (by have := depth_ints ns; omega) (fun e0 h' tk hk => ?_) (fun y ys i v h' tk bs e1 hv hr hk => ?_)
  · have en : ns = [] := by
      cases ns with
      | nil => rfl
      | cons n ns => cases e0
    exact ⟨.non, H, I.kept hk, rfl, q0 en⟩
  · cases ns with
    | nil => cases e1
    | cons n ns =>
      rw [List.map_cons] at e1
      injection e1 with e2 e3
      subst e2
      subst e3
      rw [PySem.W.minD_ints] at hr
      obtain ⟨t, rfl⟩ : ∃ t, v = Value.int (ns.foldl min n) t := by
        cases hr with
        | int _ t => exact ⟨t, rfl⟩
      refine ⟨.int (ns.foldl min n), H, I.kept hk, ⟨_, rfl⟩, q _ ?_ fun y hy => ?_⟩
      · rcases fold_min_mem ns n with h | h
        · rw [h]; exact List.mem_cons_self
        · exact List.mem_cons_of_mem _ h
      · obtain ⟨h1, h2⟩ := fold_min_le ns n
        rcases List.mem_cons.mp hy with e | hy
        · rw [e]; exact h1
        · exact h2 y hy
end Dr

namespace PySem
namespace LowX
open PySem.W PySem.Calls PyProof.Rows PySem.HandSPX
/-! ### the text of __init__ -/
def iA (p1 p2 : Pos) : Arguments := { posonlyargs := [], args := [{ arg := "self", annotation := none, pos := p1 }, { arg := "code", annotation := none, pos := p2 }], vararg := none, kwonlyargs := [], kw_defaults := [], kwarg := none, defaults := [] }
def iB (q1 q2 q3 q4 : Pos) : List Stmt := [.Assign [.Attribute (.Name "self" q1) "code" q2] (.Name "code" q3) q4]
def iS : Scope := { kind := .function, names := [(PySem.Str.ofString "self", .local), (PySem.Str.ofString "code", .local)], isGenerator := false, isCoroutine := false, more := [] }
/-- what the written part says of Low, at C, and of its __init__, at fI -/
structure LowTxt (K : Frag) (mg : Str → Option Value) (C fI : Addr) : Prop where
  gC : mg "Refused" = some (.ref C)
  cls : ∃ nm q N bs bm sn sub ab col dd k0 k1 k2 k3 k5, K.lookup C = some (excClassObj nm q C N bs bm true sn sub ab col dd k0 k1 k2 k3 k5 "ValueError.__new__") ∧ refsVE bm = true
  sa : findIn K (.ref C) "__setattr__" = some (some (.builtin "object.__setattr__"))
  ga : findIn K (.ref C) "__getattribute__" = some (some (.builtin "BaseException.__getattribute__"))
  gg : findIn K (.ref C) "__getattr__" = some none
  noN : findIn K (.ref C) "code" = some none
  iC : findIn K (.ref C) "__init__" = some (some (.ref fI))
  tC : typeIn K (.ref fI) = some (.type "function")
  kC : keepIn K (.ref C) = true
  exC : subIn K (.ref C) (.type "BaseException") = some true
  tyC : typeIn K (.ref C) = some (.type "type")
  hdC : hasDictIn K C = true
  te : exmOne K (.ref C) (.ref C) = some true
  fn : ∃ (oc : Value) (od : Option Addr) (doc pm : Value) (an : Option Addr) (cdv ct : Value) (osl : Array (Option Value)) (p1 p2 q1 q2 q3 q4 : Pos),
    K.lookup fI = some ⟨oc, od, .func (fnOf "__init__" "Refused.__init__" (iA p1 p2) (iB q1 q2 q3 q4) iS .none .none doc pm an cdv ct), osl⟩ ∧ codeIn K cdv "Refused.__init__" = true
theorem one_size (v : Value) : [v].length ≤ sizeLine := by
  rw [sizeLine_eq]
  exact (by decide : 1 ≤ 16777216)
theorem kept_but {K : Frag} {h h' : Heap} {x : Addr} (X : K.In h) (hx : K.lookup x = none) (k : ∀ b o, b ≠ x → h.get? b = some o → h'.get? b = some o) : K.In h' := fun a o e =>
  k a o (fun z => by rw [z, hx] at e; cases e) (X a o e)
theorem ldC {M : Model} {s : Shared} {name : Str} {scope : Scope} {L a : Addr} {cd : Value} {m : Str → Option Value} {x : Str} {pos : Pos} {v : Value} {Q : Value → Shared → Prop} {A : Around} {E : Value → Shared → Prop} (hn : s.heap.Ns L m) (hv : m x = some v) (h : Q v s)
    (hk : scope.kind = .function := by rfl) (hl : (envOfC name scope L a cd).kindOf x = some .local := by rfl) (hd : (x == ("__debug__" : Str)) = false := by decide) :
    wpAny M A (eval (.Name x pos) (envOfC name scope L a cd)) Q E s := wpAny_Name (wpAny_loadName_local hk hl hn hv h) hd
/-- what __init__ leaves of a fresh exception at x -/
structure InitEnd (h h' : Heap) (x C dx t1 : Addr) (v : Value) : Prop where
  keep : ∀ b o, b ≠ x → h.get? b = some o → h'.get? b = some o
  obj : h'.get? x = some { cls := .ref C, dict := some dx, data := .fields #[.ref t1, .none, .none, .none, .bool false, .none] }
  dbig : h.objs.size ≤ dx
  dne : dx ≠ x
  ns : h'.Ns1 dx (fun y => if y = "code" then some v else none)
/-- a made Low -/
structure OwnMade (h h' : Heap) (e C d : Addr) (v : Value) : Prop where
  keep : ∀ b o, h.get? b = some o → h'.get? b = some o
  new : h.objs.size ≤ e
  obj : ∃ oe vs, h'.get? e = some oe ∧ oe.cls = .ref C ∧ oe.dict = some d ∧ oe.data = .fields vs ∧ vs[1]? = some .none
  dbig : h.objs.size ≤ d
  dne : d ≠ e
  ns : h'.Ns1 d (fun y => if y = "code" then some v else none)
section
variable {prog : Program} {w : World} {A : Around} {E : Value → Shared → Prop} {R : Result → Shared → Prop} {s : Shared} {K : Frag} {mg : Str → Option Value} {C fI : Addr}
theorem low_init (T : LowTxt K mg C fI) {x t0 : Addr} {v : Value} (X : K.In s.heap) (hlim : s.heap.NoLimit) (hx : s.heap.get? x = some (excO C t0)) (hnx : K.lookup x = none) (hroom : A.depth < recursionLimit)
    (hq : ∀ h' tk dx, InitEnd s.heap h' x C dx t0 v → R (.ok (.ret .none)) { s with heap := h', toks := tk }) :
    codeAny (model prog w) A (.call (.ref fI) ⟨[.ref x, v], []⟩) R s := by
  obtain ⟨oc, od, doc, pm, an, cdv, ct, osl, p1, p2, q1, q2, q3, q4, ho, hcd⟩ := T.fn
  obtain ⟨nm, q, N, bs, bm, sn, sub, ab, col, dd, k0, k1, k2, k3, k5, hC, hbm⟩ := T.cls
  have hcl : clsIn K C = some { name := nm, bases := bs, mro := .ref C :: bm, ns := N, qualname := q, hasDict := true, slotNames := sn, subclasses := sub, abstract := ab, collection := col, hasDel := false } := by unfold clsIn; rw [hC] <;> rfl
  refine Att.call_fn (binds := [("self", .ref x), ("code", v)]) X hlim ho hcd hroom (BindsTo.of_eq (by first | rfl | with_unfolding_all rfl)) (by first | rfl | decide | with_unfolding_all rfl) (fun s₁ IC => ?_) rfl rfl rfl
  obtain ⟨h₁, tk₁, rfl⟩ := IC.toInCall.same
  have k : ∀ b o, s.heap.get? b = some o → h₁.get? b = some o := IC.toInCall.keep
  have hn := IC.toInCall.ns
  have hxL : s.heap.objs.size ≠ x := Nat.ne_of_gt (Heap.lt_size hx)
  have X₁ : K.In h₁ := X.keeps k
  have hx₁ := k _ _ hx
  -- self.by = by
  show wpAny _ _ (execs _ _) _ _ _
  refine wpAny_execs_cons (plainObj_wpAny_Assign_Attribute ?_)
  refine ldC (v := v) hn (by first | rfl | with_unfolding_all rfl | kernel_rfl) (ldC (v := .ref x) hn (by first | rfl | with_unfolding_all rfl | kernel_rfl) ?_)
  refine set_plain X₁ (ox := excO C t0) (od := none) ⟨hx₁, rfl, rfl, trivial⟩ T.sa ?_
  refine exc_osa X₁ hx₁ hcl (show refsVE (.ref C :: bm) = true from hbm) rfl T.noN (fun h₃ tk₃ dx k₃ dn dne hx₃ hn₃ => ?_)
  show wpAny _ _ (execs _ _) _ _ _
  have z : s.heap.objs.size < h₁.objs.size := hn.lt
  exact wpAny_execs_nil (hq h₃ tk₃ dx ⟨fun b o hb e => k₃ b o hb (k b o e), hx₃, Nat.le_of_lt (Nat.lt_of_lt_of_le z dn), dne, hn₃⟩)
theorem low_made (T : LowTxt K mg C fI) {v : Value} (X : K.In s.heap) (hlim : s.heap.NoLimit) (hroom : A.depth + 1 < recursionLimit)
    (hq : ∀ h' tk e d, OwnMade s.heap h' e C d v → R (.ok (.ret (.ref e))) { s with heap := h', toks := tk }) :
    codeAny (model prog w) A (.call (.ref C) ⟨[v], []⟩) R s := by
  obtain ⟨nm, q, N, bs, bm, sn, sub, ab, col, dd, k0, k1, k2, k3, k5, hC, hbm⟩ := T.cls
  obtain ⟨hp, g, dr, tk, os⟩ := s
  have k : ∀ b o, hp.get? b = some o → ((hp.push (kdv_tup [v])).push (excO C hp.objs.size)).get? b = some o := fun b o e => Heap.get?_push_of_some _ (Heap.get?_push_of_some _ e)
  have hget : ((hp.push (kdv_tup [v])).push (excO C hp.objs.size)).get? (hp.objs.size + 1) = some (excO C hp.objs.size) := by heap_get
  have hnx : K.lookup (hp.objs.size + 1) = none := by
    cases e : K.lookup (hp.objs.size + 1) with
    | none => rfl
    | some o =>
      have z : hp.get? (hp.objs.size + 1) = some o := X _ _ e
      exact absurd (Nat.lt_of_succ_lt (Heap.lt_size z)) (Nat.lt_irrefl _)
  refine call_own F.excBase_ValueError (fun X => refsVE_contains X bm hbm) (X _ _ hC) (looks_findIn X T.iC) (fun self => bind_fn X self T.tC) (one_size v) ?_
  refine low_init (s := ⟨(hp.push (kdv_tup [v])).push (excO C hp.objs.size), g, dr, tk, os⟩) T (X.keeps k) (hlim.keeps k) hget hnx ?_ fun h' tk' dx ⟨k', hx, dn, dne, hns⟩ => ?_
  · show A.depth + 1 < recursionLimit
    exact hroom
  · have old : ∀ b o, hp.get? b = some o → h'.get? b = some o := fun b o e => k' b o (Nat.ne_of_lt (Nat.lt_succ_of_lt (Heap.lt_size e))) (k b o e)
    have z : hp.objs.size + 1 + 1 ≤ dx := by
      first
        | (simpa only [Heap.size_push] using dn)
        | exact dn
        | (have q := dn; rw [Heap.size_push, Heap.size_push] at q; exact q)
    exact ⟨rfl, hq h' tk' (hp.objs.size + 1) dx ⟨old, Nat.le_succ _, ⟨_, _, hx, rfl, rfl, rfl, rfl⟩, Nat.le_trans (Nat.le_trans (Nat.le_succ _) (Nat.le_succ _)) z, dne, hns⟩⟩
end
end LowX
end PySem
namespace L2
open PySem PySem.Spec PyProof.Rows
theorem relO_low {v : V} {v' : Value} (r : RelV v v') (f : Str) : RelO (List.lookup f [(("code" : Str), v)]) (if f = "code" then some v' else none) := by
  by_cases hw : f = "code"
  · subst hw
    rw [if_pos rfl]
    have q : List.lookup ("code" : Str) [(("code" : Str), v)] = some v := by simp [List.lookup]
    rw [q]
    exact r
  · rw [if_neg hw]
    have qw : (f == ("code" : Str)) = false := by simpa using hw
    have q2 : List.lookup f [(("code" : Str), v)] = none := by simp [List.lookup, qw]
    rw [q2]
    trivial
section
variable {X : Cx} {C fI : Addr}
/-- Low(e) -/
def tMkLow (C : Addr) (ta : TA) : St → Hp → XK → Prop := fun σ H Q => ta σ H fun vs H1 => ∃ v, vs = [v] ∧ ∀ d, H1 d = none → Q (.ref C) (some d) (upd H1 d (.xd [(("code" : Str), v)]))
theorem pmk_low {a : Expr} {ta : TA} {p pos : Pos} {k : Nat} (T : PySem.LowX.LowTxt X.K X.mg C fI) (hr : Room k X.A) (ha : PA X [a] ta) (hg : Gl X "Refused" := by rfl)
    (he : starEach (a :: []) X.env = (false, eval a X.env) :: starEach [] X.env := by rfl) (hpl : (backTo pos (starEach [] X.env)).any (·.1) = false := by rfl) :
    PMk X (.Call (.Name "Refused" p) [a] [] pos) (tMkLow C ta) := by
  intro pins s σ H Q I h
  refine wpAny_Call_Name_kw (ld_glob I hg T.gC ?_)
  refine PySem.W.callWith_K (h₀ := X.base) I.ok.mod.kin T.kC (thn (ha.run pos pins s σ H _ I h) fun us s1 hh => ?_) he hpl
  obtain ⟨vs, H1, I1, r1, v, ev, q1⟩ := hh
  subst ev
  refine ⟨I1.kIn, ?_⟩
  cases r1 with
  | cons rv rn =>
    rename_i v' us'
    cases rn
    show wpAny _ _ (call (.ref C) [v']) _ _ _
    have hlim := I1.nolimit
    obtain ⟨hp, g, dr, tk, os⟩ := s1
    refine wpAny_call (PySem.LowX.low_made T I1.kIn hlim (by have := hr.dp; omega) fun h' tk' e d M => ?_)
    show MkP X pins σ Q (.ref e) ⟨h', g, dr, tk', os⟩
    obtain ⟨oe, fv, hoe, hc, hd, hdat, h1⟩ := M.obj
    have hns := M.ns
    obtain ⟨G', g1, g2⟩ := restrict h' fun b => decide (b ≠ e)
    have gk : ∀ b, b ≠ e → G'.get? b = h'.get? b := fun b hb => g1 b (decide_eq_true hb)
    have ge : G'.get? e = none := g2 e (by simp)
    have old : ∀ b o, hp.get? b = some o → G'.get? b = some o := fun b o q => (gk b (Nat.ne_of_lt (Nat.lt_of_lt_of_le (Heap.lt_size q) M.new))).trans (M.keep b o q)
    have ob : ObjOk X.prog X.w (upd H1 d (.xd [(("code" : Str), v)])) G' d (.xd [(("code" : Str), v)]) :=
      ⟨_, hns.at (fun o q => (gk d M.dne).trans q), fun f => relO_low rv f⟩
    have J : Inv X pins σ (upd H1 d (.xd [(("code" : Str), v)])) ⟨G', g, dr, tk', os⟩ := I1.laid (t' := tk') old M.dbig ob
    refine ⟨e, oe, fv, ⟨G', g, dr, tk', os⟩, _, .ref C, some d, rfl, J, fun b o q => ?_, ge, hoe, ⟨hc, hd⟩, hdat, h1, ?_, rfl, I1.bare, raises_own T.exC T.tyC, q1 d (I1.hok.fresh M.dbig)⟩
    · by_cases hb : b = e
      · have q' : G'.get? b = some o := q
        rw [hb, ge] at q'; cases q'
      · exact (gk b hb).symm.trans q
    · rw [upd_ne (Ne.symm M.dne)]
      exact I1.hok.fresh M.new
/-- raise Low(e) -/
def tRaiseLow (C : Addr) (W : WX) (ta : TA) : TS := fun _ σ H => tMkLow C ta σ H fun cls d H' => W cls d σ H'
theorem ps_raiseLow {a : Expr} {ta : TA} {W : WX} {p pos pos2 : Pos} {k : Nat} (hc : X.calm = true) (T : PySem.LowX.LowTxt X.K X.mg C fI) (hr : Room k X.A) (tk : Takes X W) (ha : PA X [a] ta) (hg : Gl X "Refused" := by rfl)
    (he : starEach (a :: []) X.env = (false, eval a X.env) :: starEach [] X.env := by rfl) (hpl : (backTo pos (starEach [] X.env)).any (·.1) = false := by rfl) :
    PS X (.Raise (some (.Call (.Name "Refused" p) [a] [] pos)) none pos2) (tRaiseLow C W ta) := ps_raise hc tk (pmk_low T hr ha hg he hpl)
/-- low.by, low the exception that the suite holds (at a; its class cls, its dict d) -/
def tByLow (C : Addr) (a : Addr) (cls : Value) (d : Option Addr) (te : TE) : TE := fun σ H Q => te σ H fun x H1 => x = .ref a ∧ cls = .ref C ∧ ∃ (dd : Addr) (v : V), d = some dd ∧ H1 dd = some (.xd [(("code" : Str), v)]) ∧ Q v H1
theorem pe_byLow {a : Addr} {oe : Obj} {cls : Value} {d : Option Addr} {pn : List (Addr × Obj)} {e : Expr} {te : TE} {pos : Pos} (T : PySem.LowX.LowTxt X.K X.mg C fI) (hz : Zc cls d oe) (hf : ∃ vs, oe.data = .fields vs) (he : PE (X.suite a ((a, oe) :: pn)) e te)
    (hb : attributeBase e "code" X.env (eval e X.env) = eval e X.env := by rfl) :
    PE (X.suite a ((a, oe) :: pn)) (.Attribute e "code" pos) (tByLow C a cls d te) := by
  refine ⟨fun pins s σ H Q I h => ?_⟩
  refine attr_of hb (thn (he.run pins s σ H _ I h) fun u s1 hh => ?_)
  obtain ⟨x, H1, I1, rx, ex, ec, dd, v, ed, ea, q⟩ := hh
  subst ex
  obtain rfl : u = Value.ref a := rx
  subst ec
  subst ed
  obtain ⟨ha, _⟩ := I1.pin (a, oe) (List.mem_append_left _ List.mem_cons_self)
  obtain ⟨vs, hd⟩ := hf
  have hx : ObjOk X.prog X.w H1 s1.heap dd (.xd [(("code" : Str), v)]) := I1.hok dd _ ea
  obtain ⟨mA, hns, hr⟩ := hx
  obtain ⟨od, ho, hl⟩ := lookIn_ns hns
  have l : List.lookup ("code" : Str) [(("code" : Str), v)] = some v := by simp [List.lookup]
  obtain ⟨u, hu, ru⟩ := RelO.some_of (v := v) (o := mA "code") (by rw [← l]; exact hr "code")
  have J : PySem.W.InstAt s1.heap a oe C (some od) := ⟨ha, hz.1, by unfold PySem.W.notCls; rw [hd] <;> rfl, by rw [hz.2]; exact ho⟩
  exact HandSPX.exc_get I1.kIn J T.ga T.gg T.exC (PySem.W.findObj_own T.hdC T.noN rfl (by rw [hl, hu])) (handed_of ru) ⟨v, H1, I1.tok _, ru, q⟩
end
end L2


namespace Dw
open PySem PySem.Spec PyProof.Rows L2 Evl

/-! ### calls: a def, a method, a class with its promise -/
/-- f(e, ..) -/
def tCl (sp : Sp) (E : XK) (t : TA) : TE := fun σ H Q => t σ H fun vs H1 => sp vs H1 Q E
theorem tCl_eq (sp : Sp) (E : XK) (t : TA) : tCall sp [] E t = tCl sp E t := by
  funext σ H Q
  show t σ H (fun vs H1 => sp (vs ++ []) H1 Q E) = t σ H (fun vs H1 => sp vs H1 Q E)
  congr 1
  funext vs H1
  rw [List.append_nil]
/-- o.m(e, ..) -/
def tMe (C : Addr) (m : Str) (sp : Sp) (E : XK) (ta : TE) (t : TA) : TE := fun σ H Q => ta σ H fun x H1 => ∃ a dx fs, x = .ref a ∧ H1 a = some (.ins C dx fs) ∧ fs.lookup m = none ∧ t σ H1 fun vs H2 => sp (x :: vs) H2 Q E
theorem tMe_eq (C : Addr) (m : Str) (sp : Sp) (E : XK) (ta : TE) (t : TA) : tMeth C m sp [] E ta t = tMe C m sp E ta t := by
  have e : (fun (x : V) (Q : VK) (vs : List V) (H2 : Hp) => sp (x :: (vs ++ [])) H2 Q E) = fun x Q vs H2 => sp (x :: vs) H2 Q E := by
    funext x Q vs H2
    rw [List.append_nil]
  funext σ H Q
  show ta σ H (fun x H1 => ∃ a dx fs, x = .ref a ∧ H1 a = some (.ins C dx fs) ∧ fs.lookup m = none ∧ t σ H1 ((fun (x : V) (Q : VK) (vs : List V) (H2 : Hp) => sp (x :: (vs ++ [])) H2 Q E) x Q)) = _
  rw [e]
  rfl
/-- C(e, ..) -/
def tMk (C : Addr) (sp : Sp) (E : XK) (t : TA) : TE := fun σ H Q => t σ H fun vs H1 => ∀ x dx, H1 x = none → H1 dx = none → dx ≠ x → sp (.ref x :: vs) (upd (upd H1 dx (.own x)) x (.ins C dx [])) (fun v H2 => v = .non ∧ Q (.ref x) H2) E
theorem tMk_eq (C : Addr) (sp : Sp) (E : XK) (t : TA) : tMake C sp [] E t = tMk C sp E t := by
  funext σ H Q
  show t σ H (fun vs H1 => ∀ x dx, H1 x = none → H1 dx = none → dx ≠ x → sp (.ref x :: (vs ++ [])) (upd (upd H1 dx (.own x)) x (.ins C dx [])) (fun v H2 => v = .non ∧ Q (.ref x) H2) E) = t σ H (fun vs H1 => ∀ x dx, H1 x = none → H1 dx = none → dx ≠ x → sp (.ref x :: vs) (upd (upd H1 dx (.own x)) x (.ins C dx [])) (fun v H2 => v = .non ∧ Q (.ref x) H2) E)
  congr 1
  funext vs H1
  rw [List.append_nil]

/-- the def of the module's name x keeps sp -/
def HasF (P : Program) (w : World) (K : PySem.W.Frag) (mg : Str → Option Value) (base : Heap) (CX : CXT) (k : Nat) (x : Str) (sp : Sp) : Prop :=
  ∃ (f : Addr) (fd : FuncData) (ps : List Str), FnOk P w K mg base CX k f fd ps sp ∧ mg x = some (.ref f) ∧ PySem.W.keepIn K (.ref f) = true ∧ Binds K fd ps []
def HasM (P : Program) (w : World) (K : PySem.W.Frag) (mg : Str → Option Value) (base : Heap) (CX : CXT) (k : Nat) (C : Addr) (m : Str) (sp : Sp) : Prop :=
  ∃ (f : Addr) (fd : FuncData) (ps : List Str), FnOk P w K mg base CX k f fd ps sp ∧ Meth K C m f ∧ Binds K fd ps []
def HasC (P : Program) (w : World) (K : PySem.W.Frag) (mg : Str → Option Value) (base : Heap) (CX : CXT) (k : Nat) (x : Str) (C : Addr) (sp : Sp) : Prop :=
  ∃ (f : Addr) (fd : FuncData) (ps : List Str), FnOk P w K mg base CX k f fd ps sp ∧ Mk K C f ∧ mg x = some (.ref C) ∧ Binds K fd ps []
section
variable {X : Cx} {CX : CXT} {k : Nat} {C : Addr} {sp : Sp} {E : XK} {x m : Str} {p pos apos : Pos} {e o : Expr} {es : List Expr} {ta : TE} {t : TA}
theorem pe_cl (h : HasF X.prog X.w X.K X.mg X.base CX k x sp) (hr : Room k X.A) (hx : Passes CX X E) (ha : PA X (e :: es) t) (hg : Gl X x := by rfl) (hdb : (x == ("__debug__" : Str)) = false := by decide) (he : starEach (e :: es) X.env = (false, eval e X.env) :: starEach es X.env := by rfl) (hpl : (backTo pos (starEach es X.env)).any (·.1) = false := by rfl) :
    PE X (.Call (.Name x p) (e :: es) [] pos) (tCl sp E t) := by
  obtain ⟨f, fd, ps, F, hm, hk, hb⟩ := h
  rw [← tCl_eq]
  exact pe_call F hr hg hm hk hb .nil hx ha hdb he hpl
theorem pe_me {pl : Sem Bool} (h : HasM X.prog X.w X.K X.mg X.base CX k C m sp) (c : Cls X.K C) (hr : Room k X.A) (hx : Passes CX X E) (he : PE X o ta) (ha : PA X (e :: es) t)
    (hst : starEach (e :: es) X.env = (false, eval e X.env) :: starEach es X.env := by rfl) (hpl : (backTo pos (starEach es X.env)).any (·.1) = false := by rfl)
    (ht : eval (.Call (.Attribute o m apos) (e :: es) [] pos) X.env = (do
      let ov ← eval o X.env
      standAt apos.atName
      let (f, first) ← holding [ov] (getMethod ov m pl)
      callWith pos f first (backTo pos (starEach (e :: es) X.env)) (backToKw pos (keywordEach [] X.env))) := by rfl) :
    PE X (.Call (.Attribute o m apos) (e :: es) [] pos) (tMe C m sp E ta t) := by
  obtain ⟨f, fd, ps, F, hm, hb⟩ := h
  rw [← tMe_eq]
  exact pe_meth he c hm F hr hb .nil hx ha hst hpl ht
theorem pe_me0 {pl : Sem Bool} (h : HasM X.prog X.w X.K X.mg X.base CX k C m sp) (c : Cls X.K C) (hr : Room k X.A) (hx : Passes CX X E) (he : PE X o ta)
    (ht : eval (.Call (.Attribute o m apos) [] [] pos) X.env = (do
      let ov ← eval o X.env
      standAt apos.atName
      let (f, first) ← holding [ov] (getMethod ov m pl)
      callWith pos f first (backTo pos (starEach [] X.env)) (backToKw pos (keywordEach [] X.env))) := by rfl) :
    PE X (.Call (.Attribute o m apos) [] [] pos) (tMe C m sp E ta tNil) := by
  obtain ⟨f, fd, ps, F, hm, hb⟩ := h
  rw [← tMe_eq]
  exact pe_meth0 he c hm F hr hb .nil hx ht
theorem pe_mk (h : HasC X.prog X.w X.K X.mg X.base CX k x C sp) (hr : Room (k + 1) X.A) (hx : Passes CX X E) (ha : PA X (e :: es) t) (hg : Gl X x := by rfl) (hdb : (x == ("__debug__" : Str)) = false := by decide) (he : starEach (e :: es) X.env = (false, eval e X.env) :: starEach es X.env := by rfl) (hpl : (backTo pos (starEach es X.env)).any (·.1) = false := by rfl) :
    PE X (.Call (.Name x p) (e :: es) [] pos) (tMk C sp E t) := by
  obtain ⟨f, fd, ps, F, M, hm, hb⟩ := h
  rw [← tMk_eq]
  exact pe_make M F hr hg hm hb .nil hx ha hdb he hpl
theorem pe_mk0 (h : HasC X.prog X.w X.K X.mg X.base CX k x C sp) (hr : Room (k + 1) X.A) (hx : Passes CX X E) (hg : Gl X x := by rfl) (hdb : (x == ("__debug__" : Str)) = false := by decide) : PE X (.Call (.Name x p) [] [] pos) (tMk C sp E tNil) := by
  obtain ⟨f, fd, ps, F, M, hm, hb⟩ := h
  rw [← tMk_eq]
  exact pe_make0 M F hr hg hm hb .nil hx hdb
/-- a whole number of the module's -/
theorem pe_k {i : Int} (h : ∃ t, X.mg x = some (.int i t)) (hg : Gl X x := by rfl) (hd : (x == ("__debug__" : Str)) = false := by decide) : PE X (.Name x p) (tC (.int i)) := by
  obtain ⟨t, h⟩ := h
  exact pe_glob hg h ⟨t, rfl⟩ hd
end
section
variable {P : Program} {w : World} {K : PySem.W.Frag} {mg : Str → Option Value} {base : Heap} {CX : CXT} {j k : Nat} {C : Addr} {x m : Str} {sp : Sp}
theorem HasF.mono (h : HasF P w K mg base CX j x sp) (q : j ≤ k) : HasF P w K mg base CX k x sp := by
  obtain ⟨f, fd, ps, F, r⟩ := h
  exact ⟨f, fd, ps, F.mono q, r⟩
theorem HasM.mono (h : HasM P w K mg base CX j C m sp) (q : j ≤ k) : HasM P w K mg base CX k C m sp := by
  obtain ⟨f, fd, ps, F, r⟩ := h
  exact ⟨f, fd, ps, F.mono q, r⟩
theorem HasC.mono (h : HasC P w K mg base CX j x C sp) (q : j ≤ k) : HasC P w K mg base CX k x C sp := by
  obtain ⟨f, fd, ps, F, r⟩ := h
  exact ⟨f, fd, ps, F.mono q, r⟩
end

/-! ### instances: a class's names in the order of their first stores -/
theorem lookup_zip : ∀ {ns : List Str} {vs : List V} {i : Nat} {f : Str} {v : V}, ns.Nodup → ns[i]? = some f → vs[i]? = some v → (ns.zip vs).lookup f = some v
  | [], _, _, _, _, _, h, _ => by simp at h
  | _ :: _, [], _, _, _, _, _, h => by simp at h
  | n :: ns, w :: vs, 0, f, v, _, h1, h2 => by
    have e1 : n = f := Option.some.inj h1
    have e2 : w = v := Option.some.inj h2
    subst e1; subst e2
    have hb : (n == n) = true := beq_self_eq_true n
    simp only [List.zip_cons_cons, List.lookup, hb]
  | n :: ns, w :: vs, i + 1, f, v, hd, h1, h2 => by
    have h1' : ns[i]? = some f := h1
    have ne : ¬ f = n := fun e => by
      subst e
      exact (List.nodup_cons.mp hd).1 (List.mem_of_getElem? h1')
    have hb : (f == n) = false := beq_eq_false_iff_ne.mpr ne
    simp only [List.zip_cons_cons, List.lookup, hb]
    exact lookup_zip (List.nodup_cons.mp hd).2 h1' h2
theorem lookup_zip_none : ∀ {ns : List Str} {vs : List V} {f : Str}, f ∉ ns → (ns.zip vs).lookup f = none
  | [], _, _, _ => rfl
  | _ :: _, [], _, _ => rfl
  | n :: ns, w :: vs, f, h => by
    have hb : (f == n) = false := beq_eq_false_iff_ne.mpr fun e => h (by rw [e]; exact List.mem_cons_self)
    simp only [List.zip_cons_cons, List.lookup, hb]
    exact lookup_zip_none fun q => h (List.mem_cons_of_mem _ q)
theorem put_zip : ∀ {ns : List Str} {vs : List V} {i : Nat} {f : Str} {v : V}, ns.Nodup → ns[i]? = some f → i < vs.length → putF f v (ns.zip vs) = ns.zip (vs.set i v)
  | [], _, _, _, _, _, h, _ => by simp at h
  | _ :: _, [], _, _, _, _, _, h => by simp at h
  | n :: ns, w :: vs, 0, f, v, _, h1, _ => by
    have e1 : n = f := Option.some.inj h1
    show (if n = f then (n, v) :: ns.zip vs else (n, w) :: putF f v (ns.zip vs)) = _
    rw [if_pos e1]
    rfl
  | n :: ns, w :: vs, i + 1, f, v, hd, h1, h2 => by
    have h1' : ns[i]? = some f := h1
    have ne : ¬ n = f := fun e => by
      subst e
      exact (List.nodup_cons.mp hd).1 (List.mem_of_getElem? h1')
    show (if n = f then (n, v) :: ns.zip vs else (n, w) :: putF f v (ns.zip vs)) = _
    rw [if_neg ne, put_zip (List.nodup_cons.mp hd).2 h1' (Nat.lt_of_succ_lt_succ h2)]
    rfl
theorem put_new : ∀ {ns : List Str} {vs : List V} {f : Str} {v : V}, ns.Nodup → ns[vs.length]? = some f → putF f v (ns.zip vs) = ns.zip (vs ++ [v])
  | [], _, _, _, _, h => by simp at h
  | n :: ns, [], f, v, _, h => by
    have e1 : n = f := Option.some.inj h
    subst e1
    show [(n, v)] = (n, v) :: ns.zip []
    rw [List.zip_nil_right]
  | n :: ns, w :: vs, f, v, hd, h => by
    have h' : ns[vs.length]? = some f := h
    have ne : ¬ n = f := fun e => by
      subst e
      exact (List.nodup_cons.mp hd).1 (List.mem_of_getElem? h')
    show (if n = f then (n, v) :: ns.zip vs else (n, w) :: putF f v (ns.zip vs)) = _
    rw [if_neg ne, put_new (List.nodup_cons.mp hd).2 h']
    rfl
/-- the class at C, whose instances bear the names ns -/
structure ClsA (K : PySem.W.Frag) (C : Addr) (ns : List Str) : Prop where
  cl : Cls K C
  nd : ns.Nodup
  no : ∀ f ∈ ns, NoAttr K C f
def Ins (H : Hp) (a C : Addr) (ns : List Str) (vs : List V) : Prop := ∃ dx, H a = some (.ins C dx (ns.zip vs))
theorem Ins.mono {H H' : Hp} {a C : Addr} {ns : List Str} {vs : List V} (e : Ex H H') (h : Ins H a C ns vs) : Ins H' a C ns vs := let ⟨dx, h⟩ := h; ⟨dx, e _ _ h⟩
/-- o.f gives v -/
def Rf (K : PySem.W.Frag) (H : Hp) (a : Addr) (f : Str) (v : V) : Prop := ∃ C dx fs, H a = some (.ins C dx fs) ∧ Cls K C ∧ NoAttr K C f ∧ fs.lookup f = some v
theorem Rf.mono {K : PySem.W.Frag} {H H' : Hp} {a : Addr} {f : Str} {v : V} (e : Ex H H') (h : Rf K H a f v) : Rf K H' a f v := let ⟨C, dx, fs, h, r⟩ := h; ⟨C, dx, fs, e _ _ h, r⟩
theorem rf {K : PySem.W.Frag} {H : Hp} {a C : Addr} {ns : List Str} {vs : List V} {f : Str} {v : V} (c : ClsA K C ns) (h : Ins H a C ns vs) (i : Nat) (hn : ns[i]? = some f := by rfl) (hv : vs[i]? = some v := by rfl) : Rf K H a f v := by
  obtain ⟨dx, h⟩ := h
  exact ⟨C, dx, _, h, c.cl, c.no f (List.mem_of_getElem? hn), lookup_zip c.nd hn hv⟩
/-- at a stands an instance of C that has no attribute m -/
def MOf (H : Hp) (a C : Addr) (m : Str) : Prop := ∃ dx fs, H a = some (.ins C dx fs) ∧ fs.lookup m = none
theorem MOf.mono {H H' : Hp} {a C : Addr} {m : Str} (e : Ex H H') (h : MOf H a C m) : MOf H' a C m := let ⟨dx, fs, h, r⟩ := h; ⟨dx, fs, e _ _ h, r⟩
theorem mof {H : Hp} {a C : Addr} {ns : List Str} {vs : List V} {m : Str} (h : Ins H a C ns vs) (hm : m ∉ ns) : MOf H a C m := by
  obtain ⟨dx, h⟩ := h
  exact ⟨dx, _, h, lookup_zip_none hm⟩
/-- o.f = v: the instance behind it -/
theorem set_ins {K : PySem.W.Frag} {ta : TE} {tv : TE} {f : Str} {D : Ends} {σ : L2.St} {H : Hp} {a C : Addr} {ns : List Str} {vs : List V} {v : V} (c : ClsA K C ns) (i : Nat) (hv : Ev tv σ H v) (ha : Ev ta σ H (.ref a)) (h : Ins H a C ns vs) (hn : ns[i]? = some f) (hl : i < vs.length) (hz : vs.length ≤ 100)
    (k : ∀ H1 dx, Ex H H1 → H1 a = some (.ins C dx (ns.zip vs)) → D.nx σ (upd H1 a (.ins C dx (ns.zip (vs.set i v))))) : sFld K ta tv f D σ H := by
  refine hv H (Ex.refl H) _ fun H1 e1 => ha H1 e1 _ fun H2 e2 => ?_
  obtain ⟨dx, h⟩ := h
  have h2 := (e1.trans e2) _ _ h
  refine ⟨a, C, dx, _, rfl, h2, c.cl, c.no f (List.mem_of_getElem? hn), ?_, ?_⟩
  · rw [List.length_zip]
    have := Nat.min_le_right ns.length vs.length
    omega
  · rw [put_zip c.nd hn hl]
    exact k H2 dx (e1.trans e2) h2
theorem new_ins {K : PySem.W.Frag} {ta : TE} {tv : TE} {f : Str} {D : Ends} {σ : L2.St} {H : Hp} {a C : Addr} {ns : List Str} {vs : List V} {v : V} (c : ClsA K C ns) (hv : Ev tv σ H v) (ha : Ev ta σ H (.ref a)) (h : Ins H a C ns vs) (hn : ns[vs.length]? = some f) (hz : vs.length ≤ 100)
    (k : ∀ H1 dx, Ex H H1 → H1 a = some (.ins C dx (ns.zip vs)) → D.nx σ (upd H1 a (.ins C dx (ns.zip (vs ++ [v]))))) : sFld K ta tv f D σ H := by
  refine hv H (Ex.refl H) _ fun H1 e1 => ha H1 e1 _ fun H2 e2 => ?_
  obtain ⟨dx, h⟩ := h
  have h2 := (e1.trans e2) _ _ h
  refine ⟨a, C, dx, _, rfl, h2, c.cl, c.no f (List.mem_of_getElem? hn), ?_, ?_⟩
  · rw [List.length_zip]
    have := Nat.min_le_right ns.length vs.length
    omega
  · rw [put_new c.nd hn]
    exact k H2 dx (e1.trans e2) h2

/-! ### what evaluates to what, further -/
section
variable {K : PySem.W.Frag} {σ : L2.St} {H H' : Hp} {ta tb te : TE} {t u : TT} {x y z v : V}
theorem ev_fld {f : Str} {a : Addr} (h : Ev ta σ H (.ref a)) (r : Rf K H a f v) : Ev (tFld K ta f) σ H v := fun H1 e Q q =>
  h H1 e _ fun H2 e2 => by
    obtain ⟨C, dx, fs, h1, h2, h3, h4⟩ := r.mono (e.trans e2)
    exact ⟨a, C, dx, fs, v, rfl, h1, h2, h3, h4, q H2 e2⟩
/-- a promise that hands back the value z -/
theorem ev_cl {sp : Sp} {vs : List V} {E : XK} {ta : TA} (h : EvA ta σ H vs) (hs : SpV sp vs H z) : Ev (tCl sp E ta) σ H z := fun H1 e Q q =>
  h H1 e _ fun H2 e2 => hs H2 (e.trans e2) Q (fun H3 e3 => q H3 (e2.trans e3)) E
theorem el_cl {sp : Sp} {vs xs : List V} {E : XK} {ta : TA} (h : EvA ta σ H vs) (hs : SpL sp vs H xs) : EvL (tCl sp E ta) σ H xs := fun H1 e Q q =>
  h H1 e _ fun H2 e2 => hs H2 (e.trans e2) Q (fun p H3 hp e3 h3 => q p H3 (fresh_back e2 hp) (e2.trans e3) h3) E
theorem ev_me {C a : Addr} {m : Str} {sp : Sp} {vs : List V} {E : XK} {tr : TA} (h : Ev ta σ H (.ref a)) (hm : MOf H a C m) (hr : EvA tr σ H vs) (hs : SpV sp (.ref a :: vs) H z) : Ev (tMe C m sp E ta tr) σ H z := fun H1 e Q q =>
  h H1 e _ fun H2 e2 => by
    obtain ⟨dx, fs, h1, h2⟩ := hm.mono (e.trans e2)
    exact ⟨a, dx, fs, rfl, h1, h2, hr H2 (e.trans e2) _ fun H3 e3 => hs H3 ((e.trans e2).trans e3) Q (fun H4 e4 => q H4 ((e2.trans e3).trans e4)) E⟩
theorem el_me {C a : Addr} {m : Str} {sp : Sp} {vs xs : List V} {E : XK} {tr : TA} (h : Ev ta σ H (.ref a)) (hm : MOf H a C m) (hr : EvA tr σ H vs) (hs : SpL sp (.ref a :: vs) H xs) : EvL (tMe C m sp E ta tr) σ H xs := fun H1 e Q q =>
  h H1 e _ fun H2 e2 => by
    obtain ⟨dx, fs, h1, h2⟩ := hm.mono (e.trans e2)
    exact ⟨a, dx, fs, rfl, h1, h2, hr H2 (e.trans e2) _ fun H3 e3 => hs H3 ((e.trans e2).trans e3) Q (fun p H4 hp e4 h4 => q p H4 (fresh_back (e2.trans e3) hp) ((e2.trans e3).trans e4) h4) E⟩
/-- one argument that is a new list -/
theorem el_clL {sp : Sp} {xs ys : List V} {E : XK} (h : EvL te σ H xs) (hs : ∀ p H1, H1 p = some (.lst xs) → Ex H H1 → SpL sp [.ref p] H1 ys) : EvL (tCl sp E (tCons te tNil)) σ H ys := fun H1 e Q q =>
  h H1 e _ fun p H2 hp e2 h2 => hs p H2 h2 (e.trans e2) H2 (Ex.refl H2) Q (fun p' H3 hp' e3 h3 => q p' H3 (fresh_back e2 hp') (e2.trans e3) h3) E
/-- a built-in over a new list -/
theorem ev_cbL {r : List V → Hp → VK → Prop} {xs : List V} (h : EvL te σ H xs) (hr : ∀ p H1, H1 p = some (.lst xs) → Ex H H1 → RC r [.ref p] H1 z) : Ev (tCB r (tCons te tNil)) σ H z := fun H1 e Q q =>
  h H1 e _ fun p H2 hp e2 h2 => hr p H2 h2 (e.trans e2) H2 (Ex.refl H2) Q fun H3 e3 => q H3 (e2.trans e3)
/-- a built-in with keywords over a new list -/
theorem ev_kwL {r : List V → List V → Hp → VK → Prop} {tk : TA} {xs zs : List V} (h : EvL te σ H xs) (hz : EvA tk σ H zs) (hr : ∀ p H1, H1 p = some (.lst xs) → Ex H H1 → ∀ Q : VK, (∀ H2, Ex H1 H2 → Q z H2) → r [.ref p] zs H1 Q) : Ev (tCKw r (tCons te tNil) tk) σ H z := fun H1 e Q q =>
  h H1 e _ fun p H2 hp e2 h2 => hz H2 (e.trans e2) _ fun H3 e3 => hr p H3 (e3 p _ h2) ((e.trans e2).trans e3) Q fun H4 e4 => q H4 ((e2.trans e3).trans e4)
theorem et_val {b : Bool} (h : Ev te σ H (.bl b)) : EvT (tB te) σ H b := et_B h
theorem rv_cmpB {g : Int → Int → Bool} {i j : Int} : RV (rI0 fun i j => .bl (g i j)) (.int i) (.int j) H (.bl (g i j)) := rv_I0
theorem rv_isN {x : V} : RV (fun x y H Q => y = .non ∧ Q (.bl (decide (x = .non))) H) x .non H (.bl (decide (x = .non))) := fun H1 _ _ q => ⟨rfl, q H1 (Ex.refl H1)⟩
theorem rv_notN {x : V} : RV (fun x y H Q => y = .non ∧ Q (.bl (!decide (x = .non))) H) x .non H (.bl (!decide (x = .non))) := fun H1 _ _ q => ⟨rfl, q H1 (Ex.refl H1)⟩
theorem ev_isN (h : Ev ta σ H x) : Ev (tIsN ta) σ H (.bl (decide (x = .non))) := fun H1 e Q q => h H1 e _ fun H2 e2 => q H2 e2
theorem ev_notN (h : Ev ta σ H x) : Ev (tNotN ta) σ H (.bl (!decide (x = .non))) := fun H1 e Q q => h H1 e _ fun H2 e2 => q H2 e2
end

/-! ### what is walked -/
/-- n turns; the item at turn i -/
def ItEv (wi : TI) (σ : L2.St) (H : Hp) (n : Nat) (item : Nat → Hp → V → Hp → Prop) : Prop :=
  ∀ H0, Ex H H0 → ∀ R : It → Hp → Prop, (∀ J H1 G Y, Ex H0 H1 → Walk J n G Y → (∀ H', Ex H1 H' → G H') → (∀ i H' x H'', i < n → Ex H1 H' → Y i H' x H'' → item i H' x H'') → R J H1) → wi σ H0 R
/-- the i-th of xs -/
def itAt (xs : List V) : Nat → Hp → V → Hp → Prop := fun i H' x H'' => H'' = H' ∧ xs[i]? = some x
section
variable {K : PySem.W.Frag} {σ : L2.St} {H : Hp} {te tl tm : TE} {ta : TA}
theorem it_list {a : Addr} {xs : List V} {n : Nat} (h : Ev tl σ H (.ref a)) (hx : SqL K H a xs) (hn : xs.length = n) : ItEv (iList K tl) σ H n (itAt xs) := fun H0 e R r =>
  h H0 e _ fun H1 e1 => ⟨a, rfl, ⟨xs, ex_l (e.trans e1) hx⟩, by subst hn; exact r _ H1 _ _ e1 walk_list (fun H' e' => ex_l ((e.trans e1).trans e') hx) fun i H' x H'' _ _ y => y⟩
theorem it_listN {xs : List V} {n : Nat} (h : EvL tl σ H xs) (hn : xs.length = n) : ItEv (iList K tl) σ H n (itAt xs) := fun H0 e R r =>
  h H0 e _ fun p H1 hp e1 h1 => ⟨p, rfl, ⟨xs, sq_of h1⟩, by subst hn; exact r _ H1 _ _ e1 walk_list (fun H' e' => sq_of (e' p _ h1)) fun i H' x H'' _ _ y => y⟩
theorem it_range1 {n : Nat} (h : EvA ta σ H [.int (n : Int)]) (hn : n ≤ 100000) : ItEv (iRng1 ta) σ H n (fun i H' x H'' => H'' = H' ∧ x = .int (i : Nat)) := fun H0 e R r =>
  h H0 e _ fun H1 e1 => ⟨(n : Int), rfl, by omega, by omega, by
    have e2 : ((n : Int)).toNat = n := by omega
    rw [e2]
    refine r _ H1 _ _ e1 walk_range (fun _ _ => trivial) fun i H' x H'' _ _ y => ⟨y.1, y.2.trans ?_⟩
    show V.int (0 + (i : Int)) = _
    rw [Int.zero_add]⟩
theorem it_range2 {lo : Int} {n : Nat} {hi : Int} (h : EvA ta σ H [.int lo, .int hi]) (hb : 0 ≤ lo ∧ lo ≤ 100000 ∧ 0 ≤ hi ∧ hi ≤ 100000) (hn : (hi - lo).toNat = n) : ItEv (iRng2 ta) σ H n (fun i H' x H'' => H'' = H' ∧ x = .int (lo + (i : Nat))) := fun H0 e R r =>
  h H0 e _ fun H1 e1 => ⟨lo, hi, rfl, ⟨by omega, by omega, by omega, by omega⟩, by
    rw [hn]
    exact r _ H1 _ _ e1 walk_range (fun _ _ => trivial) fun i H' x H'' _ _ y => y⟩
/-- neighbours: xs beside another list -/
def itPair (xs ys : List V) : Nat → Hp → V → Hp → Prop := fun i H' v H'' => ∃ T x y, v = .ref T ∧ H' T = none ∧ H'' = upd H' T (.tup [x, y]) ∧ xs[i]? = some x ∧ ys[i]? = some y
theorem it_zip {a : Addr} {xs ys : List V} {n : Nat} (h : Ev tl σ H (.ref a)) (hx : SqL K H a xs) (hm : EvL tm σ H ys) (hn : n = min xs.length ys.length) : ItEv (iZip K (tCons tl (tCons tm tNil))) σ H n (itPair xs ys) := fun H0 e R r =>
  h H0 e _ fun H1 e1 => hm H1 (e.trans e1) _ fun p H2 hp e2 h2 => ⟨a, p, xs, ys, rfl, ex_l ((e.trans e1).trans e2) hx, sq_of h2,
    r _ H2 _ _ (e1.trans e2) (walk_zip hn) (fun H' e' => ⟨ex_l (((e.trans e1).trans e2).trans e') hx, sq_of (e' p _ h2)⟩) fun i H' x H'' _ _ y => y⟩
end
/-- a comprehension over what is walked: the list's items are told by a list l beside it -/
theorem el_comp {α : Type} {wi : TI} {g : TG} {t : TT} {te : TE} {vs : List Nat} {σ : L2.St} {H : Hp} {item : Nat → Hp → V → Hp → Prop} (l : List α) (P : α → Bool) (F : α → V) (hz : l.length ≤ 40000) (hw : ItEv wi σ H l.length item)
    (hs : ∀ i a x H' H'', l[i]? = some a → Ex H H' → item i H' x H'' → Ex H' H'' ∧ ∃ σ2, (∀ Q : L2.St → Hp → Prop, Q σ2 H'' → g x (wipe σ vs) H'' Q) ∧ wipe σ2 vs = wipe σ vs ∧ EvT t σ2 H'' (P a) ∧ (P a = true → Ev te σ2 H'' (F a))) :
    EvL (tLc wi g t te vs) σ H ((l.filter P).map F) := by
  intro H0 e0 Q q
  refine hw H0 e0 _ fun J H1 G Y e1 W hG hY => ?_
  intro D hD
  refine lc_it W (fun i H' => H1 D = none ∧ Ex H1 H' ∧ H' D = some (.lst (((l.take i).filter P).map F))) ⟨hD, Ex.new hD, upd_same⟩ (fun i H' _ p => hG H' p.2.1) (fun i x H' H'' hi p y => ?_) (fun H' p => ?_)
  · obtain ⟨p1, p2, p3⟩ := p
    obtain ⟨a, ha⟩ : ∃ a, l[i]? = some a := ⟨l[i], by simp [hi]⟩
    obtain ⟨e2, σ2, h1, h2, h3, h4⟩ := hs i a x H' H'' ha ((e0.trans e1).trans p2) (hY i H' x H'' hi p2 y)
    refine h1 _ ⟨h2, ?_⟩
    have et : l.take (i + 1) = l.take i ++ [a] := by rw [List.take_add_one, ha]; rfl
    refine h3 H'' (Ex.refl H'') _ fun H3 e3 => ?_
    cases hP : P a with
    | true =>
      refine iteT ?_
      refine h4 hP H3 e3 _ fun H4 e4 => ⟨((l.take i).filter P).map F, e4 D _ (e3 D _ (e2 D _ p3)), ?_, p1, Ex.mut (((p2.trans e2).trans e3).trans e4) p1, ?_⟩
      · rw [List.length_map]
        have a1 := List.length_filter_le P (l.take i)
        have a2 := List.length_take_le i l
        exact sz_lt (by omega)
      · rw [et, List.filter_append, List.map_append, List.filter_cons, if_pos hP]
        exact upd_same
    | false =>
      refine iteF ⟨p1, (p2.trans e2).trans e3, ?_⟩
      rw [et, List.filter_append, List.map_append, List.filter_cons, if_neg (by rw [hP]; decide)]
      show H3 D = some (.lst (_ ++ []))
      rw [List.append_nil]
      exact e3 D _ (e2 D _ p3)
  · obtain ⟨p1, p2, p3⟩ := p
    rw [List.take_length] at p3
    exact q D H' (fresh_back e1 p1) (e1.trans p2) p3
/-- the same where nothing is asked of the items -/
theorem el_compA {α : Type} {wi : TI} {g : TG} {te : TE} {vs : List Nat} {σ : L2.St} {H : Hp} {item : Nat → Hp → V → Hp → Prop} (l : List α) (F : α → V) (hz : l.length ≤ 40000) (hw : ItEv wi σ H l.length item)
    (hs : ∀ i a x H' H'', l[i]? = some a → Ex H H' → item i H' x H'' → Ex H' H'' ∧ ∃ σ2, (∀ Q : L2.St → Hp → Prop, Q σ2 H'' → g x (wipe σ vs) H'' Q) ∧ wipe σ2 vs = wipe σ vs ∧ Ev te σ2 H'' (F a)) :
    EvL (tLc wi g tYes te vs) σ H (l.map F) := by
  have h := el_comp (t := tYes) l (fun _ => true) F hz hw fun i a x H' H'' ha e hi => by
    obtain ⟨e2, σ2, h1, h2, h3⟩ := hs i a x H' H'' ha e hi
    exact ⟨e2, σ2, h1, h2, fun H1 _ _ q => q H1 (Ex.refl H1), fun _ => h3⟩
  rw [List.filter_eq_self.mpr fun _ _ => rfl] at h
  exact h
/-- a value of which G is true -/
def EvG (te : TE) (σ : L2.St) (H : Hp) (G : V → Hp → Prop) : Prop := ∀ H1, Ex H H1 → ∀ Q : VK, (∀ v H2, Ex H1 H2 → G v H2 → Q v H2) → te σ H1 Q
/-- a new list of which L is true -/
def EvLG (te : TE) (σ : L2.St) (H : Hp) (L : List V → Hp → Prop) : Prop := ∀ H1, Ex H H1 → ∀ Q : VK, (∀ xs p H2, H1 p = none → Ex H1 H2 → H2 p = some (.lst xs) → L xs H2 → Q (.ref p) H2) → te σ H1 Q
/-- G stands while no object but lists changes -/
def Firm (G : Hp → Prop) : Prop := ∀ H H' : Hp, (∀ b o, H b = some o → (∀ xs, o ≠ .lst xs) → H' b = some o) → G H → G H'
theorem Firm.ex {G : Hp → Prop} (f : Firm G) {H H' : Hp} (e : Ex H H') (g : G H) : G H' := f H H' (fun b o h _ => e b o h) g
theorem Firm.upd {G : Hp → Prop} (f : Firm G) {H : Hp} {d : Addr} {xs ys : List V} (h : H d = some (.lst xs)) (g : G H) : G (upd H d (.lst ys)) := f H _ (fun b o hb n => by
  rw [upd_ne (fun z => by subst z; rw [h] at hb; exact n xs (Option.some.inj hb).symm)]
  exact hb) g
/-- a comprehension whose elements are new objects -/
theorem el_compG {α : Type} {wi : TI} {g : TG} {te : TE} {vs : List Nat} {σ : L2.St} {H : Hp} {item : Nat → Hp → V → Hp → Prop} (l : List α) (G : α → V → Hp → Prop) (hf : ∀ a v, Firm (G a v)) (hz : l.length ≤ 40000) (hw : ItEv wi σ H l.length item)
    (hs : ∀ i a x H' H'', l[i]? = some a → Ex H H' → item i H' x H'' → Ex H' H'' ∧ ∃ σ2, (∀ Q : L2.St → Hp → Prop, Q σ2 H'' → g x (wipe σ vs) H'' Q) ∧ wipe σ2 vs = wipe σ vs ∧ EvG te σ2 H'' (G a)) :
    EvLG (tLc wi g tYes te vs) σ H (fun xs H2 => xs.length = l.length ∧ ∀ (i : Nat) v a, xs[i]? = some v → l[i]? = some a → G a v H2) := by
  intro H0 e0 Q q
  refine hw H0 e0 _ fun J H1 G' Y e1 W hG hY => ?_
  intro D hD
  refine lc_it W (fun i H' => H1 D = none ∧ Ex H1 H' ∧ ∃ xs, H' D = some (.lst xs) ∧ xs.length = i ∧ ∀ (j : Nat) v a, xs[j]? = some v → l[j]? = some a → G a v H') ⟨hD, Ex.new hD, [], upd_same, rfl, fun j v a h => by simp at h⟩ (fun i H' _ p => hG H' p.2.1) (fun i x H' H'' hi p y => ?_) (fun H' p => ?_)
  · obtain ⟨p1, p2, xs, p3, p4, p5⟩ := p
    obtain ⟨a, ha⟩ : ∃ a, l[i]? = some a := ⟨l[i], by simp [hi]⟩
    obtain ⟨e2, σ2, h1, h2, h4⟩ := hs i a x H' H'' ha (e0.trans (e1.trans p2)) (hY i H' x H'' hi p2 y)
    refine h1 _ ⟨h2, ?_⟩
    have ty : EvT tYes σ2 H'' true := fun H1 _ _ q => q H1 (Ex.refl H1)
    refine ty H'' (Ex.refl H'') _ fun H3 e3 => ?_
    refine iteT ?_
    refine h4 H3 e3 _ fun v H4 e34 hv => ?_
    have e4 := e3.trans e34
    refine ⟨xs, e4 D _ (e2 D _ p3), sz_lt (by omega), p1, Ex.mut ((p2.trans e2).trans e4) p1, xs ++ [v], upd_same, by rw [List.length_append, p4]; rfl, fun j v' a' hj hl => ?_⟩
    have hD4 := e4 D _ (e2 D _ p3)
    by_cases c : j < xs.length
    · rw [List.getElem?_append_left c] at hj
      exact (hf a' v').upd hD4 ((hf a' v').ex (e2.trans e4) (p5 j v' a' hj hl))
    · have cj : j = i := by
        have := (List.getElem?_eq_some_iff.mp hj).1
        rw [List.length_append] at this
        simp at this
        omega
      subst cj
      rw [List.getElem?_append_right (by omega), p4, Nat.sub_self] at hj
      have ev : v = v' := Option.some.inj hj
      rw [ha] at hl
      have ea : a = a' := Option.some.inj hl
      subst ev; subst ea
      exact (hf a v).upd hD4 hv
  · obtain ⟨p1, p2, xs, p3, p4, p5⟩ := p
    exact q xs D H' (fresh_back e1 p1) (e1.trans p2) p3 ⟨p4, p5⟩
/-- a new tuple, as a value -/
theorem eg_tup {te : TE} {σ : L2.St} {H : Hp} {xs : List V} (h : EvU te σ H xs) : EvG te σ H (fun v H2 => ∃ t, v = .ref t ∧ H2 t = some (.tup xs)) := fun H1 e Q q => h H1 e Q fun p H2 _ e2 h2 => q (.ref p) H2 e2 ⟨p, rfl, h2⟩
theorem firm_tup {v : V} {xs : List V} : Firm fun H => ∃ t, v = .ref t ∧ H t = some (.tup xs) := fun H H' k ⟨t, e, h⟩ => ⟨t, e, k t _ h fun _ q => by cases q⟩
/-- .. over a dict that is locked meanwhile -/
theorem el_lock {t : TE} {σ : L2.St} {H : Hp} {d : Addr} {u : HO} {xs : List V} (hd : H d = some u) (mu : Mut (some u)) (h : ∀ od, EvL t σ (upd H d (.frz od u)) xs) : EvL (tLockE t) σ H xs := by
  intro H1 e Q q
  have h1 := e d u hd
  refine ⟨d, u, h1, mu, fun od => h od (upd H1 d (.frz od u)) (fun b o hb => ?_) _ fun p H2 hp e2 h2 => ?_⟩
  · by_cases c : b = d
    · subst c
      rw [upd_same] at hb ⊢
      exact hb
    · rw [upd_ne c] at hb ⊢
      exact e b o hb
  · have np : p ≠ d := fun z => by rw [z, upd_same] at hp; cases hp
    rw [upd_ne np] at hp
    refine ⟨e2 d _ upd_same, q p _ hp (fun b o hb => ?_) (by rw [upd_ne np]; exact h2)⟩
    by_cases c : b = d
    · subst c
      rw [upd_same, ← hb, h1]
    · rw [upd_ne c]
      exact e2 b o (by rw [upd_ne c]; exact hb)
/-- a for over what is walked -/
theorem s_for {wi : TI} {g : TG} {tu : TS} {D : Ends} {σ : L2.St} {H : Hp} {n : Nat} {item : Nat → Hp → V → Hp → Prop} (hw : ItEv wi σ H n item) (Pv : Nat → L2.St → Hp → Prop) (h0 : ∀ H1, Ex H H1 → Pv 0 σ H1)
    (hk : ∀ i σ' H', Pv i σ' H' → True) (hs : ∀ H0, Ex H H0 → ∀ i x σ' H' H'', i < n → Pv i σ' H' → Ex H0 H' → item i H' x H'' → g x σ' H'' fun σ2 H2 => tu { D with nx := fun σ3 H3 => Pv (i + 1) σ3 H3 ∧ Ex H0 H3, ct := fun σ3 H3 => Pv (i + 1) σ3 H3 ∧ Ex H0 H3, bk := D.nx } σ2 H2)
    (hd : ∀ σ' H', Pv n σ' H' → Ex H H' → D.nx σ' H') : tFor wi g tu D σ H := by
  refine hw H (Ex.refl H) _ fun J H1 G Y e1 W hG hY => ?_
  refine for_it W (fun i σ' H' => Pv i σ' H' ∧ Ex H1 H') ⟨h0 H1 e1, Ex.refl H1⟩ (fun i σ' H' _ p => hG H' p.2) (fun i x σ' H' H'' hi p y => ?_) fun σ' H' p => hd σ' H' p.1 (e1.trans p.2)
  exact hs H1 e1 i x σ' H' H'' hi p.1 p.2 (hY i H' x H'' hi p.2 y)
/-- x = f(a new list), f a built-in -/
theorem q_asgCB {r : List V → Hp → VK → Prop} {te : TE} {i : Nat} {tz : TS} {D : Ends} {σ : L2.St} {H : Hp} {L : List V → Hp → Prop} (h : EvLG te σ H L)
    (k : ∀ xs p H1, H p = none → Ex H H1 → H1 p = some (.lst xs) → L xs H1 → r [.ref p] H1 fun v H2 => tz D (σ.set i (some v)) H2) : tSeq (tAsg (tCB r (tCons te tNil)) (gName i)) tz D σ H := h H (Ex.refl H) _ k
/-- a promise that hands back a value of which G is true -/
def SpG (sp : Sp) (vs : List V) (H : Hp) (G : V → Hp → Prop) : Prop := ∀ H1, Ex H H1 → ∀ Q : VK, (∀ v H2, Ex H1 H2 → G v H2 → Q v H2) → ∀ E : XK, sp vs H1 Q E
theorem eg_cl {σ : L2.St} {H : Hp} {sp : Sp} {vs : List V} {E : XK} {ta : TA} {G : V → Hp → Prop} (h : EvA ta σ H vs) (hs : SpG sp vs H G) : EvG (tCl sp E ta) σ H G := fun H1 e Q q =>
  h H1 e _ fun H2 e2 => hs H2 (e.trans e2) Q (fun v H3 e3 g => q v H3 (e2.trans e3) g) E
theorem s_asgG {te : TE} {i : Nat} {D : Ends} {σ : L2.St} {H : Hp} {G : V → Hp → Prop} (h : EvG te σ H G) (k : ∀ v H1, Ex H H1 → G v H1 → D.nx (σ.set i (some v)) H1) : tAsg te (gName i) D σ H := h H (Ex.refl H) _ k
theorem q_asgG {te : TE} {i : Nat} {tz : TS} {D : Ends} {σ : L2.St} {H : Hp} {G : V → Hp → Prop} (h : EvG te σ H G) (k : ∀ v H1, Ex H H1 → G v H1 → tz D (σ.set i (some v)) H1) : tSeq (tAsg te (gName i)) tz D σ H := h H (Ex.refl H) _ k
theorem s_retG {te : TE} {D : Ends} {σ : L2.St} {H : Hp} {G : V → Hp → Prop} (h : EvG te σ H G) (k : ∀ v H1, Ex H H1 → G v H1 → D.rt v H1) : tRet te D σ H := h H (Ex.refl H) _ k
/-- x = C(..) -/
theorem q_asgMk {C : Addr} {sp : Sp} {E : XK} {t : TA} {i : Nat} {tz : TS} {D : Ends} {σ : L2.St} {H : Hp} (k : t σ H fun vs H1 => ∀ x dx, H1 x = none → H1 dx = none → dx ≠ x → sp (.ref x :: vs) (upd (upd H1 dx (.own x)) x (.ins C dx [])) (fun v H2 => v = .non ∧ tz D (σ.set i (some (.ref x))) H2) E) : tSeq (tAsg (tMk C sp E t) (gName i)) tz D σ H := k
theorem q_for {wi : TI} {g : TG} {tu tz : TS} {D : Ends} {σ : L2.St} {H : Hp} {n : Nat} {item : Nat → Hp → V → Hp → Prop} (hw : ItEv wi σ H n item) (Pv : Nat → L2.St → Hp → Prop) (h0 : ∀ H1, Ex H H1 → Pv 0 σ H1)
    (hs : ∀ H0, Ex H H0 → ∀ i x σ' H' H'', i < n → Pv i σ' H' → Ex H0 H' → item i H' x H'' → g x σ' H'' fun σ2 H2 => tu { D with nx := fun σ3 H3 => Pv (i + 1) σ3 H3 ∧ Ex H0 H3, ct := fun σ3 H3 => Pv (i + 1) σ3 H3 ∧ Ex H0 H3, bk := tz D } σ2 H2)
    (hd : ∀ σ' H', Pv n σ' H' → Ex H H' → tz D σ' H') : tSeq (tFor wi g tu) tz D σ H := s_for (D := { D with nx := tz D }) hw Pv h0 (fun _ _ _ _ => trivial) hs hd
/-- the text by places -/
def top (i : Nat) : Stmt := PySem.Challenge.pw_dutyrules_s01_answers.main.body.getD i (.Pass ⟨0, 0, 0, 0⟩)
end Dw
namespace Dw
open PySem PySem.Spec PyProof.Rows L2 Evl

/-! ### the program's classes: names in the order of their first stores -/
def nRules : List Str := ["long", "work", "drive", "rest", "ahead", "behind", "change", "least", "twice"]
def nPiece : List Str := ["begin", "end", "first", "last"]
def nDepot : List Str := ["rules", "breaks", "homes", "ways", "pieces"]
def nDuty : List Str := ["numbers", "home", "begin", "end", "pay", "work", "driven", "wrong"]
def nPlans : List Str := ["duties", "whole", "pays", "ways"]
def nDesk : List Str := ["depot"]
/-- where the classes stand -/
structure Cs where
  R : Addr
  P : Addr
  D : Addr
  U : Addr
  L : Addr
  E : Addr
  K : Addr
  Ei : Addr
/-- what the top has written -/
structure Txt (K : PySem.W.Frag) (mg : Str → Option Value) (Z : Cs) : Prop where
  cR : ClsA K Z.R nRules
  cP : ClsA K Z.P nPiece
  cD : ClsA K Z.D nDepot
  cU : ClsA K Z.U nDuty
  cL : ClsA K Z.L nPlans
  cK : ClsA K Z.K nDesk
  low : PySem.LowX.LowTxt K mg Z.E Z.Ei
  bMin : mg "min" = none
  bMax : mg "max" = none
  bSum : mg "sum" = none
  bZip : mg "zip" = none
  bLen : mg "len" = none
  bAny : mg "any" = none
  bAll : mg "all" = none
  bList : mg "list" = none
  bRange : mg "range" = none
  bSorted : mg "sorted" = none
  kPlaces : ∃ t, mg "MANY_PLACES" = some (.int 20 t)
  kRight : ∃ t, mg "RIGHT" = some (.int 0 t)
  kGap : ∃ t, mg "NO_GAP" = some (.int 1 t)
  kHome : ∃ t, mg "NO_HOME" = some (.int 2 t)
  kLong : ∃ t, mg "TOO_LONG" = some (.int 3 t)
  kWork : ∃ t, mg "TOO_MUCH_WORK" = some (.int 4 t)
  kDriven : ∃ t, mg "TOO_MUCH_DRIVEN" = some (.int 5 t)
  kCheck : ∃ t, mg "CHECK" = some (.int 5 t)
  kBad : ∃ t, mg "BAD" = some (.int (-1) t)
  kNone : ∃ t, mg "NONE" = some (.int (-2) t)
  kMany : ∃ t, mg "TOO_MANY" = some (.int (-5) t)
  kNoWay : ∃ t, mg "NO_WAY" = some (.int (-6) t)
  kMost : ∃ t, mg "MOST" = some (.int 100000 t)
  kWays : ∃ t, mg "MOST_WAYS" = some (.int 40 t)
  kPieces : ∃ t, mg "MOST_PIECES" = some (.int 7 t)
  tMany : ∃ m, mg "MANY" = some (.ref m) ∧ ∀ H, SqT K H m (([9, 3, 3, 4, 1, 0, 0, 0] : List Int).map V.int)
  tFirst : ∃ m, mg "FIRST_RULES" = some (.ref m) ∧ ∀ H, SqT K H m (([600, 480, 240, 30, 10, 10, 5, 0, 100000] : List Int).map V.int)

/-! ### how the depot lies in the heap -/
/-- a number -/
abbrev nV (n : Nat) : V := .int (n : Int)
/-- a number or None -/
def oV : Option Nat → V
  | none => .non
  | some n => .int (n : Int)
def RulesAt (Z : Cs) (H : Hp) (a : Addr) (r : Sw82.Rules) : Prop := Ins H a Z.R nRules [nV r.long, nV r.work, nV r.drive, nV r.rest, nV r.on, nV r.off, nV r.change, nV r.least, nV r.twice]
def PieceAt (Z : Cs) (H : Hp) (a : Addr) (x : Sw82.Work) : Prop := Ins H a Z.P nPiece [nV x.from_, nV x.to, nV x.start, nV x.halt_]
def WayAt (H : Hp) (t : Addr) (x : Nat × Nat × Nat) : Prop := H t = some (.tup [nV x.1, nV x.2.1, nV x.2.2])
/-- the i-th address bears the i-th thing -/
def Each {α : Type} (G : Addr → α → Prop) (ts : List Addr) (xs : List α) : Prop := ts.length = xs.length ∧ ∀ (i : Nat) (t : Addr) (x : α), ts[i]? = some t → xs[i]? = some x → G t x
/-- the truths told of places, against the places with a break -/
structure BrkRel (kvs : List (Key × V)) (br : List Nat) : Prop where
  nd : (kvs.map (·.1)).Nodup
  ks : ∀ kv ∈ kvs, ∃ k : Nat, k < 20 ∧ kv.1 = .inl (k : Int)
  get : ∀ b : Nat, (valV kvs (.inl (b : Int))).getD (.bl false) = .bl (br.contains b)
structure Good (p : Sw82.Plan) : Prop where
  ways : p.ways.length ≤ 40
  works : p.works.length ≤ 7
  homes : p.homes.Nodup
  small : ∀ h ∈ p.homes, h < 20
  ok : ∀ x ∈ p.works, Dm.okW x
/-- where a depot's parts stand: rules, breaks, homes, ways, pieces -/
structure DA where
  r : Addr
  b : Addr
  h : Addr
  w : Addr
  p : Addr
structure DepotAt (Z : Cs) (H : Hp) (d : Addr) (A : DA) (p : Sw82.Plan) : Prop where
  ins : Ins H d Z.D nDepot [.ref A.r, .ref A.b, .ref A.h, .ref A.w, .ref A.p]
  rul : RulesAt Z H A.r p.rules
  brk : ∃ kvs, H A.b = some (.dK kvs) ∧ BrkRel kvs p.breaks
  hom : H A.h = some (.lst (p.homes.map nV))
  way : ∃ ts : List Addr, H A.w = some (.lst (ts.map V.ref)) ∧ Each (WayAt H) ts p.ways
  pcs : ∃ ts : List Addr, H A.p = some (.lst (ts.map V.ref)) ∧ Each (PieceAt Z H) ts p.works
  wh : A.w ≠ A.h
  wp : A.w ≠ A.p
  hp : A.h ≠ A.p
  good : Good p
def Dep (Z : Cs) (H : Hp) (d : Addr) (p : Sw82.Plan) : Prop := ∃ A, DepotAt Z H d A p
theorem Each.mono {α : Type} {G G' : Addr → α → Prop} {ts : List Addr} {xs : List α} (h : Each G ts xs) (q : ∀ t x, G t x → G' t x) : Each G' ts xs := ⟨h.1, fun i t x a b => q t x (h.2 i t x a b)⟩
theorem PieceAt.mono {Z : Cs} {H H' : Hp} {a : Addr} {x : Sw82.Work} (e : Ex H H') (h : PieceAt Z H a x) : PieceAt Z H' a x := Ins.mono e h
theorem WayAt.mono {H H' : Hp} {a : Addr} {x : Nat × Nat × Nat} (e : Ex H H') (h : WayAt H a x) : WayAt H' a x := e _ _ h
theorem DepotAt.mono {Z : Cs} {H H' : Hp} {d : Addr} {A : DA} {p : Sw82.Plan} (e : Ex H H') (h : DepotAt Z H d A p) : DepotAt Z H' d A p where
  ins := h.ins.mono e
  rul := Ins.mono e h.rul
  brk := let ⟨kvs, a, b⟩ := h.brk; ⟨kvs, e _ _ a, b⟩
  hom := e _ _ h.hom
  way := let ⟨ts, a, b⟩ := h.way; ⟨ts, e _ _ a, b.mono fun _ _ q => WayAt.mono e q⟩
  pcs := let ⟨ts, a, b⟩ := h.pcs; ⟨ts, e _ _ a, b.mono fun _ _ q => PieceAt.mono e q⟩
  wh := h.wh
  wp := h.wp
  hp := h.hp
  good := h.good
theorem Dep.mono {Z : Cs} {H H' : Hp} {d : Addr} {p : Sw82.Plan} (e : Ex H H') (h : Dep Z H d p) : Dep Z H' d p := let ⟨A, h⟩ := h; ⟨A, h.mono e⟩
theorem Dep.good {Z : Cs} {H : Hp} {d : Addr} {p : Sw82.Plan} (h : Dep Z H d p) : Good p := let ⟨_, h⟩ := h; h.good

theorem map_at {α β : Type} {f : α → β} {l : List α} {i : Nat} {y : β} (h : (l.map f)[i]? = some y) : ∃ x, l[i]? = some x ∧ y = f x := by
  rw [List.getElem?_map] at h
  cases e : l[i]? with
  | none => rw [e] at h; cases h
  | some x => rw [e] at h; exact ⟨x, rfl, (Option.some.inj h).symm⟩
theorem map_nV (l : List Nat) : (l.map fun n : Nat => (n : Int)).map V.int = l.map nV := by rw [List.map_map]; rfl
theorem dec_n (a b : Nat) : decide (nV a = nV b) = decide (a = b) := by
  by_cases h : a = b
  · subst h; simp
  · rw [decide_eq_false h]
    refine decide_eq_false fun q => h ?_
    injection q with q
    omega

/-! ### few different numbers below n -/
theorem few : ∀ (n : Nat) (l : List Nat), l.Nodup → (∀ x ∈ l, x < n) → l.length ≤ n
  | 0, [], _, _ => Nat.le_refl _
  | 0, x :: l, _, h => absurd (h x List.mem_cons_self) (Nat.not_lt_zero x)
  | n + 1, l, hd, h => by
    have h1 : (l.filter fun x => decide (x ≠ n)).length ≤ n := few n _ (hd.filter _) fun x hx => by
      obtain ⟨a, b⟩ := List.mem_filter.mp hx
      have := h x a
      have : x ≠ n := of_decide_eq_true b
      omega
    have h2 : ∀ l : List Nat, l.Nodup → l.length ≤ (l.filter fun x => decide (x ≠ n)).length + 1 := by
      intro l
      induction l with
      | nil => intro _; exact Nat.zero_le _
      | cons y r ih =>
        intro hd
        have hd' := List.nodup_cons.mp hd
        by_cases c : y = n
        · subst c
          have e : (r.filter fun x => decide (x ≠ y)) = r := List.filter_eq_self.mpr fun x hx => decide_eq_true fun z => hd'.1 (by rw [← z]; exact hx)
          rw [List.filter_cons, if_neg (by simp), e]
          exact Nat.le_refl _
        · rw [List.filter_cons, if_pos (by simpa using c), List.length_cons, List.length_cons]
          exact Nat.succ_le_succ (ih hd'.2)
    have := h2 l hd
    omega
theorem Good.homes_few {p : Sw82.Plan} (g : Good p) : p.homes.length ≤ 20 := few 20 _ g.homes g.small

/-! ### the promises of the defs that only read -/
/-- Depot.minutes -/
def spMin (Z : Cs) : Sp := fun vs H Q _ => ∃ (d : Addr) (a b : Nat) (p : Sw82.Plan), vs = [.ref d, nV a, nV b] ∧ Dep Z H d p ∧ RetV (oV (p.way a b)) H Q
/-- Depot.can_break -/
def spCan (Z : Cs) : Sp := fun vs H Q _ => ∃ (d : Addr) (a : Nat) (p : Sw82.Plan), vs = [.ref d, nV a] ∧ Dep Z H d p ∧ RetV (.bl (p.breaks.contains a)) H Q
/-- Depot.in_order -/
def spOrd (K : PySem.W.Frag) (Z : Cs) : Sp := fun vs H Q _ => ∃ (d l : Addr) (ns : List Nat) (p : Sw82.Plan), vs = [.ref d, .ref l] ∧ Dep Z H d p ∧ SqL K H l (ns.map nV) ∧ ns.Nodup ∧ (∀ n ∈ ns, n < p.works.length) ∧ ns.length ≤ 100 ∧ RetL ((p.inOrder ns).map nV) H Q
/-- gap_between -/
def spGap (Z : Cs) : Sp := fun vs H Q _ => ∃ (d a b : Addr) (x y : Sw82.Work) (p : Sw82.Plan), vs = [.ref d, .ref a, .ref b] ∧ Dep Z H d p ∧ PieceAt Z H a x ∧ PieceAt Z H b y ∧ RetV (oV (p.gap x y)) H Q
/-- is_break -/
def spBrk (Z : Cs) : Sp := fun vs H Q _ => ∃ (d a b : Addr) (x y : Sw82.Work) (p : Sw82.Plan), vs = [.ref d, .ref a, .ref b] ∧ Dep Z H d p ∧ PieceAt Z H a x ∧ PieceAt Z H b y ∧ RetV (.bl (p.breaks_ x y)) H Q
/-- None, or a tuple of xs -/
def TupO (H : Hp) (v : V) : Option (List V) → Prop
  | none => v = .non
  | some xs => ∃ t, v = .ref t ∧ H t = some (.tup xs)
theorem TupO.mono {H H' : Hp} (e : Ex H H') {v : V} {o : Option (List V)} (h : TupO H v o) : TupO H' v o := by
  cases o with
  | none => exact h
  | some xs =>
    obtain ⟨t, h1, h2⟩ := h
    exact ⟨t, h1, e _ _ h2⟩
def RetT (o : Option (List V)) (H : Hp) (Q : VK) : Prop := ∀ v H2, Ex H H2 → TupO H2 v o → Q v H2
def tri (h : Nat × Nat × Nat) : List V := [nV h.1, nV h.2.1, nV h.2.2]
def both (m n : Option Nat) : Option (List V) := match m, n with
  | some m, some n => some [nV m, nV n]
  | _, _ => none
/-- home_ways -/
def spHw (Z : Cs) : Sp := fun vs H Q _ => ∃ (d : Addr) (h a b : Nat) (p : Sw82.Plan), vs = [.ref d, nV h, nV a, nV b] ∧ Dep Z H d p ∧ RetT (both (p.way h a) (p.way b h)) H Q
/-- best_home -/
def spHome (Z : Cs) : Sp := fun vs H Q _ => ∃ (d : Addr) (a b : Nat) (p : Sw82.Plan), vs = [.ref d, nV a, nV b] ∧ Dep Z H d p ∧ RetT ((p.home a b).map tri) H Q
/-- a list of pieces, read -/
def PcsAt (K : PySem.W.Frag) (Z : Cs) (H : Hp) (l : Addr) (ws : List Sw82.Work) : Prop := ∃ ts : List Addr, SqL K H l (ts.map V.ref) ∧ Each (PieceAt Z H) ts ws
theorem PcsAt.mono {K : PySem.W.Frag} {Z : Cs} {H H' : Hp} {l : Addr} {ws : List Sw82.Work} (e : Ex H H') (h : PcsAt K Z H l ws) : PcsAt K Z H' l ws := let ⟨ts, a, b⟩ := h; ⟨ts, ex_l e a, b.mono fun _ _ q => PieceAt.mono e q⟩
/-- driven_together -/
def spDrv (K : PySem.W.Frag) (Z : Cs) : Sp := fun vs H Q _ => ∃ (d l : Addr) (ws : List Sw82.Work) (p : Sw82.Plan), vs = [.ref d, .ref l] ∧ Dep Z H d p ∧ PcsAt K Z H l ws ∧ ws ≠ [] ∧ ws.length ≤ 100 ∧ (∀ x ∈ ws, Dm.okW x) ∧ RetV (nV (p.driveFrom 0 ws)) H Q
/-- pay_for -/
def payZ (r : Sw82.Rules) (m : Int) : Int :=
  let q := m + (if m - (r.twice : Int) > 0 then m - r.twice else 0)
  if q > (r.least : Int) then q else r.least
def spPay (Z : Cs) : Sp := fun vs H Q _ => ∃ (a : Addr) (r : Sw82.Rules) (m : Int), vs = [.ref a, .int m] ∧ RulesAt Z H a r ∧ RetV (.int (payZ r m)) H Q
/-- Piece.length -/
def spLen (Z : Cs) : Sp := fun vs H Q _ => ∃ (a : Addr) (x : Sw82.Work), vs = [.ref a] ∧ PieceAt Z H a x ∧ RetV (.int ((x.halt_ : Int) - x.start)) H Q
end Dw
namespace Dw
open PySem PySem.Spec PyProof.Rows L2 Evl
abbrev sMin : Stmt := inClass (top 4) 2
abbrev NMin : List Str := ["self", "a", "b", "begin", "end", "minutes"]
theorem scMin : FnScope NMin ["self", "a", "b"] (defScope sMin) := ⟨rfl, rfl, rfl, by decide +kernel, rfl, by decide +kernel, by decide +kernel⟩
section
variable {P : Program} {w : World} {K : PySem.W.Frag} {mg : Str → Option Value} {base : Heap} {Z : Cs}
theorem ok_min {f : Addr} {fd : FuncData} (F : Fun K "minutes" "Depot.minutes" sMin f fd) (T : Txt K mg Z) : FnOk P w K mg base CX0 1 f fd ["self", "a", "b"] (spMin Z) := by
  refine F.ok scMin (fun vs H Q E h => ?_) (fun cdv A outer s H vs Q E hr h => ?_)
  · obtain ⟨d, a, b, p, rfl, _⟩ := h
    rfl
  · obtain ⟨d, a, b, p, rfl, D, k⟩ := h
    refine ⟨_, pss_cons (ps_if (pt_cmpR op_eq (pv 1) (pv 2) (nomark _)) (pss_one (ps_ret pe_int)) pss_nil)
      (pss_one (ps_ret (pe_callBK (Dr.cr_minD rfl hr.units) (by rfl) T.bMin (by decide +kernel) (pa_cons (pe_lc (own := [("begin", 3), ("end", 4), ("minutes", 5)]) (g := gTup K 3 (gCons (gName 3) (gCons (gName 4) (gCons (gName 5) gNil)))) (tt := tAnd (tTest (tOp rEq (tVar 3) (tVar 1))) (tTest (tOp rEq (tVar 4) (tVar 2)))) (te := tVar 5) rfl scMin.nd (pi_list (pe_fld (pv 0) rfl)) (blkOk_by (N := NMin) (sc := defScope sMin) (by decide +kernel))
        (fun _ _ _ _ _ => by exact pg_tup rfl (pgs_cons (pg_name (i := 3) scMin.nd rfl (Or.inl rfl)) (pgs_cons (pg_name (i := 4) scMin.nd rfl (Or.inl rfl)) (pgs_cons (pg_name (i := 5) scMin.nd rfl (Or.inl rfl)) pgs_nil))))
        (fun _ _ _ _ _ => by exact pts_one (PW.pt (pw_and (pt_cmpR op_eq (pv 3) (pv 1) (nomark _)) (pw_and1 (pt_cmpR op_eq (pv 4) (pv 2) (nomark _))))))
        (fun _ _ _ _ _ => by exact pv 5)) pa_nil) (pk_cons pe_non pk_nil)))), ?_⟩
    refine q_when (et_test (ev_op (ev_var rfl) (ev_var rfl) (rv_eq rfl))) (fun hb H1 e1 => ?_) (fun hb H1 e1 => ?_)
    · have hab : a = b := by
        have q := of_decide_eq_true hb
        injection q with q
        omega
      subst hab
      rw [Dm.way_self] at k
      exact s_ret ev_c fun H2 e2 => k H2 (e1.trans e2)
    · have hab : a ≠ b := fun q => by
        subst q
        exact absurd hb (by simp)
      obtain ⟨A, D⟩ := D.mono e1
      obtain ⟨ts, hw, ew⟩ := D.way
      refine s_ret (ev_kwL (el_comp p.ways (fun x => decide (x.1 = a) && decide (x.2.1 = b)) (fun x => nV x.2.2) (by have := D.good.ways; omega)
        (it_list (xs := ts.map V.ref) (ev_fld (ev_var rfl) (rf T.cD D.ins 3)) (SqL.of hw) (by rw [List.length_map, ew.1])) (fun i x y H' H'' hx e2 hy => ?_)) (ea_cons ev_c ea_nil) (fun q H2 hq e2 Q' r => ?_)) fun H2 e2 => k H2 (e1.trans e2)
      · obtain ⟨rfl, hy⟩ := hy
        obtain ⟨t, ht, rfl⟩ := map_at hy
        have hT := e2 _ _ (ew.2 i t x ht hx)
        refine ⟨Ex.refl _, _, fun Q h => ⟨t, _, rfl, SqT.of hT, rfl, _, _, rfl, _, _, rfl, _, _, rfl, rfl, h⟩, rfl, et_and (et_is (et_test (ev_op (ev_var rfl) (ev_var rfl) (rv_eq rfl))) (dec_n _ _)) (fun _ => et_is (et_test (ev_op (ev_var rfl) (ev_var rfl) (rv_eq rfl))) (dec_n _ _)), fun _ => ev_var rfl⟩
      · refine ⟨q, (Dm.fits p a b).map fun n : Nat => (n : Int), rfl, rfl, ?_, fun h => ?_, fun m hm hl => ?_⟩
        · rw [map_nV]
          have e : (Dm.fits p a b).map nV = (p.ways.filter fun x => decide (x.1 = a) && decide (x.2.1 = b)).map fun x => nV x.2.2 := by
            unfold Dm.fits
            rw [List.map_map]
            rfl
          rw [e]
          exact SqL.of hq
        · have e : Dm.fits p a b = [] := List.map_eq_nil_iff.mp h
          have := Dm.way_none hab e
          rw [this] at r
          exact r H2 (Ex.refl H2)
        · obtain ⟨n, hn, rfl⟩ := List.mem_map.mp hm
          have := Dm.way_some hab hn fun y hy => Int.ofNat_le.mp (hl _ (List.mem_map.mpr ⟨y, hy, rfl⟩))
          rw [this] at r
          exact r H2 (Ex.refl H2)
end
end Dw
namespace Dw
open PySem PySem.Spec PyProof.Rows L2 Evl
abbrev sCan : Stmt := inClass (top 4) 3
theorem scCan : FnScope ["self", "place"] ["self", "place"] (defScope sCan) := ⟨rfl, rfl, rfl, by decide +kernel, rfl, by decide +kernel, by decide +kernel⟩
abbrev sLen : Stmt := inClass (top 3) 1
theorem scLen : FnScope ["self"] ["self"] (defScope sLen) := ⟨rfl, rfl, rfl, by decide +kernel, rfl, by decide +kernel, by decide +kernel⟩
abbrev sPay : Stmt := top 17
theorem scPay : FnScope ["rules", "minutes"] ["rules", "minutes"] (defScope sPay) := ⟨rfl, rfl, rfl, by decide +kernel, rfl, by decide +kernel, by decide +kernel⟩
abbrev sHw : Stmt := top 14
theorem scHw : FnScope ["depot", "home", "begin", "end", "there", "back"] ["depot", "home", "begin", "end"] (defScope sHw) := ⟨rfl, rfl, rfl, by decide +kernel, rfl, by decide +kernel, by decide +kernel⟩
theorem ev_get2 {td ty tx : TE} {σ : L2.St} {H : Hp} {a : Addr} {kvs : List (Key × V)} {n : Int} {z : V} (h : Ev td σ H (.ref a)) (hd : H a = some (.dK kvs)) (hy : Ev ty σ H (.int n)) (hz : Ev tx σ H z) : Ev (tDGet2 td ty tx) σ H ((valV kvs (.inl n)).getD z) := fun H1 e Q q =>
  h H1 e _ fun H2 e2 => ⟨a, rfl, .inl ⟨kvs, .inl ((e.trans e2) _ _ hd)⟩, hy H2 (e.trans e2) _ fun H3 e3 => hz H3 ((e.trans e2).trans e3) _ fun H4 e4 =>
    ⟨_, DGet.k (k := Sum.inl n) ((((e.trans e2).trans e3).trans e4) _ _ hd), q H4 ((e2.trans e3).trans e4)⟩⟩
section
variable {P : Program} {w : World} {K : PySem.W.Frag} {mg : Str → Option Value} {base : Heap} {Z : Cs}
theorem ok_can {f : Addr} {fd : FuncData} (F : Fun K "can_break" "Depot.can_break" sCan f fd) (T : Txt K mg Z) : FnOk P w K mg base CX0 1 f fd ["self", "place"] (spCan Z) := by
  refine F.ok scCan (fun vs H Q E h => ?_) (fun cdv A outer s H vs Q E hr h => ?_)
  · obtain ⟨d, a, p, rfl, _⟩ := h
    rfl
  · obtain ⟨d, a, p, rfl, ⟨A, D⟩, k⟩ := h
    refine ⟨_, pss_one (ps_ret (pe_dget2 (hu_of hr) (pe_fld (pv 0) rfl) (pv 1) pe_bl ⟨rfl, rfl, rfl, rfl⟩)), ?_⟩
    obtain ⟨kvs, hb, rb⟩ := D.brk
    have h := ev_get2 (z := .bl false) (ev_fld (ta := tVar 0) (σ := L2.start ["self", "place"] [.ref d, nV a]) (ev_var rfl) (rf T.cD D.ins 1)) hb (ev_var (i := 1) rfl) ev_c
    rw [rb.get a] at h
    exact s_ret h k
theorem ok_len {f : Addr} {fd : FuncData} (F : Fun K "length" "Piece.length" sLen f fd) (T : Txt K mg Z) : FnOk P w K mg base CX0 1 f fd ["self"] (spLen Z) := by
  refine F.ok scLen (fun vs H Q E h => ?_) (fun cdv A outer s H vs Q E hr h => ?_)
  · obtain ⟨a, x, rfl, _⟩ := h
    rfl
  · obtain ⟨a, x, rfl, D, k⟩ := h
    refine ⟨_, pss_one (ps_ret (pe_op op_sub (pe_fld (pv 0) rfl) (pe_fld (pv 0) rfl))), ?_⟩
    exact s_ret (ev_op (ev_fld (ev_var rfl) (rf T.cP D 3)) (ev_fld (ev_var rfl) (rf T.cP D 2)) rv_I0) k
theorem ok_pay {f : Addr} {fd : FuncData} (F : Fun K "pay_for" "pay_for" sPay f fd) (T : Txt K mg Z) : FnOk P w K mg base CX0 1 f fd ["rules", "minutes"] (spPay Z) := by
  refine F.ok scPay (fun vs H Q E h => ?_) (fun cdv A outer s H vs Q E hr h => ?_)
  · obtain ⟨a, r, m, rfl, _⟩ := h
    rfl
  · obtain ⟨a, r, m, rfl, D, k⟩ := h
    refine ⟨_, pss_one (ps_ret (pe_callB (call_max2 rfl) (by rfl) T.bMax (by decide +kernel) (pa_cons (pe_fld (pv 0) rfl) (pa_cons (pe_op op_add (pv 1) (pe_callB (call_max2 rfl) (by rfl) T.bMax (by decide +kernel) (pa_cons pe_int (pa_cons (pe_op op_sub (pv 1) (pe_fld (pv 0) rfl)) pa_nil)))) pa_nil)))), ?_⟩
    exact s_ret (ev_max2 (ev_fld (ev_var rfl) (rf T.cR D 7)) (ev_op (ev_var rfl) (ev_max2 ev_c (ev_op (ev_var rfl) (ev_fld (ev_var rfl) (rf T.cR D 8)) rv_I0)) rv_I0)) k
/-- how Depot.minutes answers -/
theorem v_min {d : Addr} {H : Hp} {p : Sw82.Plan} (D : Dep Z H d p) (a b : Nat) : SpV (spMin Z) [.ref d, nV a, nV b] H (oV (p.way a b)) := fun H1 e Q q E => ⟨d, a, b, p, rfl, D.mono e, q⟩
theorem not_meth_depot {H : Hp} {d : Addr} {A : DA} {p : Sw82.Plan} (D : DepotAt Z H d A p) {m : Str} (hm : m ∉ nDepot) : MOf H d Z.D m := mof D.ins hm
theorem ok_hw {f : Addr} {fd : FuncData} (F : Fun K "home_ways" "home_ways" sHw f fd) (T : Txt K mg Z) (hMin : HasM P w K mg base CX0 1 Z.D "minutes" (spMin Z)) : FnOk P w K mg base CX0 2 f fd ["depot", "home", "begin", "end"] (spHw Z) := by
  refine F.ok scHw (fun vs H Q E h => ?_) (fun cdv A outer s H vs Q E hr h => ?_)
  · obtain ⟨d, h, a, b, p, rfl, _⟩ := h
    rfl
  · obtain ⟨d, h, a, b, p, rfl, D, k⟩ := h
    refine ⟨_, pss_cons (ps_set (i := 4) scHw.nd rfl (Or.inl rfl) (pe_me hMin T.cD.cl hr pass0 (pv 0) (pa_cons (pv 1) (pa_cons (pv 2) pa_nil))))
      (pss_cons (ps_set (i := 5) scHw.nd rfl (Or.inl rfl) (pe_me hMin T.cD.cl hr pass0 (pv 0) (pa_cons (pv 3) (pa_cons (pv 1) pa_nil))))
      (pss_cons (ps_if (PW.pt (pw_or (pt_cmpR op_isN (pv 4) pe_non (nomark _)) (pw_or1 (pt_cmpR op_isN (pv 5) pe_non (nomark _))))) (pss_one (ps_ret pe_non)) pss_nil)
      (pss_one (ps_ret (pe_tup (pa_cons (pv 4) (pa_cons (pv 5) pa_nil))))))), ?_⟩
    obtain ⟨A, DA⟩ := id D
    refine q_asg (ev_me (ev_var rfl) (not_meth_depot DA (by decide +kernel)) (ea_cons (ev_var rfl) (ea_cons (ev_var rfl) ea_nil)) (v_min D h a)) fun H1 e1 => ?_
    refine q_asg (ev_me (ev_var rfl) (not_meth_depot (DA.mono e1) (by decide +kernel)) (ea_cons (ev_var rfl) (ea_cons (ev_var rfl) ea_nil)) (v_min (D.mono e1) b h)) fun H2 e2 => ?_
    refine q_when (et_or (et_test (ev_op (ev_var rfl) ev_c rv_isN)) (fun _ => et_test (ev_op (ev_var rfl) ev_c rv_isN))) (fun hb H3 e3 => ?_) (fun hb H3 e3 => ?_)
    · refine s_ret ev_c fun H4 e4 => k .non H4 ((e1.trans e2).trans (e3.trans e4)) ?_
      cases h1 : p.way h a with
      | none => rfl
      | some m =>
        cases h2 : p.way b h with
        | none => rfl
        | some n =>
          rw [h1, h2] at hb
          exact absurd hb (by simp [oV])
    · cases h1 : p.way h a with
      | none => rw [h1] at hb; exact absurd hb (by simp [oV])
      | some m =>
        cases h2 : p.way b h with
        | none => rw [h1, h2] at hb; exact absurd hb (by simp [oV])
        | some n =>
          rw [h1, h2] at k
          exact s_retU (eu_tup (ea_cons (ev_var rfl) (ea_cons (ev_var rfl) ea_nil)) (by show 2 ≤ 100000; decide)) fun p' H4 hp e4 h4 => k (.ref p') H4 (((e1.trans e2).trans e3).trans e4) ⟨p', rfl, h4⟩
end
end Dw
namespace Dw
open PySem PySem.Spec PyProof.Rows L2 Evl
abbrev sGap : Stmt := top 12
theorem scGap : FnScope ["depot", "piece", "other", "way"] ["depot", "piece", "other"] (defScope sGap) := ⟨rfl, rfl, rfl, by decide +kernel, rfl, by decide +kernel, by decide +kernel⟩
abbrev sBrk : Stmt := top 13
theorem scBrk : FnScope ["depot", "piece", "other", "gap"] ["depot", "piece", "other"] (defScope sBrk) := ⟨rfl, rfl, rfl, by decide +kernel, rfl, by decide +kernel, by decide +kernel⟩
section
variable {P : Program} {w : World} {K : PySem.W.Frag} {mg : Str → Option Value} {base : Heap} {Z : Cs}
theorem ok_gap {f : Addr} {fd : FuncData} (F : Fun K "gap_between" "gap_between" sGap f fd) (T : Txt K mg Z) (hMin : HasM P w K mg base CX0 1 Z.D "minutes" (spMin Z)) : FnOk P w K mg base CX0 2 f fd ["depot", "piece", "other"] (spGap Z) := by
  refine F.ok scGap (fun vs H Q E h => ?_) (fun cdv A outer s H vs Q E hr h => ?_)
  · obtain ⟨d, a, b, x, y, p, rfl, _⟩ := h
    rfl
  · obtain ⟨d, a, b, x, y, p, rfl, D, hx, hy, k⟩ := h
    refine ⟨_, pss_cons (ps_set (i := 3) scGap.nd rfl (Or.inl rfl) (pe_me hMin T.cD.cl hr pass0 (pv 0) (pa_cons (pe_fld (pv 1) rfl) (pa_cons (pe_fld (pv 2) rfl) pa_nil))))
      (pss_cons (ps_if (PW.pt (pw_or (pt_cmpR op_isN (pv 3) pe_non (nomark _)) (pw_or1 (pt_cmpR op_gt (pe_op op_add (pe_op op_add (pe_fld (pv 1) rfl) (pv 3)) (pe_fld (pe_fld (pv 0) rfl) rfl)) (pe_fld (pv 2) rfl) (nomark _))))) (pss_one (ps_ret pe_non)) pss_nil)
      (pss_one (ps_ret (pe_op op_sub (pe_op op_sub (pe_fld (pv 2) rfl) (pe_fld (pv 1) rfl)) (pv 3))))), ?_⟩
    obtain ⟨A, DA⟩ := id D
    refine q_asg (ev_me (ev_var rfl) (not_meth_depot DA (by decide +kernel)) (ea_cons (ev_fld (ev_var rfl) (rf T.cP hx 1)) (ea_cons (ev_fld (ev_var rfl) (rf T.cP hy 0)) ea_nil)) (v_min D x.to y.from_)) fun H1 e1 => ?_
    have hx1 := hx.mono e1
    have hy1 := hy.mono e1
    have D1 := DA.mono e1
    cases hw : p.way x.to y.from_ with
    | none =>
      rw [Dm.gap_none hw] at k
      refine q_when (b := true) (et_is (et_or (a := true) (b := true) (et_is (et_test (ev_op (ev_var rfl) ev_c rv_isN)) rfl) (fun h => by cases h)) rfl) (fun _ H2 e2 => ?_) (fun h => by cases h)
      exact s_ret ev_c fun H3 e3 => k H3 (e1.trans (e2.trans e3))
    | some n =>
      refine q_when (et_or (a := false) (et_is (et_test (ev_op (ev_var rfl) ev_c rv_isN)) (decide_eq_false fun q => by cases q)) (fun _ => et_test (ev_op (ev_op (ev_op (ev_fld (ev_var rfl) (rf T.cP hx1 3)) (ev_var rfl) rv_I0) (ev_fld (ev_fld (ev_var rfl) (rf T.cD D1.ins 0)) (rf T.cR D1.rul 6)) rv_I0) (ev_fld (ev_var rfl) (rf T.cP hy1 2)) rv_I0))) (fun hb H2 e2 => ?_) (fun hb H2 e2 => ?_)
      · rw [Bool.false_or, decide_eq_true_iff] at hb
        rw [Dm.gap_late hw (by omega)] at k
        exact s_ret ev_c fun H3 e3 => k H3 (e1.trans (e2.trans e3))
      · rw [Bool.false_or, decide_eq_false_iff_not] at hb
        have hc : x.halt_ + n + p.rules.change ≤ y.start := by omega
        rw [Dm.gap_some hw hc] at k
        refine s_ret (ev_is (ev_op (ev_op (ev_fld (ev_var rfl) (rf T.cP (hy1.mono e2) 2)) (ev_fld (ev_var rfl) (rf T.cP (hx1.mono e2) 3)) rv_I0) (ev_var rfl) rv_I0) ?_) fun H3 e3 => k H3 (e1.trans (e2.trans e3))
        show V.int _ = V.int _
        exact congrArg V.int (by omega)
theorem v_gap {d a b : Addr} {H : Hp} {p : Sw82.Plan} {x y : Sw82.Work} (D : Dep Z H d p) (hx : PieceAt Z H a x) (hy : PieceAt Z H b y) : SpV (spGap Z) [.ref d, .ref a, .ref b] H (oV (p.gap x y)) := fun H1 e Q q E => ⟨d, a, b, x, y, p, rfl, D.mono e, hx.mono e, hy.mono e, q⟩
theorem v_can {d : Addr} {H : Hp} {p : Sw82.Plan} (D : Dep Z H d p) (a : Nat) : SpV (spCan Z) [.ref d, nV a] H (.bl (p.breaks.contains a)) := fun H1 e Q q E => ⟨d, a, p, rfl, D.mono e, q⟩
theorem ok_brk {f : Addr} {fd : FuncData} (F : Fun K "is_break" "is_break" sBrk f fd) (T : Txt K mg Z) (hGap : HasF P w K mg base CX0 2 "gap_between" (spGap Z)) (hCan : HasM P w K mg base CX0 1 Z.D "can_break" (spCan Z)) : FnOk P w K mg base CX0 3 f fd ["depot", "piece", "other"] (spBrk Z) := by
  refine F.ok scBrk (fun vs H Q E h => ?_) (fun cdv A outer s H vs Q E hr h => ?_)
  · obtain ⟨d, a, b, x, y, p, rfl, _⟩ := h
    rfl
  · obtain ⟨d, a, b, x, y, p, rfl, D, hx, hy, k⟩ := h
    have hr1 : Room 1 _ := hr.mono (by decide)
    refine ⟨_, pss_cons (ps_set (i := 3) scBrk.nd rfl (Or.inl rfl) (pe_cl hGap hr pass0 (pa_cons (pv 0) (pa_cons (pv 1) (pa_cons (pv 2) pa_nil)))))
      (pss_cons (ps_if (PW.pt (pw_or (pt_cmpR op_isN (pv 3) pe_non (nomark _)) (pw_or1 (pt_cmpR op_lt (pv 3) (pe_fld (pe_fld (pv 0) rfl) rfl) (nomark _))))) (pss_one (ps_ret pe_bl)) pss_nil)
      (pss_one (ps_ret (pe_or (pe_me hCan T.cD.cl hr1 pass0 (pv 0) (pa_cons (pe_fld (pv 1) rfl) pa_nil)) (pe_one (pe_me hCan T.cD.cl hr1 pass0 (pv 0) (pa_cons (pe_fld (pv 2) rfl) pa_nil))))))), ?_⟩
    obtain ⟨A, DA⟩ := id D
    refine q_asg (ev_cl (ea_cons (ev_var rfl) (ea_cons (ev_var rfl) (ea_cons (ev_var rfl) ea_nil))) (v_gap D hx hy)) fun H1 e1 => ?_
    have hx1 := hx.mono e1
    have hy1 := hy.mono e1
    have D1 := DA.mono e1
    cases hw : p.gap x y with
    | none =>
      rw [Dm.breaks_none hw] at k
      refine q_when (b := true) (et_is (et_or (a := true) (b := true) (et_is (et_test (ev_op (ev_var rfl) ev_c rv_isN)) rfl) (fun h => by cases h)) rfl) (fun _ H2 e2 => ?_) (fun h => by cases h)
      exact s_ret ev_c fun H3 e3 => k H3 (e1.trans (e2.trans e3))
    | some n =>
      refine q_when (et_or (a := false) (et_is (et_test (ev_op (ev_var rfl) ev_c rv_isN)) (decide_eq_false fun q => by cases q)) (fun _ => et_test (ev_op (ev_var rfl) (ev_fld (ev_fld (ev_var rfl) (rf T.cD D1.ins 0)) (rf T.cR D1.rul 3)) rv_I0))) (fun hb H2 e2 => ?_) (fun hb H2 e2 => ?_)
      · rw [Bool.false_or, decide_eq_true_iff] at hb
        rw [Dm.breaks_short hw (by omega)] at k
        exact s_ret ev_c fun H3 e3 => k H3 (e1.trans (e2.trans e3))
      · rw [Bool.false_or, decide_eq_false_iff_not] at hb
        rw [Dm.breaks_long hw (by omega)] at k
        have D2 := D1.mono e2
        refine s_ret (ev_orV (ev_me (ev_var rfl) (not_meth_depot D2 (by decide +kernel)) (ea_cons (ev_fld (ev_var rfl) (rf T.cP (hx1.mono e2) 1)) ea_nil) (v_can ⟨A, D2⟩ x.to)) (fun _ => ev_me (ev_var rfl) (not_meth_depot D2 (by decide +kernel)) (ea_cons (ev_fld (ev_var rfl) (rf T.cP (hy1.mono e2) 0)) ea_nil) (v_can ⟨A, D2⟩ y.from_))) fun H3 e3 => k H3 (e1.trans (e2.trans e3))
end
end Dw
namespace Dw
open PySem PySem.Spec PyProof.Rows L2 Evl
abbrev sOrd : Stmt := inClass (top 4) 4
abbrev NOrd : List Str := ["self", "numbers", "ranks", "first", "number"]
theorem scOrd : FnScope NOrd ["self", "numbers"] (defScope sOrd) := ⟨rfl, rfl, rfl, by decide +kernel, rfl, by decide +kernel, by decide +kernel⟩
/-- the two ints of the pair at a value -/
def kf (H : Hp) : V → Int × Int
  | .ref t => match H t with
    | some (.tup [.int i, .int j]) => (i, j)
    | _ => (0, 0)
  | _ => (0, 0)
theorem kf_at {H : Hp} {t : Addr} {i j : Int} (h : H t = some (.tup [.int i, .int j])) : kf H (.ref t) = (i, j) := by
  simp only [kf, h]
theorem work_at {p : Sw82.Plan} {n : Nat} {x : Sw82.Work} (h : p.works[n]? = some x) : p.work n = x := by
  unfold Sw82.Plan.work
  rw [List.getD_eq_getElem?_getD, h]
  rfl
theorem at_of_lt {α : Type} {l : List α} {n : Nat} (h : n < l.length) : ∃ x, l[n]? = some x := ⟨l[n], by simp [h]⟩
section
variable {P : Program} {w : World} {K : PySem.W.Frag} {mg : Str → Option Value} {base : Heap} {Z : Cs}
theorem ok_ord {f : Addr} {fd : FuncData} (F : Fun K "in_order" "Depot.in_order" sOrd f fd) (T : Txt K mg Z) : FnOk P w K mg base CX0 1 f fd ["self", "numbers"] (spOrd K Z) := by
  refine F.ok scOrd (fun vs H Q E h => ?_) (fun cdv A outer s H vs Q E hr h => ?_)
  · obtain ⟨d, l, ns, p, rfl, _⟩ := h
    rfl
  · obtain ⟨d, l, ns, p, rfl, D, hl, hnd, hlt, hlen, k⟩ := h
    refine ⟨_, pss_cons (ps_set (i := 2) scOrd.nd rfl (Or.inl rfl) (pe_callB cr_sortedPO (by rfl) T.bSorted (by decide +kernel) (pa_cons (pe_lc (own := [("number", 4)]) (g := gName 4) (tt := tYes) (te := tTup (tCons (tFld K (tOp (rIxL K) (tFld K (tVar 0) "pieces") (tVar 4)) "first") (tCons (tVar 4) tNil))) rfl scOrd.nd (pi_list (pv 1)) (blkOk_by (N := NOrd) (sc := defScope sOrd) (by decide +kernel))
        (fun _ _ _ _ _ => by exact pg_name (i := 4) scOrd.nd rfl (Or.inl rfl)) (fun _ _ _ _ _ => pts_nil)
        (fun _ _ _ _ _ => by exact pe_tup (pa_cons (pe_fld (pe_ix ix_list (pe_fld (pv 0) rfl) (pv 4) (fun _ _ => rfl)) rfl) (pa_cons (pv 4) pa_nil)))) pa_nil)))
      (pss_one (ps_ret (pe_lc (own := [("first", 3), ("number", 4)]) (g := gTup K 2 (gCons (gName 3) (gCons (gName 4) gNil))) (tt := tYes) (te := tVar 4) rfl scOrd.nd (pi_list (pv 2)) (blkOk_by (N := NOrd) (sc := defScope sOrd) (by decide +kernel))
        (fun _ _ _ _ _ => by exact pg_tup rfl (pgs_cons (pg_name (i := 3) scOrd.nd rfl (Or.inl rfl)) (pgs_cons (pg_name (i := 4) scOrd.nd rfl (Or.inl rfl)) pgs_nil))) (fun _ _ _ _ _ => pts_nil)
        (fun _ _ _ _ _ => by exact pv 4)))), ?_⟩
    obtain ⟨A, D⟩ := D
    obtain ⟨ts, hp, ep⟩ := D.pcs
    refine q_asgCB (el_compG ns (fun n v H2 => ∃ t, v = .ref t ∧ H2 t = some (.tup [nV (p.work n).start, nV n])) (fun _ _ => firm_tup) (by omega) (it_list (ev_var rfl) hl (List.length_map nV)) (fun i n y H' H'' hn e2 hy => ?_)) fun xs q H1 hq e1 h1 L => ?_
    · obtain ⟨rfl, hy⟩ := hy
      obtain ⟨n', hn', rfl⟩ := map_at hy
      rw [hn] at hn'
      cases hn'
      obtain ⟨x, hx⟩ := at_of_lt (hlt n (List.mem_of_getElem? hn))
      obtain ⟨t, ht⟩ := at_of_lt (l := ts) (n := n) (by rw [ep.1]; exact hlt n (List.mem_of_getElem? hn))
      have D2 := D.mono e2
      have hP := PieceAt.mono e2 (ep.2 n t x ht hx)
      have hat : atI (ts.map V.ref) (n : Int) = some (.ref t) := atI_nat (by rw [List.getElem?_map, ht]; rfl)
      refine ⟨Ex.refl _, _, fun Q h => h, rfl, ?_⟩
      rw [work_at hx]
      exact eg_tup (eu_tup (ea_cons (ev_fld (ev_op (ev_fld (ev_var rfl) (rf T.cD D2.ins 4)) (ev_var rfl) (rv_ixL (SqL.of (e2 _ _ hp)) hat)) (rf T.cP hP 2)) (ea_cons (ev_var rfl) ea_nil)) (by show 2 ≤ 100000; decide))
    · have hk : ∀ (i : Nat) (v : V) (n : Nat), xs[i]? = some v → ns[i]? = some n → kf H1 v = (((p.work n).start : Int), (n : Int)) := fun i v n hv hn => by
        obtain ⟨t, rfl, ht⟩ := L.2 i v n hv hn
        exact kf_at ht
      have hm : ∀ v ∈ xs, ∃ n ∈ ns, kf H1 v = (((p.work n).start : Int), (n : Int)) ∧ ∃ t, v = .ref t ∧ H1 t = some (.tup [nV (p.work n).start, nV n]) := fun v hv => by
        obtain ⟨i, hi⟩ := List.getElem?_of_mem hv
        obtain ⟨n, hn⟩ := at_of_lt (l := ns) (n := i) (by rw [← L.1]; exact (List.getElem?_eq_some_iff.mp hi).1)
        exact ⟨n, List.mem_of_getElem? hn, hk i v n hi hn, L.2 i v n hi hn⟩
      refine ⟨q, xs, kf H1, rfl, SqL.of h1, fun v hv => ?_, fun ys r srt stb hr0 => ?_⟩
      · obtain ⟨n, _, e, t, rfl, ht⟩ := hm v hv
        exact ⟨t, rfl, by rw [e]; exact ht⟩
      · have hys : ∀ v ∈ ys, ∃ n ∈ ns, kf H1 v = (((p.work n).start : Int), (n : Int)) ∧ ∃ t, v = .ref t ∧ H1 t = some (.tup [nV (p.work n).start, nV n]) := fun v hv => hm v (stb.perm.mem_iff.mp hv)
        have e2 : Ex H1 (upd H1 r (.lst ys)) := Ex.new hr0
        have ez : ys.map (fun v => V.int (kf H1 v).2) = (p.inOrder ns).map nV := by
          have e1 : xs.map (fun v => (kf H1 v).2.toNat) = ns := by
            refine List.ext_getElem? fun i => ?_
            rw [List.getElem?_map]
            cases hx : xs[i]? with
            | none =>
              have : ns[i]? = none := by
                rw [List.getElem?_eq_none_iff] at hx ⊢
                rw [← L.1]
                exact hx
              rw [this]
              rfl
            | some v =>
              obtain ⟨n, hn⟩ := at_of_lt (l := ns) (n := i) (by rw [← L.1]; exact (List.getElem?_eq_some_iff.mp hx).1)
              rw [hn, Option.map_some, hk i v n hx hn]
              rfl
          have hp : (ys.map (fun v => (kf H1 v).2.toNat)).Perm ns := by
            have := stb.perm.map (fun v => (kf H1 v).2.toNat)
            rw [e1] at this
            exact this
          have hs : (ys.map (fun v => (kf H1 v).2.toNat)).Pairwise fun i j => ¬ Dm.before p j i := by
            rw [List.pairwise_map]
            refine List.Pairwise.imp_of_mem (fun {a b} ha hb h => ?_) srt
            obtain ⟨n, _, e, _⟩ := hys a ha
            obtain ⟨m, _, e', _⟩ := hys b hb
            have h' := SrtO.lexB_no.mp h
            rw [e, e'] at h' ⊢
            unfold Dm.before
            simp only [Int.toNat_natCast]
            omega
          rw [← Dm.inOrder_uniq hp hnd hs, List.map_map]
          refine List.map_congr_left fun v hv => ?_
          obtain ⟨n, _, e, _⟩ := hys v hv
          show V.int (kf H1 v).2 = nV ((kf H1 v).2.toNat)
          rw [e]
          rfl
        refine s_retL (el_compA ys (fun v => V.int (kf H1 v).2) (by rw [stb.perm.length_eq, L.1]; omega) (it_list (ev_var rfl) (SqL.of upd_same) rfl) (fun i v y H' H'' hv e3 hy => ?_)) fun p' H3 hp' e3 h3 => ?_
        · obtain ⟨rfl, hy⟩ := hy
          rw [hv] at hy
          cases hy
          obtain ⟨n, _, e, t, rfl, ht⟩ := hys v (List.mem_of_getElem? hv)
          rw [e]
          exact ⟨Ex.refl _, _, fun Q h => ⟨t, _, rfl, SqT.of (e3 _ _ (e2 _ _ ht)), rfl, _, _, rfl, _, _, rfl, rfl, h⟩, rfl, ev_var rfl⟩
        · rw [ez] at h3
          exact k p' H3 (fresh_back (e1.trans e2) hp') ((e1.trans e2).trans e3) h3
end
end Dw
namespace Dw
open PySem PySem.Spec PyProof.Rows L2 Evl
abbrev sHome : Stmt := top 15
abbrev NHome : List Str := ["depot", "begin", "end", "found", "home", "ways"]
theorem scHome : FnScope NHome ["depot", "begin", "end"] (defScope sHome) := ⟨rfl, rfl, rfl, by decide +kernel, rfl, by decide +kernel, by decide +kernel⟩
section
variable {P : Program} {w : World} {K : PySem.W.Frag} {mg : Str → Option Value} {base : Heap} {Z : Cs}
theorem g_hw {d : Addr} {H : Hp} {p : Sw82.Plan} {h a b : Nat} (D : Dep Z H d p) : SpG (spHw Z) [.ref d, nV h, nV a, nV b] H (fun v H2 => TupO H2 v (both (p.way h a) (p.way b h))) := fun H1 e Q q E =>
  ⟨d, h, a, b, p, rfl, D.mono e, fun v H2 e2 g => q v H2 e2 g⟩
theorem home_first {p : Sw82.Plan} {a b h m n : Nat} (hm : p.way h a = some m) (hn : p.way b h = some n) : Dm.homeStep p a b none h = some (h, m, n) := by
  unfold Dm.homeStep
  rw [hm, hn]
theorem home_lt {p : Sw82.Plan} {a b h m n : Nat} {y : Nat × Nat × Nat} (hm : p.way h a = some m) (hn : p.way b h = some n) (c : m + n < y.2.1 + y.2.2) : Dm.homeStep p a b (some y) h = some (h, m, n) := by
  unfold Dm.homeStep
  rw [hm, hn]
  exact if_pos c
theorem home_ge {p : Sw82.Plan} {a b h m n : Nat} {y : Nat × Nat × Nat} (hm : p.way h a = some m) (hn : p.way b h = some n) (c : ¬ m + n < y.2.1 + y.2.2) : Dm.homeStep p a b (some y) h = some y := by
  unfold Dm.homeStep
  rw [hm, hn]
  exact if_neg c
theorem home_none {p : Sw82.Plan} {a b h : Nat} {x : Option (Nat × Nat × Nat)} (e0 : both (p.way h a) (p.way b h) = none) : Dm.homeStep p a b x h = x := by
  unfold Dm.homeStep
  cases h1 : p.way h a with
  | none => rfl
  | some m =>
    cases h2 : p.way b h with
    | none => rfl
    | some n => rw [h1, h2] at e0; cases e0
theorem take_one {α : Type} {l : List α} {i : Nat} {x : α} (h : l[i]? = some x) : l.take (i + 1) = l.take i ++ [x] := by
  rw [List.take_add_one, h]
  rfl
theorem fold_one {α β : Type} {f : β → α → β} {b : β} {l : List α} {i : Nat} {x : α} (h : l[i]? = some x) : (l.take (i + 1)).foldl f b = f ((l.take i).foldl f b) x := by
  rw [take_one h, List.foldl_append]
  rfl
theorem ok_home {f : Addr} {fd : FuncData} (F : Fun K "best_home" "best_home" sHome f fd) (T : Txt K mg Z) (hHw : HasF P w K mg base CX0 2 "home_ways" (spHw Z)) : FnOk P w K mg base CX0 3 f fd ["depot", "begin", "end"] (spHome Z) := by
  refine F.ok scHome (fun vs H Q E h => ?_) (fun cdv A outer s H vs Q E hr h => ?_)
  · obtain ⟨d, a, b, p, rfl, _⟩ := h
    rfl
  · obtain ⟨d, a, b, p, rfl, D, k⟩ := h
    refine ⟨_, pss_cons (ps_set (i := 3) scHome.nd rfl (Or.inl rfl) pe_non)
      (pss_cons (ps_for PassesOwn.never rfl (pi_list (pe_fld (pv 0) rfl)) (pg_name (i := 4) scHome.nd rfl (Or.inl rfl))
        (pss_cons (ps_set (i := 5) scHome.nd rfl (Or.inl rfl) (pe_cl hHw hr pass0 (pa_cons (pv 0) (pa_cons (pv 4) (pa_cons (pv 1) (pa_cons (pv 2) pa_nil))))))
        (pss_one (ps_if (PW.pt (pw_and (pt_cmpR op_notN (pv 5) pe_non (nomark _)) (pw_and1 (PW.pt (pw_or (pt_cmpR op_isN (pv 3) pe_non (nomark _))
            (pw_or1 (pt_cmpR op_lt (pe_callB (Dr.cr_sumT rfl) (by rfl) T.bSum (by decide +kernel) (pa_cons (pv 5) pa_nil)) (pe_op op_add (pe_ix ix_tup (pv 3) pe_int (fun _ _ => rfl)) (pe_ix ix_tup (pv 3) pe_int (fun _ _ => rfl))) (nomark _))))))))
          (pss_one (ps_set (i := 3) scHome.nd rfl (Or.inl rfl) (pe_tup (pa_cons (pv 4) (pa_cons (pe_ix ix_tup (pv 5) pe_int (fun _ _ => rfl)) (pa_cons (pe_ix ix_tup (pv 5) pe_int (fun _ _ => rfl)) pa_nil)))))) pss_nil))))
      (pss_one (ps_ret (pv 3)))), ?_⟩
    refine q_asg ev_c fun H0 e0 => ?_
    obtain ⟨A, D0⟩ := D.mono e0
    refine s_for (D := { nx := tRet (tVar 3) { nx := fun _ H' => Q .non H', rt := Q }, rt := Q }) (it_list (K := K) (ev_fld (ev_var rfl) (rf T.cD D0.ins 2)) (SqL.of D0.hom) (List.length_map nV))
      (fun i σ' H' => ∃ (v : V) (hv wv : Option V), σ' = [some (.ref d), some (nV a), some (nV b), some v, hv, wv] ∧ TupO H' v (((p.homes.take i).foldl (Dm.homeStep p a b) none).map tri))
      (fun H1 e1 => ⟨.non, none, none, rfl, rfl⟩) (fun _ _ _ _ => trivial) (fun H1 e1 i x σ' H' H'' hi hP e2 hy => ?_) (fun σ' H' hP e1 => ?_)
    · obtain ⟨v, hv, wv, rfl, hT⟩ := hP
      obtain ⟨rfl, hy⟩ := hy
      obtain ⟨h, hh, rfl⟩ := map_at hy
      rw [fold_one hh]
      have e02 : Ex H0 H'' := e1.trans e2
      have D2 : Dep Z H'' d p := ⟨A, D0.mono e02⟩
      refine q_asgG (eg_cl (ea_cons (ev_var rfl) (ea_cons (ev_var rfl) (ea_cons (ev_var rfl) (ea_cons (ev_var rfl) ea_nil)))) (g_hw D2)) fun u H3 e3 h3 => ?_
      cases hb : both (p.way h a) (p.way b h) with
      | none =>
        rw [home_none hb]
        rw [hb] at h3
        obtain rfl : u = .non := h3
        refine s_when (b := false) (et_is (et_and (a := false) (b := false) (et_is (et_test (ev_op (ev_var rfl) ev_c rv_notN)) rfl) (fun q => by cases q)) rfl) (fun q => by cases q) (fun _ H4 e4 => ?_)
        exact ⟨⟨v, _, _, rfl, hT.mono (e3.trans e4)⟩, e2.trans (e3.trans e4)⟩
      | some xs =>
        obtain ⟨m, hm⟩ : ∃ m, p.way h a = some m := by
          cases h1 : p.way h a with
          | none => rw [h1] at hb; cases hb
          | some m => exact ⟨m, rfl⟩
        obtain ⟨n, hn⟩ : ∃ n, p.way b h = some n := by
          cases h1 : p.way b h with
          | none => rw [hm, h1] at hb; cases hb
          | some n => exact ⟨n, rfl⟩
        rw [hb] at h3
        rw [hm, hn] at hb
        have ex : xs = [nV m, nV n] := (Option.some.inj hb).symm
        subst ex
        obtain ⟨t, rfl, h3⟩ := h3
        generalize hx : (p.homes.take i).foldl (Dm.homeStep p a b) none = x at hT
        have hT3 := hT.mono e3
        have hsum : Ev (tCB (Dr.rSumT K) (tCons (tVar 5) tNil)) [some (.ref d), some (nV a), some (nV b), some v, some (nV h), some (.ref t)] H3 (.int ((m : Int) + n)) :=
          ev_cb (ea_cons (ev_var rfl) ea_nil) fun H5 e5 Q' q' => ⟨t, [(m : Int), (n : Int)], rfl, SqT.of (e5 _ _ h3), by
            have : ([(m : Int), (n : Int)] : List Int).sum = (m : Int) + n := by simp
            rw [this]
            exact q' H5 (Ex.refl H5)⟩
        have fin : ∀ H4, Ex H3 H4 → EvU (tTup (tCons (tVar 4) (tCons (tOp (rIxT K) (tVar 5) (tC (.int 0))) (tCons (tOp (rIxT K) (tVar 5) (tC (.int 1))) tNil)))) [some (.ref d), some (nV a), some (nV b), some v, some (nV h), some (.ref t)] H4 (tri (h, m, n)) := fun H4 e4 =>
          eu_tup (ea_cons (ev_var rfl) (ea_cons (ev_op (ev_var rfl) ev_c (rv_ixT (SqT.of (e4 _ _ h3)) (atI_nat (j := 0) rfl))) (ea_cons (ev_op (ev_var rfl) ev_c (rv_ixT (SqT.of (e4 _ _ h3)) (atI_nat (j := 1) rfl))) ea_nil))) (by show 3 ≤ 100000; decide)
        cases x with
        | none =>
          obtain rfl : v = .non := hT3
          rw [home_first hm hn]
          refine s_when (b := true) (et_is (et_and (a := true) (b := true) (et_is (et_test (ev_op (ev_var rfl) ev_c rv_notN)) rfl) (fun _ => et_is (et_or (a := true) (b := true) (et_is (et_test (ev_op (ev_var rfl) ev_c rv_isN)) rfl) (fun q => by cases q)) rfl)) rfl) (fun _ H4 e4 => ?_) (fun q => by cases q)
          exact s_asgU (fin H4 e4) fun q H5 hq e5 h5 => ⟨⟨.ref q, _, _, rfl, q, rfl, h5⟩, (e2.trans e3).trans (e4.trans e5)⟩
        | some y =>
          obtain ⟨t', rfl, ht'⟩ := hT3
          refine s_when (b := decide ((m : Int) + n < (y.2.1 : Int) + y.2.2)) (et_is (et_and (a := true) (et_is (et_test (ev_op (ev_var rfl) ev_c rv_notN)) rfl) (fun _ => et_is (et_or (a := false) (et_is (et_test (ev_op (ev_var rfl) ev_c rv_isN)) rfl) (fun _ => et_test (ev_op hsum (ev_op (ev_op (ev_var rfl) ev_c (rv_ixT (SqT.of ht') (atI_nat (j := 1) rfl))) (ev_op (ev_var rfl) ev_c (rv_ixT (SqT.of ht') (atI_nat (j := 2) rfl))) rv_I0) rv_I0))) rfl)) rfl) (fun hb H4 e4 => ?_) (fun hb H4 e4 => ?_)
          · rw [home_lt hm hn (y := y) (by have := of_decide_eq_true hb; omega)]
            exact s_asgU (fin H4 e4) fun q H5 hq e5 h5 => ⟨⟨.ref q, _, _, rfl, q, rfl, h5⟩, (e2.trans e3).trans (e4.trans e5)⟩
          · rw [home_ge hm hn (y := y) (by have := of_decide_eq_false hb; omega)]
            exact ⟨⟨.ref t', _, _, rfl, t', rfl, e4 _ _ ht'⟩, (e2.trans e3).trans e4⟩
    · obtain ⟨v, hv, wv, rfl, hT⟩ := hP
      rw [List.take_length, ← Dm.home_fold] at hT
      exact s_ret (v := v) (ev_var rfl) fun H2 e2 => k v H2 ((e0.trans e1).trans e2) (hT.mono e2)
end
end Dw
namespace Dw
open PySem PySem.Spec PyProof.Rows L2 Evl
abbrev sDrv : Stmt := top 16
abbrev NDrv : List Str := ["depot", "pieces", "rows", "piece", "other"]
theorem scDrv : FnScope NDrv ["depot", "pieces"] (defScope sDrv) := ⟨rfl, rfl, rfl, by decide +kernel, rfl, by decide +kernel, by decide +kernel⟩
theorem cut_one (xs : List V) : cutV xs (some 1) none = xs.drop 1 := by
  unfold cutV
  rw [show (some (1 : Int)) = some (((1 : Nat) : Int)) from rfl, HT.sIx_nat, HT.sIx_none]
  by_cases h : xs = []
  · subst h; rfl
  · have h1 : 1 ≤ xs.length := List.length_pos_iff.mpr h
    rw [Nat.min_eq_left h1, List.take_of_length_le (by rw [List.length_drop]; exact Nat.le_refl _)]
/-- xs[-1] = v -/
theorem s_setEnd {ta tb te : TE} {D : Ends} {σ : L2.St} {H : Hp} {l : Addr} {zs : List V} {c v : V} (hl : H l = some (.lst (zs ++ [c]))) (h : Ev te σ H v) (ho : Ev ta σ H (.ref l)) (hi : Ev tb σ H (.int (-1))) (k : ∀ H1, Ex H H1 → D.nx σ (upd H1 l (.lst (zs ++ [v])))) :
    tAsg te (gSub ta tb rSetL) D σ H := h H (Ex.refl H) _ fun H1 e1 => ho H1 e1 _ fun H2 e2 => hi H2 (e1.trans e2) _ fun H3 e3 => by
  refine ⟨l, zs ++ [c], -1, zs.length, rfl, rfl, ((e1.trans e2).trans e3) l _ hl, ?_, ?_⟩
  · unfold ixN
    have e : (zs ++ [c]).length = zs.length + 1 := List.length_append
    rw [e, if_neg (by decide), if_pos (by omega)]
    exact congrArg some (by omega)
  · have e : (zs ++ [c]).set zs.length v = zs ++ [v] := by simp
    rw [e]
    exact k H3 ((e1.trans e2).trans e3)
/-- a for over neighbours -/
theorem q_forZ {K : PySem.W.Frag} {tl tm : TE} {g : TG} {tu tz : TS} {D : Ends} {σ : L2.St} {H : Hp} {a : Addr} {xs ys : List V} (h : Ev tl σ H (.ref a)) (hx : SqL K H a xs) (hm : EvL tm σ H ys) (Pv : Addr → Nat → L2.St → Hp → Prop)
    (h0 : ∀ q H1, H q = none → Ex H H1 → H1 q = some (.lst ys) → Pv q 0 σ H1) (hq : ∀ q i σ' H', Pv q i σ' H' → SqL K H' a xs ∧ SqL K H' q ys)
    (hs : ∀ q i x y T σ' H', xs[i]? = some x → ys[i]? = some y → Pv q i σ' H' → H' T = none → g (.ref T) σ' (upd H' T (.tup [x, y])) fun σ2 H2 => tu { D with nx := Pv q (i + 1), ct := Pv q (i + 1), bk := tz D } σ2 H2)
    (hd : ∀ q σ' H', Pv q (min xs.length ys.length) σ' H' → tz D σ' H') : tSeq (tFor (iZip K (tCons tl (tCons tm tNil))) g tu) tz D σ H :=
  h H (Ex.refl H) _ fun H1 e1 => hm H1 e1 _ fun q H2 hq0 e2 h2 => ⟨a, q, xs, ys, rfl, ex_l (e1.trans e2) hx, sq_of h2,
    for_it (walk_zip rfl) (Pv q) (h0 q H2 (fresh_back e1 hq0) (e1.trans e2) h2) (fun i σ' H' _ p => hq q i σ' H' p) (fun i x σ' H' H'' _ p y => by
      obtain ⟨T, u, v, rfl, hT, rfl, hu, hv⟩ := y
      exact hs q i u v T σ' H' hu hv p hT) (hd q)⟩
section
variable {P : Program} {w : World} {K : PySem.W.Frag} {mg : Str → Option Value} {base : Heap} {Z : Cs}
theorem v_brk {d a b : Addr} {H : Hp} {p : Sw82.Plan} {x y : Sw82.Work} (D : Dep Z H d p) (hx : PieceAt Z H a x) (hy : PieceAt Z H b y) : SpV (spBrk Z) [.ref d, .ref a, .ref b] H (.bl (p.breaks_ x y)) := fun H1 e Q q E => ⟨d, a, b, x, y, p, rfl, D.mono e, hx.mono e, hy.mono e, q⟩
theorem v_len {a : Addr} {H : Hp} {x : Sw82.Work} (h : PieceAt Z H a x) (ok : Dm.okW x) : SpV (spLen Z) [.ref a] H (nV (Dm.len x)) := fun H1 e Q q E => ⟨a, x, rfl, h.mono e, by
  have : ((x.halt_ : Int) - x.start) = ((Dm.len x : Nat) : Int) := by
    unfold Dm.okW at ok
    unfold Dm.len
    omega
  rw [this]
  exact q⟩
theorem not_meth_piece {H : Hp} {a : Addr} {x : Sw82.Work} (h : PieceAt Z H a x) : MOf H a Z.P "length" := mof h (by decide +kernel)
/-- two neighbours -/
theorem drop_two {α : Type} {l : List α} {i : Nat} {x y : α} (hx : l[i]? = some x) (hy : l[i + 1]? = some y) : l.drop i = x :: y :: l.drop (i + 2) := by
  have h1 := (List.getElem?_eq_some_iff.mp hx)
  have h2 := (List.getElem?_eq_some_iff.mp hy)
  obtain ⟨h1, e1⟩ := h1
  obtain ⟨h2, e2⟩ := h2
  rw [List.drop_eq_getElem_cons h1, List.drop_eq_getElem_cons h2, e1, e2]
theorem ok_drv {f : Addr} {fd : FuncData} (F : Fun K "driven_together" "driven_together" sDrv f fd) (T : Txt K mg Z) (hLen : HasM P w K mg base CX0 1 Z.P "length" (spLen Z)) (hBrk : HasF P w K mg base CX0 3 "is_break" (spBrk Z)) : FnOk P w K mg base CX0 4 f fd ["depot", "pieces"] (spDrv K Z) := by
  refine F.ok scDrv (fun vs H Q E h => ?_) (fun cdv A outer s H vs Q E hr h => ?_)
  · obtain ⟨d, l, ws, p, rfl, _⟩ := h
    rfl
  · obtain ⟨d, l, ws, p, rfl, D, hP, hne, hlen, hok, k⟩ := h
    have hr1 : Room 1 _ := hr.mono (by decide)
    refine ⟨_, pss_cons (ps_set (i := 2) scDrv.nd rfl (Or.inl rfl) (pe_lst (pa_cons (pe_me0 hLen T.cP.cl hr1 pass0 (pe_ix ix_list (pv 1) pe_int (fun _ _ => rfl))) pa_nil)))
      (pss_cons (ps_for PassesOwn.never rfl (pi_zip (by rfl) T.bZip (pa_cons (pv 1) (pa_cons (pe_slice sl_list (pv 1) (po_some pe_int) po_none) pa_nil)))
          (pg_tup rfl (pgs_cons (pg_name (i := 3) scDrv.nd rfl (.inl rfl)) (pgs_cons (pg_name (i := 4) scDrv.nd rfl (.inl rfl)) pgs_nil)))
        (pss_cons (ps_if (pt_val (pe_cl hBrk hr pass0 (pa_cons (pv 0) (pa_cons (pv 3) (pa_cons (pv 4) pa_nil))))) (pss_one (ps_expr (pe_bm PySem.F.plainAttrs_list PySem.F.slot_list_append PySem.F.type_list_append mt_append (pv 2) (pa_cons pe_int pa_nil)))) pss_nil)
        (pss_one (ps_asg (pe_op op_add (pe_ix ix_list (pv 2) (pe_un un_neg pe_int) (fun _ _ => rfl)) (pe_me0 hLen T.cP.cl hr1 pass0 (pv 4))) (pg_sub (pv 2) (pe_un un_neg pe_int) set_list)))))
      (pss_one (ps_ret (pe_callB (cr_max rfl) (by rfl) T.bMax (by decide +kernel) (pa_cons (pv 2) pa_nil))))), ?_⟩
    obtain ⟨ts, hl, ep⟩ := hP
    obtain ⟨x0, hx0⟩ := at_of_lt (l := ws) (n := 0) (List.length_pos_iff.mpr hne)
    obtain ⟨t0, ht0⟩ := at_of_lt (l := ts) (n := 0) (by rw [ep.1]; exact List.length_pos_iff.mpr hne)
    have okat : ∀ {i : Nat} {x : Sw82.Work}, ws[i]? = some x → Dm.okW x := fun h => hok _ (List.mem_of_getElem? h)
    have P0 := ep.2 0 t0 x0 ht0 hx0
    refine q_asgL (el_lst (ea_cons (ev_me (ev_op (ev_var rfl) ev_c (rv_ixL hl (atI_nat (j := 0) (v := V.ref t0) (by rw [List.getElem?_map, ht0]; rfl)))) (not_meth_piece P0) ea_nil (v_len P0 (okat hx0))) ea_nil) (by show 1 ≤ 100000; decide)) fun r H1 hr0 e1 h1 => ?_
    have hsl : EvL (tSl (rSlL K) (tVar 1) (tPart (tC (.int 1))) tNoPart) [some (.ref d), some (.ref l), some (.ref r), none, none] H1 ((ts.map V.ref).drop 1) := by
      rw [← cut_one]
      exact el_sl (ev_var rfl) (eo_some ev_c) eo_none (ex_l e1 hl)
    refine q_forZ (ev_var rfl) (ex_l e1 hl) hsl (fun q i σ' H' => ∃ (dn : List Nat) (n : Nat) (x : Sw82.Work) (pv ov : Option V), σ' = [some (.ref d), some (.ref l), some (.ref r), pv, ov] ∧ H q = none ∧ q ≠ r ∧ Ex H H' ∧ H' q = some (.lst ((ts.map V.ref).drop 1)) ∧
        ws[i]? = some x ∧ H' r = some (.lst (dn.map nV ++ [nV (n + Dm.len x)])) ∧ p.driveFrom 0 ws = max (Dm.mx dn) (p.driveFrom n (ws.drop i)) ∧ dn.length ≤ i) (fun q H2 hq e2 h2 => ?_) (fun q i σ' H' hV => ?_) (fun q i x y t σ' H' hx hy hV ht => ?_) (fun q σ' H' hV => ?_)
    · refine ⟨[], 0, x0, none, none, rfl, fresh_back e1 hq, (by rintro rfl; rw [h1] at hq; cases hq), e1.trans e2, h2, hx0, ?_, ?_, Nat.le_refl _⟩
      · rw [Nat.zero_add]
        exact e2 _ _ h1
      · rw [List.drop_zero]
        show _ = max 0 _
        omega
    · obtain ⟨dn, n, x, pv, ov, rfl, _, _, e, h2, _⟩ := hV
      exact ⟨ex_l e hl, SqL.of h2⟩
    · obtain ⟨dn, n, w0, pv, ov, rfl, hq0, hqr, e, h2, hw, h3, hd, hdl⟩ := hV
      obtain ⟨ti, hti, rfl⟩ := map_at hx
      rw [← List.map_drop] at hy
      obtain ⟨tj, htj, rfl⟩ := map_at hy
      rw [List.getElem?_drop, Nat.add_comm] at htj
      obtain ⟨w1, hw1⟩ := at_of_lt (l := ws) (n := i + 1) (by rw [← ep.1]; exact (List.getElem?_eq_some_iff.mp htj).1)
      have Px := ep.2 i ti w0 hti hw
      have Py := ep.2 (i + 1) tj w1 htj hw1
      have hrt : r ≠ t := ne_of_none h3 ht
      have hqt : q ≠ t := ne_of_none h2 ht
      have e' : Ex H (upd H' t (.tup [V.ref ti, V.ref tj])) := e.trans (Ex.new ht)
      have h3' : upd H' t (.tup [V.ref ti, V.ref tj]) r = some (.lst (dn.map nV ++ [nV (n + Dm.len w0)])) := by rw [upd_ne hrt]; exact h3
      have h2' : upd H' t (.tup [V.ref ti, V.ref tj]) q = some (.lst ((ts.map V.ref).drop 1)) := by rw [upd_ne hqt]; exact h2
      refine ⟨t, _, rfl, SqT.of upd_same, rfl, _, _, rfl, _, _, rfl, rfl, ?_⟩
      rw [drop_two hw hw1] at hd
      have hd' := Dm.drive_turn p dn n w0 w1 _ hd
      have hdrop : ws.drop (i + 1) = w1 :: ws.drop (i + 2) := by
        have h1 := (List.getElem?_eq_some_iff.mp hw1)
        obtain ⟨h1, e1⟩ := h1
        rw [List.drop_eq_getElem_cons h1, e1]
      have hlenW := (List.getElem?_eq_some_iff.mp hw1).1
      refine q_when (et_val (ev_cl (ea_cons (ev_var rfl) (ea_cons (ev_var rfl) (ea_cons (ev_var rfl) ea_nil))) (v_brk (D.mono e') (Px.mono e') (Py.mono e')))) (fun hb H4 e4 => ?_) (fun hb H4 e4 => ?_)
      · rw [if_pos hb] at hd'
        refine s_app (e4 _ _ h3') (ev_var rfl) ev_c (by simp; omega) fun H5 e5 => ?_
        have e6 : Ex H (upd H5 r (.lst (dn.map nV ++ [nV (n + Dm.len w0)] ++ [nV 0]))) := Ex.mut ((e'.trans e4).trans e5) hr0
        have rest : ∀ H6, Ex (upd H5 r (.lst (dn.map nV ++ [nV (n + Dm.len w0)] ++ [nV 0]))) H6 → ∃ (dn' : List Nat) (n' : Nat) (x : Sw82.Work) (pv ov : Option V), ([some (.ref d), some (.ref l), some (.ref r), some (.ref ti), some (.ref tj)] : L2.St) = [some (.ref d), some (.ref l), some (.ref r), pv, ov] ∧ H q = none ∧ q ≠ r ∧ Ex H (upd H6 r (.lst (dn.map nV ++ [nV (n + Dm.len w0)] ++ [nV (Dm.len w1)]))) ∧ upd H6 r (.lst (dn.map nV ++ [nV (n + Dm.len w0)] ++ [nV (Dm.len w1)])) q = some (.lst ((ts.map V.ref).drop 1)) ∧
            ws[i + 1]? = some x ∧ upd H6 r (.lst (dn.map nV ++ [nV (n + Dm.len w0)] ++ [nV (Dm.len w1)])) r = some (.lst (dn'.map nV ++ [nV (n' + Dm.len x)])) ∧ p.driveFrom 0 ws = max (Dm.mx dn') (p.driveFrom n' (ws.drop (i + 1))) ∧ dn'.length ≤ i + 1 := fun H6 e7 => by
          refine ⟨dn ++ [n + Dm.len w0], 0, w1, _, _, rfl, hq0, hqr, Ex.mut (e6.trans e7) hr0, ?_, hw1, ?_, ?_, ?_⟩
          · rw [upd_ne hqr]
            refine e7 _ _ ?_
            rw [upd_ne hqr]
            exact (e4.trans e5) _ _ h2'
          · rw [upd_same, List.map_append, Nat.zero_add]
            rfl
          · rw [hdrop]
            exact hd'
          · rw [List.length_append]
            simp
            omega
        refine s_setEnd (zs := dn.map nV ++ [nV (n + Dm.len w0)]) (c := nV 0) (v := nV (Dm.len w1)) upd_same (ev_is (ev_op (ev_op (ev_var rfl) (ev_un ev_c ru_neg) (rv_ixL (SqL.of upd_same) (atI_last _ _))) (ev_me (ev_var rfl) (not_meth_piece (Py.mono e6)) ea_nil (v_len (Py.mono e6) (okat hw1))) rv_I0) ?_) (ev_var rfl) (ev_un ev_c ru_neg) fun H6 e7 => rest H6 e7
        show V.int (0 + _) = _
        rw [Int.zero_add]
      · rw [hb, if_neg Bool.false_ne_true] at hd'
        have e6 : Ex H H4 := e'.trans e4
        refine s_setEnd (zs := dn.map nV) (c := nV (n + Dm.len w0)) (v := nV (n + Dm.len w0 + Dm.len w1)) (e4 _ _ h3') (ev_is (ev_op (ev_op (ev_var rfl) (ev_un ev_c ru_neg) (rv_ixL (SqL.of (e4 _ _ h3')) (atI_last _ _))) (ev_me (ev_var rfl) (not_meth_piece (Py.mono e6)) ea_nil (v_len (Py.mono e6) (okat hw1))) rv_I0) ?_) (ev_var rfl) (ev_un ev_c ru_neg) fun H6 e7 => ?_
        · show V.int (((n + Dm.len w0 : Nat) : Int) + ((Dm.len w1 : Nat) : Int)) = V.int _
          exact congrArg V.int (by omega)
        · refine ⟨dn, n + Dm.len w0, w1, _, _, rfl, hq0, hqr, Ex.mut (e6.trans e7) hr0, ?_, hw1, upd_same, ?_, by omega⟩
          · rw [upd_ne hqr]
            exact (e4.trans e7) _ _ h2'
          · rw [hdrop]
            exact hd'
    · obtain ⟨dn, n, w0, pv, ov, rfl, hq0, hqr, e, h2, hw, h3, hd, hdl⟩ := hV
      have hm : min (ts.map V.ref).length ((ts.map V.ref).drop 1).length = ws.length - 1 := by
        rw [List.length_drop, List.length_map, ep.1]
        omega
      rw [hm] at hw hd
      have hlast : ws.drop (ws.length - 1) = [w0] := by
        have h1 := (List.getElem?_eq_some_iff.mp hw)
        obtain ⟨h1, e1⟩ := h1
        rw [List.drop_eq_getElem_cons h1, e1, List.drop_of_length_le (by omega)]
      rw [hlast, Dm.drive_one, ← Dm.mx_snoc] at hd
      refine s_ret (ev_cb (ea_cons (ev_var rfl) ea_nil) fun H5 e5 Q' q' => ?_) fun H6 e6 => k H6 (e.trans e6)
      refine ⟨r, (dn ++ [n + Dm.len w0]).map fun n : Nat => (n : Int), rfl, ?_, by simp, fun m hm' hle => ?_⟩
      · rw [map_nV, List.map_append]
        exact SqL.of (e5 _ _ h3)
      · obtain ⟨j, hj, rfl⟩ := List.mem_map.mp hm'
        have := Dm.mx_is hj fun y hy => Int.ofNat_le.mp (hle _ (List.mem_map.mpr ⟨y, hy, rfl⟩))
        rw [hd, this] at q'
        exact q' H5 (Ex.refl H5)
end
end Dw
namespace Dw
open PySem PySem.Spec PyProof.Rows L2 Evl
abbrev sBy : Stmt := inClass (top 18) 2
theorem scBy : FnScope ["self", "rules"] ["self", "rules"] (defScope sBy) := ⟨rfl, rfl, rfl, by decide +kernel, rfl, by decide +kernel, by decide +kernel⟩
abbrev sTold : Stmt := inClass (top 18) 3
theorem scTold : FnScope ["self"] ["self"] (defScope sTold) := ⟨rfl, rfl, rfl, by decide +kernel, rfl, by decide +kernel, by decide +kernel⟩
abbrev sLook : Stmt := inClass (top 18) 1
abbrev NLook : List Str := ["self", "depot", "pieces", "found", "piece", "other"]
theorem scLook : FnScope NLook ["self", "depot", "pieces"] (defScope sLook) := ⟨rfl, rfl, rfl, by decide +kernel, rfl, by decide +kernel, by decide +kernel⟩

/-! ### one instance that is young: it changes, all that was there ahead of it stands -/
/-- all but x stands -/
def But (x : Addr) (H H' : Hp) : Prop := ∀ b o, H b = some o → b ≠ x → H' b = some o
theorem But.refl (x : Addr) (H : Hp) : But x H H := fun _ _ h _ => h
theorem But.trans {x : Addr} {H H1 H2 : Hp} (a : But x H H1) (b : But x H1 H2) : But x H H2 := fun c o h n => b c o (a c o h n) n
theorem But.of {x : Addr} {H H' : Hp} (e : Ex H H') : But x H H' := fun c o h _ => e c o h
theorem But.upd {x : Addr} {H H1 : Hp} {o : HO} (e : Ex H H1) : But x H (upd H1 x o) := fun c u h n => by rw [upd_ne n]; exact e c u h
theorem But.lst {x C : Addr} {ns : List Str} {vs : List V} {H H' : Hp} (h : But x H H') (hx : Ins H x C ns vs) {q : Addr} {xs : List V} (hq : H q = some (.lst xs)) : H' q = some (.lst xs) := by
  obtain ⟨dx, hx⟩ := hx
  exact h q _ hq (ne_of hq hx fun z => by cases z)
theorem But.tup {x C : Addr} {ns : List Str} {vs : List V} {H H' : Hp} (h : But x H H') (hx : Ins H x C ns vs) {q : Addr} {xs : List V} (hq : H q = some (.tup xs)) : H' q = some (.tup xs) := by
  obtain ⟨dx, hx⟩ := hx
  exact h q _ hq (ne_of hq hx fun z => by cases z)
section
variable {K : PySem.W.Frag} {ta tv : TE} {f : Str} {tz : TS} {D : Ends} {σ : L2.St} {H0 H : Hp} {x C : Addr} {ns : List Str} {vs : List V} {v : V}
/-- self.f = v, a new field -/
theorem new_f (c : ClsA K C ns) (e0 : Ex H0 H) (x0 : H0 x = none) (h : Ins H x C ns vs) (hv : Ev tv σ H v) (ha : Ev ta σ H (.ref x)) (hn : ns[vs.length]? = some f) (hz : vs.length ≤ 100)
    (k : ∀ H', Ex H0 H' → But x H H' → Ins H' x C ns (vs ++ [v]) → tz D σ H') : tSeq (sFld K ta tv f) tz D σ H :=
  new_ins (D := { D with nx := tz D }) c hv ha h hn hz fun H1 dx e1 h1 => k _ (Ex.mut (e0.trans e1) x0) (But.upd e1) ⟨dx, upd_same⟩
theorem new_fL {xs : List V} (c : ClsA K C ns) (e0 : Ex H0 H) (x0 : H0 x = none) (h : Ins H x C ns vs) (hv : EvL tv σ H xs) (ha : ∀ H1, Ex H H1 → Ev ta σ H1 (.ref x)) (hn : ns[vs.length]? = some f) (hz : vs.length ≤ 100)
    (k : ∀ q H', Ex H0 H' → But x H H' → H' q = some (.lst xs) → H q = none → Ins H' x C ns (vs ++ [.ref q]) → tz D σ H') : tSeq (sFld K ta tv f) tz D σ H :=
  hv H (Ex.refl H) _ fun q H1 hq e1 h1 => ha H1 e1 H1 (Ex.refl H1) _ fun H2 e2 => by
    obtain ⟨dx, hx⟩ := h
    have h2 := (e1.trans e2) _ _ hx
    have hq2 := e2 _ _ h1
    refine ⟨x, C, dx, _, rfl, h2, c.cl, c.no f (List.mem_of_getElem? hn), ?_, ?_⟩
    · rw [List.length_zip]
      have := Nat.min_le_right ns.length vs.length
      omega
    · rw [put_new c.nd hn]
      refine k q _ (Ex.mut (e0.trans (e1.trans e2)) x0) (But.upd (e1.trans e2)) ?_ hq ⟨dx, upd_same⟩
      rw [upd_ne (ne_of hq2 h2 fun z => by cases z)]
      exact hq2
/-- self.f = v, a field that is there -/
theorem set_f (c : ClsA K C ns) (i : Nat) (e0 : Ex H0 H) (x0 : H0 x = none) (h : Ins H x C ns vs) (hv : Ev tv σ H v) (ha : Ev ta σ H (.ref x)) (hn : ns[i]? = some f) (hl : i < vs.length) (hz : vs.length ≤ 100)
    (k : ∀ H', Ex H0 H' → But x H H' → Ins H' x C ns (vs.set i v) → tz D σ H') : tSeq (sFld K ta tv f) tz D σ H :=
  set_ins (D := { D with nx := tz D }) c i hv ha h hn hl hz fun H1 dx e1 h1 => k _ (Ex.mut (e0.trans e1) x0) (But.upd e1) ⟨dx, upd_same⟩
/-- xs + ys -/
theorem el_cat {tb : TE} {b : Addr} {xs zs : List V} (h : EvL ta σ H xs) (hb : ∀ H1, Ex H H1 → Ev tb σ H1 (.ref b)) (hz : H b = some (.lst zs)) (hl : xs.length + zs.length ≤ 100000) : EvL (tOp rCat ta tb) σ H (xs ++ zs) := fun H1 e Q q =>
  h H1 e _ fun p H2 hp e2 h2 => hb H2 (e.trans e2) H2 (Ex.refl H2) _ fun H3 e3 => ⟨p, b, xs, zs, rfl, rfl, e3 _ _ h2, ((e.trans e2).trans e3) _ _ hz, sz_of hl, fun r hr => q r _ (fresh_back (e2.trans e3) hr) ((e2.trans e3).trans (Ex.new hr)) upd_same⟩
/-- two new lists -/
theorem el_cat2 {tb : TE} {xs zs : List V} (h : EvL ta σ H xs) (hb : EvL tb σ H zs) (hl : xs.length + zs.length ≤ 100000) : EvL (tOp rCat ta tb) σ H (xs ++ zs) := fun H1 e Q q =>
  h H1 e _ fun p H2 hp e2 h2 => hb H2 (e.trans e2) _ fun b H3 hb' e3 h3 => ⟨p, b, xs, zs, rfl, rfl, e3 _ _ h2, h3, sz_of hl, fun r hr => q r _ (fresh_back (e2.trans e3) hr) ((e2.trans e3).trans (Ex.new hr)) upd_same⟩
end

/-! ### a duty -/
structure DV where
  home : V
  bgn : V
  en : V
  pay : V
  work : V
  driven : V
def DV.six (v : DV) : List V := [v.home, v.bgn, v.en, v.pay, v.work, v.driven]
def dv (p : Sw82.Plan) (ws : List Sw82.Work) (d : Sw82.Duty) : DV := ⟨nV d.home, .int d.start, .int d.halt_, nV (p.pay ws), nV (Sw82.Plan.worked ws), nV (p.driveFrom 0 ws)⟩
/-- what stands in a duty, where there are gaps and a home -/
def DutyVals (p : Sw82.Plan) (ws : List Sw82.Work) (v : DV) : Prop := ∀ d, p.linked ws = true → p.duty ws = some d → v = dv p ws d
def wsOf (p : Sw82.Plan) (ns : List Nat) : List Sw82.Work := (p.inOrder ns).map p.work
def DutyAt (Z : Cs) (H : Hp) (a : Addr) (p : Sw82.Plan) (ns : List Nat) : Prop := ∃ (q : Addr) (v : DV), Ins H a Z.U nDuty (V.ref q :: v.six ++ [nV (p.wrong (wsOf p ns))]) ∧ H q = some (.lst ((p.inOrder ns).map nV)) ∧ DutyVals p (wsOf p ns) v
theorem DutyAt.mono {Z : Cs} {H H' : Hp} {a : Addr} {p : Sw82.Plan} {ns : List Nat} (e : Ex H H') (h : DutyAt Z H a p ns) : DutyAt Z H' a p ns := let ⟨q, v, a, b, c⟩ := h; ⟨q, v, a.mono e, e _ _ b, c⟩
/-- what's wrong by the rules alone -/
def byR (r : Sw82.Rules) (b e : Int) (w d : Nat) : Int := if e - b > (r.long : Int) then 3 else if r.work < w then 4 else if r.drive < d then 5 else 0
/-- Duty.by_rules -/
def spBy (Z : Cs) : Sp := fun vs H Q _ => ∃ (x a : Addr) (r : Sw82.Rules) (q h py : V) (b e : Int) (w d : Nat), vs = [.ref x, .ref a] ∧ Ins H x Z.U nDuty [q, h, .int b, .int e, py, nV w, nV d] ∧ RulesAt Z H a r ∧ RetV (.int (byR r b e w d)) H Q
/-- Duty.told -/
def spTold (Z : Cs) : Sp := fun vs H Q _ => ∃ (a : Addr) (p : Sw82.Plan) (ns : List Nat) (d : Sw82.Duty), vs = [.ref a] ∧ DutyAt Z H a p ns ∧ p.linked (wsOf p ns) = true ∧ p.duty (wsOf p ns) = some d ∧ ns.length ≤ 100 ∧ RetL ((Sw82.dutyOut p (p.inOrder ns)).map V.int) H Q
/-- Duty.looked_at, ahead of its last field -/
def spLook (Z : Cs) : Sp := fun vs H Q _ => ∃ (H0 : Hp) (x d l : Addr) (ts : List Addr) (ws : List Sw82.Work) (p : Sw82.Plan) (q : V) (v : DV), vs = [.ref x, .ref d, .ref l] ∧ Ex H0 H ∧ H0 x = none ∧ Dep Z H0 d p ∧ Ins H x Z.U nDuty (q :: v.six) ∧
  H l = some (.lst (ts.map V.ref)) ∧ Each (PieceAt Z H0) ts ws ∧ ws ≠ [] ∧ ws.length ≤ 100 ∧ (∀ w ∈ ws, Dm.okW w) ∧
  ∀ (H' : Hp) (v' : DV), Ex H0 H' → But x H H' → Ins H' x Z.U nDuty (q :: v'.six) → DutyVals p ws v' → Q (nV (p.wrong ws)) H'
section
variable {P : Program} {w : World} {K : PySem.W.Frag} {mg : Str → Option Value} {base : Heap} {Z : Cs}
theorem ok_by {f : Addr} {fd : FuncData} (F : Fun K "by_rules" "Duty.by_rules" sBy f fd) (T : Txt K mg Z) : FnOk P w K mg base CX0 1 f fd ["self", "rules"] (spBy Z) := by
  refine F.ok scBy (fun vs H Q E h => ?_) (fun cdv A outer s H vs Q E hr h => ?_)
  · obtain ⟨x, a, r, q, h, py, b, e, w, d, rfl, _⟩ := h
    rfl
  · obtain ⟨x, a, r, q, hm, py, b, e, wk, d, rfl, hx, hR, k⟩ := h
    refine ⟨_, pss_cons (ps_if (pt_cmpR op_gt (pe_op op_sub (pe_fld (pv 0) rfl) (pe_fld (pv 0) rfl)) (pe_fld (pv 1) rfl) (nomark _)) (pss_one (ps_ret (pe_k T.kLong))) pss_nil)
      (pss_cons (ps_if (pt_cmpR op_gt (pe_fld (pv 0) rfl) (pe_fld (pv 1) rfl) (nomark _)) (pss_one (ps_ret (pe_k T.kWork))) pss_nil)
      (pss_cons (ps_if (pt_cmpR op_gt (pe_fld (pv 0) rfl) (pe_fld (pv 1) rfl) (nomark _)) (pss_one (ps_ret (pe_k T.kDriven))) pss_nil)
      (pss_one (ps_ret (pe_k T.kRight))))), ?_⟩
    unfold byR at k
    refine q_when (et_test (ev_op (ev_op (ev_fld (ev_var rfl) (rf T.cU hx 3)) (ev_fld (ev_var rfl) (rf T.cU hx 2)) rv_I0) (ev_fld (ev_var rfl) (rf T.cR hR 0)) rv_I0)) (fun hb H1 e1 => ?_) (fun hb H1 e1 => ?_)
    · rw [if_pos (by have := of_decide_eq_true hb; omega)] at k
      exact s_ret ev_c fun H2 e2 => k H2 (e1.trans e2)
    · rw [if_neg (by have := of_decide_eq_false hb; omega)] at k
      refine q_when (et_test (ev_op (ev_fld (ev_var rfl) (rf T.cU (hx.mono e1) 5)) (ev_fld (ev_var rfl) (rf T.cR (Ins.mono e1 hR) 1)) rv_I0)) (fun hb H2 e2 => ?_) (fun hb H2 e2 => ?_)
      · rw [if_pos (by have := of_decide_eq_true hb; omega)] at k
        exact s_ret ev_c fun H3 e3 => k H3 (e1.trans (e2.trans e3))
      · rw [if_neg (by have := of_decide_eq_false hb; omega)] at k
        have e12 := e1.trans e2
        refine q_when (et_test (ev_op (ev_fld (ev_var rfl) (rf T.cU (hx.mono e12) 6)) (ev_fld (ev_var rfl) (rf T.cR (Ins.mono e12 hR) 2)) rv_I0)) (fun hb H3 e3 => ?_) (fun hb H3 e3 => ?_)
        · rw [if_pos (by have := of_decide_eq_true hb; omega)] at k
          exact s_ret ev_c fun H4 e4 => k H4 (e12.trans (e3.trans e4))
        · rw [if_neg (by have := of_decide_eq_false hb; omega)] at k
          exact s_ret ev_c fun H4 e4 => k H4 (e12.trans (e3.trans e4))
theorem ok_told {f : Addr} {fd : FuncData} (F : Fun K "told" "Duty.told" sTold f fd) (T : Txt K mg Z) : FnOk P w K mg base CX0 1 f fd ["self"] (spTold Z) := by
  refine F.ok scTold (fun vs H Q E h => ?_) (fun cdv A outer s H vs Q E hr h => ?_)
  · obtain ⟨a, p, ns, d, rfl, _⟩ := h
    rfl
  · obtain ⟨a, p, ns, d, rfl, ⟨q, v, hx, hq, hv⟩, hl, hd, hlen, k⟩ := h
    refine ⟨_, pss_one (ps_ret (pe_op op_cat (pe_lst (pa_cons (pe_fld (pv 0) rfl) (pa_cons (pe_fld (pv 0) rfl) (pa_cons (pe_fld (pv 0) rfl) (pa_cons (pe_fld (pv 0) rfl) pa_nil))))) (pe_fld (pv 0) rfl))), ?_⟩
    have e := hv d hl hd
    subst e
    have eo : (Sw82.dutyOut p (p.inOrder ns)).map V.int = [nV d.home, V.int d.start, V.int d.halt_, nV (p.pay (wsOf p ns))] ++ (p.inOrder ns).map nV := by
      unfold Sw82.dutyOut
      have hd' : p.duty ((p.inOrder ns).map p.work) = some d := hd
      rw [hd']
      show (([(d.home : Int), d.start, d.halt_, ((p.pay ((p.inOrder ns).map p.work) : Nat) : Int)] ++ Sw82.ints (p.inOrder ns)).map V.int) = _
      rw [List.map_append]
      unfold Sw82.ints
      rw [map_nV]
      rfl
    rw [eo] at k
    exact s_retL (el_cat (el_lst (ea_cons (ev_fld (ev_var rfl) (rf T.cU hx 1)) (ea_cons (ev_fld (ev_var rfl) (rf T.cU hx 2)) (ea_cons (ev_fld (ev_var rfl) (rf T.cU hx 3)) (ea_cons (ev_fld (ev_var rfl) (rf T.cU hx 4)) ea_nil)))) (by show 4 ≤ 100000; decide)) (fun H1 e1 => ev_fld (ev_var rfl) (rf T.cU (hx.mono e1) 0)) hq (by rw [List.length_map, Dm.inOrder_length]; show 4 + _ ≤ _; omega)) k
end
end Dw
namespace Dw
open PySem PySem.Spec PyProof.Rows L2 Evl
theorem zip_at {α β : Type} {xs : List α} {ys : List β} {i : Nat} {q : α × β} (h : (xs.zip ys)[i]? = some q) : xs[i]? = some q.1 ∧ ys[i]? = some q.2 := by
  rw [List.getElem?_zip_eq_some] at h
  exact h
theorem tail_drop {α : Type} (l : List α) : l.tail = l.drop 1 := by cases l <;> rfl
theorem end_of {α : Type} {l : List α} (h : l ≠ []) : ∃ (r : List α) (x : α), l = r ++ [x] := ⟨l.dropLast, l.getLast h, (List.dropLast_concat_getLast h).symm⟩
/-- the first of the reading of a list of pieces, the last -/
theorem each_ends {G : Addr → Sw82.Work → Prop} {ts : List Addr} {ws : List Sw82.Work} (e : Each G ts ws) (h : ws ≠ []) : ∃ t x r u y, ts[0]? = some t ∧ ws.head? = some x ∧ ts = r ++ [u] ∧ ws.getLast? = some y ∧ G t x ∧ G u y := by
  obtain ⟨wr, y, hy⟩ := end_of h
  have hts : ts ≠ [] := fun z => h (List.length_eq_zero_iff.mp (by rw [← e.1, z]; rfl))
  obtain ⟨r, u, hu⟩ := end_of hts
  obtain ⟨x, hx⟩ := at_of_lt (l := ws) (n := 0) (List.length_pos_iff.mpr h)
  obtain ⟨t, ht⟩ := at_of_lt (l := ts) (n := 0) (List.length_pos_iff.mpr hts)
  have hl : r.length = wr.length := by
    have := e.1
    rw [hu, hy, List.length_append, List.length_append] at this
    simpa using this
  refine ⟨t, x, r, u, y, ht, by rw [List.head?_eq_getElem?]; exact hx, hu, by rw [hy]; simp, e.2 0 t x ht hx, e.2 r.length u y (by rw [hu]; simp) (by rw [hy, hl]; simp)⟩
section
variable {P : Program} {w : World} {K : PySem.W.Frag} {mg : Str → Option Value} {base : Heap} {Z : Cs}
theorem g_home {d : Addr} {H : Hp} {p : Sw82.Plan} {a b : Nat} (D : Dep Z H d p) : SpG (spHome Z) [.ref d, nV a, nV b] H (fun v H2 => TupO H2 v ((p.home a b).map tri)) := fun H1 e Q q E =>
  ⟨d, a, b, p, rfl, D.mono e, fun v H2 e2 g => q v H2 e2 g⟩
theorem v_pay {a : Addr} {H : Hp} {r : Sw82.Rules} (R : RulesAt Z H a r) (m : Int) : SpV (spPay Z) [.ref a, .int m] H (.int (payZ r m)) := fun H1 e Q q E => ⟨a, r, m, rfl, Ins.mono e R, q⟩
theorem v_drv {d l : Addr} {H : Hp} {p : Sw82.Plan} {ws : List Sw82.Work} (D : Dep Z H d p) (hp : PcsAt K Z H l ws) (hn : ws ≠ []) (hl : ws.length ≤ 100) (hok : ∀ x ∈ ws, Dm.okW x) : SpV (spDrv K Z) [.ref d, .ref l] H (nV (p.driveFrom 0 ws)) := fun H1 e Q q E => ⟨d, l, ws, p, rfl, D.mono e, hp.mono e, hn, hl, hok, q⟩
theorem v_by {x a : Addr} {H : Hp} {r : Sw82.Rules} {q h py : V} {b e : Int} {wk d : Nat} (hx : Ins H x Z.U nDuty [q, h, .int b, .int e, py, nV wk, nV d]) (R : RulesAt Z H a r) : SpV (spBy Z) [.ref x, .ref a] H (.int (byR r b e wk d)) := fun H1 e1 Q k E => ⟨x, a, r, q, h, py, b, e, wk, d, rfl, hx.mono e1, Ins.mono e1 R, k⟩
theorem pay_byR {p : Sw82.Plan} {ws : List Sw82.Work} {d : Sw82.Duty} (hl : p.linked ws = true) (hd : p.duty ws = some d) : ((p.wrong ws : Nat) : Int) = byR p.rules d.start d.halt_ (Sw82.Plan.worked ws) (p.driveFrom 0 ws) := by
  unfold Sw82.Plan.wrong byR
  rw [hl, if_neg (by decide), hd]
  show (((if d.halt_ - d.start > (p.rules.long : Int) then 3 else if p.rules.work < Sw82.Plan.worked ws then 4 else if p.rules.drive < p.driveFrom 0 ws then 5 else 0 : Nat)) : Int) = _
  split
  · rfl
  · split
    · rfl
    · split <;> rfl
theorem ok_look {f : Addr} {fd : FuncData} (F : Fun K "looked_at" "Duty.looked_at" sLook f fd) (T : Txt K mg Z) (hGap : HasF P w K mg base CX0 2 "gap_between" (spGap Z)) (hHome : HasF P w K mg base CX0 3 "best_home" (spHome Z)) (hPay : HasF P w K mg base CX0 1 "pay_for" (spPay Z))
    (hLen : HasM P w K mg base CX0 1 Z.P "length" (spLen Z)) (hDrv : HasF P w K mg base CX0 4 "driven_together" (spDrv K Z)) (hBy : HasM P w K mg base CX0 1 Z.U "by_rules" (spBy Z)) : FnOk P w K mg base CX0 5 f fd ["self", "depot", "pieces"] (spLook Z) := by
  refine F.ok scLook (fun vs H Q E h => ?_) (fun cdv A outer s H vs Q E hr h => ?_)
  · obtain ⟨H0, x, d, l, ts, ws, p, q, v, rfl, _⟩ := h
    rfl
  · obtain ⟨H0, x, d, l, ts, ws, p, q, v, rfl, e0, x0, D0, hx, hl, ep, hne, hlen, hok, k⟩ := h
    have hr1 : Room 1 _ := hr.mono (by decide)
    have hr2 : Room 2 _ := hr.mono (by decide)
    have hr3 : Room 3 _ := hr.mono (by decide)
    refine ⟨_, pss_cons (ps_if (pt_cmpR op_in_seq pe_non (pe_lc (own := [("piece", 4), ("other", 5)]) (g := gTup K 2 (gCons (gName 4) (gCons (gName 5) gNil))) (tt := tYes) (te := tCl (spGap Z) E0 (tCons (tVar 1) (tCons (tVar 4) (tCons (tVar 5) tNil)))) rfl scLook.nd
          (pi_zip (by rfl) T.bZip (pa_cons (pv 2) (pa_cons (pe_slice sl_list (pv 2) (po_some pe_int) po_none) pa_nil))) (blkOk_by (N := NLook) (sc := defScope sLook) (by decide +kernel))
          (fun _ _ _ _ _ => by exact pg_tup rfl (pgs_cons (pg_name (i := 4) scLook.nd rfl (Or.inl rfl)) (pgs_cons (pg_name (i := 5) scLook.nd rfl (Or.inl rfl)) pgs_nil))) (fun _ _ _ _ _ => pts_nil)
          (fun _ _ _ _ _ => by exact pe_cl hGap hr2 pass0 (pa_cons (pv 1) (pa_cons (pv 4) (pa_cons (pv 5) pa_nil))))) (by rfl)) (pss_one (ps_ret (pe_k T.kGap))) pss_nil)
      (pss_cons (ps_set (i := 3) scLook.nd rfl (Or.inl rfl) (pe_cl hHome hr3 pass0 (pa_cons (pv 1) (pa_cons (pe_fld (pe_ix ix_list (pv 2) pe_int (fun _ _ => rfl)) rfl) (pa_cons (pe_fld (pe_ix ix_list (pv 2) (pe_un un_neg pe_int) (fun _ _ => rfl)) rfl) pa_nil)))))
      (pss_cons (ps_if (pt_cmpR op_isN (pv 3) pe_non (nomark _)) (pss_one (ps_ret (pe_k T.kHome))) pss_nil)
      (pss_cons (ps_fld (pv 0) (pe_ix ix_tup (pv 3) pe_int (fun _ _ => rfl)) rfl)
      (pss_cons (ps_fld (pv 0) (pe_op op_sub (pe_op op_sub (pe_fld (pe_ix ix_list (pv 2) pe_int (fun _ _ => rfl)) rfl) (pe_ix ix_tup (pv 3) pe_int (fun _ _ => rfl))) (pe_fld (pe_fld (pv 1) rfl) rfl)) rfl)
      (pss_cons (ps_fld (pv 0) (pe_op op_add (pe_op op_add (pe_fld (pe_ix ix_list (pv 2) (pe_un un_neg pe_int) (fun _ _ => rfl)) rfl) (pe_ix ix_tup (pv 3) pe_int (fun _ _ => rfl))) (pe_fld (pe_fld (pv 1) rfl) rfl)) rfl)
      (pss_cons (ps_fld (pv 0) (pe_cl hPay hr1 pass0 (pa_cons (pe_fld (pv 1) rfl) (pa_cons (pe_op op_sub (pe_fld (pv 0) rfl) (pe_fld (pv 0) rfl)) pa_nil))) rfl)
      (pss_cons (ps_fld (pv 0) (pe_callB (cr_sum rfl) (by rfl) T.bSum (by decide +kernel) (pa_cons (pe_lc (own := [("piece", 4)]) (g := gName 4) (tt := tYes) (te := tMe Z.P "length" (spLen Z) E0 (tVar 4) tNil) rfl scLook.nd (pi_list (pv 2)) (blkOk_by (N := NLook) (sc := defScope sLook) (by decide +kernel))
          (fun _ _ _ _ _ => by exact pg_name (i := 4) scLook.nd rfl (Or.inl rfl)) (fun _ _ _ _ _ => pts_nil) (fun _ _ _ _ _ => by exact pe_me0 hLen T.cP.cl hr1 pass0 (pv 4))) pa_nil)) rfl)
      (pss_cons (ps_fld (pv 0) (pe_cl hDrv hr pass0 (pa_cons (pv 1) (pa_cons (pv 2) pa_nil))) rfl)
      (pss_one (ps_ret (pe_me hBy T.cU.cl hr1 pass0 (pv 0) (pa_cons (pe_fld (pv 1) rfl) pa_nil)))))))))))), ?_⟩
    obtain ⟨t, wx, r, u, wy, ht, hwx, hru, hwy, Px, Py⟩ := each_ends ep hne
    have haf : atI (ts.map V.ref) 0 = some (.ref t) := atI_nat (j := 0) (by rw [List.getElem?_map, ht]; rfl)
    have hal : atI (ts.map V.ref) (-1) = some (.ref u) := by
      rw [hru, List.map_append]
      exact atI_last _ _
    obtain ⟨A, DA⟩ := id D0
    -- None in [..]
    have hgaps : EvL (tLc (iZip K (tCons (tVar 2) (tCons (tSl (rSlL K) (tVar 2) (tPart (tC (.int 1))) tNoPart) tNil))) (gTup K 2 (gCons (gName 4) (gCons (gName 5) gNil))) tYes (tCl (spGap Z) E0 (tCons (tVar 1) (tCons (tVar 4) (tCons (tVar 5) tNil)))) [4, 5])
        [some (.ref x), some (.ref d), some (.ref l), none, none, none] H ((ws.zip ws.tail).map fun z => oV (p.gap z.1 z.2)) := by
      have hzl : (ws.zip ws.tail).length = min (ts.map V.ref).length ((ts.map V.ref).drop 1).length := by
        rw [List.length_zip, List.length_tail, List.length_drop, List.length_map, ep.1]
      have hsl : EvL (tSl (rSlL K) (tVar 2) (tPart (tC (.int 1))) tNoPart) [some (.ref x), some (.ref d), some (.ref l), none, none, none] H ((ts.map V.ref).drop 1) := by
        rw [← cut_one]
        exact el_sl (ev_var rfl) (eo_some ev_c) eo_none (SqL.of hl)
      refine el_compA (ws.zip ws.tail) (fun z => oV (p.gap z.1 z.2)) (by rw [hzl]; have := ep.1; rw [List.length_map]; omega) (it_zip (ev_var rfl) (SqL.of hl) hsl hzl) (fun i z y H' H'' hz e1 hy => ?_)
      obtain ⟨h1, h2⟩ := zip_at hz
      rw [tail_drop, List.getElem?_drop, Nat.add_comm] at h2
      obtain ⟨TT, ux, uy, rfl, hT, rfl, hux, huy⟩ := hy
      obtain ⟨ti, hti, rfl⟩ := map_at hux
      rw [← List.map_drop] at huy
      obtain ⟨tj, htj, rfl⟩ := map_at huy
      rw [List.getElem?_drop, Nat.add_comm] at htj
      have e2 : Ex H0 (upd H' TT (.tup [V.ref ti, V.ref tj])) := (e0.trans e1).trans (Ex.new hT)
      exact ⟨Ex.new hT, _, fun Q h => ⟨TT, _, rfl, SqT.of upd_same, rfl, _, _, rfl, _, _, rfl, rfl, h⟩, rfl, ev_cl (ea_cons (ev_var rfl) (ea_cons (ev_var rfl) (ea_cons (ev_var rfl) ea_nil))) (v_gap (D0.mono e2) ((ep.2 i ti z.1 hti h1).mono e2) ((ep.2 (i + 1) tj z.2 htj h2).mono e2))⟩
    have hin : inV .non ((ws.zip ws.tail).map fun z => oV (p.gap z.1 z.2)) = !p.linked ws := by
      rw [Dm.linked_gaps]
      unfold inV
      rw [List.any_map, ← Bool.not_not (List.any _ _), List.not_any_eq_all_not]
      congr 1
      congr 1
      funext z
      show (!eqV (oV (p.gap z.1 z.2)) .non) = _
      cases p.gap z.1 z.2 <;> rfl
    have hflat : ((ws.zip ws.tail).map fun z => oV (p.gap z.1 z.2)).all flatV = true := by
      rw [List.all_map, List.all_eq_true]
      intro z _
      show flatV (oV (p.gap z.1 z.2)) = true
      cases p.gap z.1 z.2 <;> rfl
    refine q_when (b := !p.linked ws) (et_is (et_test (ev_opL ev_c hgaps fun q H1 h1 e1 => rv_isL (sq_of h1) rfl hflat)) hin) (fun hb H1 e1 => ?_) (fun hb H1 e1 => ?_)
    · have hnl : p.linked ws = false := by simpa using hb
      have hw : p.wrong ws = 1 := by unfold Sw82.Plan.wrong; rw [if_pos hnl]
      rw [hw] at k
      exact s_ret ev_c fun H2 e2 => k H2 v (e0.trans (e1.trans e2)) (But.of (e1.trans e2)) (hx.mono (e1.trans e2)) fun d hl' => by rw [hnl] at hl'; cases hl'
    · have hlk : p.linked ws = true := by simpa using hb
      have e01 := e0.trans e1
      refine q_asgG (eg_cl (ea_cons (ev_var rfl) (ea_cons (ev_fld (ev_op (ev_var rfl) ev_c (rv_ixL (SqL.of (e1 _ _ hl)) haf)) (rf T.cP (Px.mono e01) 0)) (ea_cons (ev_fld (ev_op (ev_var rfl) (ev_un ev_c ru_neg) (rv_ixL (SqL.of (e1 _ _ hl)) hal)) (rf T.cP (Py.mono e01) 1)) ea_nil))) (g_home (D0.mono e01))) fun fv H2 e2 hT => ?_
      have e02 := e01.trans e2
      have hdu : p.duty ws = (p.home wx.from_ wy.to).map fun h => ⟨h.1, (wx.start : Int) - h.2.1 - p.rules.on, (wy.halt_ : Int) + h.2.2 + p.rules.off⟩ := by
        unfold Sw82.Plan.duty
        rw [hwx, hwy]
      cases hh : p.home wx.from_ wy.to with
      | none =>
        rw [hh] at hT hdu
        obtain rfl : fv = .non := hT
        have hw : p.wrong ws = 2 := by
          unfold Sw82.Plan.wrong
          rw [hlk, if_neg (by decide), hdu]
          rfl
        rw [hw] at k
        refine q_when (b := true) (et_is (et_test (ev_op (ev_var rfl) ev_c rv_isN)) rfl) (fun _ H3 e3 => ?_) (fun h => by cases h)
        exact s_ret ev_c fun H4 e4 => k H4 v (e02.trans (e3.trans e4)) (But.of ((e1.trans e2).trans (e3.trans e4))) (hx.mono ((e1.trans e2).trans (e3.trans e4))) fun d' _ hd' => by rw [hdu] at hd'; cases hd'
      | some h =>
        rw [hh] at hT hdu
        obtain ⟨tu, rfl, hT⟩ := hT
        have hdu' : p.duty ws = some ⟨h.1, (wx.start : Int) - h.2.1 - p.rules.on, (wy.halt_ : Int) + h.2.2 + p.rules.off⟩ := hdu
        refine q_when (b := false) (et_is (et_test (ev_op (ev_var rfl) ev_c rv_isN)) rfl) (fun h => by cases h) (fun _ H3 e3 => ?_)
        have e03 := e02.trans e3
        have B3 : But x H H3 := But.of ((e1.trans e2).trans e3)
        have hx3 := hx.mono ((e1.trans e2).trans e3)
        have hT3 : H3 tu = some (.tup (tri h)) := e3 _ _ hT
        have hl3 : H3 l = some (.lst (ts.map V.ref)) := ((e1.trans e2).trans e3) _ _ hl
        refine set_f (v := nV h.1) T.cU 1 e03 x0 hx3 (ev_op (ev_var rfl) ev_c (rv_ixT (SqT.of hT3) (atI_nat (j := 0) rfl))) (ev_var rfl) rfl (by show 1 < 7; decide) (by show 7 ≤ 100; decide) fun H4 e04 b4 hx4 => ?_
        have B4 := B3.trans b4
        have hT4 := b4.tup hx3 hT3
        have hl4 := b4.lst hx3 hl3
        have D4 := DA.mono e04
        -- its begin
        refine set_f (v := .int ((wx.start : Int) - h.2.1 - p.rules.on)) T.cU 2 e04 x0 hx4 (ev_op (ev_op (ev_fld (ev_op (ev_var rfl) ev_c (rv_ixL (SqL.of hl4) haf)) (rf T.cP (Px.mono e04) 2)) (ev_op (ev_var rfl) ev_c (rv_ixT (SqT.of hT4) (atI_nat (j := 1) rfl))) rv_I0) (ev_fld (ev_fld (ev_var rfl) (rf T.cD D4.ins 0)) (rf T.cR D4.rul 4)) rv_I0) (ev_var rfl) rfl (by show 2 < 7; decide) (by show 7 ≤ 100; decide) fun H5 e05 b5 hx5 => ?_
        have B5 := B4.trans b5
        have hT5 := b5.tup hx4 hT4
        have hl5 := b5.lst hx4 hl4
        have D5 := DA.mono e05
        -- its end
        refine set_f (v := .int ((wy.halt_ : Int) + h.2.2 + p.rules.off)) T.cU 3 e05 x0 hx5 (ev_op (ev_op (ev_fld (ev_op (ev_var rfl) (ev_un ev_c ru_neg) (rv_ixL (SqL.of hl5) hal)) (rf T.cP (Py.mono e05) 3)) (ev_op (ev_var rfl) ev_c (rv_ixT (SqT.of hT5) (atI_nat (j := 2) rfl))) rv_I0) (ev_fld (ev_fld (ev_var rfl) (rf T.cD D5.ins 0)) (rf T.cR D5.rul 5)) rv_I0) (ev_var rfl) rfl (by show 3 < 7; decide) (by show 7 ≤ 100; decide) fun H6 e06 b6 hx6 => ?_
        have B6 := B5.trans b6
        have hl6 := b6.lst hx5 hl5
        have D6 := DA.mono e06
        -- its pay
        have hm : (0 : Int) ≤ ((wy.halt_ : Int) + h.2.2 + p.rules.off) - ((wx.start : Int) - h.2.1 - p.rules.on) := by
          have := Dm.linked_le p ws wx wy hok hlk hwx hwy
          omega
        have hpay : payZ p.rules (((wy.halt_ : Int) + h.2.2 + p.rules.off) - ((wx.start : Int) - h.2.1 - p.rules.on)) = ((p.pay ws : Nat) : Int) := (Dm.pay_is hdu' hm).symm
        refine set_f (v := nV (p.pay ws)) T.cU 4 e06 x0 hx6 (ev_is (ev_cl (ea_cons (ev_fld (ev_var rfl) (rf T.cD D6.ins 0)) (ea_cons (ev_op (ev_fld (ev_var rfl) (rf T.cU hx6 3)) (ev_fld (ev_var rfl) (rf T.cU hx6 2)) rv_I0) ea_nil)) (v_pay D6.rul _)) (congrArg V.int hpay)) (ev_var rfl) rfl (by show 4 < 7; decide) (by show 7 ≤ 100; decide) fun H7 e07 b7 hx7 => ?_
        have B7 := B6.trans b7
        have hl7 := b7.lst hx6 hl6
        -- its work
        have hsum : EvL (tLc (iList K (tVar 2)) (gName 4) tYes (tMe Z.P "length" (spLen Z) E0 (tVar 4) tNil) [4]) [some (.ref x), some (.ref d), some (.ref l), some (.ref tu), none, none] H7 (ws.map fun y => nV (Dm.len y)) := by
          refine el_compA ws (fun y => nV (Dm.len y)) (by omega) (it_list (ev_var rfl) (SqL.of hl7) (by rw [List.length_map, ep.1])) (fun i y z H' H'' hy e8 hz => ?_)
          obtain ⟨rfl, hz⟩ := hz
          obtain ⟨ti, hti, rfl⟩ := map_at hz
          have Pi := (ep.2 i ti y hti hy).mono (e07.trans e8)
          exact ⟨Ex.refl _, _, fun Q h => h, rfl, ev_me (ev_var rfl) (not_meth_piece Pi) ea_nil (v_len Pi (hok _ (List.mem_of_getElem? hy)))⟩
        refine set_f (v := nV (Sw82.Plan.worked ws)) T.cU 5 e07 x0 hx7 (ev_cbL hsum fun q' H8 h8 e8 H9 e9 Q' k' => ⟨q', (ws.map Dm.len).map fun n : Nat => (n : Int), rfl, ?_, ?_⟩) (ev_var rfl) rfl (by show 5 < 7; decide) (by show 7 ≤ 100; decide) fun H8 e08 b8 hx8 => ?_
        · rw [map_nV, List.map_map]
          exact SqL.of (e9 _ _ h8)
        · rw [Dm.sum_int, ← Dm.worked_sum]
          exact k' H9 (Ex.refl H9)
        have B8 := B7.trans b8
        have hl8 := b8.lst hx7 hl7
        -- what is driven
        refine set_f (v := nV (p.driveFrom 0 ws)) T.cU 6 e08 x0 hx8 (ev_cl (ea_cons (ev_var rfl) (ea_cons (ev_var rfl) ea_nil)) (v_drv (K := K) (D0.mono e08) ⟨ts, SqL.of hl8, ep.mono fun _ _ q => q.mono e08⟩ hne hlen hok)) (ev_var rfl) rfl (by show 6 < 7; decide) (by show 7 ≤ 100; decide) fun H9 e09 b9 hx9 => ?_
        have B9 := B8.trans b9
        have D9 := DA.mono e09
        have hby := pay_byR hlk hdu'
        refine s_ret (ev_is (ev_me (ev_var rfl) (mof hx9 (by decide +kernel)) (ea_cons (ev_fld (ev_var rfl) (rf T.cD D9.ins 0)) ea_nil) (v_by hx9 D9.rul)) (congrArg V.int hby.symm)) fun H10 e10 => ?_
        refine k H10 ⟨nV h.1, .int ((wx.start : Int) - h.2.1 - p.rules.on), .int ((wy.halt_ : Int) + h.2.2 + p.rules.off), nV (p.pay ws), nV (Sw82.Plan.worked ws), nV (p.driveFrom 0 ws)⟩ (e09.trans e10) (B9.trans (But.of e10)) (hx9.mono e10) fun d' _ hd' => ?_
        rw [hdu'] at hd'
        cases hd'
        rfl
end
end Dw
namespace Dw
open PySem PySem.Spec PyProof.Rows L2 Evl
abbrev sDuty : Stmt := inClass (top 18) 0
abbrev NDuty : List Str := ["self", "depot", "numbers", "number"]
theorem scDuty : FnScope NDuty ["self", "depot", "numbers"] (defScope sDuty) := ⟨rfl, rfl, rfl, by decide +kernel, rfl, by decide +kernel, by decide +kernel⟩
abbrev sMem : Stmt := top 20
abbrev NMem : List Str := ["some", "k"]
theorem scMem : FnScope NMem ["some"] (defScope sMem) := ⟨rfl, rfl, rfl, by decide +kernel, rfl, by decide +kernel, by decide +kernel⟩
/-- Duty.__init__ of the young instance x -/
def spDuty (K : PySem.W.Frag) (Z : Cs) : Sp := fun vs H Q _ => ∃ (H0 : Hp) (x d l : Addr) (ns : List Nat) (p : Sw82.Plan), vs = [.ref x, .ref d, .ref l] ∧ Ex H0 H ∧ H0 x = none ∧ Ins H x Z.U nDuty [] ∧ Dep Z H0 d p ∧ SqL K H0 l (ns.map nV) ∧
  ns.Nodup ∧ (∀ n ∈ ns, n < p.works.length) ∧ ns ≠ [] ∧ ns.length ≤ 100 ∧ ∀ H' : Hp, Ex H0 H' → DutyAt Z H' x p ns → Q .non H'
/-- members -/
def spMem : Sp := fun vs H Q _ => ∃ s n : Nat, vs = [nV s] ∧ s < 2 ^ n ∧ n ≤ 7 ∧ RetL ((Sw82.members n s).map nV) H Q
/-- arguments: a value, a new list -/
theorem args_vL {ta tl : TE} {σ : L2.St} {H : Hp} {a : V} {xs : List V} {Q : List V → Hp → Prop} (h1 : Ev ta σ H a) (h2 : EvL tl σ H xs) (k : ∀ l H1, H l = none → Ex H H1 → H1 l = some (.lst xs) → Q [a, .ref l] H1) : tCons ta (tCons tl tNil) σ H Q :=
  h1 H (Ex.refl H) _ fun H1 e1 => h2 H1 e1 _ fun l H2 hl e2 hh => k l H2 (fresh_back e1 hl) (e1.trans e2) hh
theorem ev_bits {ta : TE} {σ : L2.St} {H : Hp} {i : Int} (h : Ev ta σ H (.int i)) : Ev (tBits ta) σ H (.int (Builtin.Int.intBits i : Nat)) := fun H1 e Q q => h H1 e _ fun H2 e2 => ⟨i, rfl, q H2 e2⟩
theorem bit_test (s k : Nat) : decide (V.int (Builtin.bitAnd ((s : Int) / 2 ^ ((k : Int)).toNat) 1) = V.int 1) = s.testBit k := by
  rw [bitAnd_m1, Int.toNat_natCast, Nat.testBit_eq_decide_div_mod_eq]
  have e : ((s : Int) / 2 ^ k) % 2 = ((s / 2 ^ k % 2 : Nat) : Int) := by
    rw [Int.natCast_emod, Int.natCast_ediv, Int.natCast_pow]
    rfl
  rw [e]
  by_cases h : s / 2 ^ k % 2 = 1
  · rw [h]; rfl
  · rw [decide_eq_false h]
    refine decide_eq_false fun q => h ?_
    injection q with q
    omega
section
variable {P : Program} {w : World} {K : PySem.W.Frag} {mg : Str → Option Value} {base : Heap} {Z : Cs}
theorem l_ord {d l : Addr} {H : Hp} {p : Sw82.Plan} {ns : List Nat} (D : Dep Z H d p) (hl : SqL K H l (ns.map nV)) (hn : ns.Nodup) (hlt : ∀ n ∈ ns, n < p.works.length) (hz : ns.length ≤ 100) : SpL (spOrd K Z) [.ref d, .ref l] H ((p.inOrder ns).map nV) := fun H1 e Q q E =>
  ⟨d, l, ns, p, rfl, D.mono e, ex_l e hl, hn, hlt, hz, fun p' H2 a b c => q p' H2 a b c⟩
theorem ok_mem {f : Addr} {fd : FuncData} (F : Fun K "members" "members" sMem f fd) (T : Txt K mg Z) : FnOk P w K mg base CX0 1 f fd ["some"] spMem := by
  refine F.ok scMem (fun vs H Q E h => ?_) (fun cdv A outer s H vs Q E hr h => ?_)
  · obtain ⟨s, n, rfl, _⟩ := h
    rfl
  · obtain ⟨s, n, rfl, hs, hn, k⟩ := h
    refine ⟨_, pss_one (ps_ret (pe_lc (own := [("k", 1)]) (g := gName 1) (tt := tTest (tOp rEq (tOp (rI0 fun i j => .int (Builtin.bitAnd i j)) (tOp (rI (fun _ j => 0 ≤ j) fun i j => .int (i / 2 ^ j.toNat)) (tVar 0) (tVar 1)) (tC (.int 1))) (tC (.int 1)))) (te := tVar 1) rfl scMem.nd
        (pi_range1 rfl T.bRange (pa_cons (pe_bits (pv 0)) pa_nil)) (blkOk_by (N := NMem) (sc := defScope sMem) (by decide +kernel))
        (fun _ _ _ _ _ => by exact pg_name (i := 1) scMem.nd rfl (Or.inl rfl)) (fun _ _ _ _ _ => by exact pts_one (pt_cmpR op_eq (pe_op op_and (pe_op op_shr (pv 0) (pv 1)) pe_int) pe_int (nomark _))) (fun _ _ _ _ _ => by exact pv 1))), ?_⟩
    have hb : ∃ b, Builtin.Int.intBits (s : Int) = b ∧ s < 2 ^ b ∧ b ≤ 100 := by
      refine ⟨_, rfl, ?_, ?_⟩
      · unfold Builtin.Int.intBits
        by_cases h0 : s = 0
        · subst h0; decide
        · rw [if_neg (by simpa using h0), Int.natAbs_natCast]
          exact Nat.lt_log2_self
      · unfold Builtin.Int.intBits
        by_cases h0 : s = 0
        · subst h0; decide
        · rw [if_neg (by simpa using h0), Int.natAbs_natCast]
          have : s.log2 < n := (Nat.log2_lt h0).mpr hs
          omega
    obtain ⟨b, eb, hsb, hb⟩ := hb
    refine s_retL (el_comp (List.range b) (fun k => s.testBit k) nV (by rw [List.length_range]; omega) (by
      rw [List.length_range]
      refine it_range1 (ea_cons (ev_is (ev_bits (ev_var rfl)) ?_) ea_nil) (by omega)
      rw [eb]) (fun i j x H' H'' hj e1 hx => ?_)) fun p H1 hp e1 h1 => ?_
    · obtain ⟨rfl, rfl⟩ := hx
      have ej : j = i := by
        have := (List.getElem?_eq_some_iff.mp hj)
        obtain ⟨_, e⟩ := this
        simpa using e.symm
      subst ej
      exact ⟨Ex.refl _, _, fun Q h => h, rfl, et_is (et_test (ev_op (ev_op (ev_op (ev_var rfl) (ev_var rfl) (rv_I (by omega))) ev_c rv_I0) ev_c (rv_eq rfl))) (bit_test s j), fun _ => ev_var rfl⟩
    · have e : (List.range b).filter (fun k => s.testBit k) = Sw82.members n s := Dm.members_eq hsb hs
      rw [e] at h1
      exact k p H1 hp e1 h1
theorem ok_duty {f : Addr} {fd : FuncData} (F : Fun K "__init__" "Duty.__init__" sDuty f fd) (T : Txt K mg Z) (hOrd : HasM P w K mg base CX0 1 Z.D "in_order" (spOrd K Z)) (hLook : HasM P w K mg base CX0 5 Z.U "looked_at" (spLook Z)) : FnOk P w K mg base CX0 6 f fd ["self", "depot", "numbers"] (spDuty K Z) := by
  refine F.ok scDuty (fun vs H Q E h => ?_) (fun cdv A outer s H vs Q E hr h => ?_)
  · obtain ⟨H0, x, d, l, ns, p, rfl, _⟩ := h
    rfl
  · obtain ⟨H0, x, d, l, ns, p, rfl, e0, x0, hx, D0, hl, hnd, hlt, hne, hlen, k⟩ := h
    have hr1 : Room 1 _ := hr.mono (by decide)
    refine ⟨_, pss_cons (ps_fld (pv 0) (pe_me hOrd T.cD.cl hr1 pass0 (pv 1) (pa_cons (pv 2) pa_nil)) rfl)
      (pss_cons (ps_fld (pv 0) pe_non rfl)
      (pss_cons (ps_fld (pv 0) pe_int rfl)
      (pss_cons (ps_fld (pv 0) pe_int rfl)
      (pss_cons (ps_fld (pv 0) pe_int rfl)
      (pss_cons (ps_fld (pv 0) pe_int rfl)
      (pss_cons (ps_fld (pv 0) pe_int rfl)
      (pss_one (ps_fld (pv 0) (pe_me hLook T.cU.cl hr pass0 (pv 0) (pa_cons (pv 1) (pa_cons (pe_lc (own := [("number", 3)]) (g := gName 3) (tt := tYes) (te := tOp (rIxL K) (tFld K (tVar 1) "pieces") (tVar 3)) rfl scDuty.nd (pi_list (pe_fld (pv 0) rfl)) (blkOk_by (N := NDuty) (sc := defScope sDuty) (by decide +kernel))
          (fun _ _ _ _ _ => by exact pg_name (i := 3) scDuty.nd rfl (Or.inl rfl)) (fun _ _ _ _ _ => pts_nil) (fun _ _ _ _ _ => by exact pe_ix ix_list (pe_fld (pv 1) rfl) (pv 3) (fun _ _ => rfl))) pa_nil))) rfl)))))))), ?_⟩
    obtain ⟨A, DA⟩ := id D0
    refine new_fL T.cU e0 x0 hx (el_me (ev_var rfl) (not_meth_depot (DA.mono e0) (by decide +kernel)) (ea_cons (ev_var rfl) ea_nil) (l_ord (D0.mono e0) (ex_l e0 hl) hnd hlt hlen)) (fun H1 e1 => ev_var rfl) rfl (by decide) fun q H1 e1 b1 hq1 hq hx1 => ?_
    refine new_f T.cU e1 x0 hx1 ev_c (ev_var rfl) rfl (by show 1 ≤ 100; decide) fun H2 e2 b2 hx2 => ?_
    have hq2 := b2.lst hx1 hq1
    refine new_f T.cU e2 x0 hx2 ev_c (ev_var rfl) rfl (by show 2 ≤ 100; decide) fun H3 e3 b3 hx3 => ?_
    have hq3 := b3.lst hx2 hq2
    refine new_f T.cU e3 x0 hx3 ev_c (ev_var rfl) rfl (by show 3 ≤ 100; decide) fun H4 e4 b4 hx4 => ?_
    have hq4 := b4.lst hx3 hq3
    refine new_f T.cU e4 x0 hx4 ev_c (ev_var rfl) rfl (by show 4 ≤ 100; decide) fun H5 e5 b5 hx5 => ?_
    have hq5 := b5.lst hx4 hq4
    refine new_f T.cU e5 x0 hx5 ev_c (ev_var rfl) rfl (by show 5 ≤ 100; decide) fun H6 e6 b6 hx6 => ?_
    have hq6 := b6.lst hx5 hq5
    refine new_f T.cU e6 x0 hx6 ev_c (ev_var rfl) rfl (by show 6 ≤ 100; decide) fun H7 e7 b7 hx7 => ?_
    have hq7 := b7.lst hx6 hq6
    obtain ⟨ts, hp, ep⟩ := DA.pcs
    have hin : ∀ n ∈ p.inOrder ns, n < p.works.length := fun n hn => hlt n (Dm.inOrder_mem.mp hn)
    have hlc : EvL (tLc (iList K (tFld K (tVar 0) "numbers")) (gName 3) tYes (tOp (rIxL K) (tFld K (tVar 1) "pieces") (tVar 3)) [3]) [some (.ref x), some (.ref d), some (.ref l), none] H7 (((p.inOrder ns).map fun n => ts.getD n 0).map V.ref) := by
      rw [List.map_map]
      refine el_compA (p.inOrder ns) (fun n => V.ref (ts.getD n 0)) (by rw [Dm.inOrder_length]; omega) (it_list (ev_fld (ev_var rfl) (rf T.cU hx7 0)) (SqL.of hq7) (List.length_map nV)) (fun i n y H' H'' hn e8 hy => ?_)
      obtain ⟨rfl, hy⟩ := hy
      obtain ⟨n', hn', rfl⟩ := map_at hy
      rw [hn] at hn'
      cases hn'
      have e9 := e7.trans e8
      have D9 := DA.mono e9
      obtain ⟨t, ht⟩ := at_of_lt (l := ts) (n := n) (by rw [ep.1]; exact hin n (List.mem_of_getElem? hn))
      have eg : ts.getD n 0 = t := by rw [List.getD_eq_getElem?_getD, ht]; rfl
      rw [eg]
      exact ⟨Ex.refl _, _, fun Q h => h, rfl, ev_op (ev_fld (ev_var rfl) (rf T.cD D9.ins 4)) (ev_var rfl) (rv_ixL (SqL.of (e9 _ _ hp)) (atI_nat (by rw [List.getElem?_map, ht]; rfl)))⟩
    obtain ⟨dx, hx7'⟩ := id hx7
    refine ⟨.ref x, rfl, x, dx, _, rfl, hx7', lookup_zip_none (by decide +kernel), args_vL (ev_var rfl) hlc fun lp H8 hlp e8 h8 => ?_⟩
    have hx8 := hx7.mono e8
    refine ⟨H0, x, d, lp, _, wsOf p ns, p, .ref q, ⟨.non, .int 0, .int 0, .int 0, .int 0, .int 0⟩, rfl, e7.trans e8, x0, D0, hx8, h8, ⟨?_, fun i t y ht hy => ?_⟩, ?_, ?_, fun y hy => ?_, fun H' v' e9 b9 hx9 hv => ?_⟩
    · unfold wsOf
      rw [List.length_map, List.length_map]
    · obtain ⟨n, hn, rfl⟩ := map_at ht
      obtain ⟨n', hn', rfl⟩ := map_at hy
      rw [hn] at hn'
      cases hn'
      obtain ⟨z, hz⟩ := at_of_lt (hin n (List.mem_of_getElem? hn))
      obtain ⟨t, ht⟩ := at_of_lt (l := ts) (n := n) (by rw [ep.1]; exact hin n (List.mem_of_getElem? hn))
      have eg : ts.getD n 0 = t := by rw [List.getD_eq_getElem?_getD, ht]; rfl
      rw [eg, work_at hz]
      exact ep.2 n t z ht hz
    · intro z
      exact Dm.inOrder_ne hne (List.map_eq_nil_iff.mp z)
    · unfold wsOf
      rw [List.length_map, Dm.inOrder_length]
      exact hlen
    · obtain ⟨n, hn, rfl⟩ := List.mem_map.mp hy
      obtain ⟨z, hz⟩ := at_of_lt (hin n hn)
      rw [work_at hz]
      exact DA.good.ok z (List.mem_of_getElem? hz)
    · obtain ⟨dx', hx9'⟩ := id hx9
      refine ⟨.ref x, rfl, x, Z.U, dx', _, rfl, hx9', T.cU.cl, T.cU.no _ (by decide +kernel), ?_, ?_⟩
      · rw [List.length_zip]
        exact Nat.lt_of_le_of_lt (Nat.min_le_left _ _) (by decide)
      · have en : putF "wrong" (nV (p.wrong (wsOf p ns))) (nDuty.zip (V.ref q :: v'.six)) = nDuty.zip (V.ref q :: v'.six ++ [nV (p.wrong (wsOf p ns))]) := put_new T.cU.nd rfl
        rw [en]
        refine k _ (Ex.mut e9 x0) ⟨q, v', ⟨dx', upd_same⟩, ?_, hv⟩
        have hq9 := b9.lst hx8 (e8 _ _ hq7)
        rw [upd_ne (ne_of hq9 hx9' fun z => by cases z)]
        exact hq9
end
end Dw
namespace Dw
open PySem PySem.Spec PyProof.Rows L2 Evl
abbrev sRights : Stmt := top 21
abbrev NRights : List Str := ["depot", "found", "some", "duty"]
theorem scRights : FnScope NRights ["depot"] (defScope sRights) := ⟨rfl, rfl, rfl, by decide +kernel, rfl, by decide +kernel, by decide +kernel⟩
abbrev sFirst : Stmt := top 22
abbrev NFirst : List Str := ["duties", "left", "lowest", "some"]
theorem scFirst : FnScope NFirst ["duties", "left"] (defScope sFirst) := ⟨rfl, rfl, rfl, by decide +kernel, rfl, by decide +kernel, by decide +kernel⟩
abbrev kN (n : Nat) : Key := .inl (n : Int)
/-- a dict of duties by their sets ss -/
structure Duts (Z : Cs) (H : Hp) (p : Sw82.Plan) (ss : List Nat) (kvs : List (Key × V)) : Prop where
  len : kvs.length = ss.length
  at_ : ∀ (i : Nat) (kv : Key × V) (s : Nat), kvs[i]? = some kv → ss[i]? = some s → ∃ a, kv = (kN s, .ref a) ∧ DutyAt Z H a p (Sw82.members p.works.length s)
theorem Duts.mono {Z : Cs} {H H' : Hp} {p : Sw82.Plan} {ss : List Nat} {kvs : List (Key × V)} (e : Ex H H') (h : Duts Z H p ss kvs) : Duts Z H' p ss kvs := ⟨h.len, fun i kv s a b => let ⟨c, d, f⟩ := h.at_ i kv s a b; ⟨c, d, f.mono e⟩⟩
theorem DutyAt.updD {Z : Cs} {H : Hp} {a d : Addr} {p : Sw82.Plan} {ns : List Nat} {kvs : List (Key × V)} {o : HO} (hd : H d = some (.dK kvs)) (h : DutyAt Z H a p ns) : DutyAt Z (upd H d o) a p ns := by
  obtain ⟨q, v, ⟨dx, h1⟩, h2, h3⟩ := h
  refine ⟨q, v, ⟨dx, ?_⟩, ?_, h3⟩
  · rw [upd_ne (ne_of h1 hd fun z => by cases z)]
    exact h1
  · rw [upd_ne (ne_of h2 hd fun z => by cases z)]
    exact h2
theorem Duts.updD {Z : Cs} {H : Hp} {d : Addr} {p : Sw82.Plan} {ss : List Nat} {kvs ks : List (Key × V)} {o : HO} (hd : H d = some (.dK ks)) (h : Duts Z H p ss kvs) : Duts Z (upd H d o) p ss kvs := ⟨h.len, fun i kv s a b => let ⟨c, e, f⟩ := h.at_ i kv s a b; ⟨c, e, f.updD hd⟩⟩
theorem Duts.snoc {Z : Cs} {H : Hp} {p : Sw82.Plan} {ss : List Nat} {kvs : List (Key × V)} {s : Nat} {a : Addr} (h : Duts Z H p ss kvs) (ha : DutyAt Z H a p (Sw82.members p.works.length s)) : Duts Z H p (ss ++ [s]) (kvs ++ [(kN s, .ref a)]) := by
  refine ⟨by rw [List.length_append, List.length_append, h.len]; rfl, fun i kv s' h1 h2 => ?_⟩
  by_cases c : i < kvs.length
  · rw [List.getElem?_append_left c] at h1
    rw [List.getElem?_append_left (by rw [← h.len]; exact c)] at h2
    exact h.at_ i kv s' h1 h2
  · have ci : i = kvs.length := by
      have := (List.getElem?_eq_some_iff.mp h1).1
      rw [List.length_append] at this
      simp at this
      omega
    subst ci
    rw [List.getElem?_append_right (Nat.le_refl _), Nat.sub_self] at h1
    rw [h.len, List.getElem?_append_right (Nat.le_refl _), Nat.sub_self] at h2
    have e1 : (kN s, V.ref a) = kv := Option.some.inj h1
    have e2 : s = s' := Option.some.inj h2
    subst e1; subst e2
    exact ⟨a, rfl, ha⟩
theorem valV_out {kvs : List (Key × V)} {k : Key} (h : ∀ kv ∈ kvs, kv.1 ≠ k) : valV kvs k = none := by
  induction kvs with
  | nil => rfl
  | cons kv r ih => rw [valV_neg (h kv List.mem_cons_self)]; exact ih fun q hq => h q (List.mem_cons_of_mem _ hq)
theorem Duts.key {Z : Cs} {H : Hp} {p : Sw82.Plan} {ss : List Nat} {kvs : List (Key × V)} (h : Duts Z H p ss kvs) {kv : Key × V} (hk : kv ∈ kvs) : ∃ s ∈ ss, kv.1 = kN s := by
  obtain ⟨i, hi⟩ := List.getElem?_of_mem hk
  obtain ⟨s, hs⟩ := at_of_lt (l := ss) (n := i) (by rw [← h.len]; exact (List.getElem?_eq_some_iff.mp hi).1)
  obtain ⟨a, rfl, _⟩ := h.at_ i kv s hi hs
  exact ⟨s, List.mem_of_getElem? hs, rfl⟩
theorem Duts.free {Z : Cs} {H : Hp} {p : Sw82.Plan} {ss : List Nat} {kvs : List (Key × V)} (h : Duts Z H p ss kvs) {s : Nat} (hs : s ∉ ss) : valV kvs (kN s) = none := valV_out fun kv hk e => by
  obtain ⟨t, ht, e'⟩ := h.key hk
  rw [e'] at e
  have e2 : (t : Int) = (s : Int) := Sum.inl.inj e
  have : t = s := by omega
  subst this
  exact hs ht
/-- the duty of a set that is in it -/
theorem Duts.get {Z : Cs} {H : Hp} {p : Sw82.Plan} : ∀ {ss : List Nat} {kvs : List (Key × V)}, Duts Z H p ss kvs → ∀ {s : Nat}, s ∈ ss → ∃ a, valV kvs (kN s) = some (.ref a) ∧ DutyAt Z H a p (Sw82.members p.works.length s)
  | [], _, _, _, hs => by cases hs
  | t :: ss, [], h, _, _ => by have := h.len; cases this
  | t :: ss, kv :: kvs, h, s, hs => by
    obtain ⟨a, rfl, ha⟩ := h.at_ 0 kv t rfl rfl
    by_cases c : t = s
    · subst c
      exact ⟨a, valV_pos rfl, ha⟩
    · have hs' : s ∈ ss := (List.mem_cons.mp hs).elim (fun z => absurd z.symm c) id
      have ne : ¬ (kN t, V.ref a).1 = kN s := fun z => c (by
        have e2 : (t : Int) = (s : Int) := Sum.inl.inj z
        omega)
      rw [valV_neg ne]
      refine Duts.get (ss := ss) ⟨by have := h.len; simpa using this, fun i kv s' h1 h2 => h.at_ (i + 1) kv s' h1 h2⟩ hs'
/-- right_duties -/
def spRights (Z : Cs) : Sp := fun vs H Q _ => ∃ (d : Addr) (p : Sw82.Plan), vs = [.ref d] ∧ Dep Z H d p ∧ ∀ (q : Addr) (kvs : List (Key × V)) (H' : Hp), H q = none → Ex H H' → H' q = some (.dK kvs) → Duts Z H' p (Dm.rights p) kvs → Q (.ref q) H'
/-- first_duties -/
def spFirst (Z : Cs) : Sp := fun vs H Q _ => ∃ (q : Addr) (m : Nat) (p : Sw82.Plan) (kvs : List (Key × V)), vs = [.ref q, nV m] ∧ H q = some (.dK kvs) ∧ Duts Z H p (Dm.rights p) kvs ∧ p.works.length ≤ 7 ∧ 0 < m ∧ RetL ((Dm.firsts p m).map nV) H Q
/-- the right ones of the sets below k -/
def upTo (p : Sw82.Plan) (k : Nat) : List Nat := (List.range k).filter fun s => (Dm.payOf p s).isSome
theorem upTo_len (p : Sw82.Plan) (k : Nat) : (upTo p k).length ≤ k := by
  have := List.length_filter_le (fun s => (Dm.payOf p s).isSome) (List.range k)
  rw [List.length_range] at this
  exact this
theorem upTo_succ (p : Sw82.Plan) (k : Nat) : upTo p (k + 1) = if (Dm.payOf p k).isSome = true then upTo p k ++ [k] else upTo p k := by
  unfold upTo
  rw [List.range_succ, List.filter_append, List.filter_cons]
  by_cases c : (Dm.payOf p k).isSome = true
  · rw [if_pos c, if_pos c]; rfl
  · rw [if_neg c, if_neg c]; exact List.append_nil _
theorem payOf_some {p : Sw82.Plan} {s : Nat} (h : s ≠ 0) : (Dm.payOf p s).isSome = decide (p.wrong (p.works_ s) = 0) := by
  unfold Dm.payOf
  rw [if_neg h]
  by_cases c : p.wrong (p.works_ s) = 0
  · rw [if_pos c, decide_eq_true c]; rfl
  · rw [if_neg c, decide_eq_false c]; rfl
theorem low_int {m : Nat} (h : 0 < m) : Builtin.bitAnd (m : Int) (-(m : Int)) = ((Dm.low m : Nat) : Int) := by
  rw [bitAnd_pn (by omega) (by omega)]
  have e : (Builtin.bitNot (-(m : Int))).toNat = m - 1 := by
    show (-(-(m : Int)) - 1).toNat = m - 1
    omega
  rw [e, Int.toNat_natCast]
  unfold Dm.low
  have := Nat.and_le_left (n := m) (m := m - 1)
  omega
theorem and_int (a b : Nat) : Builtin.bitAnd (a : Int) (b : Int) = ((a &&& b : Nat) : Int) := by
  rw [bitAnd_pp (by omega) (by omega), Int.toNat_natCast, Int.toNat_natCast]
theorem q_asgD {i : Nat} {tz : TS} {D : Ends} {σ : L2.St} {H : Hp} (k : ∀ q, H q = none → tz D (σ.set i (some (.ref q))) (upd H q (.dK []))) : tSeq (tAsg tDNewK (gName i)) tz D σ H := k
/-- d[k] = v, k a whole number -/
theorem s_put {td ty tv : TE} {D : Ends} {σ : L2.St} {H : Hp} {d : Addr} {kvs : List (Key × V)} {n : Int} {v : V} (hd : H d = some (.dK kvs)) (hv : Ev tv σ H v) (ht : Ev td σ H (.ref d)) (hy : Ev ty σ H (.int n)) (hz : kvs.length ≤ 1000)
    (k : ∀ H1, Ex H H1 → D.nx σ (upd H1 d (.dK (putK kvs (.inl n) v)))) : sDPut td ty tv D σ H := hv H (Ex.refl H) _ fun H1 e1 => ht H1 e1 _ fun H2 e2 => hy H2 (e1.trans e2) _ fun H3 e3 =>
  ⟨d, _, rfl, DPut.k (k := Sum.inl n) (((e1.trans e2).trans e3) _ _ hd) (small1000 hz), k H3 ((e1.trans e2).trans e3)⟩
/-- the keys of a locked dict -/
theorem it_keys {td : TE} {σ : L2.St} {H : Hp} {d : Addr} {o : Obj} {kvs : List (Key × V)} {n : Nat} (h : Ev td σ H (.ref d)) (hd : H d = some (.frz o (.dK kvs))) (hn : kvs.length = n) : ItEv (iKeys td) σ H n (fun i H' x H'' => H'' = H' ∧ ∃ k v, kvs[i]? = some (k, v) ∧ x = kV k) := fun H0 e R r =>
  h H0 e _ fun H1 e1 => ⟨d, o, rfl, .inl ⟨kvs, (e.trans e1) _ _ hd, by subst hn; exact r _ H1 _ _ e1 walk_keys (fun H' e' => ((e.trans e1).trans e') _ _ hd) fun i H' x H'' _ _ y => y⟩⟩
section
variable {P : Program} {w : World} {K : PySem.W.Frag} {mg : Str → Option Value} {base : Heap} {Z : Cs}
theorem l_mem {s n : Nat} {H : Hp} (hs : s < 2 ^ n) (hn : n ≤ 7) : SpL spMem [nV s] H ((Sw82.members n s).map nV) := fun H1 e Q q E => ⟨s, n, rfl, hs, hn, fun p' H2 a b c => q p' H2 a b c⟩
theorem ok_first {f : Addr} {fd : FuncData} (F : Fun K "first_duties" "first_duties" sFirst f fd) (T : Txt K mg Z) : FnOk P w K mg base CX0 1 f fd ["duties", "left"] (spFirst Z) := by
  refine F.ok scFirst (fun vs H Q E h => ?_) (fun cdv A outer s H vs Q E hr h => ?_)
  · obtain ⟨q, m, p, kvs, rfl, _⟩ := h
    rfl
  · obtain ⟨q, m, p, kvs, rfl, hq, hD, hn, hm, k⟩ := h
    refine ⟨_, pss_cons (ps_set (i := 2) scFirst.nd rfl (Or.inr rfl) (pe_op op_and (pv 1) (pe_un un_neg (pv 1))))
      (pss_one (ps_ret (pe_lock (pe_lc (own := [("some", 3)]) (g := gName 3) (tt := tAnd (tTest (tOp (rI0 fun i j => .bl (decide (j < i))) (tOp (rI0 fun i j => .int (Builtin.bitAnd i j)) (tVar 3) (tVar 2)) (tC (.int 0)))) (tTest (tOp rEq (tOp (rI0 fun i j => .int (Builtin.bitAnd i j)) (tVar 3) (tVar 1)) (tVar 3)))) (te := tVar 3) rfl scFirst.nd
        (pi_keys (pv 0)) (blkOk_by (N := NFirst) (sc := defScope sFirst) (by decide +kernel)) (fun _ _ _ _ _ => by exact pg_name (i := 3) scFirst.nd rfl (Or.inl rfl))
        (fun _ _ _ _ _ => by exact pts_one (PW.pt (pw_and (pt_cmpR op_gt (pe_op op_and (pv 3) (pv 2)) pe_int (nomark _)) (pw_and1 (pt_cmpR op_eq (pe_op op_and (pv 3) (pv 1)) (pv 3) (nomark _)))))) (fun _ _ _ _ _ => by exact pv 3))))), ?_⟩
    refine q_asg (ev_is (ev_op (ev_var rfl) (ev_un (ev_var rfl) ru_neg) rv_I0) (congrArg V.int (low_int hm))) fun H1 e1 => ?_
    have hq1 := e1 _ _ hq
    have hlen : (Dm.rights p).length ≤ 128 := by
      have h1 := upTo_len p (2 ^ p.works.length)
      have h2 : 2 ^ p.works.length ≤ 2 ^ 7 := Nat.pow_le_pow_right (by decide) hn
      have h3 : (Dm.rights p).length = (upTo p (2 ^ p.works.length)).length := rfl
      omega
    refine s_retL (el_lock hq1 trivial fun od => el_comp (Dm.rights p) (fun s => Dm.cond s m) nV (by omega) (it_keys (ev_var rfl) upd_same hD.len) (fun i s x H' H'' hs e2 hx => ?_)) fun p' H2 hp e2 h2 => k p' H2 (fresh_back e1 hp) (e1.trans e2) h2
    obtain ⟨rfl, key, v, hkv, rfl⟩ := hx
    obtain ⟨a, e, _⟩ := hD.at_ i _ s hkv hs
    cases e
    refine ⟨Ex.refl _, _, fun Q h => h, rfl, et_and (et_is (et_test (ev_op (ev_op (ev_var rfl) (ev_var rfl) rv_I0) ev_c rv_I0)) ?_) (fun _ => et_is (et_test (ev_op (ev_op (ev_var rfl) (ev_var rfl) rv_I0) (ev_var rfl) (rv_eq rfl))) ?_), fun _ => ev_var rfl⟩
    · rw [and_int]
      by_cases c : s &&& Dm.low m > 0
      · rw [decide_eq_true c]; exact decide_eq_true (by omega)
      · rw [decide_eq_false c]; exact decide_eq_false (by omega)
    · rw [and_int]
      exact dec_n _ _
theorem ok_rights {f : Addr} {fd : FuncData} (F : Fun K "right_duties" "right_duties" sRights f fd) (T : Txt K mg Z) (hDuty : HasC P w K mg base CX0 6 "Duty" Z.U (spDuty K Z)) (hMem : HasF P w K mg base CX0 1 "members" spMem) : FnOk P w K mg base CX0 8 f fd ["depot"] (spRights Z) := by
  refine F.ok scRights (fun vs H Q E h => ?_) (fun cdv A outer s H vs Q E hr h => ?_)
  · obtain ⟨d, p, rfl, _⟩ := h
    rfl
  · obtain ⟨d, p, rfl, D, k⟩ := h
    have hr1 : Room 1 _ := hr.mono (by decide)
    refine ⟨_, pss_cons (ps_set (i := 1) scRights.nd rfl (Or.inl rfl) pe_dnewK)
      (pss_cons (ps_for PassesOwn.never rfl (pi_range2 rfl T.bRange (pa_cons pe_int (pa_cons (pe_op op_shl pe_int (pe_callB call_len_seq (by rfl) T.bLen PySem.boot_len (pa_cons (pe_fld (pv 0) rfl) pa_nil))) pa_nil))) (pg_name (i := 2) scRights.nd rfl (Or.inl rfl))
        (pss_cons (ps_set (i := 3) scRights.nd rfl (Or.inl rfl) (pe_mk hDuty hr pass0 (pa_cons (pv 0) (pa_cons (pe_cl hMem hr1 pass0 (pa_cons (pv 2) pa_nil)) pa_nil))))
        (pss_one (ps_if (pt_cmpR op_eq (pe_fld (pv 3) rfl) (pe_k T.kRight) (nomark _)) (pss_one (ps_dput (hu_of hr) (pv 1) (pv 2) (pv 3) rfl)) pss_nil))))
      (pss_one (ps_ret (pv 1)))), ?_⟩
    refine q_asgD fun q0 hq0 => ?_
    have e0 : Ex H (upd H q0 (.dK [])) := Ex.new hq0
    obtain ⟨A, DA⟩ := id D
    have D0 := DA.mono e0
    obtain ⟨ts, hp, ep⟩ := D0.pcs
    have hn := D0.good.works
    have h2n : 2 ^ p.works.length ≤ 2 ^ 7 := Nat.pow_le_pow_right (by decide) hn
    have hpos := Nat.two_pow_pos p.works.length
    refine q_forR2 (lo := 1) (n := ((2 ^ p.works.length : Nat) : Int)) (ea_cons ev_c (ea_cons (ev_is (ev_op ev_c (ev_len (ev_fld (ev_var rfl) (rf T.cD D0.ins 4)) (SqL.of hp)) (rv_I ?_)) ?_) ea_nil)) (by omega)
      (fun i σ' H' => ∃ (kvs : List (Key × V)) (sv dv : Option V), σ' = [some (.ref d), some (.ref q0), sv, dv] ∧ Ex H H' ∧ H' q0 = some (.dK kvs) ∧ Duts Z H' p (upTo p (i + 1)) kvs)
      (fun H1 e1 => ⟨[], none, none, rfl, e0.trans e1, e1 _ _ upd_same, ⟨rfl, fun i kv s h => by simp at h⟩⟩) (fun i σ' H' hi hV => ?_) (fun σ' H' hV => ?_)
    · refine ⟨by omega, ?_, by decide⟩
      rw [List.length_map, ep.1]
      omega
    · rw [List.length_map, ep.1]
      refine congrArg V.int ?_
      rw [Int.toNat_natCast, Int.one_mul, Int.natCast_pow]
      rfl
    · obtain ⟨kvs, sv, dv, rfl, e, hq, hD⟩ := hV
      have hs : i + 1 < 2 ^ p.works.length := by omega
      have es : V.int (1 + (i : Int)) = nV (i + 1) := congrArg V.int (by omega)
      rw [es]
      refine q_asgMk (args_vL (ev_var rfl) (el_cl (ea_cons (ev_var rfl) ea_nil) (l_mem hs hn)) fun l H1 hl e1 h1 => ?_)
      intro x dx hx hdx hne
      have e01 := e.trans e1
      have e2 : Ex H1 (upd (upd H1 dx (.own x)) x (.ins Z.U dx [])) := (Ex.new hdx).trans (Ex.new (by rw [upd_ne (Ne.symm hne)]; exact hx))
      refine ⟨H1, x, d, l, Sw82.members p.works.length (i + 1), p, rfl, e2, hx, ⟨dx, upd_same⟩, D.mono e01, SqL.of h1, Dm.rise_nodup (Dm.members_rise _ _), fun n hn => (Dm.members_mem.mp hn).1, Dm.members_ne hs (by omega), by have := Dm.members_length p.works.length (i + 1); omega, fun H2 e3 hDu => ⟨rfl, ?_⟩⟩
      have e12 : Ex H' H2 := e1.trans e3
      have hq2 := e12 _ _ hq
      have hD2 := hD.mono e12
      obtain ⟨qq, vv, hI, _, _⟩ := id hDu
      have hwr : decide (nV (p.wrong (wsOf p (Sw82.members p.works.length (i + 1)))) = V.int 0) = (Dm.payOf p (i + 1)).isSome := by
        rw [payOf_some (by omega)]
        exact dec_n (p.wrong (wsOf p (Sw82.members p.works.length (i + 1)))) 0
      refine s_when (et_is (et_test (ev_op (ev_fld (ev_var rfl) (rf T.cU hI 7)) ev_c (rv_eq rfl))) hwr) (fun hb H3 e4 => ?_) (fun hb H3 e4 => ?_)
      · have hout : i + 1 ∉ upTo p (i + 1) := fun z => by
          have := (List.mem_filter.mp z).1
          rw [List.mem_range] at this
          omega
        have hkl : kvs.length ≤ 1000 := by
          have := upTo_len p (i + 1)
          rw [hD.len]
          omega
        have hput : putK kvs (kN (i + 1)) (.ref x) = kvs ++ [(kN (i + 1), .ref x)] := putK_new _ (hD.free hout)
        refine s_put (n := ((i + 1 : Nat) : Int)) (e4 _ _ hq2) (ev_var rfl) (ev_var rfl) (ev_var rfl) hkl fun H4 e5 => ?_
        have e45 := e4.trans e5
        have hput' : putK kvs (Sum.inl ((i + 1 : Nat) : Int)) (.ref x) = kvs ++ [(kN (i + 1), .ref x)] := hput
        refine ⟨kvs ++ [(kN (i + 1), .ref x)], _, _, rfl, Ex.mut (e.trans (e12.trans e45)) hq0, ?_, ?_⟩
        · rw [upd_same, hput']
        · rw [hput', upTo_succ p (i + 1), if_pos hb]
          exact ((hD2.mono e45).snoc (hDu.mono e45)).updD (e45 _ _ hq2)
      · refine ⟨kvs, _, _, rfl, e.trans (e12.trans e4), e4 _ _ hq2, ?_⟩
        rw [upTo_succ p (i + 1), if_neg (by rw [hb]; decide)]
        exact hD2.mono e4
    · obtain ⟨kvs, sv, dv, rfl, e, hq, hD⟩ := hV
      have ek : (((2 ^ p.works.length : Nat) : Int) - 1).toNat + 1 = 2 ^ p.works.length := by omega
      rw [ek] at hD
      exact s_ret (ev_var rfl) fun H1 e1 => k q0 kvs H1 hq0 (e.trans e1) (e1 _ _ hq) (hD.mono e1)
end
end Dw
namespace Dw
open PySem PySem.Spec PyProof.Rows L2 Evl
abbrev sPw : Stmt := inClass (top 23) 1
theorem scPw : FnScope ["self", "some", "left", "rest"] ["self", "some", "left"] (defScope sPw) := ⟨rfl, rfl, rfl, by decide +kernel, rfl, by decide +kernel, by decide +kernel⟩
abbrev sLa : Stmt := inClass (top 23) 2
abbrev NLa : List Str := ["self", "left", "best", "ways", "some", "pay"]
theorem scLa : FnScope NLa ["self", "left"] (defScope sLa) := ⟨rfl, rfl, rfl, by decide +kernel, rfl, by decide +kernel, by decide +kernel⟩
/-- the last set -/
abbrev whole (p : Sw82.Plan) : Nat := 2 ^ p.works.length - 1
/-- plans at x: the duties at q stand in H0, where neither x nor the two tables were; the tables know the sets to k -/
structure PlansAt (Z : Cs) (H0 H : Hp) (x q a b : Addr) (kvs : List (Key × V)) (p : Sw82.Plan) (k : Nat) : Prop where
  dq : H0 q = some (.dK kvs)
  du : Duts Z H0 p (Dm.rights p) kvs
  x0 : H0 x = none
  a0 : H0 a = none
  b0 : H0 b = none
  ab : a ≠ b
  wk : p.works.length ≤ 7
  ex : Ex H0 H
  ins : Ins H x Z.L nPlans [.ref q, nV (whole p), .ref a, .ref b]
  pa : H a = some (.lst ((Dm.tab p k).map fun r => oV r.1))
  wa : H b = some (.lst ((Dm.tab p k).map fun r => nV r.2))
theorem PlansAt.mono {Z : Cs} {H0 H H' : Hp} {x q a b : Addr} {kvs : List (Key × V)} {p : Sw82.Plan} {k : Nat} (e : Ex H H') (h : PlansAt Z H0 H x q a b kvs p k) : PlansAt Z H0 H' x q a b kvs p k :=
  ⟨h.dq, h.du, h.x0, h.a0, h.b0, h.ab, h.wk, h.ex.trans e, h.ins.mono e, e _ _ h.pa, e _ _ h.wa⟩
/-- Plans.pay_with -/
def spPw (Z : Cs) : Sp := fun vs H Q _ => ∃ (H0 : Hp) (x q a b : Addr) (kvs : List (Key × V)) (p : Sw82.Plan) (k s m : Nat), vs = [.ref x, nV s, nV m] ∧ PlansAt Z H0 H x q a b kvs p k ∧ s ∈ Dm.rights p ∧ s ≤ m ∧ m - s ≤ k ∧ RetV (oV (Dm.payWith p (Dm.tab p k) s m)) H Q
/-- Plans.look_at -/
def spLa (Z : Cs) : Sp := fun vs H Q _ => ∃ (H0 : Hp) (x q a b : Addr) (kvs : List (Key × V)) (p : Sw82.Plan) (k : Nat), vs = [.ref x, nV (k + 1)] ∧ PlansAt Z H0 H x q a b kvs p k ∧ k ≤ 1000 ∧ ∀ H' : Hp, PlansAt Z H0 H' x q a b kvs p (k + 1) → Q .non H'
theorem right_duty {p : Sw82.Plan} {ws : List Sw82.Work} (h : p.wrong ws = 0) : p.linked ws = true ∧ ∃ d, p.duty ws = some d := by
  unfold Sw82.Plan.wrong at h
  by_cases c : p.linked ws = false
  · rw [if_pos c] at h; cases h
  · rw [if_neg c] at h
    refine ⟨by simpa using c, ?_⟩
    cases hd : p.duty ws with
    | none => rw [hd] at h; cases h
    | some d => exact ⟨d, rfl⟩
theorem getD_at {α : Type} {l : List α} {i : Nat} {d : α} (h : i < l.length) : l[i]? = some (l.getD i d) := by
  rw [List.getD_eq_getElem?_getD]
  simp [h]
theorem at_map {α : Type} {l : List α} {f : α → V} {i : Nat} {d : α} (h : i < l.length) : atI (l.map f) (i : Int) = some (f (l.getD i d)) := atI_nat (by rw [List.getElem?_map, getD_at (d := d) h]; rfl)
theorem ev_dget {td ty : TE} {σ : L2.St} {H : Hp} {d : Addr} {kvs : List (Key × V)} {n : Int} {v : V} (ht : Ev td σ H (.ref d)) (hy : Ev ty σ H (.int n)) (hd : H d = some (.dK kvs)) (hv : valV kvs (.inl n) = some v) : Ev (tDGet td ty) σ H v := fun H1 e Q q =>
  ht H1 e _ fun H2 e2 => hy H2 (e.trans e2) _ fun H3 e3 => ⟨d, v, rfl, by
    rw [← hv]
    exact DGet.k (k := Sum.inl n) (((e.trans e2).trans e3) _ _ hd), q H3 (e2.trans e3)⟩
theorem sub_nat {m s : Nat} (h : s ≤ m) : V.int ((m : Int) - (s : Int)) = nV (m - s) := congrArg V.int (by omega)
section
variable {P : Program} {w : World} {K : PySem.W.Frag} {mg : Str → Option Value} {base : Heap} {Z : Cs}
theorem ok_pw {f : Addr} {fd : FuncData} (F : Fun K "pay_with" "Plans.pay_with" sPw f fd) (T : Txt K mg Z) : FnOk P w K mg base CX0 1 f fd ["self", "some", "left"] (spPw Z) := by
  refine F.ok scPw (fun vs H Q E h => ?_) (fun cdv A outer s H vs Q E hr h => ?_)
  · obtain ⟨H0, x, q, a, b, kvs, p, k, s, m, rfl, _⟩ := h
    rfl
  · obtain ⟨H0, x, q, a, b, kvs, p, k, s, m, rfl, D, hs, hsm, hk, r⟩ := h
    refine ⟨_, pss_cons (ps_set (i := 3) scPw.nd rfl (Or.inl rfl) (pe_ix ix_list (pe_fld (pv 0) rfl) (pe_op op_sub (pv 2) (pv 1)) (fun _ _ => rfl)))
      (pss_cons (ps_if (pt_cmpR op_isN (pv 3) pe_non (nomark _)) (pss_one (ps_ret pe_non)) pss_nil)
      (pss_one (ps_ret (pe_op op_add (pv 3) (pe_fld (pe_dget (hu_of hr) (pe_fld (pv 0) rfl) (pv 1) (fun _ _ => rfl)) rfl))))), ?_⟩
    have hlt : m - s < (Dm.tab p k).length := by rw [Dm.tab_len]; omega
    refine q_asg (ev_op (ev_fld (ev_var rfl) (rf T.cL D.ins 2)) (ev_is (ev_op (ev_var rfl) (ev_var rfl) rv_I0) (sub_nat hsm)) (rv_ixL (SqL.of D.pa) (at_map (d := (none, 0)) hlt))) fun H1 e1 => ?_
    have D1 := D.mono e1
    unfold Dm.payWith at r
    cases ht : ((Dm.tab p k).getD (m - s) (none, 0)).1 with
    | none =>
      rw [ht] at r
      refine q_when (b := true) (et_is (et_test (ev_op (ev_var rfl) ev_c rv_isN)) rfl) (fun _ H2 e2 => ?_) (fun h => by cases h)
      exact s_ret ev_c fun H3 e3 => r H3 (e1.trans (e2.trans e3))
    | some c =>
      rw [ht] at r
      refine q_when (b := false) (et_is (et_test (ev_op (ev_var rfl) ev_c rv_isN)) rfl) (fun h => by cases h) (fun _ H2 e2 => ?_)
      have D2 := D1.mono e2
      obtain ⟨da, hda, hDu⟩ := D.du.get hs
      have hDu2 := hDu.mono D2.ex
      obtain ⟨qq, vv, hI, _, hv⟩ := hDu2
      obtain ⟨hl, d, hd⟩ := right_duty (Dm.rights_mem.mp hs).2.2
      have hv' := hv d hl hd
      subst hv'
      refine s_ret (ev_is (ev_op (ev_var rfl) (ev_fld (ev_dget (ev_fld (ev_var rfl) (rf T.cL D2.ins 0)) (ev_var rfl) (D2.ex _ _ D2.dq) hda) (rf T.cU hI 4)) rv_I0) ?_) fun H3 e3 => r H3 (e1.trans (e2.trans e3))
      exact congrArg V.int (Int.natCast_add _ _).symm
theorem v_pw {H0 H : Hp} {x q a b : Addr} {kvs : List (Key × V)} {p : Sw82.Plan} {k s m : Nat} (D : PlansAt Z H0 H x q a b kvs p k) (hs : s ∈ Dm.rights p) (hsm : s ≤ m) (hk : m - s ≤ k) : SpV (spPw Z) [.ref x, nV s, nV m] H (oV (Dm.payWith p (Dm.tab p k) s m)) := fun H1 e Q r E => ⟨H0, x, q, a, b, kvs, p, k, s, m, rfl, D.mono e, hs, hsm, hk, r⟩
theorem l_first {H0 H : Hp} {x q a b : Addr} {kvs : List (Key × V)} {p : Sw82.Plan} {k m : Nat} (D : PlansAt Z H0 H x q a b kvs p k) (hm : 0 < m) : SpL (spFirst Z) [.ref q, nV m] H ((Dm.firsts p m).map nV) := fun H1 e Q r E =>
  ⟨q, m, p, kvs, rfl, (D.ex.trans e) _ _ D.dq, D.du.mono (D.ex.trans e), D.wk, hm, fun p' H2 a b c => r p' H2 a b c⟩
theorem firsts_mem {p : Sw82.Plan} {m s : Nat} (h : s ∈ Dm.firsts p m) : s ∈ Dm.rights p ∧ s ≠ 0 ∧ s ≤ m := by
  unfold Dm.firsts at h
  obtain ⟨h1, h2⟩ := List.mem_filter.mp h
  exact ⟨h1, Dm.cond_pos h2, Dm.cond_le h2⟩
theorem firsts_len {p : Sw82.Plan} (m : Nat) (hn : p.works.length ≤ 7) : (Dm.firsts p m).length ≤ 128 := by
  have h0 := List.length_filter_le (fun s => Dm.cond s m) (Dm.rights p)
  have h1 := upTo_len p (2 ^ p.works.length)
  have h2 : 2 ^ p.works.length ≤ 2 ^ 7 := Nat.pow_le_pow_right (by decide) hn
  have h3 : (Dm.rights p).length = (upTo p (2 ^ p.works.length)).length := rfl
  have h4 : (Dm.firsts p m).length = ((Dm.rights p).filter fun s => Dm.cond s m).length := rfl
  omega
theorem step_none {p : Sw82.Plan} {tb : List (Option Nat × Nat)} {m s : Nat} (a : Option Nat × Nat) (h : Dm.payWith p tb s m = none) : Dm.lookStep p tb m a s = a := by unfold Dm.lookStep; rw [h]
theorem step_less {p : Sw82.Plan} {tb : List (Option Nat × Nat)} {m s c : Nat} {a : Option Nat × Nat} (h : Dm.payWith p tb s m = some c) (l : ∀ y, a.1 = some y → c < y) : Dm.lookStep p tb m a s = (some c, (tb.getD (m - s) (none, 0)).2) := by
  unfold Dm.lookStep
  rw [h]
  obtain ⟨o, z⟩ := a
  cases o with
  | none =>
    show (if some c = some c then ((some c : Option Nat), 0 + (tb.getD (m - s) (none, 0)).2) else _) = _
    rw [if_pos rfl, Nat.zero_add]
  | some y =>
    show (let a1 := (if c < y then ((some c : Option Nat), 0) else (some y, z)); if some c = a1.1 then (a1.1, a1.2 + (tb.getD (m - s) (none, 0)).2) else a1) = _
    rw [if_pos (l y rfl)]
    show (if some c = some c then ((some c : Option Nat), 0 + (tb.getD (m - s) (none, 0)).2) else _) = _
    rw [if_pos rfl, Nat.zero_add]
theorem step_same {p : Sw82.Plan} {tb : List (Option Nat × Nat)} {m s c z : Nat} (h : Dm.payWith p tb s m = some c) : Dm.lookStep p tb m (some c, z) s = (some c, z + (tb.getD (m - s) (none, 0)).2) := by
  unfold Dm.lookStep
  rw [h]
  show (let a1 := (if c < c then ((some c : Option Nat), 0) else (some c, z)); if some c = a1.1 then (a1.1, a1.2 + (tb.getD (m - s) (none, 0)).2) else a1) = _
  rw [if_neg (Nat.lt_irrefl c)]
  show (if some c = some c then ((some c : Option Nat), z + (tb.getD (m - s) (none, 0)).2) else _) = _
  rw [if_pos rfl]
theorem step_more {p : Sw82.Plan} {tb : List (Option Nat × Nat)} {m s c y z : Nat} (h : Dm.payWith p tb s m = some c) (l : y < c) : Dm.lookStep p tb m (some y, z) s = (some y, z) := by
  unfold Dm.lookStep
  rw [h]
  show (let a1 := (if c < y then ((some c : Option Nat), 0) else (some y, z)); if some c = a1.1 then (a1.1, a1.2 + (tb.getD (m - s) (none, 0)).2) else a1) = _
  rw [if_neg (show ¬ c < y by omega)]
  show (if some c = some y then _ else ((some y : Option Nat), z)) = _
  rw [if_neg (fun e => by have := Option.some.inj e; omega)]
theorem ok_la {f : Addr} {fd : FuncData} (F : Fun K "look_at" "Plans.look_at" sLa f fd) (T : Txt K mg Z) (hPw : HasM P w K mg base CX0 1 Z.L "pay_with" (spPw Z)) (hFirst : HasF P w K mg base CX0 1 "first_duties" (spFirst Z)) : FnOk P w K mg base CX0 2 f fd ["self", "left"] (spLa Z) := by
  refine F.ok scLa (fun vs H Q E h => ?_) (fun cdv A outer s H vs Q E hr h => ?_)
  · obtain ⟨H0, x, q, a, b, kvs, p, k, rfl, _⟩ := h
    rfl
  · obtain ⟨H0, x, q, a, b, kvs, p, k, rfl, D, hk, r⟩ := h
    refine ⟨_, pss_cons (ps_set (i := 2) scLa.nd rfl (Or.inl rfl) pe_non)
      (pss_cons (ps_set (i := 3) scLa.nd rfl (Or.inl rfl) pe_int)
      (pss_cons (ps_for PassesOwn.never rfl (pi_list (pe_cl hFirst hr pass0 (pa_cons (pe_fld (pv 0) rfl) (pa_cons (pv 1) pa_nil)))) (pg_name (i := 4) scLa.nd rfl (Or.inl rfl))
        (pss_cons (ps_set (i := 5) scLa.nd rfl (Or.inl rfl) (pe_me hPw T.cL.cl hr pass0 (pv 0) (pa_cons (pv 4) (pa_cons (pv 1) pa_nil))))
        (pss_cons (ps_if (PW.pt (pw_and (pt_cmpR op_notN (pv 5) pe_non (nomark _)) (pw_and1 (PW.pt (pw_or (pt_cmpR op_isN (pv 2) pe_non (nomark _)) (pw_or1 (pt_cmpR op_lt (pv 5) (pv 2) (nomark _))))))))
          (pss_cons (ps_set (i := 2) scLa.nd rfl (Or.inl rfl) (pv 5)) (pss_one (ps_set (i := 3) scLa.nd rfl (Or.inl rfl) pe_int))) pss_nil)
        (pss_one (ps_if (PW.pt (pw_and (pt_cmpR op_notN (pv 5) pe_non (nomark _)) (pw_and1 (pt_cmpR op_eq (pv 5) (pv 2) (nomark _)))))
          (pss_one (ps_set (i := 3) scLa.nd rfl (Or.inl rfl) (pe_op op_add (pv 3) (pe_ix ix_list (pe_fld (pv 0) rfl) (pe_op op_sub (pv 1) (pv 4)) (fun _ _ => rfl))))) pss_nil)))))
      (pss_cons (ps_expr (pe_bm PySem.F.plainAttrs_list PySem.F.slot_list_append PySem.F.type_list_append mt_append (pe_fld (pv 0) rfl) (pa_cons (pv 2) pa_nil)))
      (pss_one (ps_expr (pe_bm PySem.F.plainAttrs_list PySem.F.slot_list_append PySem.F.type_list_append mt_append (pe_fld (pv 0) rfl) (pa_cons (pv 3) pa_nil))))))), ?_⟩
    refine q_asg ev_c fun H1 e1 => q_asg ev_c fun H2 e2 => ?_
    have D2 := D.mono (e1.trans e2)
    have hit : ItEv (iList K (tCl (spFirst Z) E0 (tCons (tFld K (tVar 0) "duties") (tCons (tVar 1) tNil)))) [some (.ref x), some (nV (k + 1)), some .non, some (.int 0), none, none] H2 (Dm.firsts p (k + 1)).length (itAt ((Dm.firsts p (k + 1)).map nV)) :=
      it_listN (el_cl (ea_cons (ev_fld (ev_var rfl) (rf T.cL D2.ins 0)) (ea_cons (ev_var rfl) ea_nil)) (l_first D2 (Nat.succ_pos k))) (List.length_map nV)
    refine q_for hit (fun i σ' H' => ∃ (o : Option Nat) (z : Nat) (sv pv : Option V), σ' = [some (.ref x), some (nV (k + 1)), some (oV o), some (nV z), sv, pv] ∧ ((Dm.firsts p (k + 1)).take i).foldl (Dm.lookStep p (Dm.tab p k) (k + 1)) (none, 0) = (o, z))
      (fun H3 e3 => ⟨none, 0, none, none, rfl, rfl⟩) (fun H3 e3 i y σ' H' H'' hi hV e4 hy => ?_) (fun σ' H' hV e3 => ?_)
    · obtain ⟨o, z, sv, pv', rfl, hf⟩ := hV
      obtain ⟨rfl, hy⟩ := hy
      obtain ⟨s, hs, rfl⟩ := map_at hy
      rw [fold_one hs, hf]
      obtain ⟨hsr, hs0, hsm⟩ := firsts_mem (List.mem_of_getElem? hs)
      have D4 := D2.mono (e3.trans e4)
      refine q_asg (ev_me (ev_var rfl) (mof D4.ins (by decide +kernel)) (ea_cons (ev_var rfl) (ea_cons (ev_var rfl) ea_nil)) (v_pw D4 hsr hsm (by omega))) fun H5 e5 => ?_
      have D5 := D4.mono e5
      have hlt : k + 1 - s < (Dm.tab p k).length := by rw [Dm.tab_len]; omega
      have e45 := e4.trans e5
      cases hp : Dm.payWith p (Dm.tab p k) s (k + 1) with
      | none =>
        rw [step_none _ hp]
        refine q_when (b := false) (et_is (et_and (a := false) (b := false) (et_is (et_test (ev_op (ev_var rfl) ev_c rv_notN)) rfl) (fun h => by cases h)) rfl) (fun h => by cases h) (fun _ H6 e6 => ?_)
        refine s_when (b := false) (et_is (et_and (a := false) (b := false) (et_is (et_test (ev_op (ev_var rfl) ev_c rv_notN)) rfl) (fun h => by cases h)) rfl) (fun h => by cases h) (fun _ H7 e7 => ?_)
        exact ⟨⟨o, z, _, _, rfl, rfl⟩, e45.trans (e6.trans e7)⟩
      | some c =>
        have add : ∀ (H7 : Hp) (o' : Option Nat) (z' : Nat), Ex H5 H7 → Ev (tOp (rI0 fun i j => .int (i + j)) (tVar 3) (tOp (rIxL K) (tFld K (tVar 0) "ways") (tOp (rI0 fun i j => .int (i - j)) (tVar 1) (tVar 4)))) [some (.ref x), some (nV (k + 1)), some (oV o'), some (nV z'), some (nV s), some (oV (some c))] H7 (nV (z' + ((Dm.tab p k).getD (k + 1 - s) (none, 0)).2)) := fun H7 o' z' e7 =>
          ev_is (ev_op (ev_var rfl) (ev_op (ev_fld (ev_var rfl) (rf T.cL (D5.mono e7).ins 3)) (ev_is (ev_op (ev_var rfl) (ev_var rfl) rv_I0) (sub_nat hsm)) (rv_ixL (SqL.of (D5.mono e7).wa) (at_map (d := (none, 0)) hlt))) rv_I0) (congrArg V.int (Int.natCast_add _ _).symm)
        by_cases hc : ∀ y, o = some y → c < y
        · rw [step_less hp (a := (o, z)) hc]
          refine q_when (b := true) (et_is (et_and (a := true) (et_is (et_test (ev_op (ev_var rfl) ev_c rv_notN)) rfl) (fun _ => ?_)) (Bool.true_and _)) (fun _ H6 e6 => ?_) (fun h => by cases h)
          · cases o with
            | none => exact et_is (et_or (a := true) (b := true) (et_is (et_test (ev_op (ev_var rfl) ev_c rv_isN)) rfl) (fun h => by cases h)) rfl
            | some y =>
              have := hc y rfl
              exact et_is (et_or (a := false) (b := true) (et_is (et_test (ev_op (ev_var rfl) ev_c rv_isN)) rfl) (fun _ => et_is (et_test (ev_op (ev_var rfl) (ev_var rfl) rv_I0)) (decide_eq_true (by omega)))) rfl
          · refine q_asg (v := oV (some c)) (ev_var rfl) fun H7 e7 => s_asg ev_c fun H8 e8 => ?_
            refine s_when (b := true) (et_is (et_and (a := true) (b := true) (et_is (et_test (ev_op (ev_var rfl) ev_c rv_notN)) rfl) (fun _ => et_is (et_test (ev_op (ev_var rfl) (ev_var rfl) (rv_eq rfl))) (decide_eq_true rfl))) rfl) (fun _ H9 e9 => ?_) (fun h => by cases h)
            refine s_asg (add H9 (some c) 0 ((e6.trans e7).trans (e8.trans e9))) fun H10 e10 => ?_
            refine ⟨⟨some c, _, _, _, rfl, ?_⟩, ((e45.trans e6).trans (e7.trans e8)).trans (e9.trans e10)⟩
            rw [Nat.zero_add]
        · obtain ⟨y, rfl, hy⟩ : ∃ y, o = some y ∧ ¬ c < y := by
            cases o with
            | none => exact absurd (fun y h => by cases h) hc
            | some y => exact ⟨y, rfl, fun h => hc fun y' e => by cases e; exact h⟩
          refine q_when (b := false) (et_is (et_and (a := true) (b := false) (et_is (et_test (ev_op (ev_var rfl) ev_c rv_notN)) rfl) (fun _ => et_is (et_or (a := false) (b := false) (et_is (et_test (ev_op (ev_var rfl) ev_c rv_isN)) rfl) (fun _ => et_is (et_test (ev_op (ev_var rfl) (ev_var rfl) rv_I0)) (decide_eq_false (by omega)))) rfl)) rfl) (fun h => by cases h) (fun _ H6 e6 => ?_)
          by_cases hcy : c = y
          · subst hcy
            rw [step_same hp]
            refine s_when (b := true) (et_is (et_and (a := true) (b := true) (et_is (et_test (ev_op (ev_var rfl) ev_c rv_notN)) rfl) (fun _ => et_is (et_test (ev_op (ev_var rfl) (ev_var rfl) (rv_eq rfl))) (decide_eq_true rfl))) rfl) (fun _ H9 e9 => ?_) (fun h => by cases h)
            refine s_asg (add H9 (some c) z (e6.trans e9)) fun H10 e10 => ?_
            exact ⟨⟨some c, _, _, _, rfl, rfl⟩, (e45.trans e6).trans (e9.trans e10)⟩
          · rw [step_more hp (by omega)]
            refine s_when (b := false) (et_is (et_and (a := true) (b := false) (et_is (et_test (ev_op (ev_var rfl) ev_c rv_notN)) rfl) (fun _ => et_is (et_test (ev_op (ev_var rfl) (ev_var rfl) (rv_eq rfl))) (decide_eq_false fun q => by
              injection q with q
              omega))) rfl) (fun h => by cases h) (fun _ H9 e9 => ?_)
            exact ⟨⟨some y, z, _, _, rfl, rfl⟩, (e45.trans e6).trans e9⟩
    · obtain ⟨o, z, sv, pv', rfl, hf⟩ := hV
      rw [List.take_length] at hf
      have D3 := D2.mono e3
      have htl : ((Dm.tab p k).map fun r => oV r.1).length < 100000 := by rw [List.length_map, Dm.tab_len]; omega
      have htl2 : ((Dm.tab p k).map fun r => nV r.2).length < 100000 := by rw [List.length_map, Dm.tab_len]; omega
      refine q_app D3.pa (ev_fld (ev_var rfl) (rf T.cL D3.ins 2)) (ev_var rfl) htl fun H4 e4 => ?_
      have D4 := D3.mono e4
      have nxa : x ≠ a := by
        obtain ⟨dx, hx⟩ := D4.ins
        exact ne_of hx D4.pa fun z => by cases z
      have nxb : x ≠ b := by
        obtain ⟨dx, hx⟩ := D4.ins
        exact ne_of hx D4.wa fun z => by cases z
      obtain ⟨dx, hx4⟩ := D4.ins
      have hx5 : Ins (upd H4 a (.lst ((Dm.tab p k).map (fun r => oV r.1) ++ [oV o]))) x Z.L nPlans [.ref q, nV (whole p), .ref a, .ref b] := ⟨dx, by rw [upd_ne nxa]; exact hx4⟩
      have hb5 : upd H4 a (.lst ((Dm.tab p k).map (fun r => oV r.1) ++ [oV o])) b = some (.lst ((Dm.tab p k).map fun r => nV r.2)) := by rw [upd_ne (Ne.symm D.ab)]; exact D4.wa
      refine s_app hb5 (ev_fld (ev_var rfl) (rf T.cL hx5 3)) (ev_var rfl) htl2 fun H5 e5 => ?_
      have htab : Dm.tab p (k + 1) = Dm.tab p k ++ [(o, z)] := by
        show Dm.tab p k ++ [Dm.look p (Dm.tab p k) (k + 1)] = _
        unfold Dm.look
        rw [hf]
      refine r _ ⟨D.dq, D.du, D.x0, D.a0, D.b0, D.ab, D.wk, Ex.mut ((Ex.mut D4.ex D.a0).trans e5) D.b0, ?_, ?_, ?_⟩
      · obtain ⟨dx', h⟩ := hx5.mono e5
        exact ⟨dx', by rw [upd_ne nxb]; exact h⟩
      · rw [upd_ne D.ab, htab, List.map_append]
        exact e5 _ _ upd_same
      · rw [upd_same, htab, List.map_append]
        rfl
end
end Dw
namespace Dw
open PySem PySem.Spec PyProof.Rows L2 Evl
abbrev sPl : Stmt := inClass (top 23) 0
abbrev NPl : List Str := ["self", "depot", "left"]
theorem scPl : FnScope NPl ["self", "depot"] (defScope sPl) := ⟨rfl, rfl, rfl, by decide +kernel, rfl, by decide +kernel, by decide +kernel⟩
abbrev sEa : Stmt := inClass (top 23) 3
abbrev NEa : List Str := ["self", "found", "left", "some", "one"]
theorem scEa : FnScope NEa ["self"] (defScope sEa) := ⟨rfl, rfl, rfl, by decide +kernel, rfl, by decide +kernel, by decide +kernel⟩
/-- Plans.__init__ of the young instance x -/
def spPlans (Z : Cs) : Sp := fun vs H Q _ => ∃ (Hs : Hp) (x d : Addr) (p : Sw82.Plan), vs = [.ref x, .ref d] ∧ Ex Hs H ∧ Hs x = none ∧ Ins H x Z.L nPlans [] ∧ Dep Z Hs d p ∧
  ∀ (H0 H' : Hp) (q a b : Addr) (kvs : List (Key × V)), Ex Hs H0 → PlansAt Z H0 H' x q a b kvs p (whole p) → Q .non H'
/-- Plans.earliest -/
def spEarl (Z : Cs) : Sp := fun vs H Q _ => ∃ (H0 : Hp) (x q a b : Addr) (kvs : List (Key × V)) (p : Sw82.Plan) (bd : Sw82.Best), vs = [.ref x] ∧ PlansAt Z H0 H x q a b kvs p (whole p) ∧ Dm.B p (whole p) = some bd ∧
  ∀ (f : Addr) (as : List Addr) (H' : Hp), Ex H H' → H' f = some (.lst (as.map V.ref)) → Each (fun t s => DutyAt Z H0 t p (Sw82.members p.works.length s) ∧ s ∈ Dm.rights p) as bd.duties → Q (.ref f) H'
/-- H without x -/
def erase (x : Addr) (H : Hp) : Hp := fun b => if b = x then none else H b
theorem erase_ne {x b : Addr} {H : Hp} (h : b ≠ x) : erase x H b = H b := if_neg h
theorem erase_same {x : Addr} {H : Hp} : erase x H x = none := if_pos rfl
theorem erase_ex {x : Addr} {H : Hp} : Ex (erase x H) H := fun b o h => by
  by_cases c : b = x
  · subst c; rw [erase_same] at h; cases h
  · rw [erase_ne c] at h; exact h
theorem ex_erase {x : Addr} {Hs H : Hp} (e : Ex Hs H) (h : Hs x = none) : Ex Hs (erase x H) := fun b o hb => by
  rw [erase_ne (ne_of_none hb h)]
  exact e b o hb
theorem DutyAt.erase {Z : Cs} {H : Hp} {x a C dx : Addr} {p : Sw82.Plan} {ns : List Nat} (hx : H x = some (.ins C dx [])) (h : DutyAt Z H a p ns) : DutyAt Z (erase x H) a p ns := by
  obtain ⟨q, v, ⟨dx', h1⟩, h2, h3⟩ := h
  refine ⟨q, v, ⟨dx', ?_⟩, ?_, h3⟩
  · rw [erase_ne (ne_of h1 hx fun z => by injection z with _ _ z; cases z)]
    exact h1
  · rw [erase_ne (ne_of h2 hx fun z => by cases z)]
    exact h2
/-- a method called for its own sake -/
theorem s_me {ta : TE} {t : TA} {C a : Addr} {m : Str} {sp : Sp} {E : XK} {D : Ends} {σ : L2.St} {H : Hp} {vs : List V} (h : Ev ta σ H (.ref a)) (hm : MOf H a C m) (ht : EvA t σ H vs) (k : ∀ H1, Ex H H1 → sp (.ref a :: vs) H1 (fun _ H2 => D.nx σ H2) E) : tDrop (tMe C m sp E ta t) D σ H :=
  h H (Ex.refl H) _ fun H1 e1 => by
    obtain ⟨dx, fs, h1, h2⟩ := hm.mono e1
    exact ⟨a, dx, fs, rfl, h1, h2, ht H1 e1 _ fun H2 e2 => k H2 (e1.trans e2)⟩
theorem new_fG {K : PySem.W.Frag} {ta tv : TE} {f : Str} {tz : TS} {D : Ends} {σ : L2.St} {H : Hp} {x C : Addr} {ns : List Str} {vs : List V} {G : V → Hp → Prop} (c : ClsA K C ns) (h : Ins H x C ns vs) (hv : EvG tv σ H G) (gm : ∀ v H H', Ex H H' → G v H → G v H') (ha : ∀ H1, Ex H H1 → Ev ta σ H1 (.ref x)) (hn : ns[vs.length]? = some f) (hz : vs.length ≤ 100)
    (k : ∀ v H1 dx, Ex H H1 → G v H1 → H1 x = some (.ins C dx (ns.zip vs)) → tz D σ (upd H1 x (.ins C dx (ns.zip (vs ++ [v]))))) : tSeq (sFld K ta tv f) tz D σ H :=
  hv H (Ex.refl H) _ fun v H1 e1 g => ha H1 e1 H1 (Ex.refl H1) _ fun H2 e2 => by
    obtain ⟨dx, hx⟩ := h
    have h2 := (e1.trans e2) _ _ hx
    refine ⟨x, C, dx, _, rfl, h2, c.cl, c.no f (List.mem_of_getElem? hn), ?_, ?_⟩
    · rw [List.length_zip]
      have := Nat.min_le_right ns.length vs.length
      omega
    · rw [put_new c.nd hn]
      exact k v H2 dx (e1.trans e2) (gm v H1 H2 e2 g) h2
section
variable {P : Program} {w : World} {K : PySem.W.Frag} {mg : Str → Option Value} {base : Heap} {Z : Cs}
theorem g_rights {d : Addr} {H : Hp} {p : Sw82.Plan} (D : Dep Z H d p) : SpG (spRights Z) [.ref d] H (fun v H2 => ∃ q kvs, v = .ref q ∧ H2 q = some (.dK kvs) ∧ Duts Z H2 p (Dm.rights p) kvs) := fun H1 e Q q E =>
  ⟨d, p, rfl, D.mono e, fun r kvs H' _ e' h1 h2 => q (.ref r) H' e' ⟨r, kvs, rfl, h1, h2⟩⟩
theorem PlansAt.updL {H0 H : Hp} {x q a b f : Addr} {kvs : List (Key × V)} {p : Sw82.Plan} {k : Nat} {xs : List V} (h : PlansAt Z H0 H x q a b kvs p k) (f0 : H0 f = none) (fa : f ≠ a) (fb : f ≠ b) (fx : f ≠ x) : PlansAt Z H0 (upd H f (.lst xs)) x q a b kvs p k := by
  refine ⟨h.dq, h.du, h.x0, h.a0, h.b0, h.ab, h.wk, Ex.mut h.ex f0, ?_, ?_, ?_⟩
  · obtain ⟨dx, hx⟩ := h.ins
    exact ⟨dx, by rw [upd_ne (Ne.symm fx)]; exact hx⟩
  · rw [upd_ne (Ne.symm fa)]; exact h.pa
  · rw [upd_ne (Ne.symm fb)]; exact h.wa
theorem ok_plans {f : Addr} {fd : FuncData} (F : Fun K "__init__" "Plans.__init__" sPl f fd) (T : Txt K mg Z) (hRights : HasF P w K mg base CX0 8 "right_duties" (spRights Z)) (hLa : HasM P w K mg base CX0 2 Z.L "look_at" (spLa Z)) : FnOk P w K mg base CX0 9 f fd ["self", "depot"] (spPlans Z) := by
  refine F.ok scPl (fun vs H Q E h => ?_) (fun cdv A outer s H vs Q E hr h => ?_)
  · obtain ⟨Hs, x, d, p, rfl, _⟩ := h
    rfl
  · obtain ⟨Hs, x, d, p, rfl, es, x0, hx, D, r⟩ := h
    have hr2 : Room 2 _ := hr.mono (by decide)
    refine ⟨_, pss_cons (ps_fld (pv 0) (pe_cl hRights hr pass0 (pa_cons (pv 1) pa_nil)) rfl)
      (pss_cons (ps_fld (pv 0) (pe_op op_sub (pe_op op_shl pe_int (pe_callB call_len_seq (by rfl) T.bLen PySem.boot_len (pa_cons (pe_fld (pv 1) rfl) pa_nil))) pe_int) rfl)
      (pss_cons (ps_fld (pv 0) (pe_lst (pa_cons pe_int pa_nil)) rfl)
      (pss_cons (ps_fld (pv 0) (pe_lst (pa_cons pe_int pa_nil)) rfl)
      (pss_one (ps_for PassesOwn.never rfl (pi_range2 rfl T.bRange (pa_cons pe_int (pa_cons (pe_op op_add (pe_fld (pv 0) rfl) pe_int) pa_nil))) (pg_name (i := 2) scPl.nd rfl (Or.inl rfl))
        (pss_one (ps_expr (pe_me hLa T.cL.cl hr2 pass0 (pv 0) (pa_cons (pv 2) pa_nil))))))))), ?_⟩
    refine new_fG T.cL hx (eg_cl (ea_cons (ev_var rfl) ea_nil) (g_rights (D.mono es))) (fun v H H' e g => by
      obtain ⟨q, kvs, h1, h2, h3⟩ := g
      exact ⟨q, kvs, h1, e _ _ h2, h3.mono e⟩) (fun H1 e1 => ev_var rfl) rfl (by decide) fun v H1 dx e1 g hx1 => ?_
    obtain ⟨q, kvs, rfl, hq, hD⟩ := g
    have hx1' : H1 x = some (.ins Z.L dx []) := hx1
    have hH0 : Ex Hs (erase x H1) := ex_erase (es.trans e1) x0
    have hqx : q ≠ x := ne_of hq hx1 fun z => by cases z
    have hq0 : erase x H1 q = some (.dK kvs) := by rw [erase_ne hqx]; exact hq
    have hD0 : Duts Z (erase x H1) p (Dm.rights p) kvs := ⟨hD.len, fun i kv s h1 h2 => let ⟨a, h3, h4⟩ := hD.at_ i kv s h1 h2; ⟨a, h3, h4.erase hx1'⟩⟩
    have x00 : erase x H1 x = none := erase_same
    have e2 : Ex (erase x H1) (upd H1 x (.ins Z.L dx (nPlans.zip ([] ++ [V.ref q])))) := Ex.mut erase_ex x00
    have hx2 : Ins (upd H1 x (.ins Z.L dx (nPlans.zip ([] ++ [V.ref q])))) x Z.L nPlans [.ref q] := ⟨dx, upd_same⟩
    obtain ⟨A, DA⟩ := D.mono (hH0.trans e2)
    have hwk := DA.good.works
    obtain ⟨ts, hp, ep⟩ := DA.pcs
    have h2n : 2 ^ p.works.length ≤ 2 ^ 7 := Nat.pow_le_pow_right (by decide) hwk
    have hpos := Nat.two_pow_pos p.works.length
    refine new_f (v := nV (whole p)) T.cL e2 x00 hx2 (ev_is (ev_op (ev_op ev_c (ev_len (ev_fld (ev_var rfl) (rf T.cD DA.ins 4)) (SqL.of hp)) (rv_I ?_)) ev_c rv_I0) ?_) (ev_var rfl) rfl (by show 1 ≤ 100; decide) fun H3 e3 b3 hx3 => ?_
    · refine ⟨by omega, ?_, by decide⟩
      rw [List.length_map, ep.1]
      omega
    · rw [List.length_map, ep.1]
      refine congrArg V.int ?_
      rw [Int.toNat_natCast, Int.one_mul]
      have : ((2 : Int) ^ p.works.length) = ((2 ^ p.works.length : Nat) : Int) := by rw [Int.natCast_pow]; rfl
      rw [this]
      show ((2 ^ p.works.length : Nat) : Int) - 1 = ((2 ^ p.works.length - 1 : Nat) : Int)
      omega
    refine new_fL T.cL e3 x00 hx3 (el_lst (ea_cons ev_c ea_nil) (by show 1 ≤ 100000; decide)) (fun H1 e1 => ev_var rfl) rfl (by show 2 ≤ 100; decide) fun a H4 e4 b4 ha4 ha hx4 => ?_
    have a0 : erase x H1 a = none := fresh_back e3 ha
    refine new_fL T.cL e4 x00 hx4 (el_lst (ea_cons ev_c ea_nil) (by show 1 ≤ 100000; decide)) (fun H1 e1 => ev_var rfl) rfl (by show 3 ≤ 100; decide) fun b H5 e5 b5 hb5 hb hx5 => ?_
    have b0 : erase x H1 b = none := fresh_back e4 hb
    have hab : a ≠ b := ne_of_none ha4 hb
    have ha5 := b5.lst hx4 ha4
    have PA : PlansAt Z (erase x H1) H5 x q a b kvs p 0 := ⟨hq0, hD0, x00, a0, b0, hab, hwk, e5, hx5, ha5, hb5⟩
    refine s_forR2 (lo := 1) (n := (whole p : Int) + 1) (ea_cons ev_c (ea_cons (ev_op (ev_fld (ev_var rfl) (rf T.cL hx5 1)) ev_c rv_I0) ea_nil)) (by show 0 ≤ (1 : Int) ∧ (1 : Int) ≤ 100000 ∧ -100000 ≤ ((2 ^ p.works.length - 1 : Nat) : Int) + 1 ∧ ((2 ^ p.works.length - 1 : Nat) : Int) + 1 ≤ 100000; omega)
      (fun i σ' H' => ∃ lv, σ' = [some (.ref x), some (.ref d), lv] ∧ PlansAt Z (erase x H1) H' x q a b kvs p i) (fun H6 e6 => ⟨none, rfl, PA.mono e6⟩) (fun i σ' H' hi hV => ?_) (fun σ' H' hV => ?_)
    · obtain ⟨lv, rfl, PI⟩ := hV
      have es' : V.int (1 + (i : Int)) = nV (i + 1) := congrArg V.int (by omega)
      rw [es']
      refine s_me (ev_var rfl) (mof PI.ins (by decide +kernel)) (ea_cons (ev_var rfl) ea_nil) fun H6 e6 => ⟨erase x H1, x, q, a, b, kvs, p, i, rfl, PI.mono e6, ?_, fun H7 P7 => ⟨_, rfl, P7⟩⟩
      have : i < whole p := by omega
      have hw : whole p = 2 ^ p.works.length - 1 := rfl
      omega
    · obtain ⟨lv, rfl, PI⟩ := hV
      have ek : ((whole p : Int) + 1 - 1).toNat = whole p := by omega
      rw [ek] at PI
      exact r _ H' q a b kvs hH0 PI
theorem ok_earl {f : Addr} {fd : FuncData} (F : Fun K "earliest" "Plans.earliest" sEa f fd) (T : Txt K mg Z) (hPw : HasM P w K mg base CX0 1 Z.L "pay_with" (spPw Z)) (hFirst : HasF P w K mg base CX0 1 "first_duties" (spFirst Z)) : FnOk P w K mg base CX0 2 f fd ["self"] (spEarl Z) := by
  refine F.ok scEa (fun vs H Q E h => ?_) (fun cdv A outer s H vs Q E hr h => ?_)
  · obtain ⟨H0, x, q, a, b, kvs, p, bd, rfl, _⟩ := h
    rfl
  · obtain ⟨H0, x, q, a, b, kvs, p, bd, rfl, D, hB, r⟩ := h
    refine ⟨_, pss_cons (ps_set (i := 1) scEa.nd rfl (Or.inl rfl) (pe_lst pa_nil))
      (pss_cons (ps_set (i := 2) scEa.nd rfl (Or.inr rfl) (pe_fld (pv 0) rfl))
      (pss_cons (ps_while PassesOwn.never (pt_cmpR op_gt (pv 2) pe_int (nomark _))
        (pss_cons (ps_setLc (i := 3) (own := [("one", 4)]) (g := gName 4) (tt := tTest (tOp rEq (tMe Z.L "pay_with" (spPw Z) E0 (tVar 0) (tCons (tVar 4) (tCons (tVar 2) tNil))) (tOp (rIxL K) (tFld K (tVar 0) "pays") (tVar 2)))) (te := tVar 4) rfl scEa.nd rfl rfl (sw_true rfl rfl rfl (by decide +kernel))
            (pi_list (pe_cl hFirst hr pass0 (pa_cons (pe_fld (pv 0) rfl) (pa_cons (pv 2) pa_nil)))) (blkOk_by (N := NEa) (sc := defScope sEa) (by decide +kernel)) (fun _ _ _ _ _ => by exact pg_name (i := 4) scEa.nd rfl (Or.inl rfl))
            (fun _ _ _ _ _ => by exact pts_one (pt_cmpR op_eq (pe_me hPw T.cL.cl hr pass0 (pv 0) (pa_cons (pv 4) (pa_cons (pv 2) pa_nil))) (pe_ix ix_list (pe_fld (pv 0) rfl) (pv 2) (fun _ _ => rfl)) (nomark _))) (fun _ _ _ _ _ => by exact pv 4))
        (pss_cons (ps_expr (pe_bm PySem.F.plainAttrs_list PySem.F.slot_list_append PySem.F.type_list_append mt_append (pv 1) (pa_cons (pe_dget (hu_of hr) (pe_fld (pv 0) rfl) (pe_ix ix_list (pv 3) pe_int (fun _ _ => rfl)) (fun _ _ => rfl)) pa_nil)))
        (pss_one (ps_set (i := 2) scEa.nd rfl (Or.inr rfl) (pe_op op_sub (pv 2) (pe_ix ix_list (pv 3) pe_int (fun _ _ => rfl))))))))
      (pss_one (ps_ret (pv 1))))), ?_⟩
    have hwn : whole p = 2 ^ p.works.length - 1 := rfl
    have h2n : 2 ^ p.works.length ≤ 2 ^ 7 := Nat.pow_le_pow_right (by decide) D.wk
    have hpos := Nat.two_pow_pos p.works.length
    refine q_asgL (el_lst ea_nil (by decide)) fun f0 H1 hf0 e1 h1 => ?_
    have D1 := D.mono e1
    refine q_asg (ev_fld (ev_var rfl) (rf T.cL D1.ins 1)) fun H2 e2 => ?_
    have D2 := D1.mono e2
    have f00 : H0 f0 = none := fresh_back D.ex hf0
    have hfa : f0 ≠ a := fun z => by rw [z, D.pa] at hf0; cases hf0
    have hfb : f0 ≠ b := fun z => by rw [z, D.wa] at hf0; cases hf0
    have hfx : f0 ≠ x := fun z => by
      obtain ⟨dx, hx⟩ := D.ins
      rw [z, hx] at hf0
      cases hf0
    refine q_while (fun m σ' H' => ∃ (as : List Addr) (sv : Option V) (dn : List Nat) (b' : Sw82.Best), σ' = [some (.ref x), some (.ref f0), some (nV m), sv, none] ∧ Ex H H' ∧ PlansAt Z H0 H' x q a b kvs p (whole p) ∧ H' f0 = some (.lst (as.map V.ref)) ∧ Dm.B p m = some b' ∧ bd.duties = dn ++ b'.duties ∧
        Each (fun t s => DutyAt Z H0 t p (Sw82.members p.works.length s) ∧ s ∈ Dm.rights p) as dn ∧ m ≤ whole p ∧ dn.length + m ≤ whole p) (whole p) ⟨[], none, [], bd, rfl, e1.trans e2, D2, e2 _ _ h1, hB, rfl, ⟨rfl, fun i t s h => by simp at h⟩, Nat.le_refl _, by simp⟩ fun m σ' H' hV => ?_
    obtain ⟨as, sv, dn, b', rfl, e, PI, hf, hb, hd, hE, hm, hl⟩ := hV
    refine ⟨decide ((0 : Int) < (m : Int)), et_test (ev_op (ev_var rfl) ev_c rv_I0), fun hb0 H3 e3 => ?_, fun hb0 H3 e3 => ?_⟩
    · have hm0 : m ≠ 0 := by have := of_decide_eq_true hb0; omega
      have P3 := PI.mono e3
      have hT : Dm.Holds p (Dm.tab p (whole p)) (m + 1) := fun j hj => Dm.tab_holds D.wk (whole p) (by omega) j (by omega)
      obtain ⟨s, b2, hpk, hsr, hs0, hsm, hb2, hdu⟩ := Dm.pick_is D.wk (by omega) hm0 hT hb
      refine ⟨fun σ2 H2 => ∃ m', m' < m ∧ ∃ (as : List Addr) (sv : Option V) (dn : List Nat) (b' : Sw82.Best), σ2 = [some (.ref x), some (.ref f0), some (nV m'), sv, none] ∧ Ex H H2 ∧ PlansAt Z H0 H2 x q a b kvs p (whole p) ∧ H2 f0 = some (.lst (as.map V.ref)) ∧ Dm.B p m' = some b' ∧ bd.duties = dn ++ b'.duties ∧
        Each (fun t s => DutyAt Z H0 t p (Sw82.members p.works.length s) ∧ s ∈ Dm.rights p) as dn ∧ m' ≤ whole p ∧ dn.length + m' ≤ whole p, fun _ _ h => h, ?_⟩
      have hT1 : m < (Dm.tab p (whole p)).length := by rw [Dm.tab_len]; omega
      refine q_asgL (el_comp (Dm.firsts p m) (fun s => decide (Dm.payWith p (Dm.tab p (whole p)) s m = ((Dm.tab p (whole p)).getD m (none, 0)).1)) nV (by have := firsts_len m D.wk; omega) (it_listN (el_cl (ea_cons (ev_fld (ev_var rfl) (rf T.cL P3.ins 0)) (ea_cons (ev_var rfl) ea_nil)) (l_first P3 (Nat.pos_of_ne_zero hm0))) (List.length_map nV)) (fun i s' y H' H'' hs' e4 hy => ?_)) fun l H4 hl0 e4 hl4 => ?_
      · obtain ⟨rfl, hy⟩ := hy
        obtain ⟨s2, h2, rfl⟩ := map_at hy
        rw [hs'] at h2
        cases h2
        obtain ⟨hr1, hr2, hr3⟩ := firsts_mem (List.mem_of_getElem? hs')
        have P4 := P3.mono e4
        refine ⟨Ex.refl _, _, fun Q h => h, rfl, et_is (et_test (ev_op (ev_me (ev_var rfl) (mof P4.ins (by decide +kernel)) (ea_cons (ev_var rfl) (ea_cons (ev_var rfl) ea_nil)) (v_pw P4 hr1 hr3 (by omega))) (ev_op (ev_fld (ev_var rfl) (rf T.cL P4.ins 2)) (ev_var rfl) (rv_ixL (SqL.of P4.pa) (at_map (d := (none, 0)) hT1))) (rv_eq ?_))) ?_, fun _ => ev_var rfl⟩
        · cases Dm.payWith p (Dm.tab p (whole p)) s' m <;> cases ((Dm.tab p (whole p)).getD m (none, 0)).1 <;> rfl
        · generalize Dm.payWith p (Dm.tab p (whole p)) s' m = u
          generalize ((Dm.tab p (whole p)).getD m (none, 0)).1 = v
          cases u with
          | none => cases v <;> rfl
          | some u =>
            cases v with
            | none => rfl
            | some v =>
              show decide (nV u = nV v) = decide (some u = some v)
              rw [dec_n]
              simp
      · obtain ⟨rest, hpk'⟩ : ∃ rest, Dm.pick p (Dm.tab p (whole p)) m = s :: rest := by
          cases hp : Dm.pick p (Dm.tab p (whole p)) m with
          | nil => rw [hp] at hpk; cases hpk
          | cons s' rest => rw [hp] at hpk; cases hpk; exact ⟨rest, rfl⟩
        have hl4' : H4 l = some (.lst ((s :: rest).map nV)) := by
          rw [← hpk']
          exact hl4
        have P4 := P3.mono e4
        obtain ⟨da, hda, hDu⟩ := D.du.get hsr
        have hf4 := (e3.trans e4) _ _ hf
        have hlen : (as.map V.ref).length < 100000 := by rw [List.length_map, hE.1]; omega
        have hs0' : atI ((s :: rest).map nV) 0 = some (nV s) := atI_nat (j := 0) rfl
        have nfl : f0 ≠ l := fun z => by rw [← z, e3 _ _ hf] at hl0; cases hl0
        refine q_app hf4 (ev_var rfl) (ev_dget (ev_fld (ev_var rfl) (rf T.cL P4.ins 0)) (ev_op (ev_var rfl) ev_c (rv_ixL (SqL.of hl4') hs0')) (P4.ex _ _ P4.dq) hda) hlen fun H5 e5 => ?_
        have P5 := (P4.mono e5).updL (xs := as.map V.ref ++ [.ref da]) f00 hfa hfb hfx
        have hl5 : upd H5 f0 (.lst (as.map V.ref ++ [.ref da])) l = some (.lst ((s :: rest).map nV)) := by rw [upd_ne (Ne.symm nfl)]; exact e5 _ _ hl4'
        refine s_asg (ev_is (ev_op (ev_var rfl) (ev_op (ev_var rfl) ev_c (rv_ixL (SqL.of hl5) hs0')) rv_I0) (sub_nat hsm)) fun H6 e6 => ?_
        refine ⟨m - s, by omega, as ++ [da], _, dn ++ [s], b2, rfl, (Ex.mut (e.trans ((e3.trans e4).trans e5)) hf0).trans e6, P5.mono e6, ?_, hb2, ?_, ⟨?_, fun i t s' h1 h2 => ?_⟩, by omega, ?_⟩
        · rw [List.map_append]
          exact e6 _ _ upd_same
        · rw [List.append_assoc]
          show bd.duties = dn ++ (s :: b2.duties)
          rw [← hdu]
          exact hd
        · rw [List.length_append, List.length_append, hE.1]
          rfl
        · by_cases c : i < as.length
          · rw [List.getElem?_append_left c] at h1
            rw [List.getElem?_append_left (by rw [← hE.1]; exact c)] at h2
            exact hE.2 i t s' h1 h2
          · have ci : i = as.length := by
              have := (List.getElem?_eq_some_iff.mp h1).1
              rw [List.length_append] at this
              simp at this
              omega
            subst ci
            rw [List.getElem?_append_right (Nat.le_refl _), Nat.sub_self] at h1
            rw [hE.1, List.getElem?_append_right (Nat.le_refl _), Nat.sub_self] at h2
            have e1 : da = t := Option.some.inj h1
            have e2 : s = s' := Option.some.inj h2
            subst e1; subst e2
            exact ⟨hDu, hsr⟩
        · rw [List.length_append]
          simp
          omega
    · have hm0 : m = 0 := by have := of_decide_eq_false hb0; omega
      subst hm0
      rw [Dm.B_zero] at hb
      cases hb
      rw [List.append_nil] at hd
      rw [← hd] at hE
      exact s_ret (ev_var rfl) fun H4 e4 => r f0 as H4 (e.trans (e3.trans e4)) ((e3.trans e4) _ _ hf) hE
end
end Dw
namespace Dw
open PySem PySem.Spec PyProof.Rows L2 Evl
abbrev sNev : Stmt := top 24
abbrev NNev : List Str := ["depot", "duties", "k", "some"]
theorem scNev : FnScope NNev ["depot"] (defScope sNev) := ⟨rfl, rfl, rfl, by decide +kernel, rfl, by decide +kernel, by decide +kernel⟩
/-- never_used -/
def spNev (Z : Cs) : Sp := fun vs H Q _ => ∃ (d : Addr) (p : Sw82.Plan), vs = [.ref d] ∧ Dep Z H d p ∧ RetL (p.never.map nV) H Q
section
variable {P : Program} {w : World} {K : PySem.W.Frag} {mg : Str → Option Value} {base : Heap} {Z : Cs}
theorem ok_nev {f : Addr} {fd : FuncData} (F : Fun K "never_used" "never_used" sNev f fd) (T : Txt K mg Z) (hRights : HasF P w K mg base CX0 8 "right_duties" (spRights Z)) : FnOk P w K mg base CX0 9 f fd ["depot"] (spNev Z) := by
  refine F.ok scNev (fun vs H Q E h => ?_) (fun cdv A outer s H vs Q E hr h => ?_)
  · obtain ⟨d, p, rfl, _⟩ := h
    rfl
  · obtain ⟨d, p, rfl, D, r⟩ := h
    refine ⟨_, pss_cons (ps_set (i := 1) scNev.nd rfl (Or.inr rfl) (pe_cl hRights hr pass0 (pa_cons (pv 0) pa_nil)))
      (pss_one (ps_ret (pe_lc (own := [("k", 2)]) (g := gName 2) (tt := tNot (tB (tCB (rAny K) (tCons (tLockE (tLc (iKeys (tVar 1)) (gName 3) tYes (tOp rEq (tOp (rI0 fun i j => .int (Builtin.bitAnd i j)) (tOp (rI (fun _ j => 0 ≤ j) fun i j => .int (i / 2 ^ j.toNat)) (tVar 3) (tVar 2)) (tC (.int 1))) (tC (.int 1))) [3])) tNil)))) (te := tVar 2) rfl scNev.nd
        (pi_range1 rfl T.bRange (pa_cons (pe_callB call_len_seq (by rfl) T.bLen PySem.boot_len (pa_cons (pe_fld (pv 0) rfl) pa_nil)) pa_nil)) (blkOk_by (N := NNev) (sc := defScope sNev) (by decide +kernel)) (fun _ _ _ _ _ => by exact pg_name (i := 2) scNev.nd rfl (Or.inr rfl))
        (fun _ _ _ _ _ => by exact pts_one (pt_not (pt_val (pe_callB (cr_any rfl) (by rfl) T.bAny (by decide +kernel) (pa_cons (pe_lock (pe_lc (own := [("some", 3)]) (g := gName 3) (tt := tYes) (te := tOp rEq (tOp (rI0 fun i j => .int (Builtin.bitAnd i j)) (tOp (rI (fun _ j => 0 ≤ j) fun i j => .int (i / 2 ^ j.toNat)) (tVar 3) (tVar 2)) (tC (.int 1))) (tC (.int 1))) rfl scNev.nd
          (pi_keys (pv 1)) (blkOk_by (by kernel_rfl)) (fun _ _ _ _ _ => by exact pg_name (i := 3) scNev.nd rfl (Or.inl rfl)) (fun _ _ _ _ _ => pts_nil)
          (fun _ _ _ _ _ => by exact pe_cmpR op_eq (pe_op op_and (pe_op op_shr (pv 3) (pv 2)) pe_int) pe_int (nomark _)))) pa_nil)))))
        (fun _ _ _ _ _ => by exact pv 2)))), ?_⟩
    refine q_asgG (eg_cl (ea_cons (ev_var rfl) ea_nil) (g_rights D)) fun v H1 e1 g => ?_
    obtain ⟨q, kvs, rfl, hq, hD⟩ := g
    obtain ⟨A, D1⟩ := D.mono e1
    obtain ⟨ts, hp, ep⟩ := D1.pcs
    have hn := D1.good.works
    have hlen : (Dm.rights p).length ≤ 128 := by
      have h1 := upTo_len p (2 ^ p.works.length)
      have h2 : 2 ^ p.works.length ≤ 2 ^ 7 := Nat.pow_le_pow_right (by decide) hn
      have h3 : (Dm.rights p).length = (upTo p (2 ^ p.works.length)).length := rfl
      omega
    rw [Dm.never_is] at r
    refine s_retL (el_comp (List.range p.works.length) (fun k => !((Dm.rights p).any fun s => s.testBit k)) nV (by rw [List.length_range]; omega) (by
      rw [List.length_range]
      refine it_range1 (ea_cons (ev_is (ev_len (ev_fld (ev_var rfl) (rf T.cD D1.ins 4)) (SqL.of hp)) ?_) ea_nil) (by omega)
      rw [List.length_map, ep.1]) (fun i j x H' H'' hj e2 hx => ?_)) fun p' H2 hp' e2 h2 => r p' H2 (fresh_back e1 hp') (e1.trans e2) h2
    obtain ⟨rfl, rfl⟩ := hx
    have ej : j = i := by
      have := (List.getElem?_eq_some_iff.mp hj)
      obtain ⟨_, e⟩ := this
      simpa using e.symm
    subst ej
    have hq2 := e2 _ _ hq
    have hD2 := hD.mono e2
    refine ⟨Ex.refl _, _, fun Q h => h, rfl, et_not (et_B (ev_cbL (el_lock hq2 trivial fun od => el_compA (Dm.rights p) (fun s => V.bl (s.testBit j)) (by omega) (it_keys (ev_var rfl) upd_same hD2.len) (fun i2 s x2 H3 H4 hs e3 hx2 => ?_)) fun l H5 h5 e5 H6 e6 Q' q' => ?_)), fun _ => ev_var rfl⟩
    · obtain ⟨rfl, key, v2, hkv, rfl⟩ := hx2
      obtain ⟨a, e, _⟩ := hD2.at_ i2 _ s hkv hs
      cases e
      exact ⟨Ex.refl _, _, fun Q h => h, rfl, ev_is (ev_op (ev_op (ev_op (ev_var rfl) (ev_var rfl) (rv_I (by omega))) ev_c rv_I0) ev_c (rv_eq rfl)) (congrArg V.bl (bit_test s j))⟩
    · refine ⟨l, (Dm.rights p).map fun s => s.testBit j, rfl, ?_, ?_⟩
      · rw [List.map_map]
        exact SqL.of (e6 _ _ h5)
      · rw [List.any_map]
        exact q' H6 (Ex.refl H6)
end
end Dw
namespace Dw
open PySem PySem.Spec PyProof.Rows L2 Evl
abbrev sRul : Stmt := inClass (top 2) 0
theorem scRul : FnScope ["self", "numbers"] ["self", "numbers"] (defScope sRul) := ⟨rfl, rfl, rfl, by decide +kernel, rfl, by decide +kernel, by decide +kernel⟩
abbrev sPie : Stmt := inClass (top 3) 0
abbrev NPie : List Str := ["self", "begin", "end", "first", "last"]
theorem scPie : FnScope NPie NPie (defScope sPie) := ⟨rfl, rfl, rfl, by decide +kernel, rfl, by decide +kernel, by decide +kernel⟩
abbrev sDep : Stmt := inClass (top 4) 0
theorem scDep : FnScope ["self", "rules"] ["self", "rules"] (defScope sDep) := ⟨rfl, rfl, rfl, by decide +kernel, rfl, by decide +kernel, by decide +kernel⟩
abbrev sPut : Stmt := inClass (top 4) 1
abbrev NPut : List Str := ["self", "place", "can_break", "is_home", "other"]
theorem scPut : FnScope NPut ["self", "place", "can_break", "is_home"] (defScope sPut) := ⟨rfl, rfl, rfl, by decide +kernel, rfl, by decide +kernel, by decide +kernel⟩
/-- the nine numbers -/
def nine (r : Sw82.Rules) : List V := [nV r.long, nV r.work, nV r.drive, nV r.rest, nV r.on, nV r.off, nV r.change, nV r.least, nV r.twice]
/-- Rules.__init__ of the young instance x -/
def spRul (K : PySem.W.Frag) (Z : Cs) : Sp := fun vs H Q _ => ∃ (Hs : Hp) (x l : Addr) (r : Sw82.Rules), vs = [.ref x, .ref l] ∧ Ex Hs H ∧ Hs x = none ∧ Ins H x Z.R nRules [] ∧ (SqL K Hs l (nine r) ∨ SqT K Hs l (nine r)) ∧ ∀ H' : Hp, Ex Hs H' → RulesAt Z H' x r → Q .non H'
/-- Piece.__init__ -/
def spPie (Z : Cs) : Sp := fun vs H Q _ => ∃ (Hs : Hp) (x : Addr) (y : Sw82.Work), vs = [.ref x, nV y.from_, nV y.to, nV y.start, nV y.halt_] ∧ Ex Hs H ∧ Hs x = none ∧ Ins H x Z.P nPiece [] ∧ ∀ H' : Hp, Ex Hs H' → PieceAt Z H' x y → Q .non H'
/-- a depot with nothing in it -/
abbrev bare (r : Sw82.Rules) : Sw82.Plan := ⟨r, [], [], [], []⟩
/-- Depot.__init__ -/
def spDep (Z : Cs) : Sp := fun vs H Q _ => ∃ (Hs : Hp) (x a : Addr) (r : Sw82.Rules), vs = [.ref x, .ref a] ∧ Ex Hs H ∧ Hs x = none ∧ Ins H x Z.D nDepot [] ∧ RulesAt Z Hs a r ∧
  ∀ (H' : Hp) (A : DA), Ex Hs H' → DepotAt Z H' x A (bare r) → Hs A.b = none → Hs A.h = none → Hs A.w = none → Hs A.p = none → Q .non H'
/-- a list with or without i -/
def withI (l : List Nat) (i : Nat) (b : Bool) : List Nat := if b = true then l.filter (fun x => x != i) ++ [i] else l.filter fun x => x != i
/-- Depot.put_place -/
def spPut (Z : Cs) : Sp := fun vs H Q _ => ∃ (d : Addr) (A : DA) (p : Sw82.Plan) (i : Nat) (b h : Bool), vs = [.ref d, nV i, .bl b, .bl h] ∧ DepotAt Z H d A p ∧ i < 20 ∧
  ∀ (H' : Hp) (q : Addr), DepotAt Z H' d { A with h := q } { p with breaks := withI p.breaks i b, homes := withI p.homes i h } → H q = none → (∀ c o, H c = some o → c ≠ d → c ≠ A.b → H' c = some o) → ∀ v, Q v H'
/-! ### the truths told of places -/
theorem has_with (l : List Nat) (i j : Nat) (b : Bool) : (withI l i b).contains j = if j = i then b else l.contains j := by
  unfold withI
  have h1 : ∀ l : List Nat, (l.filter fun x => x != i).contains j = if j = i then false else l.contains j := by
    intro l
    induction l with
    | nil => rw [List.filter_nil]; split <;> rfl
    | cons y r ih =>
      rw [List.filter_cons]
      by_cases c : y = i
      · subst c
        rw [if_neg (by simp), ih]
        by_cases e : j = y
        · rw [if_pos e, if_pos e]
        · rw [if_neg e, if_neg e, List.contains_cons]
          have : (j == y) = false := by simpa using e
          rw [this]; rfl
      · rw [if_pos (by simpa using c), List.contains_cons, List.contains_cons, ih]
        by_cases e : j = i
        · rw [if_pos e, if_pos e]
          have : (j == y) = false := by
            subst e
            simpa using fun z => c z.symm
          rw [this]; rfl
        · rw [if_neg e, if_neg e]
  cases b with
  | true =>
    rw [if_pos rfl]
    have h2 : ∀ l : List Nat, (l ++ [i]).contains j = (l.contains j || (j == i)) := by
      intro l
      induction l with
      | nil => rw [List.nil_append, List.contains_cons, List.contains_nil, Bool.or_false, Bool.false_or]
      | cons y r ih => rw [List.cons_append, List.contains_cons, List.contains_cons, ih, Bool.or_assoc]
    rw [h2, h1]
    by_cases e : j = i
    · rw [if_pos e, if_pos e]; simp [e]
    · rw [if_neg e, if_neg e]
      have : (j == i) = false := by simpa using e
      rw [this, Bool.or_false]
  | false =>
    rw [if_neg (by decide)]
    exact h1 l
theorem with_nodup {l : List Nat} (h : l.Nodup) (i : Nat) (b : Bool) : (withI l i b).Nodup := by
  unfold withI
  have h1 := h.filter (fun x => x != i)
  split
  · rw [List.nodup_append]
    refine ⟨h1, by simp, fun a ha c hc z => ?_⟩
    have hc' : c = i := by simpa using hc
    subst z; subst hc'
    have := (List.mem_filter.mp ha).2
    simp at this
  · exact h1
theorem with_small {l : List Nat} (h : ∀ x ∈ l, x < 20) {i : Nat} (hi : i < 20) (b : Bool) : ∀ x ∈ withI l i b, x < 20 := by
  intro x hx
  unfold withI at hx
  split at hx
  · rcases List.mem_append.mp hx with q | q
    · exact h x (List.mem_filter.mp q).1
    · have : x = i := by simpa using q
      omega
  · exact h x (List.mem_filter.mp hx).1
theorem BrkRel.put {kvs : List (Key × V)} {br : List Nat} (r : BrkRel kvs br) {i : Nat} (hi : i < 20) (b : Bool) : BrkRel (putK kvs (.inl (i : Int)) (.bl b)) (withI br i b) := by
  refine ⟨?_, ?_, fun j => ?_⟩
  · unfold putK
    split
    · have e : (kvs.map fun kv => if kv.1 = .inl (i : Int) then (kv.1, V.bl b) else kv).map (·.1) = kvs.map (·.1) := by
        rw [List.map_map]
        refine List.map_congr_left fun kv _ => ?_
        show (if kv.1 = .inl (i : Int) then (kv.1, V.bl b) else kv).1 = kv.1
        split <;> rfl
      rw [e]
      exact r.nd
    · rename_i hn
      rw [List.map_append, List.nodup_append]
      refine ⟨r.nd, by simp, fun a ha c hc z => hn ?_⟩
      obtain ⟨kv, hk, rfl⟩ := List.mem_map.mp ha
      have hc' : c = .inl (i : Int) := by simpa using hc
      rw [List.any_eq_true]
      exact ⟨kv, hk, decide_eq_true (z.trans hc')⟩
  · intro kv hk
    unfold putK at hk
    split at hk
    · obtain ⟨kv', h1, rfl⟩ := List.mem_map.mp hk
      obtain ⟨k, h2, h3⟩ := r.ks kv' h1
      refine ⟨k, h2, ?_⟩
      show (if kv'.1 = .inl (i : Int) then (kv'.1, V.bl b) else kv').1 = _
      split <;> exact h3
    · rcases List.mem_append.mp hk with q | q
      · exact r.ks kv q
      · have : kv = (.inl (i : Int), V.bl b) := by simpa using q
        subst this
        exact ⟨i, hi, rfl⟩
  · rw [valV_put, has_with]
    by_cases e : j = i
    · subst e
      rw [if_pos rfl, if_pos rfl]; rfl
    · rw [if_neg e, if_neg (fun z => e (by
        have e2 : (j : Int) = (i : Int) := Sum.inl.inj z
        omega))]
      exact r.get j
theorem BrkRel.few {kvs : List (Key × V)} {br : List Nat} (r : BrkRel kvs br) : kvs.length ≤ 20 := by
  let f : Key × V → Nat := fun kv => match kv.1 with
    | .inl z => z.toNat
    | .inr _ => 0
  have hf : ∀ kv ∈ kvs, ∃ k : Nat, k < 20 ∧ kv.1 = .inl (k : Int) ∧ f kv = k := fun kv hk => by
    obtain ⟨k, h1, h2⟩ := r.ks kv hk
    refine ⟨k, h1, h2, ?_⟩
    show (match kv.1 with
    | .inl z => z.toNat
    | .inr _ => 0) = k
    rw [h2]
    exact Int.toNat_natCast k
  have h1 : (kvs.map f).Nodup := by
    rw [List.nodup_iff_pairwise_ne, List.pairwise_map]
    have h2 := r.nd
    rw [List.nodup_iff_pairwise_ne, List.pairwise_map] at h2
    refine h2.imp_of_mem fun {a b} ha hb ne e => ne ?_
    obtain ⟨k, _, e1, e2⟩ := hf a ha
    obtain ⟨k', _, e3, e4⟩ := hf b hb
    rw [e2, e4] at e
    rw [e1, e3, e]
  have h3 := Dw.few 20 (kvs.map f) h1 fun x hx => by
    obtain ⟨kv, hk, rfl⟩ := List.mem_map.mp hx
    obtain ⟨k, h4, _, h5⟩ := hf kv hk
    rw [h5]; exact h4
  rw [List.length_map] at h3
  exact h3
/-! ### a depot's parts change one by one -/
theorem each_snoc {α : Type} {G : Addr → α → Prop} {ts : List Addr} {xs : List α} {t : Addr} {x : α} (h : Each G ts xs) (g : G t x) : Each G (ts ++ [t]) (xs ++ [x]) := by
  refine ⟨by rw [List.length_append, List.length_append, h.1]; rfl, fun i t' x' h1 h2 => ?_⟩
  by_cases c : i < ts.length
  · rw [List.getElem?_append_left c] at h1
    rw [List.getElem?_append_left (by rw [← h.1]; exact c)] at h2
    exact h.2 i t' x' h1 h2
  · have ci : i = ts.length := by
      have := (List.getElem?_eq_some_iff.mp h1).1
      rw [List.length_append] at this
      simp at this
      omega
    subst ci
    rw [List.getElem?_append_right (Nat.le_refl _), Nat.sub_self] at h1
    rw [h.1, List.getElem?_append_right (Nat.le_refl _), Nat.sub_self] at h2
    have e1 : t = t' := Option.some.inj h1
    have e2 : x = x' := Option.some.inj h2
    subst e1; subst e2
    exact g
theorem ins_depot {C C' dx dx' : Addr} {ns : List Str} {f : Str} {fs : List V} {v r b h w p : V} (hf : f ≠ "rules") (z : HO.ins C dx ((f :: ns).zip (v :: fs)) = HO.ins C' dx' (nDepot.zip [r, b, h, w, p])) : False := by
  injection z with z1 z2 z3
  injection z3 with z4 _
  injection z4 with z5 _
  exact hf z5
section
variable {Z : Cs} {H : Hp} {d : Addr} {A : DA} {p : Sw82.Plan}
theorem DepotAt.upd_b {kvs : List (Key × V)} {br : List Nat} (D : DepotAt Z H d A p) (r : BrkRel kvs br) : DepotAt Z (upd H A.b (.dK kvs)) d A { p with breaks := br } := by
  obtain ⟨ks, hb, _⟩ := D.brk
  have up : ∀ {c : Addr} {o : HO}, H c = some o → (∀ ks, o ≠ .dK ks) → upd H A.b (.dK kvs) c = some o := fun {c o} h n => by
    rw [upd_ne (ne_of h hb (n ks))]
    exact h
  obtain ⟨dx, hi⟩ := D.ins
  obtain ⟨dr, hr⟩ := D.rul
  obtain ⟨ts, hw, ew⟩ := D.way
  obtain ⟨us, hp, ep⟩ := D.pcs
  exact ⟨⟨dx, up hi fun _ z => (by cases z)⟩, ⟨dr, up hr fun _ z => (by cases z)⟩, ⟨kvs, upd_same, r⟩, up D.hom fun _ z => (by cases z), ⟨ts, up hw fun _ z => (by cases z), ew.mono fun _ _ h => up h fun _ z => (by cases z)⟩,
    ⟨us, up hp fun _ z => (by cases z), ep.mono fun _ _ h => let ⟨dx, h⟩ := h; ⟨dx, up h fun _ z => (by cases z)⟩⟩, D.wh, D.wp, D.hp, ⟨D.good.ways, D.good.works, D.good.homes, D.good.small, D.good.ok⟩⟩
theorem DepotAt.upd_h {q dx : Addr} {hs : List Nat} (D : DepotAt Z H d A p) (hq : H q = some (.lst (hs.map nV))) (qw : A.w ≠ q) (qp : q ≠ A.p) (hn : hs.Nodup) (hl : ∀ x ∈ hs, x < 20) :
    DepotAt Z (upd H d (.ins Z.D dx (nDepot.zip [.ref A.r, .ref A.b, .ref q, .ref A.w, .ref A.p]))) d { A with h := q } { p with homes := hs } := by
  obtain ⟨dx', hi⟩ := D.ins
  obtain ⟨dr, hr⟩ := D.rul
  obtain ⟨ts, hw, ew⟩ := D.way
  obtain ⟨us, hp, ep⟩ := D.pcs
  obtain ⟨ks, hb, rb⟩ := D.brk
  have up : ∀ {c : Addr} {o o' : HO}, H c = some o → (∀ dx fs, o ≠ .ins Z.D dx fs) → upd H d o' c = some o := fun {c o o'} h n => by
    rw [upd_ne (ne_of h hi (n _ _))]
    exact h
  refine ⟨⟨dx, upd_same⟩, ⟨dr, ?_⟩, ⟨ks, up hb fun _ _ z => (by cases z), rb⟩, up hq fun _ _ z => (by cases z), ⟨ts, up hw fun _ _ z => (by cases z), ew.mono fun _ _ h => up h fun _ _ z => by cases z⟩,
    ⟨us, up hp fun _ _ z => (by cases z), ep.mono fun _ _ h => let ⟨dy, h⟩ := h; ⟨dy, ?_⟩⟩, qw, D.wp, qp, ⟨D.good.ways, D.good.works, hn, hl, D.good.ok⟩⟩
  · rw [upd_ne (ne_of hr hi fun z => ins_depot (by decide +kernel) z)]
    exact hr
  · rw [upd_ne (ne_of h hi fun z => ins_depot (by decide +kernel) z)]
    exact h
theorem DepotAt.upd_w {t : Addr} {ts : List Addr} {x : Nat × Nat × Nat} (D : DepotAt Z H d A p) (hw : H A.w = some (.lst (ts.map V.ref))) (ew : Each (WayAt H) ts p.ways) (ht : WayAt H t x) (hl : p.ways.length < 40) :
    DepotAt Z (upd H A.w (.lst (ts.map V.ref ++ [.ref t]))) d A { p with ways := p.ways ++ [x] } := by
  obtain ⟨dx', hi⟩ := D.ins
  obtain ⟨dr, hr⟩ := D.rul
  obtain ⟨us, hp, ep⟩ := D.pcs
  obtain ⟨ks, hb, rb⟩ := D.brk
  have up : ∀ {c : Addr} {o o' : HO}, H c = some o → (∀ xs, o ≠ .lst xs) → upd H A.w o' c = some o := fun {c o o'} h n => by
    rw [upd_ne (ne_of h hw (n _))]
    exact h
  refine ⟨⟨dx', up hi fun _ z => (by cases z)⟩, ⟨dr, up hr fun _ z => (by cases z)⟩, ⟨ks, up hb fun _ z => (by cases z), rb⟩, (by rw [upd_ne (Ne.symm D.wh)]; exact D.hom), ⟨ts ++ [t], (by rw [List.map_append]; exact upd_same), ?_⟩,
    ⟨us, (by rw [upd_ne (Ne.symm D.wp)]; exact hp), ep.mono fun _ _ h => let ⟨dy, h⟩ := h; ⟨dy, up h fun _ z => (by cases z)⟩⟩, D.wh, D.wp, D.hp, ⟨?_, D.good.works, D.good.homes, D.good.small, D.good.ok⟩⟩
  · refine each_snoc (ew.mono fun _ _ h => up h fun _ z => by cases z) (up ht fun _ z => by cases z)
  · show (p.ways ++ [x]).length ≤ 40
    rw [List.length_append]
    exact hl
theorem DepotAt.upd_p {ts : List Addr} {ws : List Sw82.Work} (D : DepotAt Z H d A p) (hp : ∃ us : List V, H A.p = some (.lst us)) (ew : Each (PieceAt Z H) ts ws) (hl : ws.length ≤ 7) (hk : ∀ x ∈ ws, Dm.okW x) :
    DepotAt Z (upd H A.p (.lst (ts.map V.ref))) d A { p with works := ws } := by
  obtain ⟨dx', hi⟩ := D.ins
  obtain ⟨dr, hr⟩ := D.rul
  obtain ⟨us, hw, ep⟩ := D.way
  obtain ⟨ks, hb, rb⟩ := D.brk
  obtain ⟨us', hp⟩ := hp
  have up : ∀ {c : Addr} {o o' : HO}, H c = some o → (∀ xs, o ≠ .lst xs) → upd H A.p o' c = some o := fun {c o o'} h n => by
    rw [upd_ne (ne_of h hp (n _))]
    exact h
  refine ⟨⟨dx', up hi fun _ z => (by cases z)⟩, ⟨dr, up hr fun _ z => (by cases z)⟩, ⟨ks, up hb fun _ z => (by cases z), rb⟩, (by rw [upd_ne D.hp]; exact D.hom), ⟨us, (by rw [upd_ne D.wp]; exact hw), ep.mono fun _ _ h => up h fun _ z => (by cases z)⟩,
    ⟨ts, upd_same, ew.mono fun _ _ h => let ⟨dy, h⟩ := h; ⟨dy, up h fun _ z => (by cases z)⟩⟩, D.wh, D.wp, D.hp, ⟨D.good.ways, hl, D.good.homes, D.good.small, hk⟩⟩
end
end Dw
namespace Dw
open PySem PySem.Spec PyProof.Rows L2 Evl
/-- what is bound is a list's items, one behind another -/
theorem q_asgLg {te : TE} {g : TG} {tz : TS} {D : Ends} {σ : L2.St} {H : Hp} {xs : List V} (h : EvL te σ H xs) (k : ∀ p H1, H p = none → Ex H H1 → H1 p = some (.lst xs) → g (.ref p) σ H1 (tz D)) : tSeq (tAsg te g) tz D σ H := h H (Ex.refl H) _ k
theorem s_asgLg {te : TE} {g : TG} {D : Ends} {σ : L2.St} {H : Hp} {xs : List V} (h : EvL te σ H xs) (k : ∀ p H1, H p = none → Ex H H1 → H1 p = some (.lst xs) → g (.ref p) σ H1 D.nx) : tAsg te g D σ H := h H (Ex.refl H) _ k
theorem q_asgUg {te : TE} {g : TG} {tz : TS} {D : Ends} {σ : L2.St} {H : Hp} {xs : List V} (h : EvU te σ H xs) (k : ∀ p H1, H p = none → Ex H H1 → H1 p = some (.tup xs) → g (.ref p) σ H1 (tz D)) : tSeq (tAsg te g) tz D σ H := h H (Ex.refl H) _ k
theorem s_asgUg {te : TE} {g : TG} {D : Ends} {σ : L2.St} {H : Hp} {xs : List V} (h : EvU te σ H xs) (k : ∀ p H1, H p = none → Ex H H1 → H1 p = some (.tup xs) → g (.ref p) σ H1 D.nx) : tAsg te g D σ H := h H (Ex.refl H) _ k
theorem eu_slA {K : PySem.W.Frag} {te : TE} {σ : L2.St} {H : Hp} {tl th : TO} {a : Addr} {xs : List V} {lo hi : Option Int} (h : Ev te σ H (.ref a)) (h1 : EvO tl σ H lo) (h2 : EvO th σ H hi) (hs : SqT K H a xs) (hn : ¬ (HT.sIx xs.length 0 lo = 0 ∧ HT.sIx xs.length xs.length hi = xs.length)) : EvU (tSl (rSlA K) te tl th) σ H (cutV xs lo hi) := fun H1 e Q q =>
  h H1 e _ fun H2 e2 => h1 H2 (e.trans e2) _ fun H3 e3 => h2 H3 ((e.trans e2).trans e3) _ fun H4 e4 => ⟨a, xs, rfl, ex_t (((e.trans e2).trans e3).trans e4) hs, fun z => absurd z hn, fun _ p hp => q p _ (fresh_back ((e2.trans e3).trans e4) hp) (((e2.trans e3).trans e4).trans (Ex.new hp)) upd_same⟩
theorem att_new {K : PySem.W.Frag} {σ : L2.St} {Hs H : Hp} {x C : Addr} {ns : List Str} {vs : List V} {f : Str} {v : V} {Q : L2.St → Hp → Prop} (c : ClsA K C ns) (hσ : σ[0]? = some (some (.ref x))) (e : Ex Hs H) (x0 : Hs x = none) (h : Ins H x C ns vs) (hn : ns[vs.length]? = some f) (hz : vs.length ≤ 100)
    (k : ∀ H1, Ex Hs H1 → Ins H1 x C ns (vs ++ [v]) → Q σ H1) : Dr.gAtt K (tVar 0) f v σ H Q := by
  obtain ⟨dx, hx⟩ := h
  refine ⟨_, hσ, x, C, dx, _, rfl, hx, c.cl, c.no f (List.mem_of_getElem? hn), ?_, ?_⟩
  · rw [List.length_zip]
    have := Nat.min_le_right ns.length vs.length
    omega
  · rw [put_new c.nd hn]
    exact k _ (Ex.mut e x0) ⟨dx, upd_same⟩
section
variable {P : Program} {w : World} {K : PySem.W.Frag} {mg : Str → Option Value} {base : Heap} {Z : Cs}
theorem nine_lo (r : Sw82.Rules) : cutV (nine r) none (some 4) = [nV r.long, nV r.work, nV r.drive, nV r.rest] := rfl
theorem nine_hi (r : Sw82.Rules) : cutV (nine r) (some 4) none = [nV r.on, nV r.off, nV r.change, nV r.least, nV r.twice] := rfl
theorem four_go (T : Txt K mg Z) {σ : L2.St} {Hs H : Hp} {x : Addr} {r : Sw82.Rules} {Q : L2.St → Hp → Prop} (hσ : σ[0]? = some (some (.ref x))) (e : Ex Hs H) (x0 : Hs x = none) (h : Ins H x Z.R nRules [])
    (k : ∀ H1, Ex Hs H1 → Ins H1 x Z.R nRules [nV r.long, nV r.work, nV r.drive, nV r.rest] → Q σ H1) :
    gCons (Dr.gAtt K (tVar 0) "long") (gCons (Dr.gAtt K (tVar 0) "work") (gCons (Dr.gAtt K (tVar 0) "drive") (gCons (Dr.gAtt K (tVar 0) "rest") gNil))) [nV r.long, nV r.work, nV r.drive, nV r.rest] σ H Q := by
  refine ⟨_, _, rfl, att_new T.cR hσ e x0 h rfl (Nat.le_of_ble_eq_true rfl) fun H1 e1 h1 => ⟨_, _, rfl, att_new T.cR hσ e1 x0 h1 rfl (Nat.le_of_ble_eq_true rfl) fun H2 e2 h2 => ⟨_, _, rfl, att_new T.cR hσ e2 x0 h2 rfl (Nat.le_of_ble_eq_true rfl) fun H3 e3 h3 => ⟨_, _, rfl, att_new T.cR hσ e3 x0 h3 rfl (Nat.le_of_ble_eq_true rfl) fun H4 e4 h4 => ⟨rfl, k H4 e4 h4⟩⟩⟩⟩⟩
theorem five_go (T : Txt K mg Z) {σ : L2.St} {Hs H : Hp} {x : Addr} {r : Sw82.Rules} {Q : L2.St → Hp → Prop} (hσ : σ[0]? = some (some (.ref x))) (e : Ex Hs H) (x0 : Hs x = none) (h : Ins H x Z.R nRules [nV r.long, nV r.work, nV r.drive, nV r.rest])
    (k : ∀ H1, Ex Hs H1 → RulesAt Z H1 x r → Q σ H1) :
    gCons (Dr.gAtt K (tVar 0) "ahead") (gCons (Dr.gAtt K (tVar 0) "behind") (gCons (Dr.gAtt K (tVar 0) "change") (gCons (Dr.gAtt K (tVar 0) "least") (gCons (Dr.gAtt K (tVar 0) "twice") gNil)))) [nV r.on, nV r.off, nV r.change, nV r.least, nV r.twice] σ H Q := by
  refine ⟨_, _, rfl, att_new T.cR hσ e x0 h rfl (Nat.le_of_ble_eq_true rfl) fun H1 e1 h1 => ⟨_, _, rfl, att_new T.cR hσ e1 x0 h1 rfl (Nat.le_of_ble_eq_true rfl) fun H2 e2 h2 => ⟨_, _, rfl, att_new T.cR hσ e2 x0 h2 rfl (Nat.le_of_ble_eq_true rfl) fun H3 e3 h3 => ⟨_, _, rfl, att_new T.cR hσ e3 x0 h3 rfl (Nat.le_of_ble_eq_true rfl) fun H4 e4 h4 => ⟨_, _, rfl, att_new T.cR hσ e4 x0 h4 rfl (Nat.le_of_ble_eq_true rfl) fun H5 e5 h5 => ⟨rfl, k H5 e5 h5⟩⟩⟩⟩⟩⟩
theorem ok_rul {f : Addr} {fd : FuncData} (F : Fun K "__init__" "Rules.__init__" sRul f fd) (T : Txt K mg Z) : FnOk P w K mg base CX0 1 f fd ["self", "numbers"] (spRul K Z) := by
  refine F.ok scRul (fun vs H Q E h => ?_) (fun cdv A outer s H vs Q E hr h => ?_)
  · obtain ⟨Hs, x, l, r, rfl, _⟩ := h
    rfl
  · obtain ⟨Hs, x, l, r, rfl, e, x0, hx, hl | hl, k⟩ := h
    · refine ⟨_, pss_cons (ps_asg (pe_slice sl_list (pv 1) po_none (po_some pe_int)) (pg_unl rfl (pgs_cons (Dr.pg_att (pv 0)) (pgs_cons (Dr.pg_att (pv 0)) (pgs_cons (Dr.pg_att (pv 0)) (pgs_cons (Dr.pg_att (pv 0)) pgs_nil))))))
        (pss_one (ps_asg (pe_slice sl_list (pv 1) (po_some pe_int) po_none) (pg_unl rfl (pgs_cons (Dr.pg_att (pv 0)) (pgs_cons (Dr.pg_att (pv 0)) (pgs_cons (Dr.pg_att (pv 0)) (pgs_cons (Dr.pg_att (pv 0)) (pgs_cons (Dr.pg_att (pv 0)) pgs_nil)))))))), ?_⟩
      refine q_asgLg (el_sl (ev_var rfl) eo_none (eo_some ev_c) (ex_l e hl)) fun p H1 hp e1 h1 => ⟨p, _, rfl, SqL.of h1, rfl, ?_⟩
      refine four_go T rfl (e.trans e1) x0 (hx.mono e1) fun H2 e2 hx2 => ?_
      refine s_asgLg (el_sl (ev_var rfl) (eo_some ev_c) eo_none (ex_l e2 hl)) fun p H3 hp e3 h3 => ⟨p, _, rfl, SqL.of h3, rfl, ?_⟩
      exact five_go T rfl (e2.trans e3) x0 (hx2.mono e3) fun H4 e4 h4 => k H4 e4 h4
    · refine ⟨_, pss_cons (ps_asg (pe_slice sl_tupA (pv 1) po_none (po_some pe_int)) (pg_tup rfl (pgs_cons (Dr.pg_att (pv 0)) (pgs_cons (Dr.pg_att (pv 0)) (pgs_cons (Dr.pg_att (pv 0)) (pgs_cons (Dr.pg_att (pv 0)) pgs_nil))))))
        (pss_one (ps_asg (pe_slice sl_tupA (pv 1) (po_some pe_int) po_none) (pg_tup rfl (pgs_cons (Dr.pg_att (pv 0)) (pgs_cons (Dr.pg_att (pv 0)) (pgs_cons (Dr.pg_att (pv 0)) (pgs_cons (Dr.pg_att (pv 0)) (pgs_cons (Dr.pg_att (pv 0)) pgs_nil)))))))), ?_⟩
      refine q_asgUg (eu_slA (ev_var rfl) eo_none (eo_some ev_c) (ex_t e hl) (by show ¬ (HT.sIx 9 0 none = 0 ∧ HT.sIx 9 9 (some 4) = 9); decide)) fun p H1 hp e1 h1 => ⟨p, _, rfl, SqT.of h1, rfl, ?_⟩
      refine four_go T rfl (e.trans e1) x0 (hx.mono e1) fun H2 e2 hx2 => ?_
      refine s_asgUg (eu_slA (ev_var rfl) (eo_some ev_c) eo_none (ex_t e2 hl) (by show ¬ (HT.sIx 9 0 (some 4) = 0 ∧ HT.sIx 9 9 none = 9); decide)) fun p H3 hp e3 h3 => ⟨p, _, rfl, SqT.of h3, rfl, ?_⟩
      exact five_go T rfl (e2.trans e3) x0 (hx2.mono e3) fun H4 e4 h4 => k H4 e4 h4
theorem ok_pie {f : Addr} {fd : FuncData} (F : Fun K "__init__" "Piece.__init__" sPie f fd) (T : Txt K mg Z) : FnOk P w K mg base CX0 1 f fd NPie (spPie Z) := by
  refine F.ok scPie (fun vs H Q E h => ?_) (fun cdv A outer s H vs Q E hr h => ?_)
  · obtain ⟨Hs, x, y, rfl, _⟩ := h
    rfl
  · obtain ⟨Hs, x, y, rfl, e, x0, hx, k⟩ := h
    refine ⟨_, pss_cons (ps_fld (pv 0) (pv 1) rfl) (pss_cons (ps_fld (pv 0) (pv 2) rfl) (pss_cons (ps_fld (pv 0) (pv 3) rfl) (pss_one (ps_fld (pv 0) (pv 4) rfl)))), ?_⟩
    refine new_f T.cP e x0 hx (ev_var rfl) (ev_var rfl) rfl (by decide) fun H1 e1 _ h1 => ?_
    refine new_f T.cP e1 x0 h1 (ev_var rfl) (ev_var rfl) rfl (by show 1 ≤ 100; decide) fun H2 e2 _ h2 => ?_
    refine new_f T.cP e2 x0 h2 (ev_var rfl) (ev_var rfl) rfl (by show 2 ≤ 100; decide) fun H3 e3 _ h3 => ?_
    exact new_ins T.cP (ev_var rfl) (ev_var rfl) h3 rfl (by show 3 ≤ 100; decide) fun H4 dx e4 h4 => k _ (Ex.mut (e3.trans e4) x0) ⟨dx, upd_same⟩
theorem eg_newD {σ : L2.St} {H : Hp} : EvG tDNewK σ H (fun v H2 => ∃ q, v = .ref q ∧ H q = none ∧ H2 q = some (.dK [])) := fun H1 e Q q p hp => q (.ref p) _ (Ex.new hp) ⟨p, rfl, fresh_back e hp, upd_same⟩
theorem ok_dep {f : Addr} {fd : FuncData} (F : Fun K "__init__" "Depot.__init__" sDep f fd) (T : Txt K mg Z) : FnOk P w K mg base CX0 1 f fd ["self", "rules"] (spDep Z) := by
  refine F.ok scDep (fun vs H Q E h => ?_) (fun cdv A outer s H vs Q E hr h => ?_)
  · obtain ⟨Hs, x, a, r, rfl, _⟩ := h
    rfl
  · obtain ⟨Hs, x, a, r, rfl, e, x0, hx, ha, k⟩ := h
    refine ⟨_, pss_cons (ps_fld (pv 0) (pv 1) rfl) (pss_cons (ps_fld (pv 0) pe_dnewK rfl) (pss_cons (ps_fld (pv 0) (pe_lst pa_nil) rfl) (pss_cons (ps_fld (pv 0) (pe_lst pa_nil) rfl) (pss_one (ps_fld (pv 0) (pe_lst pa_nil) rfl))))), ?_⟩
    refine new_f T.cD e x0 hx (ev_var rfl) (ev_var rfl) rfl (by decide) fun H1 e1 _ h1 => ?_
    refine new_fG T.cD h1 eg_newD (fun v H H' e g => let ⟨q, a, b, c⟩ := g; ⟨q, a, b, e _ _ c⟩) (fun H1 _ => ev_var rfl) rfl (by show 1 ≤ 100; decide) fun v H2 dx e2 g h2 => ?_
    obtain ⟨b, rfl, hb, hb2⟩ := g
    have hb3 : upd H2 x (.ins Z.D dx (nDepot.zip ([.ref a] ++ [V.ref b]))) b = some (.dK []) := by rw [upd_ne (ne_of hb2 h2 fun z => by cases z)]; exact hb2
    have e3 : Ex Hs (upd H2 x (.ins Z.D dx (nDepot.zip ([.ref a] ++ [V.ref b])))) := Ex.mut (e1.trans e2) x0
    refine new_fL T.cD e3 x0 ⟨dx, upd_same⟩ (el_lst ea_nil (by decide)) (fun H1 _ => ev_var rfl) rfl (by show 2 ≤ 100; decide) fun h H4 e4 b4 hh4 hh hx4 => ?_
    have hb4 : H4 b = some (.dK []) := b4 _ _ hb3 (ne_of hb2 h2 fun z => by cases z)
    refine new_fL T.cD e4 x0 hx4 (el_lst ea_nil (by decide)) (fun H1 _ => ev_var rfl) rfl (by show 3 ≤ 100; decide) fun w' H5 e5 b5 hw5 hw hx5 => ?_
    have hh5 := b5.lst hx4 hh4
    have hb5 : H5 b = some (.dK []) := by
      obtain ⟨dy, hy⟩ := hx4
      exact b5 _ _ hb4 (ne_of hb4 hy fun z => by cases z)
    -- the last one
    refine (el_lst (ta := tNil) (vs := []) ea_nil (by decide)) H5 (Ex.refl H5) _ fun q H6 hq e6 hq6 => ?_
    obtain ⟨dy, hy⟩ := hx5
    have hy6 := e6 _ _ hy
    refine ⟨.ref x, rfl, x, Z.D, dy, _, rfl, hy6, T.cD.cl, T.cD.no _ (by decide +kernel), (by rw [List.length_zip]; exact Nat.lt_of_le_of_lt (Nat.min_le_left _ _) (by decide)), ?_⟩
    have en : putF "pieces" (.ref q) (nDepot.zip ([] ++ [.ref a] ++ [V.ref b] ++ [.ref h] ++ [.ref w'])) = nDepot.zip ([.ref a] ++ [V.ref b] ++ [.ref h] ++ [.ref w'] ++ [.ref q]) := put_new T.cD.nd rfl
    rw [en]
    have e7 : Ex Hs (upd H6 x (.ins Z.D dy (nDepot.zip ([.ref a] ++ [V.ref b] ++ [.ref h] ++ [.ref w'] ++ [.ref q])))) := Ex.mut (e5.trans e6) x0
    have up : ∀ {c : Addr} {o o' : HO}, H6 c = some o → (∀ dx fs, o ≠ .ins Z.D dx fs) → upd H6 x o' c = some o := fun {c o o'} h n => by
      rw [upd_ne (ne_of h hy6 (n _ _))]
      exact h
    refine k _ ⟨a, b, h, w', q⟩ e7 ⟨⟨dy, upd_same⟩, Ins.mono e7 ha, ⟨[], up (e6 _ _ hb5) fun _ _ z => (by cases z), ⟨List.nodup_nil, fun kv hk => (by cases hk), fun j => rfl⟩⟩, up (e6 _ _ hh5) fun _ _ z => (by cases z),
      ⟨[], up (e6 _ _ hw5) fun _ _ z => (by cases z), ⟨rfl, fun i t y ht => (by simp at ht)⟩⟩, ⟨[], up hq6 fun _ _ z => (by cases z), ⟨rfl, fun i t y ht => (by simp at ht)⟩⟩, Ne.symm (ne_of_none hh4 hw), ne_of_none hw5 hq, ne_of_none hh5 hq,
      ⟨Nat.zero_le _, Nat.zero_le _, List.nodup_nil, fun _ h => (by cases h), fun _ h => (by cases h)⟩⟩ (fresh_back e1 hb) (fresh_back e3 hh) (fresh_back e4 hw) (fresh_back e5 hq)
end
end Dw
namespace Dw
open PySem PySem.Spec PyProof.Rows L2 Evl
abbrev sNeed : Stmt := top 37
theorem scNeed : FnScope ["holds", "code"] ["holds", "code"] (defScope sNeed) := ⟨rfl, rfl, rfl, by decide +kernel, rfl, by decide +kernel, by decide +kernel⟩
abbrev sAre : Stmt := top 38
theorem scAre : FnScope ["a", "b"] ["a", "b"] (defScope sAre) := ⟨rfl, rfl, rfl, by decide +kernel, rfl, by decide +kernel, by decide +kernel⟩
abbrev sLis : Stmt := top 39
theorem scLis : FnScope ["some"] ["some"] (defScope sLis) := ⟨rfl, rfl, rfl, by decide +kernel, rfl, by decide +kernel, by decide +kernel⟩
/-- need: nothing, or an error that bears the code -/
def spNeed (Z : Cs) : Sp := fun vs H Q E => ∃ (b : Bool) (c : Int), vs = [.bl b, .int c] ∧ (b = true → ∀ H', Ex H H' → Q .non H') ∧ (b = false → ∀ H' d, Ex H H' → H d = none → H' d = some (.xd [(("code" : Str), .int c)]) → E (.ref Z.E) (some d) H')
/-- are_places -/
def spAre : Sp := fun vs H Q _ => ∃ a b : Nat, vs = [nV a, nV b] ∧ RetV (.bl (decide (a < 20) && decide (b < 20))) H Q
/-- listed -/
def spLis (K : PySem.W.Frag) : Sp := fun vs H Q _ => ∃ (l : Addr) (xs : List V), vs = [.ref l] ∧ SqL K H l xs ∧ xs.length ≤ 50000 ∧ RetL (.int (xs.length : Int) :: xs) H Q
theorem q_put {td ty tv : TE} {tz : TS} {D : Ends} {σ : L2.St} {H : Hp} {d : Addr} {kvs : List (Key × V)} {n : Int} {v : V} (hd : H d = some (.dK kvs)) (hv : Ev tv σ H v) (ht : Ev td σ H (.ref d)) (hy : Ev ty σ H (.int n)) (hz : kvs.length ≤ 1000)
    (k : ∀ H1, Ex H H1 → tz D σ (upd H1 d (.dK (putK kvs (.inl n) v)))) : tSeq (sDPut td ty tv) tz D σ H := s_put (D := { D with nx := tz D }) hd hv ht hy hz k
/-- self.f = a new list, a field that is there -/
theorem s_setFL {K : PySem.W.Frag} {ta tv : TE} {f : Str} {D : Ends} {σ : L2.St} {H : Hp} {a C : Addr} {ns : List Str} {vs xs : List V} (c : ClsA K C ns) (i : Nat) (hv : EvL tv σ H xs) (ha : ∀ H1, Ex H H1 → Ev ta σ H1 (.ref a)) (h : Ins H a C ns vs) (hn : ns[i]? = some f) (hl : i < vs.length) (hz : vs.length ≤ 100)
    (k : ∀ q H1 dx, H q = none → Ex H H1 → H1 q = some (.lst xs) → H1 a = some (.ins C dx (ns.zip vs)) → D.nx σ (upd H1 a (.ins C dx (ns.zip (vs.set i (.ref q)))))) : sFld K ta tv f D σ H :=
  hv H (Ex.refl H) _ fun q H1 hq e1 h1 => ha H1 e1 H1 (Ex.refl H1) _ fun H2 e2 => by
    obtain ⟨dx, hx⟩ := h
    have h2 := (e1.trans e2) _ _ hx
    refine ⟨a, C, dx, _, rfl, h2, c.cl, c.no f (List.mem_of_getElem? hn), ?_, ?_⟩
    · rw [List.length_zip]
      have := Nat.min_le_right ns.length vs.length
      omega
    · rw [put_zip c.nd hn hl]
      exact k q H2 dx hq (e1.trans e2) (e2 _ _ h1) h2
theorem q_setFL {K : PySem.W.Frag} {ta tv : TE} {f : Str} {tz : TS} {D : Ends} {σ : L2.St} {H : Hp} {a C : Addr} {ns : List Str} {vs xs : List V} (c : ClsA K C ns) (i : Nat) (hv : EvL tv σ H xs) (ha : ∀ H1, Ex H H1 → Ev ta σ H1 (.ref a)) (h : Ins H a C ns vs) (hn : ns[i]? = some f) (hl : i < vs.length) (hz : vs.length ≤ 100)
    (k : ∀ q H1 dx, H q = none → Ex H H1 → H1 q = some (.lst xs) → H1 a = some (.ins C dx (ns.zip vs)) → tz D σ (upd H1 a (.ins C dx (ns.zip (vs.set i (.ref q)))))) : tSeq (sFld K ta tv f) tz D σ H := s_setFL (D := { D with nx := tz D }) c i hv ha h hn hl hz k
/-- a list that is there and a new one -/
theorem none_upd {H : Hp} {a b : Addr} {o : HO} (h : upd H a o b = none) : H b = none := by
  by_cases c : b = a
  · subst c
    rw [upd_same] at h
    cases h
  · rw [upd_ne c] at h
    exact h
theorem el_cat1 {ta tb : TE} {σ : L2.St} {H : Hp} {a : Addr} {xs zs : List V} (ha : Ev ta σ H (.ref a)) (hx : H a = some (.lst xs)) (hb : EvL tb σ H zs) (hl : xs.length + zs.length ≤ 100000) : EvL (tOp rCat ta tb) σ H (xs ++ zs) := fun H1 e Q q =>
  ha H1 e _ fun H2 e2 => hb H2 (e.trans e2) _ fun b H3 hb' e3 h3 => ⟨a, b, xs, zs, rfl, rfl, ((e.trans e2).trans e3) _ _ hx, h3, sz_of hl, fun r hr => q r _ (fresh_back (e2.trans e3) hr) ((e2.trans e3).trans (Ex.new hr)) upd_same⟩
section
variable {P : Program} {w : World} {K : PySem.W.Frag} {mg : Str → Option Value} {base : Heap} {Z : Cs}
theorem ok_need {f : Addr} {fd : FuncData} (F : Fun K "need" "need" sNeed f fd) (T : Txt K mg Z) : FnOk P w K mg base (L2.CX P w) 3 f fd ["holds", "code"] (spNeed Z) := by
  refine F.okX scNeed (fun vs H Q E h => ?_) (fun cdv A outer s H vs Q E hr h => ?_)
  · obtain ⟨b, c, rfl, _⟩ := h
    rfl
  · obtain ⟨b, c, rfl, k1, k2⟩ := h
    refine ⟨_, pss_one (ps_if (pt_not (pt_val (pv 0))) (pss_one (ps_raiseLow (W := fun cls d _ H => E cls d H) rfl T.low hr (takes_of rfl rfl rfl rfl) (by exact (pa_cons (pv 1) pa_nil)))) pss_nil), ?_⟩
    refine s_when (et_not (et_B (ev_var rfl))) (fun hb H1 e1 => ?_) (fun hb H1 e1 => ?_)
    · refine ⟨_, rfl, _, rfl, fun d hd => k2 (by simpa using hb) _ d (e1.trans (Ex.new hd)) (fresh_back e1 hd) upd_same⟩
    · exact k1 (by simpa using hb) H1 e1
theorem lt_nat (a b : Nat) : decide ((a : Int) < (b : Int)) = decide (a < b) := decide_eq_decide.mpr (by omega)
theorem ok_are {f : Addr} {fd : FuncData} (F : Fun K "are_places" "are_places" sAre f fd) (T : Txt K mg Z) : FnOk P w K mg base CX0 1 f fd ["a", "b"] spAre := by
  refine F.ok scAre (fun vs H Q E h => ?_) (fun cdv A outer s H vs Q E hr h => ?_)
  · obtain ⟨a, b, rfl, _⟩ := h
    rfl
  · obtain ⟨a, b, rfl, k⟩ := h
    refine ⟨_, pss_one (ps_ret (pe_and (pe_cmpR op_lt (pv 0) (pe_k T.kPlaces) (nomark _)) (pe_one (pe_cmpR op_lt (pv 1) (pe_k T.kPlaces) (nomark _))))), ?_⟩
    refine s_ret (ev_is (ev_andV (ev_op (ev_var rfl) ev_c rv_I0) (fun _ => ev_op (ev_var rfl) ev_c rv_I0)) ?_) k
    rw [← lt_nat a 20, ← lt_nat b 20]
    rfl
theorem ok_lis {f : Addr} {fd : FuncData} (F : Fun K "listed" "listed" sLis f fd) (T : Txt K mg Z) : FnOk P w K mg base CX0 1 f fd ["some"] (spLis K) := by
  refine F.ok scLis (fun vs H Q E h => ?_) (fun cdv A outer s H vs Q E hr h => ?_)
  · obtain ⟨l, xs, rfl, _⟩ := h
    rfl
  · obtain ⟨l, xs, rfl, hl, hz, k⟩ := h
    refine ⟨_, pss_one (ps_ret (pe_op op_cat (pe_lst (pa_cons (pe_callB call_len_seq (by rfl) T.bLen PySem.boot_len (pa_cons (pv 0) pa_nil)) pa_nil)) (pe_callTy call_list_of (by rfl) T.bList (by decide +kernel) (pa_cons (pv 0) pa_nil)))), ?_⟩
    exact s_retL (el_cat2 (el_lst (ea_cons (ev_len (ev_var rfl) hl) ea_nil) (by show 1 ≤ 100000; decide)) (el_list (ev_var rfl) hl) (by show 1 + _ ≤ _; omega)) k
theorem ok_put {f : Addr} {fd : FuncData} (F : Fun K "put_place" "Depot.put_place" sPut f fd) (T : Txt K mg Z) : FnOk P w K mg base CX0 1 f fd ["self", "place", "can_break", "is_home"] (spPut Z) := by
  refine F.ok scPut (fun vs H Q E h => ?_) (fun cdv A outer s H vs Q E hr h => ?_)
  · obtain ⟨d, A, p, i, b, h, rfl, _⟩ := h
    rfl
  · obtain ⟨d, DA1, p, i, b, h, rfl, D, hi, k⟩ := h
    refine ⟨_, pss_cons (ps_dput (hu_of hr) (pe_fld (pv 0) rfl) (pv 1) (pv 2) rfl)
      (pss_cons (ps_fld (pv 0) (pe_lc (own := [("other", 4)]) (g := gName 4) (tt := tTest (tOp rNe (tVar 4) (tVar 1))) (te := tVar 4) rfl scPut.nd (pi_list (pe_fld (pv 0) rfl)) (blkOk_by (N := NPut) (sc := defScope sPut) (by decide +kernel))
        (fun _ _ _ _ _ => by exact pg_name (i := 4) scPut.nd rfl (Or.inl rfl)) (fun _ _ _ _ _ => by exact pts_one (pt_cmpR op_ne (pv 4) (pv 1) (nomark _))) (fun _ _ _ _ _ => by exact pv 4)) rfl)
      (pss_one (ps_if (pt_val (pv 3)) (pss_one (ps_fld (pv 0) (pe_op op_cat (pe_fld (pv 0) rfl) (pe_lst (pa_cons (pv 1) pa_nil))) rfl)) pss_nil))), ?_⟩
    obtain ⟨kvs, hb, rb⟩ := D.brk
    refine q_put (n := (i : Int)) hb (ev_var rfl) (ev_fld (ev_var rfl) (rf T.cD D.ins 1)) (ev_var rfl) (by have := rb.few; omega) fun H1 e1 => ?_
    have D1 := (D.mono e1).upd_b (rb.put hi b)
    have f1 : ∀ c o, H c = some o → c ≠ DA1.b → upd H1 DA1.b (.dK (putK kvs (.inl (i : Int)) (.bl b))) c = some o := fun c o h n => by rw [upd_ne n]; exact e1 _ _ h
    have hlen := D.good.homes_few
    have hlc : EvL (tLc (iList K (tFld K (tVar 0) "homes")) (gName 4) (tTest (tOp rNe (tVar 4) (tVar 1))) (tVar 4) [4]) [some (.ref d), some (nV i), some (.bl b), some (.bl h), none] (upd H1 DA1.b (.dK (putK kvs (.inl (i : Int)) (.bl b)))) ((p.homes.filter fun x => x != i).map nV) := by
      refine el_comp p.homes (fun x => x != i) nV (by omega) (it_list (ev_fld (ev_var rfl) (rf T.cD D1.ins 2)) (SqL.of D1.hom) (List.length_map nV)) (fun j n y H' H'' hn e8 hy => ?_)
      obtain ⟨rfl, hy⟩ := hy
      obtain ⟨n', hn', rfl⟩ := map_at hy
      rw [hn] at hn'
      cases hn'
      refine ⟨Ex.refl _, _, fun Q h => h, rfl, et_is (et_test (ev_op (ev_var rfl) (ev_var rfl) (rv_ne rfl))) ?_, fun _ => ev_var rfl⟩
      rw [dec_n]
      by_cases c : n = i
      · subst c; simp
      · rw [decide_eq_false c]; simpa using c
    refine q_setFL T.cD 2 hlc (fun H1 _ => ev_var rfl) D1.ins rfl (by show 2 < 5; decide) (by show 5 ≤ 100; decide) fun q H2 dx hq e2 hq2 hd2 => ?_
    have D2 := D1.mono e2
    obtain ⟨ts, hw, _⟩ := D1.way
    obtain ⟨us, hp, _⟩ := D1.pcs
    have D3 := D2.upd_h (dx := dx) hq2 (ne_of_none hw hq) (Ne.symm (ne_of_none hp hq)) (with_nodup D.good.homes i false) (with_small D.good.small hi false)
    have f3 : ∀ c o, H c = some o → c ≠ d → c ≠ DA1.b → upd H2 d (.ins Z.D dx (nDepot.zip [.ref DA1.r, .ref DA1.b, .ref q, .ref DA1.w, .ref DA1.p])) c = some o := fun c o h n1 n2 => by rw [upd_ne n1]; exact e2 _ _ (f1 c o h n2)
    refine s_when (et_B (ev_var (v := .bl h) rfl)) (fun hh H4 e4 => ?_) (fun hh H4 e4 => ?_)
    · subst hh
      have D4 := D3.mono e4
      refine s_setFL T.cD 2 (el_cat1 (ev_fld (ev_var rfl) (rf T.cD D4.ins 2)) D4.hom (el_lst (ea_cons (ev_var rfl) ea_nil) (by show 1 ≤ 100000; decide)) ?_) (fun H1 _ => ev_var rfl) D4.ins rfl (by show 2 < 5; decide) (by show 5 ≤ 100; decide) fun q2 H5 dy hq2' e5 hq5 hd5 => ?_
      · show ((p.homes.filter fun x => x != i).map nV).length + 1 ≤ _
        rw [List.length_map]
        have := List.length_filter_le (fun x => x != i) p.homes
        omega
      · have D5 := D4.mono e5
        obtain ⟨ts', hw', _⟩ := D4.way
        obtain ⟨us', hp', _⟩ := D4.pcs
        have D6 := D5.upd_h (dx := dy) (hs := withI p.homes i true) (q := q2) (by
          rw [hq5]
          show _ = some (HO.lst ((p.homes.filter (fun x => x != i) ++ [i]).map nV))
          rw [List.map_append]
          rfl) (ne_of_none hw' hq2') (Ne.symm (ne_of_none hp' hq2')) (with_nodup D.good.homes i true) (with_small D.good.small hi true)
        exact k _ q2 D6 (fresh_back e1 (none_upd (fresh_back e2 (none_upd (fresh_back e4 hq2'))))) (fun c o h n1 n2 => by rw [upd_ne n1]; exact e5 _ _ (e4 _ _ (f3 c o h n1 n2))) _
    · subst hh
      exact k _ q (D3.mono e4) (fresh_back e1 (none_upd hq)) (fun c o h n1 n2 => e4 _ _ (f3 c o h n1 n2)) _
end
end Dw
namespace Dw
open PySem PySem.Spec PyProof.Rows L2 Evl
abbrev sKi : Stmt := inClass (top 40) 0
theorem scKi : FnScope ["self"] ["self"] (defScope sKi) := ⟨rfl, rfl, rfl, by decide +kernel, rfl, by decide +kernel, by decide +kernel⟩
abbrev sBeg : Stmt := inClass (top 40) 1
abbrev NBeg : List Str := ["self", "numbers", "number"]
theorem scBeg : FnScope NBeg ["self", "numbers"] (defScope sBeg) := ⟨rfl, rfl, rfl, by decide +kernel, rfl, by decide +kernel, by decide +kernel⟩
abbrev sPla : Stmt := inClass (top 40) 2
abbrev NPla : List Str := ["self", "place", "can_break", "is_home"]
theorem scPla : FnScope NPla NPla (defScope sPla) := ⟨rfl, rfl, rfl, by decide +kernel, rfl, by decide +kernel, by decide +kernel⟩
abbrev sWay : Stmt := inClass (top 40) 3
abbrev NWay : List Str := ["self", "a", "b", "minutes"]
theorem scWay : FnScope NWay NWay (defScope sWay) := ⟨rfl, rfl, rfl, by decide +kernel, rfl, by decide +kernel, by decide +kernel⟩
abbrev sWor : Stmt := inClass (top 40) 4
abbrev NWor : List Str := ["self", "a", "b", "first", "last"]
theorem scWor : FnScope NWor NWor (defScope sWor) := ⟨rfl, rfl, rfl, by decide +kernel, rfl, by decide +kernel, by decide +kernel⟩
abbrev sDro : Stmt := inClass (top 40) 5
theorem scDro : FnScope ["self", "number"] ["self", "number"] (defScope sDro) := ⟨rfl, rfl, rfl, by decide +kernel, rfl, by decide +kernel, by decide +kernel⟩
/-- the desk at k, its depot at d -/
structure DeskAt (Z : Cs) (H : Hp) (k d : Addr) (A : DA) (p : Sw82.Plan) : Prop where
  ins : Ins H k Z.K nDesk [.ref d]
  dep : DepotAt Z H d A p
theorem DeskAt.mono {Z : Cs} {H H' : Hp} {k d : Addr} {A : DA} {p : Sw82.Plan} (e : Ex H H') (D : DeskAt Z H k d A p) : DeskAt Z H' k d A p := ⟨D.ins.mono e, D.dep.mono e⟩
/-- what a call may change -/
def ft (k d : Addr) (A : DA) : List Addr := [k, d, A.b, A.h, A.w, A.p]
/-- all else stands, and stays apart -/
def Kept (k d : Addr) (A : DA) (H : Hp) (d' : Addr) (A' : DA) (H' : Hp) : Prop := ∀ b o, H b = some o → b ∉ ft k d A → H' b = some o ∧ b ∉ ft k d' A'
theorem Kept.of {k d : Addr} {A : DA} {H H' : Hp} (e : Ex H H') : Kept k d A H d A H' := fun b o h n => ⟨e b o h, n⟩
/-- what the specification's call does -/
def res (p : Sw82.Plan) (c : Sw82.Call) : Sw82.Plan × List Int := ((Sw82.step p c).1, Sw82Neutral.out (Sw82.step p c).2)
/-- a call's end: its list, or its one number in an error -/
def Ans (Z : Cs) (k d : Addr) (A : DA) (H : Hp) (r : Sw82.Plan × List Int) (Q : VK) (E : XK) : Prop :=
  (∀ q H' d' A', H q = none → DeskAt Z H' k d' A' r.1 → Kept k d A H d' A' H' → q ∉ ft k d' A' → H' q = some (.lst (r.2.map V.int)) → Q (.ref q) H') ∧
  (∀ c x H' d' A', r.2 = [c] → H x = none → H' x = some (.xd [(("code" : Str), .int c)]) → DeskAt Z H' k d' A' r.1 → Kept k d A H d' A' H' → E (.ref Z.E) (some x) H')
theorem ft_some {Z : Cs} {H : Hp} {k d : Addr} {A : DA} {p : Sw82.Plan} (D : DeskAt Z H k d A p) {q : Addr} (hq : H q = none) : q ∉ ft k d A := by
  intro z
  obtain ⟨dx, h1⟩ := D.ins
  obtain ⟨dy, h2⟩ := D.dep.ins
  obtain ⟨kvs, h3, _⟩ := D.dep.brk
  obtain ⟨ts, h4, _⟩ := D.dep.way
  obtain ⟨us, h5, _⟩ := D.dep.pcs
  unfold ft at z
  simp only [List.mem_cons, List.not_mem_nil, or_false] at z
  rcases z with z | z | z | z | z | z <;> subst z
  · rw [h1] at hq; cases hq
  · rw [h2] at hq; cases hq
  · rw [h3] at hq; cases hq
  · rw [D.dep.hom] at hq; cases hq
  · rw [h4] at hq; cases hq
  · rw [h5] at hq; cases hq
theorem Ans.no {Z : Cs} {k d : Addr} {A : DA} {H H' : Hp} {p : Sw82.Plan} {r : Sw82.Plan × List Int} {Q : VK} {E : XK} {c : Int} {x : Addr} (a : Ans Z k d A H r Q E) (D : DeskAt Z H k d A p) (er : r = (p, [c])) (e : Ex H H') (hx : H x = none) (h : H' x = some (.xd [(("code" : Str), .int c)])) : E (.ref Z.E) (some x) H' := by
  subst er
  exact a.2 c x H' d A rfl hx h (D.mono e) (Kept.of e)
/-- need(..), then the rest -/
theorem q_need {Z : Cs} {tb tc : TE} {tz : TS} {D : Ends} {σ : L2.St} {H : Hp} {E : XK} {b : Bool} {c : Int} (hb : Ev tb σ H (.bl b)) (hc : Ev tc σ H (.int c)) (h1 : b = true → ∀ H1, Ex H H1 → tz D σ H1) (h2 : b = false → ∀ H1 x, Ex H H1 → H x = none → H1 x = some (.xd [(("code" : Str), .int c)]) → E (.ref Z.E) (some x) H1) :
    tSeq (tDrop (tCl (spNeed Z) E (tCons tb (tCons tc tNil)))) tz D σ H := hb H (Ex.refl H) _ fun H1 e1 => hc H1 e1 _ fun H2 e2 =>
  ⟨b, c, rfl, fun hb H3 e3 => h1 hb H3 ((e1.trans e2).trans e3), fun hb H3 x e3 hx hx3 => h2 hb H3 x ((e1.trans e2).trans e3) (fresh_back (e1.trans e2) hx) hx3⟩
/-- a method called for its own sake, then the rest -/
theorem q_me {ta : TE} {t : TA} {C a : Addr} {m : Str} {sp : Sp} {E : XK} {tz : TS} {D : Ends} {σ : L2.St} {H : Hp} {vs : List V} (h : Ev ta σ H (.ref a)) (hm : MOf H a C m) (ht : EvA t σ H vs) (k : ∀ H1, Ex H H1 → sp (.ref a :: vs) H1 (fun _ H2 => tz D σ H2) E) : tSeq (tDrop (tMe C m sp E ta t)) tz D σ H := s_me (D := { D with nx := tz D }) h hm ht k
theorem q_appG {K : PySem.W.Frag} {ta te : TE} {tz : TS} {D : Ends} {σ : L2.St} {H : Hp} {l : Addr} {xs : List V} {G : V → Hp → Prop} (hl : H l = some (.lst xs)) (ha : Ev ta σ H (.ref l)) (h : EvG te σ H G) (hz : xs.length < 100000) (k : ∀ v H1, Ex H H1 → G v H1 → tz D σ (upd H1 l (.lst (xs ++ [v])))) :
    tSeq (tDrop (tBM K "list" rAppend ta (tCons te tNil))) tz D σ H := ha H (Ex.refl H) _ fun H1 e1 =>
  ⟨Or.inl ⟨rfl, xs, sq_of (e1 l _ hl)⟩, h H1 e1 _ fun v H2 e2 g => ⟨l, xs, v, rfl, rfl, (e1.trans e2) _ _ hl, sz_lt hz, k v H2 (e1.trans e2) g⟩⟩
theorem seq_nat {j n : Nat} (h : j < n) : seqIndex? (j : Int) n = some j := by
  unfold seqIndex?
  simp
  omega
theorem q_popAt {K : PySem.W.Frag} {ta te : TE} {tz : TS} {D : Ends} {σ : L2.St} {H : Hp} {l : Addr} {xs : List V} {j : Nat} (hl : H l = some (.lst xs)) (ha : Ev ta σ H (.ref l)) (h : Ev te σ H (nV j)) (hj : j < xs.length) (hz : xs.length ≤ 1000) (k : ∀ H1, Ex H H1 → tz D σ (upd H1 l (.lst (xs.eraseIdx j)))) :
    tSeq (tDrop (tBM K "list" rPopAt ta (tCons te tNil))) tz D σ H := ha H (Ex.refl H) _ fun H1 e1 =>
  ⟨Or.inl ⟨rfl, xs, sq_of (e1 l _ hl)⟩, h H1 e1 _ fun H2 e2 => ⟨l, xs, (j : Int), j, xs[j], rfl, rfl, (e1.trans e2) _ _ hl, by omega, by omega, seq_nat hj, by simp [hj], k H2 (e1.trans e2)⟩⟩
theorem q_setG {K : PySem.W.Frag} {ta tv : TE} {f : Str} {tz : TS} {D : Ends} {σ : L2.St} {H : Hp} {a C : Addr} {ns : List Str} {vs : List V} {G : V → Hp → Prop} (c : ClsA K C ns) (i : Nat) (hv : EvG tv σ H G) (gm : ∀ v H H', Ex H H' → G v H → G v H') (ha : ∀ H1, Ex H H1 → Ev ta σ H1 (.ref a)) (h : Ins H a C ns vs) (hn : ns[i]? = some f) (hl : i < vs.length) (hz : vs.length ≤ 100)
    (k : ∀ v H1 dx, Ex H H1 → G v H1 → H1 a = some (.ins C dx (ns.zip vs)) → tz D σ (upd H1 a (.ins C dx (ns.zip (vs.set i v))))) : tSeq (sFld K ta tv f) tz D σ H :=
  hv H (Ex.refl H) _ fun v H1 e1 g => ha H1 e1 H1 (Ex.refl H1) _ fun H2 e2 => by
    obtain ⟨dx, hx⟩ := h
    have h2 := (e1.trans e2) _ _ hx
    refine ⟨a, C, dx, _, rfl, h2, c.cl, c.no f (List.mem_of_getElem? hn), ?_, ?_⟩
    · rw [List.length_zip]
      have := Nat.min_le_right ns.length vs.length
      omega
    · rw [put_zip c.nd hn hl]
      exact k v H2 dx (e1.trans e2) (gm v H1 H2 e2 g) h2
theorem ins_ne {C C' dx dx' : Addr} {ns ms : List Str} {f g : Str} {fs gs : List V} {v u : V} (hf : f ≠ g) (z : HO.ins C dx ((f :: ns).zip (v :: fs)) = HO.ins C' dx' ((g :: ms).zip (u :: gs))) : False := by
  injection z with z1 z2 z3
  injection z3 with z4 _
  injection z4 with z5 _
  exact hf z5
/-- the depot stands where the desk changes -/
theorem DepotAt.upd_k {Z : Cs} {H : Hp} {k d dx : Addr} {A : DA} {p : Sw82.Plan} {v : V} {o : HO} (hk : H k = some (.ins Z.K dx (nDesk.zip [v]))) (D : DepotAt Z H d A p) : DepotAt Z (upd H k o) d A p := by
  obtain ⟨dx', hi⟩ := D.ins
  obtain ⟨dr, hr⟩ := D.rul
  obtain ⟨ts, hw, ew⟩ := D.way
  obtain ⟨us, hp, ep⟩ := D.pcs
  obtain ⟨ks, hb, rb⟩ := D.brk
  have up : ∀ {c : Addr} {o'  : HO}, H c = some o' → (∀ dx fs, o' ≠ .ins Z.K dx fs) → upd H k o c = some o' := fun {c o'} h n => by
    rw [upd_ne (ne_of h hk (n _ _))]
    exact h
  refine ⟨⟨dx', ?_⟩, ⟨dr, ?_⟩, ⟨ks, up hb fun _ _ z => (by cases z), rb⟩, up D.hom fun _ _ z => (by cases z), ⟨ts, up hw fun _ _ z => (by cases z), ew.mono fun _ _ h => up h fun _ _ z => by cases z⟩,
    ⟨us, up hp fun _ _ z => (by cases z), ep.mono fun _ _ h => let ⟨dy, h⟩ := h; ⟨dy, ?_⟩⟩, D.wh, D.wp, D.hp, D.good⟩
  · rw [upd_ne (ne_of hi hk fun z => ins_ne (by decide +kernel) z)]
    exact hi
  · rw [upd_ne (ne_of hr hk fun z => ins_ne (by decide +kernel) z)]
    exact hr
  · rw [upd_ne (ne_of h hk fun z => ins_ne (by decide +kernel) z)]
    exact h
theorem young {H : Hp} {x dx C : Addr} (hx : H x = none) (hdx : H dx = none) (hne : dx ≠ x) : Ex H (upd (upd H dx (.own x)) x (.ins C dx [])) := (Ex.new hdx).trans (Ex.new (by rw [upd_ne (Ne.symm hne)]; exact hx))
theorem eg_rul {K : PySem.W.Frag} {Z : Cs} {tl : TE} {σ : L2.St} {H : Hp} {E : XK} {l : Addr} {r : Sw82.Rules} (h : Ev tl σ H (.ref l)) (hl : SqL K H l (nine r) ∨ SqT K H l (nine r)) : EvG (tMk Z.R (spRul K Z) E (tCons tl tNil)) σ H (fun v H2 => ∃ a, v = .ref a ∧ RulesAt Z H2 a r) := fun H1 e Q q =>
  h H1 e _ fun H2 e2 => fun x dx hx hdx hne => ⟨H2, x, l, r, rfl, young hx hdx hne, hx, ⟨dx, upd_same⟩, hl.imp (ex_l (e.trans e2)) (ex_t (e.trans e2)), fun H' e' hr => ⟨rfl, q (.ref x) H' (e2.trans e') ⟨x, rfl, hr⟩⟩⟩
/-- a new depot, all of it new -/
def NewDep (Z : Cs) (H : Hp) (r : Sw82.Rules) : V → Hp → Prop := fun v H2 => ∃ d A, v = .ref d ∧ DepotAt Z H2 d A (bare r) ∧ H d = none ∧ H A.b = none ∧ H A.h = none ∧ H A.w = none ∧ H A.p = none
theorem eg_dep {Z : Cs} {ta : TE} {σ : L2.St} {H : Hp} {E : XK} {r : Sw82.Rules} (h : EvG ta σ H (fun v H2 => ∃ a, v = .ref a ∧ RulesAt Z H2 a r)) : EvG (tMk Z.D (spDep Z) E (tCons ta tNil)) σ H (NewDep Z H r) := fun H1 e Q q =>
  h H1 e _ fun v H2 e2 g => by
    obtain ⟨a, rfl, ha⟩ := g
    intro x dx hx hdx hne
    exact ⟨H2, x, a, r, rfl, young hx hdx hne, hx, ⟨dx, upd_same⟩, ha, fun H' A e' hD hb hh hw hp => ⟨rfl, q (.ref x) H' (e2.trans e') ⟨x, A, rfl, hD, fresh_back (e.trans e2) hx, fresh_back (e.trans e2) hb, fresh_back (e.trans e2) hh, fresh_back (e.trans e2) hw, fresh_back (e.trans e2) hp⟩⟩⟩
theorem eg_pie {Z : Cs} {t : TA} {σ : L2.St} {H : Hp} {E : XK} {y : Sw82.Work} (h : EvA t σ H [nV y.from_, nV y.to, nV y.start, nV y.halt_]) : EvG (tMk Z.P (spPie Z) E t) σ H (fun v H2 => ∃ a, v = .ref a ∧ PieceAt Z H2 a y) := fun H1 e Q q =>
  h H1 e _ fun H2 e2 => fun x dx hx hdx hne => ⟨H2, x, y, rfl, young hx hdx hne, hx, ⟨dx, upd_same⟩, fun H' e' hr => ⟨rfl, q (.ref x) H' (e2.trans e') ⟨x, rfl, hr⟩⟩⟩
/-- Desk.__init__ of the young instance x -/
def spKi (Z : Cs) : Sp := fun vs H Q _ => ∃ (Hs : Hp) (x : Addr), vs = [.ref x] ∧ Ex Hs H ∧ Hs x = none ∧ Ins H x Z.K nDesk [] ∧ ∀ (H' : Hp) (d : Addr) (A : DA), Ex Hs H' → DeskAt Z H' x d A Sw82.init → Hs d = none → Hs A.b = none → Hs A.h = none → Hs A.w = none → Hs A.p = none → Q .non H'
def spBeg (K : PySem.W.Frag) (Z : Cs) : Sp := fun vs H Q E => ∃ (k l d : Addr) (A : DA) (p : Sw82.Plan) (r : Sw82.Rules), vs = [.ref k, .ref l] ∧ DeskAt Z H k d A p ∧ SqL K H l (nine r) ∧ Ans Z k d A H (res p (.begins r)) Q E
def spPla (Z : Cs) : Sp := fun vs H Q E => ∃ (k d : Addr) (A : DA) (p : Sw82.Plan) (i b h : Nat), vs = [.ref k, nV i, nV b, nV h] ∧ DeskAt Z H k d A p ∧ Ans Z k d A H (res p (.place i (b == 1) (h == 1))) Q E
def spWay (Z : Cs) : Sp := fun vs H Q E => ∃ (k d : Addr) (A : DA) (p : Sw82.Plan) (a b n : Nat), vs = [.ref k, nV a, nV b, nV n] ∧ DeskAt Z H k d A p ∧ Ans Z k d A H (res p (.way a b n)) Q E
def spWor (Z : Cs) : Sp := fun vs H Q E => ∃ (k d : Addr) (A : DA) (p : Sw82.Plan) (y : Sw82.Work), vs = [.ref k, nV y.from_, nV y.to, nV y.start, nV y.halt_] ∧ DeskAt Z H k d A p ∧ Ans Z k d A H (res p (.work y)) Q E
def spDro (Z : Cs) : Sp := fun vs H Q E => ∃ (k d : Addr) (A : DA) (p : Sw82.Plan) (n : Nat), vs = [.ref k, nV n] ∧ DeskAt Z H k d A p ∧ Ans Z k d A H (res p (.drop n)) Q E
end Dw
namespace Dw
open Sw82
theorem res_of {p q : Plan} {c : Call} {a : Sw82.Ans} (e : step p c = (q, a)) : res p c = (q, Sw82Neutral.out a) := by
  unfold res
  rw [e]
theorem out_ok (v : Int) : Sw82Neutral.out (ok v) = [v] := rfl
theorem res_ok {p q : Plan} {c : Call} {v : Int} (e : step p c = (q, ok v)) : res p c = (q, [v]) := res_of e
theorem beg_yes {p : Plan} {r : Rules} (h : rulesOk r = true) : res p (.begins r) = (bare r, [0]) := res_ok (by
  show (if rulesOk r = false then (p, ok (-1)) else (⟨r, [], [], [], []⟩, ok 0)) = _
  rw [if_neg (by rw [h]; decide)])
theorem beg_no {p : Plan} {r : Rules} (h : rulesOk r = false) : res p (.begins r) = (p, [-1]) := res_ok (by
  show (if rulesOk r = false then (p, ok (-1)) else (⟨r, [], [], [], []⟩, ok 0)) = _
  rw [if_pos h])
theorem pla_yes {p : Plan} {i : Nat} {b h : Bool} (hi : i < 20) : res p (.place i b h) = ({ p with breaks := withI p.breaks i b, homes := withI p.homes i h }, [0]) := res_ok (by
  show (if PLACES ≤ i then (p, ok (-1)) else ({ p with breaks := withI p.breaks i b, homes := withI p.homes i h }, ok 0)) = _
  rw [if_neg (by show ¬ 20 ≤ i; omega)])
theorem pla_no {p : Plan} {i : Nat} {b h : Bool} (hi : ¬ i < 20) : res p (.place i b h) = (p, [-1]) := res_ok (by
  show (if PLACES ≤ i then (p, ok (-1)) else ({ p with breaks := withI p.breaks i b, homes := withI p.homes i h }, ok 0)) = _
  rw [if_pos (by show 20 ≤ i; omega)])
theorem way_is (p : Plan) (a b n : Nat) : step p (.way a b n) = if PLACES ≤ a ∨ PLACES ≤ b ∨ a = b ∨ TIME < n then (p, ok (-1)) else if WAYS ≤ p.ways.length then (p, ok (-5)) else ({ p with ways := p.ways ++ [(a, b, n)] }, ok (p.ways.length : Nat)) := rfl
theorem way_no {p : Plan} {a b n : Nat} (h : (((decide (a < 20) && decide (b < 20)) && (!decide (a = b) && decide (n ≤ 100000)))) = false) : res p (.way a b n) = (p, [-1]) := res_ok (by
  rw [way_is, if_pos]
  show 20 ≤ a ∨ 20 ≤ b ∨ a = b ∨ 100000 < n
  simp only [Bool.and_eq_false_iff, decide_eq_false_iff_not, Bool.not_eq_false', decide_eq_true_eq] at h
  omega)
theorem way_go {p : Plan} {a b n : Nat} (h : (((decide (a < 20) && decide (b < 20)) && (!decide (a = b) && decide (n ≤ 100000)))) = true) : ¬ (PLACES ≤ a ∨ PLACES ≤ b ∨ a = b ∨ TIME < n) := by
  show ¬ (20 ≤ a ∨ 20 ≤ b ∨ a = b ∨ 100000 < n)
  simp only [Bool.and_eq_true, decide_eq_true_eq, Bool.not_eq_true', decide_eq_false_iff_not] at h
  omega
theorem way_many {p : Plan} {a b n : Nat} (h : (((decide (a < 20) && decide (b < 20)) && (!decide (a = b) && decide (n ≤ 100000)))) = true) (hm : ¬ p.ways.length < 40) : res p (.way a b n) = (p, [-5]) := res_ok (by
  rw [way_is, if_neg (way_go (p := p) h), if_pos (by show 40 ≤ _; omega)])
theorem way_yes {p : Plan} {a b n : Nat} (h : (((decide (a < 20) && decide (b < 20)) && (!decide (a = b) && decide (n ≤ 100000)))) = true) (hm : p.ways.length < 40) : res p (.way a b n) = ({ p with ways := p.ways ++ [(a, b, n)] }, [(p.ways.length : Int)]) := res_ok (by
  rw [way_is, if_neg (way_go (p := p) h), if_neg (by show ¬ 40 ≤ _; omega)])
theorem wor_is (p : Plan) (w : Work) : step p (.work w) = if PLACES ≤ w.from_ ∨ PLACES ≤ w.to ∨ w.halt_ ≤ w.start ∨ TIME < w.halt_ then (p, ok (-1)) else if WORKS ≤ p.works.length then (p, ok (-5)) else ({ p with works := p.works ++ [w] }, ok (p.works.length : Nat)) := rfl
abbrev worT (w : Work) : Bool := (decide (w.from_ < 20) && decide (w.to < 20)) && (decide (w.start < w.halt_) && decide (w.halt_ ≤ 100000))
theorem wor_no {p : Plan} {w : Work} (h : worT w = false) : res p (.work w) = (p, [-1]) := res_ok (by
  rw [wor_is, if_pos]
  show 20 ≤ _ ∨ 20 ≤ _ ∨ _ ∨ 100000 < _
  simp only [worT, Bool.and_eq_false_iff, decide_eq_false_iff_not] at h
  omega)
theorem wor_go {w : Work} (h : worT w = true) : ¬ (PLACES ≤ w.from_ ∨ PLACES ≤ w.to ∨ w.halt_ ≤ w.start ∨ TIME < w.halt_) := by
  show ¬ (20 ≤ _ ∨ 20 ≤ _ ∨ _ ∨ 100000 < _)
  simp only [worT, Bool.and_eq_true, decide_eq_true_eq] at h
  omega
theorem wor_okW {w : Work} (h : worT w = true) : Dm.okW w := by
  simp only [worT, Bool.and_eq_true, decide_eq_true_eq] at h
  exact h.2.1
theorem wor_many {p : Plan} {w : Work} (h : worT w = true) (hm : ¬ p.works.length < 7) : res p (.work w) = (p, [-5]) := res_ok (by
  rw [wor_is, if_neg (wor_go h), if_pos (by show 7 ≤ _; omega)])
theorem wor_yes {p : Plan} {w : Work} (h : worT w = true) (hm : p.works.length < 7) : res p (.work w) = ({ p with works := p.works ++ [w] }, [(p.works.length : Int)]) := res_ok (by
  rw [wor_is, if_neg (wor_go h), if_neg (by show ¬ 7 ≤ _; omega)])
theorem dro_is (p : Plan) (k : Nat) : step p (.drop k) = if p.works.length ≤ k then (p, ok (-2)) else ({ p with works := p.works.eraseIdx k }, ok 0) := rfl
theorem dro_no {p : Plan} {k : Nat} (h : ¬ k < p.works.length) : res p (.drop k) = (p, [-2]) := res_ok (by rw [dro_is, if_pos (by omega)])
theorem dro_yes {p : Plan} {k : Nat} (h : k < p.works.length) : res p (.drop k) = ({ p with works := p.works.eraseIdx k }, [0]) := res_ok (by rw [dro_is, if_neg (by omega)])
/-- a duty is looked at -/
abbrev chkT (p : Plan) (l : List Nat) : Bool := rising l && (!l.isEmpty && l.all fun i => decide (i < p.works.length))
theorem chk_is (p : Plan) (l : List Nat) : step p (.check l) = if chkT p l = false then (p, ok (-2)) else (p, ⟨(p.wrong (wsOf p l) : Nat), if p.wrong (wsOf p l) = 1 ∨ p.wrong (wsOf p l) = 2 then [] else [dutyOut p (p.inOrder l), [(Plan.worked (wsOf p l) : Int), (p.driveFrom 0 (wsOf p l) : Int)]]⟩) := rfl
theorem chk_no {p : Plan} {l : List Nat} (h : chkT p l = false) : res p (.check l) = (p, [-2]) := res_ok (by rw [chk_is, if_pos h])
theorem chk_bad {p : Plan} {l : List Nat} (h : chkT p l = true) (hw : p.wrong (wsOf p l) = 1 ∨ p.wrong (wsOf p l) = 2) : res p (.check l) = (p, [(p.wrong (wsOf p l) : Int)]) := by
  refine res_of (a := ⟨(p.wrong (wsOf p l) : Nat), []⟩) ?_
  rw [chk_is, if_neg (by rw [h]; decide), if_pos hw]
theorem chk_yes {p : Plan} {l : List Nat} (h : chkT p l = true) (hw : ¬ (p.wrong (wsOf p l) = 1 ∨ p.wrong (wsOf p l) = 2)) : res p (.check l) = (p, [(p.wrong (wsOf p l) : Int)] ++ (((dutyOut p (p.inOrder l)).length : Int) :: dutyOut p (p.inOrder l)) ++ [2, (Plan.worked (wsOf p l) : Int), (p.driveFrom 0 (wsOf p l) : Int)]) := by
  refine (res_of (q := p) (a := ⟨(p.wrong (wsOf p l) : Nat), [dutyOut p (p.inOrder l), [(Plan.worked (wsOf p l) : Int), (p.driveFrom 0 (wsOf p l) : Int)]]⟩) ?_).trans ?_
  · rw [chk_is, if_neg (by rw [h]; decide), if_neg hw]
  · unfold Sw82Neutral.out
    simp [List.flatMap_cons]
theorem best_is (p : Plan) : step p .best = (p, match p.best with
    | some b => ⟨(b.cost : Nat), [(b.many : Int)] :: b.duties.map fun g => dutyOut p (p.inOrder (members p.works.length g))⟩
    | none => ok (-6)) := rfl
theorem best_no {p : Plan} (h : p.best = none) : res p .best = (p, [-6]) := res_ok (by rw [best_is, h])
theorem best_yes {p : Plan} {b : Best} (h : p.best = some b) : res p .best = (p, [(b.cost : Int), 1, (b.many : Int)] ++ (b.duties.map fun g => dutyOut p (p.inOrder (members p.works.length g))).flatMap fun w => (w.length : Int) :: w) := by
  refine (res_of (q := p) (a := ⟨(b.cost : Nat), [(b.many : Int)] :: b.duties.map fun g => dutyOut p (p.inOrder (members p.works.length g))⟩) (by rw [best_is, h])).trans ?_
  unfold Sw82Neutral.out
  simp [List.flatMap_cons]
theorem never_res (p : Plan) : res p .never = (p, (p.never.length : Int) :: (p.never.length : Int) :: Sw82.ints p.never) := by
  refine (res_of (q := p) (a := ⟨(p.never.length : Nat), [Sw82.ints p.never]⟩) rfl).trans ?_
  unfold Sw82Neutral.out
  simp [List.flatMap_cons, Sw82.ints]
end Dw
namespace Dw
open PySem PySem.Spec PyProof.Rows L2 Evl
section
variable {P : Program} {w : World} {K : PySem.W.Frag} {mg : Str → Option Value} {base : Heap} {Z : Cs}
theorem Kept.put {k d : Addr} {A : DA} {H H' : Hp} {d' : Addr} {A' : DA} (h : ∀ b o, H b = some o → b ∉ ft k d A → H' b = some o) (hn : ∀ b o, H b = some o → b ∉ ft k d A → b ∉ ft k d' A') : Kept k d A H d' A' H' := fun b o e n => ⟨h b o e n, hn b o e n⟩
theorem not_ft {k d : Addr} {A : DA} {b : Addr} (h : b ∉ ft k d A) : b ≠ k ∧ b ≠ d ∧ b ≠ A.b ∧ b ≠ A.h ∧ b ≠ A.w ∧ b ≠ A.p := by
  unfold ft at h
  simp only [List.mem_cons, List.not_mem_nil, or_false, not_or] at h
  exact h
theorem in_ft {k d : Addr} {A : DA} {b : Addr} (h : b ≠ k ∧ b ≠ d ∧ b ≠ A.b ∧ b ≠ A.h ∧ b ≠ A.w ∧ b ≠ A.p) : b ∉ ft k d A := by
  unfold ft
  simp only [List.mem_cons, List.not_mem_nil, or_false, not_or]
  exact h
/-- the desk's depot is another one, all new -/
theorem new_depot {H H1 : Hp} {k d dx : Addr} {A : DA} {p : Sw82.Plan} {r : Sw82.Rules} {v : V} (D : DeskAt Z H k d A p) (e1 : Ex H H1) (g : NewDep Z H r v H1) (hk : H1 k = some (.ins Z.K dx (nDesk.zip [.ref d]))) :
    ∃ d' A', v = .ref d' ∧ DeskAt Z (upd H1 k (.ins Z.K dx (nDesk.zip [v]))) k d' A' (bare r) ∧ Kept k d A H d' A' (upd H1 k (.ins Z.K dx (nDesk.zip [v]))) := by
  obtain ⟨d', A', rfl, hD, h1, h2, h2', h3, h4⟩ := g
  refine ⟨d', A', rfl, ⟨⟨dx, upd_same⟩, hD.upd_k hk⟩, fun b o hb n => ?_⟩
  have n' := not_ft n
  refine ⟨by rw [upd_ne n'.1]; exact e1 _ _ hb, in_ft ⟨n'.1, ne_of_none hb h1, ne_of_none hb h2, ne_of_none hb h2', ne_of_none hb h3, ne_of_none hb h4⟩⟩
theorem s_ans0 {k d d' : Addr} {A A' : DA} {H H1 : Hp} {r : Sw82.Plan × List Int} {Q : VK} {E : XK} {te : TE} {D : Ends} {σ : L2.St} {n : Int} (a : Ans Z k d A H r Q E) (hD : DeskAt Z H1 k d' A' r.1) (hK : Kept k d A H d' A' H1) (hn : ∀ q, H1 q = none → H q = none) (er : r.2 = [n]) (hq : D.rt = Q) (h : EvL te σ H1 [.int n]) : tRet te D σ H1 := by
  refine s_retL h fun q H2 hq2 e2 h2 => ?_
  rw [hq]
  refine a.1 q H2 d' A' (hn q hq2) (hD.mono e2) (fun b o hb nb => ⟨e2 _ _ (hK b o hb nb).1, (hK b o hb nb).2⟩) (ft_some hD hq2) ?_
  rw [er]
  exact h2
theorem kept_none {k d d' : Addr} {A A' : DA} {H H1 : Hp} {p : Sw82.Plan} (D : DeskAt Z H k d A p) (hK : Kept k d A H d' A' H1) (hf : ∀ b ∈ ft k d A, H1 b ≠ none) : ∀ q, H1 q = none → H q = none := by
  intro q hq
  cases h : H q with
  | none => rfl
  | some o =>
    by_cases c : q ∈ ft k d A
    · exact absurd hq (hf q c)
    · rw [(hK q o h c).1] at hq
      cases hq
theorem ok_ki {f : Addr} {fd : FuncData} (F : Fun K "__init__" "Desk.__init__" sKi f fd) (T : Txt K mg Z) (hRul : HasC P w K mg base CX0 1 "Rules" Z.R (spRul K Z)) (hDep : HasC P w K mg base CX0 1 "Depot" Z.D (spDep Z)) : FnOk P w K mg base CX0 3 f fd ["self"] (spKi Z) := by
  refine F.ok scKi (fun vs H Q E h => ?_) (fun cdv A outer s H vs Q E hr h => ?_)
  · obtain ⟨Hs, x, rfl, _⟩ := h
    rfl
  · obtain ⟨Hs, x, rfl, e, x0, hx, k⟩ := h
    obtain ⟨m, hm1, hm2⟩ := T.tFirst
    refine ⟨_, pss_one (ps_fld (pv 0) (pe_mk hDep hr pass0 (pa_cons (pe_mk hRul hr pass0 (pa_cons (pe_glob (v := .ref m) rfl hm1 rfl) pa_nil)) pa_nil)) rfl), ?_⟩
    refine (eg_dep (eg_rul (r := ⟨600, 480, 240, 30, 10, 10, 5, 0, 100000⟩) ev_c (Or.inr (hm2 _)))) H (Ex.refl H) _ fun v H1 e1 g => ?_
    obtain ⟨d, A, rfl, hD, h1, h2, h2', h3, h4⟩ := g
    obtain ⟨dx, hx⟩ := hx
    have hx1 := e1 _ _ hx
    refine ⟨.ref x, rfl, x, Z.K, dx, _, rfl, hx1, T.cK.cl, T.cK.no _ (by decide +kernel), (by decide), ?_⟩
    have up : ∀ {c : Addr} {o' o : HO}, H1 c = some o' → (∀ dx fs, o' ≠ .ins Z.K dx fs) → upd H1 x o c = some o' := fun {c o' o} h n => by
      rw [upd_ne (ne_of h hx1 (n _ _))]
      exact h
    have inn : ∀ {C dy : Addr} {f : Str} {ns : List Str} {u : V} {us : List V}, HO.ins C dy ((f :: ns).zip (u :: us)) = HO.ins Z.K dx (nDesk.zip []) → False := fun z => by
      injection z with _ _ z
      cases z
    refine k _ d A (Ex.mut (e.trans e1) x0) ⟨⟨dx, upd_same⟩, ?_⟩ (fresh_back e h1) (fresh_back e h2) (fresh_back e h2') (fresh_back e h3) (fresh_back e h4)
    obtain ⟨dx', hi⟩ := hD.ins
    obtain ⟨dr, hr⟩ := hD.rul
    obtain ⟨ts, hw, ew⟩ := hD.way
    obtain ⟨us, hp, ep⟩ := hD.pcs
    obtain ⟨ks, hb, rb⟩ := hD.brk
    refine ⟨⟨dx', ?_⟩, ⟨dr, ?_⟩, ⟨ks, up hb fun _ _ z => (by cases z), rb⟩, up hD.hom fun _ _ z => (by cases z), ⟨ts, up hw fun _ _ z => (by cases z), ew.mono fun _ _ h => up h fun _ _ z => by cases z⟩,
      ⟨us, up hp fun _ _ z => (by cases z), ep.mono fun _ _ h => let ⟨dy, h⟩ := h; ⟨dy, ?_⟩⟩, hD.wh, hD.wp, hD.hp, hD.good⟩
    · rw [upd_ne (ne_of hi hx1 inn)]
      exact hi
    · rw [upd_ne (ne_of hr hx1 inn)]
      exact hr
    · rw [upd_ne (ne_of h hx1 inn)]
      exact h
theorem ok_beg {f : Addr} {fd : FuncData} (F : Fun K "begins" "Desk.begins" sBeg f fd) (T : Txt K mg Z) (hNeed : HasF P w K mg base (L2.CX P w) 3 "need" (spNeed Z)) (hRul : HasC P w K mg base CX0 1 "Rules" Z.R (spRul K Z)) (hDep : HasC P w K mg base CX0 1 "Depot" Z.D (spDep Z)) : FnOk P w K mg base (L2.CX P w) 5 f fd ["self", "numbers"] (spBeg K Z) := by
  refine F.okX scBeg (fun vs H Q E h => ?_) (fun cdv A outer s H vs Q E hr h => ?_)
  · obtain ⟨k, l, d, A, p, r, rfl, _⟩ := h
    rfl
  · obtain ⟨k, l, d, A, p, r, rfl, D, hl, a⟩ := h
    have hr3 : Room 3 _ := hr.mono (by decide)
    have hr2 : Room 2 _ := hr.mono (by decide)
    refine ⟨_, pss_cons (ps_expr (pe_cl (E := E) hNeed hr3 (passes_call (takes_of rfl rfl rfl rfl) (fun _ _ _ _ h => h)) (pa_cons (pe_callB (cr_all rfl) (by rfl) T.bAll (by decide +kernel) (pa_cons (pe_lc (own := [("number", 2)]) (g := gName 2) (tt := tYes) (te := tOp (rI0 fun i j => .bl (decide (i ≤ j))) (tVar 2) (tC (.int 100000))) rfl scBeg.nd (pi_list (pv 1)) (blkOk_by (N := NBeg) (sc := defScope sBeg) (by decide +kernel))
        (fun _ _ _ _ _ => by exact pg_name (i := 2) scBeg.nd rfl (Or.inl rfl)) (fun _ _ _ _ _ => pts_nil) (fun _ _ _ _ _ => by exact pe_cmpR op_le (pv 2) (pe_k T.kMost) (nomark _))) pa_nil)) (pa_cons (pe_k T.kBad) pa_nil))))
      (pss_cons (ps_fld (pv 0) (pe_mk hDep hr2 pass0 (pa_cons (pe_mk hRul hr2 pass0 (pa_cons (pv 1) pa_nil)) pa_nil)) rfl)
      (pss_one (ps_ret (pe_lst (pa_cons pe_int pa_nil))))), ?_⟩
    have hall : Ev (tCB (rAll K) (tCons (tLc (iList K (tVar 1)) (gName 2) tYes (tOp (rI0 fun i j => .bl (decide (i ≤ j))) (tVar 2) (tC (.int 100000))) [2]) tNil)) [some (.ref k), some (.ref l), none] H (.bl (Sw82.rulesOk r)) := by
      refine ev_cbL (el_compA [r.long, r.work, r.drive, r.rest, r.on, r.off, r.change, r.least, r.twice] (fun n => V.bl (decide (n ≤ 100000))) (by show 9 ≤ 40000; decide) (it_list (ev_var rfl) hl rfl) (fun j n y H' H'' hn e8 hy => ?_)) fun q H1 hq e1 H2 e2 Q' q' => ?_
      · obtain ⟨rfl, hy⟩ := hy
        obtain ⟨n', hn', rfl⟩ := map_at (l := [r.long, r.work, r.drive, r.rest, r.on, r.off, r.change, r.least, r.twice]) (f := nV) hy
        rw [hn] at hn'
        cases hn'
        refine ⟨Ex.refl _, _, fun Q h => h, rfl, ev_is (ev_op (ev_var rfl) ev_c rv_I0) (congrArg V.bl ?_)⟩
        exact decide_eq_decide.mpr (by omega)
      · refine ⟨q, [r.long, r.work, r.drive, r.rest, r.on, r.off, r.change, r.least, r.twice].map fun n => decide (n ≤ 100000), rfl, SqL.of (e2 _ _ hq), ?_⟩
        rw [List.all_map]
        exact q' H2 (Ex.refl H2)
    refine q_need hall ev_c (fun hb H1 e1 => ?_) (fun hb H1 x e1 hx hx1 => ?_)
    · have er : res p (.begins r) = (bare r, [0]) := beg_yes hb
      have D1 := D.mono e1
      refine q_setG T.cK 0 (eg_dep (eg_rul (ev_var rfl) (Or.inl (ex_l e1 hl)))) (fun v H H' e g => ?_) (fun H2 _ => ev_var rfl) D1.ins rfl (Nat.zero_lt_succ _) (Nat.le_of_ble_eq_true rfl) fun v H2 dx e2 g hk => ?_
      · obtain ⟨d', A', h1, h2, h3⟩ := g
        exact ⟨d', A', h1, h2.mono e, h3⟩
      · obtain ⟨d', A', rfl, hD, hK⟩ := new_depot D1 e2 g hk
        have hK' : Kept k d A H d' A' _ := fun b o hb nb => hK b o (e1 _ _ hb) nb
        refine s_ans0 a (by rw [er]; exact hD) hK' (kept_none D hK' fun b hb => ?_) (by rw [er]) rfl (el_lst (ea_cons ev_c ea_nil) (by show 1 ≤ 100000; decide))
        by_cases c : b = k
        · subst c
          rw [upd_same]
          exact fun z => by cases z
        · rw [upd_ne c]
          intro z
          exact ft_some D (fresh_back (e1.trans e2) z) hb
    · exact a.no D (beg_no hb) e1 hx hx1
theorem ok_pla {f : Addr} {fd : FuncData} (F : Fun K "place" "Desk.place" sPla f fd) (T : Txt K mg Z) (hNeed : HasF P w K mg base (L2.CX P w) 3 "need" (spNeed Z)) (hPut : HasM P w K mg base CX0 1 Z.D "put_place" (spPut Z)) : FnOk P w K mg base (L2.CX P w) 5 f fd NPla (spPla Z) := by
  refine F.okX scPla (fun vs H Q E h => ?_) (fun cdv A outer s H vs Q E hr h => ?_)
  · obtain ⟨k, d, A, p, i, b, h, rfl, _⟩ := h
    rfl
  · obtain ⟨k, d, A, p, i, b, h, rfl, D, a⟩ := h
    have hr3 : Room 3 _ := hr.mono (by decide)
    have hr1 : Room 1 _ := hr.mono (by decide)
    refine ⟨_, pss_cons (ps_expr (pe_cl (E := E) hNeed hr3 (passes_call (takes_of rfl rfl rfl rfl) (fun _ _ _ _ h => h)) (pa_cons (pe_cmpR op_lt (pv 1) (pe_k T.kPlaces) (nomark _)) (pa_cons (pe_k T.kBad) pa_nil))))
      (pss_cons (ps_expr (pe_me (E := E0) hPut T.cD.cl hr1 pass0 (pe_fld (pv 0) rfl) (pa_cons (pv 1) (pa_cons (pe_cmpR op_eq (pv 2) pe_int (nomark _)) (pa_cons (pe_cmpR op_eq (pv 3) pe_int (nomark _)) pa_nil)))))
      (pss_one (ps_ret (pe_lst (pa_cons pe_int pa_nil))))), ?_⟩
    refine q_need (ev_is (ev_op (ev_var rfl) ev_c rv_I0) (congrArg V.bl (lt_nat i 20))) ev_c (fun hb H1 e1 => ?_) (fun hb H1 x e1 hx hx1 => ?_)
    · have hi : i < 20 := of_decide_eq_true hb
      have D1 := D.mono e1
      have er : res p (.place i (b == 1) (h == 1)) = ({ p with breaks := withI p.breaks i (b == 1), homes := withI p.homes i (h == 1) }, [0]) := pla_yes hi
      have eq1 : ∀ n : Nat, V.bl (decide (nV n = V.int 1)) = V.bl (n == 1) := fun n => congrArg V.bl (by
        refine (dec_n n 1).trans ?_
        by_cases c : n = 1
        · subst c; rfl
        · rw [decide_eq_false c]; symm; simpa using c)
      refine q_me (ev_fld (ev_var rfl) (rf T.cK D1.ins 0)) (mof D1.dep.ins (by decide +kernel)) (ea_cons (ev_var rfl) (ea_cons (ev_is (ev_op (ev_var rfl) ev_c (rv_eq rfl)) (eq1 b)) (ea_cons (ev_is (ev_op (ev_var rfl) ev_c (rv_eq rfl)) (eq1 h)) ea_nil))) fun H2 e2 => ?_
      have D2 := D1.mono e2
      refine ⟨d, A, p, i, (b == 1), (h == 1), rfl, D2.dep, hi, fun H3 q hD hq0 hF v => ?_⟩
      obtain ⟨dx, hk⟩ := D2.ins
      obtain ⟨dy, hd⟩ := D2.dep.ins
      obtain ⟨ks, hb', _⟩ := D2.dep.brk
      have hk3 := hF _ _ hk (ne_of hk hd fun z => ins_ne (by decide +kernel) z) (ne_of hk hb' fun z => by cases z)
      have e12 := e1.trans e2
      have hK : Kept k d A H d { A with h := q } H3 := fun c o hc nc => ⟨hF _ _ (e12 _ _ hc) (not_ft nc).2.1 (not_ft nc).2.2.1, in_ft ⟨(not_ft nc).1, (not_ft nc).2.1, (not_ft nc).2.2.1, ne_of_none (e12 _ _ hc) hq0, (not_ft nc).2.2.2.2⟩⟩
      have hD3 : DeskAt Z H3 k d { A with h := q } (res p (.place i (b == 1) (h == 1))).1 := by
        rw [er]
        exact ⟨⟨dx, hk3⟩, hD⟩
      have hnn : ∀ c, H3 c = none → H c = none := fun c hc => by
        cases hH : H c with
        | none => rfl
        | some o =>
          exfalso
          by_cases c1 : c = d
          · obtain ⟨dz, hz⟩ := hD.ins
            rw [c1, hz] at hc
            cases hc
          · by_cases c2 : c = A.b
            · obtain ⟨kz, hz, _⟩ := hD.brk
              have hz' : H3 A.b = some (.dK kz) := hz
              rw [c2, hz'] at hc
              cases hc
            · rw [hF _ _ (e12 _ _ hH) c1 c2] at hc
              cases hc
      refine s_ans0 a hD3 hK hnn (by rw [er]) rfl (el_lst (ea_cons ev_c ea_nil) (by show 1 ≤ 100000; decide))
    · exact a.no D (pla_no (of_decide_eq_false hb)) e1 hx hx1
end
end Dw
namespace Dw
open PySem PySem.Spec PyProof.Rows L2 Evl
theorem le_nat (a b : Nat) : decide ((a : Int) ≤ (b : Int)) = decide (a ≤ b) := decide_eq_decide.mpr (by omega)
theorem map_erase {α β : Type} (f : α → β) : ∀ (l : List α) (n : Nat), (l.map f).eraseIdx n = (l.eraseIdx n).map f
  | [], n => by cases n <;> rfl
  | a :: l, 0 => rfl
  | a :: l, n + 1 => by
    show f a :: (l.map f).eraseIdx n = f a :: (l.eraseIdx n).map f
    rw [map_erase f l n]
theorem erase_at {α : Type} : ∀ (l : List α) (n j : Nat), (l.eraseIdx n)[j]? = if j < n then l[j]? else l[j + 1]?
  | [], n, j => by cases n <;> simp
  | a :: l, 0, j => by rw [if_neg (by omega)]; rfl
  | a :: l, n + 1, 0 => by rw [if_pos (by omega)]; rfl
  | a :: l, n + 1, j + 1 => by
    show (l.eraseIdx n)[j]? = if j + 1 < n + 1 then l[j]? else l[j + 1]?
    rw [erase_at l n j]
    by_cases c : j < n
    · rw [if_pos c, if_pos (by omega)]
    · rw [if_neg c, if_neg (by omega)]
theorem erase_len {α : Type} : ∀ (l : List α) (n : Nat), n < l.length → (l.eraseIdx n).length + 1 = l.length
  | [], n, h => absurd h (Nat.not_lt_zero n)
  | a :: l, 0, _ => rfl
  | a :: l, n + 1, h => by
    show (l.eraseIdx n).length + 1 + 1 = l.length + 1
    rw [erase_len l n (Nat.lt_of_succ_lt_succ h)]
theorem erase_mem {α : Type} {l : List α} {n : Nat} {x : α} (h : x ∈ l.eraseIdx n) : x ∈ l := by
  obtain ⟨j, hj⟩ := List.getElem?_of_mem h
  rw [erase_at] at hj
  split at hj
  · exact List.mem_of_getElem? hj
  · exact List.mem_of_getElem? hj
theorem Each.erase {α : Type} {G : Addr → α → Prop} {ts : List Addr} {xs : List α} (h : Each G ts xs) {n : Nat} (hn : n < xs.length) : Each G (ts.eraseIdx n) (xs.eraseIdx n) := by
  refine ⟨?_, fun i t x h1 h2 => ?_⟩
  · have a := erase_len xs n hn
    have b := erase_len ts n (by rw [h.1]; exact hn)
    have c := h.1
    omega
  · rw [erase_at] at h1 h2
    split at h1
    · rename_i c
      rw [if_pos c] at h2
      exact h.2 i t x h1 h2
    · rename_i c
      rw [if_neg c] at h2
      exact h.2 (i + 1) t x h1 h2
section
variable {P : Program} {w : World} {K : PySem.W.Frag} {mg : Str → Option Value} {base : Heap} {Z : Cs}
/-- one of the depot's own lists changes -/
theorem own_list {H H1 H2 : Hp} {k d c : Addr} {A : DA} {p p' : Sw82.Plan} {xs ys : List V} (D : DeskAt Z H k d A p) (e : Ex H H1) (hc : H c = some (.lst xs)) (hf : c ∈ ft k d A) (e2 : H2 = upd H1 c (.lst ys)) (hD : DepotAt Z H2 d A p') :
    DeskAt Z H2 k d A p' ∧ Kept k d A H d A H2 := by
  subst e2
  obtain ⟨dx, hk⟩ := D.ins
  refine ⟨⟨⟨dx, ?_⟩, hD⟩, fun b o hb nb => ⟨?_, nb⟩⟩
  · rw [upd_ne (ne_of hk hc fun z => by cases z)]
    exact e _ _ hk
  · rw [upd_ne (fun z => nb (by rw [z]; exact hf))]
    exact e _ _ hb
theorem ok_way {f : Addr} {fd : FuncData} (F : Fun K "way" "Desk.way" sWay f fd) (T : Txt K mg Z) (hNeed : HasF P w K mg base (L2.CX P w) 3 "need" (spNeed Z)) (hAre : HasF P w K mg base CX0 1 "are_places" spAre) : FnOk P w K mg base (L2.CX P w) 5 f fd NWay (spWay Z) := by
  refine F.okX scWay (fun vs H Q E h => ?_) (fun cdv A outer s H vs Q E hr h => ?_)
  · obtain ⟨k, d, A, p, a, b, n, rfl, _⟩ := h
    rfl
  · obtain ⟨k, d, A, p, a, b, n, rfl, D, an⟩ := h
    have hr3 : Room 3 _ := hr.mono (by decide)
    have hr1 : Room 1 _ := hr.mono (by decide)
    refine ⟨_, pss_cons (ps_expr (pe_cl (E := E) hNeed hr3 (passes_call (takes_of rfl rfl rfl rfl) (fun _ _ _ _ h => h)) (pa_cons (pe_and (pe_cl (E := E0) hAre hr1 pass0 (pa_cons (pv 1) (pa_cons (pv 2) pa_nil))) (pe_and (pe_cmpR op_ne (pv 1) (pv 2) (nomark _)) (pe_one (pe_cmpR op_le (pv 3) (pe_k T.kMost) (nomark _))))) (pa_cons (pe_k T.kBad) pa_nil))))
      (pss_cons (ps_expr (pe_cl (E := E) hNeed hr3 (passes_call (takes_of rfl rfl rfl rfl) (fun _ _ _ _ h => h)) (pa_cons (pe_cmpR op_lt (pe_callB call_len_seq (by rfl) T.bLen PySem.boot_len (pa_cons (pe_fld (pe_fld (pv 0) rfl) rfl) pa_nil)) (pe_k T.kWays) (nomark _)) (pa_cons (pe_k T.kMany) pa_nil))))
      (pss_cons (ps_expr (pe_bm PySem.F.plainAttrs_list PySem.F.slot_list_append PySem.F.type_list_append mt_append (pe_fld (pe_fld (pv 0) rfl) rfl) (pa_cons (pe_tup (pa_cons (pv 1) (pa_cons (pv 2) (pa_cons (pv 3) pa_nil)))) pa_nil)))
      (pss_one (ps_ret (pe_lst (pa_cons (pe_op op_sub (pe_callB call_len_seq (by rfl) T.bLen PySem.boot_len (pa_cons (pe_fld (pe_fld (pv 0) rfl) rfl) pa_nil)) pe_int) pa_nil)))))), ?_⟩
    refine q_need (b := ((decide (a < 20) && decide (b < 20)) && (!decide (a = b) && decide (n ≤ 100000)))) (ev_andV (ev_cl (ea_cons (ev_var rfl) (ea_cons (ev_var rfl) ea_nil)) (fun H1 e1 Q q E => ⟨a, b, rfl, q⟩)) (fun _ => ev_andV (ev_is (ev_op (ev_var rfl) (ev_var rfl) (rv_ne rfl)) (by rw [dec_n])) (fun _ => ev_is (ev_op (ev_var rfl) ev_c rv_I0) (congrArg V.bl (le_nat n 100000))))) ev_c (fun hb H1 e1 => ?_) (fun hb H1 x e1 hx hx1 => ?_)
    · have D1 := D.mono e1
      obtain ⟨ts, hw, ew⟩ := D1.dep.way
      refine q_need (b := decide (p.ways.length < 40)) (ev_is (ev_op (ev_len (ev_fld (ev_fld (ev_var rfl) (rf T.cK D1.ins 0)) (rf T.cD D1.dep.ins 3)) (SqL.of hw)) ev_c rv_I0) ?_) ev_c (fun hm H2 e2 => ?_) (fun hm H2 x e2 hx hx2 => ?_)
      · rw [List.length_map, ew.1]
        exact congrArg V.bl (lt_nat _ 40)
      · have hm' : p.ways.length < 40 := of_decide_eq_true hm
        have er := way_yes (p := p) hb hm'
        have D2 := D1.mono e2
        have hw2 := e2 _ _ hw
        refine q_appU hw2 (ev_fld (ev_fld (ev_var rfl) (rf T.cK D2.ins 0)) (rf T.cD D2.dep.ins 3)) (eu_tup (ea_cons (ev_var rfl) (ea_cons (ev_var rfl) (ea_cons (ev_var rfl) ea_nil))) (by show 3 ≤ 100000; decide)) (by rw [List.length_map, ew.1]; omega) fun t H3 ht e3 ht3 => ?_
        have e13 := (e1.trans e2).trans e3
        have hD := ((D2.dep.mono e3).upd_w (t := t) (x := (a, b, n)) (e3 _ _ hw2) (ew.mono fun _ _ q => WayAt.mono (e2.trans e3) q) ht3 hm')
        obtain ⟨xs0, hw0, _⟩ := D.dep.way
        obtain ⟨hD3, hK⟩ := own_list (p' := { p with ways := p.ways ++ [(a, b, n)] }) D e13 hw0 (by unfold ft; simp) rfl hD
        refine s_ans0 an (by rw [er]; exact hD3) hK (kept_none D hK fun c hc z => ft_some hD3 z hc) (by rw [er]) rfl (el_lst (ea_cons (ev_is (ev_op (ev_len (ev_fld (ev_fld (ev_var rfl) (rf T.cK hD3.ins 0)) (rf T.cD hD3.dep.ins 3)) (SqL.of upd_same)) ev_c rv_I0) ?_) ea_nil) (by show 1 ≤ 100000; decide))
        refine congrArg V.int ?_
        rw [List.length_append, List.length_map, ew.1]
        show ((p.ways.length + 1 : Nat) : Int) - 1 = p.ways.length
        omega
      · exact an.no D (way_many hb (of_decide_eq_false hm)) (e1.trans e2) (fresh_back e1 hx) hx2
    · exact an.no D (way_no hb) e1 hx hx1
theorem ok_wor {f : Addr} {fd : FuncData} (F : Fun K "add_work" "Desk.add_work" sWor f fd) (T : Txt K mg Z) (hNeed : HasF P w K mg base (L2.CX P w) 3 "need" (spNeed Z)) (hAre : HasF P w K mg base CX0 1 "are_places" spAre) (hPie : HasC P w K mg base CX0 1 "Piece" Z.P (spPie Z)) : FnOk P w K mg base (L2.CX P w) 5 f fd NWor (spWor Z) := by
  refine F.okX scWor (fun vs H Q E h => ?_) (fun cdv A outer s H vs Q E hr h => ?_)
  · obtain ⟨k, d, A, p, y, rfl, _⟩ := h
    rfl
  · obtain ⟨k, d, A, p, y, rfl, D, an⟩ := h
    have hr3 : Room 3 _ := hr.mono (by decide)
    have hr2 : Room 2 _ := hr.mono (by decide)
    have hr1 : Room 1 _ := hr.mono (by decide)
    refine ⟨_, pss_cons (ps_expr (pe_cl (E := E) hNeed hr3 (passes_call (takes_of rfl rfl rfl rfl) (fun _ _ _ _ h => h)) (pa_cons (pe_and (pe_cl (E := E0) hAre hr1 pass0 (pa_cons (pv 1) (pa_cons (pv 2) pa_nil))) (pe_and (pe_cmpR op_lt (pv 3) (pv 4) (nomark _)) (pe_one (pe_cmpR op_le (pv 4) (pe_k T.kMost) (nomark _))))) (pa_cons (pe_k T.kBad) pa_nil))))
      (pss_cons (ps_expr (pe_cl (E := E) hNeed hr3 (passes_call (takes_of rfl rfl rfl rfl) (fun _ _ _ _ h => h)) (pa_cons (pe_cmpR op_lt (pe_callB call_len_seq (by rfl) T.bLen PySem.boot_len (pa_cons (pe_fld (pe_fld (pv 0) rfl) rfl) pa_nil)) (pe_k T.kPieces) (nomark _)) (pa_cons (pe_k T.kMany) pa_nil))))
      (pss_cons (ps_expr (pe_bm PySem.F.plainAttrs_list PySem.F.slot_list_append PySem.F.type_list_append mt_append (pe_fld (pe_fld (pv 0) rfl) rfl) (pa_cons (pe_mk (E := E0) hPie hr2 pass0 (pa_cons (pv 1) (pa_cons (pv 2) (pa_cons (pv 3) (pa_cons (pv 4) pa_nil))))) pa_nil)))
      (pss_one (ps_ret (pe_lst (pa_cons (pe_op op_sub (pe_callB call_len_seq (by rfl) T.bLen PySem.boot_len (pa_cons (pe_fld (pe_fld (pv 0) rfl) rfl) pa_nil)) pe_int) pa_nil)))))), ?_⟩
    refine q_need (b := worT y) (ev_andV (ev_cl (ea_cons (ev_var rfl) (ea_cons (ev_var rfl) ea_nil)) (fun H1 e1 Q q E => ⟨y.from_, y.to, rfl, q⟩)) (fun _ => ev_andV (ev_is (ev_op (ev_var rfl) (ev_var rfl) rv_I0) (congrArg V.bl (lt_nat _ _))) (fun _ => ev_is (ev_op (ev_var rfl) ev_c rv_I0) (congrArg V.bl (le_nat _ 100000))))) ev_c (fun hb H1 e1 => ?_) (fun hb H1 x e1 hx hx1 => ?_)
    · have D1 := D.mono e1
      obtain ⟨ts, hw, ew⟩ := D1.dep.pcs
      refine q_need (b := decide (p.works.length < 7)) (ev_is (ev_op (ev_len (ev_fld (ev_fld (ev_var rfl) (rf T.cK D1.ins 0)) (rf T.cD D1.dep.ins 4)) (SqL.of hw)) ev_c rv_I0) ?_) ev_c (fun hm H2 e2 => ?_) (fun hm H2 x e2 hx hx2 => ?_)
      · rw [List.length_map, ew.1]
        exact congrArg V.bl (lt_nat _ 7)
      · have hm' : p.works.length < 7 := of_decide_eq_true hm
        have er := wor_yes (p := p) hb hm'
        have D2 := D1.mono e2
        have hw2 := e2 _ _ hw
        refine q_appG hw2 (ev_fld (ev_fld (ev_var rfl) (rf T.cK D2.ins 0)) (rf T.cD D2.dep.ins 4)) (eg_pie (y := y) (ea_cons (ev_var rfl) (ea_cons (ev_var rfl) (ea_cons (ev_var rfl) (ea_cons (ev_var rfl) ea_nil))))) (by rw [List.length_map, ew.1]; omega) fun v H3 e3 g => ?_
        obtain ⟨t, rfl, ht3⟩ := g
        have e13 := (e1.trans e2).trans e3
        have hl8 : (p.works ++ [y]).length ≤ 7 := by rw [List.length_append]; exact hm'
        have hD := ((D2.dep.mono e3).upd_p (ts := ts ++ [t]) (ws := p.works ++ [y]) ⟨_, e3 _ _ hw2⟩ (each_snoc (ew.mono fun _ _ q => PieceAt.mono (e2.trans e3) q) ht3) hl8 (fun x hx => by
          rcases List.mem_append.mp hx with q | q
          · exact D.dep.good.ok x q
          · have : x = y := by simpa using q
            subst this
            exact wor_okW hb))
        rw [List.map_append] at hD
        obtain ⟨xs0, hw0, _⟩ := D.dep.pcs
        obtain ⟨hD3, hK⟩ := own_list (p' := { p with works := p.works ++ [y] }) D e13 hw0 (by unfold ft; simp) rfl hD
        refine s_ans0 an (by rw [er]; exact hD3) hK (kept_none D hK fun c hc z => ft_some hD3 z hc) (by rw [er]) rfl (el_lst (ea_cons (ev_is (ev_op (ev_len (ev_fld (ev_fld (ev_var rfl) (rf T.cK hD3.ins 0)) (rf T.cD hD3.dep.ins 4)) (SqL.of upd_same)) ev_c rv_I0) ?_) ea_nil) (by show 1 ≤ 100000; decide))
        refine congrArg V.int ?_
        rw [List.length_append, List.length_map, ew.1]
        show ((p.works.length + 1 : Nat) : Int) - 1 = p.works.length
        omega
      · exact an.no D (wor_many hb (of_decide_eq_false hm)) (e1.trans e2) (fresh_back e1 hx) hx2
    · exact an.no D (wor_no hb) e1 hx hx1
theorem ok_dro {f : Addr} {fd : FuncData} (F : Fun K "drop" "Desk.drop" sDro f fd) (T : Txt K mg Z) (hNeed : HasF P w K mg base (L2.CX P w) 3 "need" (spNeed Z)) : FnOk P w K mg base (L2.CX P w) 5 f fd ["self", "number"] (spDro Z) := by
  refine F.okX scDro (fun vs H Q E h => ?_) (fun cdv A outer s H vs Q E hr h => ?_)
  · obtain ⟨k, d, A, p, n, rfl, _⟩ := h
    rfl
  · obtain ⟨k, d, A, p, n, rfl, D, an⟩ := h
    have hr3 : Room 3 _ := hr.mono (by decide)
    refine ⟨_, pss_cons (ps_expr (pe_cl (E := E) hNeed hr3 (passes_call (takes_of rfl rfl rfl rfl) (fun _ _ _ _ h => h)) (pa_cons (pe_cmpR op_lt (pv 1) (pe_callB call_len_seq (by rfl) T.bLen PySem.boot_len (pa_cons (pe_fld (pe_fld (pv 0) rfl) rfl) pa_nil)) (nomark _)) (pa_cons (pe_k T.kNone) pa_nil))))
      (pss_cons (ps_expr (pe_bm PySem.F.plainAttrs_list PySem.F.slot_list_pop PySem.F.type_list_pop mt_popAt (pe_fld (pe_fld (pv 0) rfl) rfl) (pa_cons (pv 1) pa_nil)))
      (pss_one (ps_ret (pe_lst (pa_cons pe_int pa_nil))))), ?_⟩
    obtain ⟨ts, hw, ew⟩ := D.dep.pcs
    refine q_need (b := decide (n < p.works.length)) (ev_is (ev_op (ev_var rfl) (ev_len (ev_fld (ev_fld (ev_var rfl) (rf T.cK D.ins 0)) (rf T.cD D.dep.ins 4)) (SqL.of hw)) rv_I0) ?_) ev_c (fun hb H1 e1 => ?_) (fun hb H1 x e1 hx hx1 => ?_)
    · rw [List.length_map, ew.1]
      exact congrArg V.bl (lt_nat _ _)
    · have hn : n < p.works.length := of_decide_eq_true hb
      have er := dro_yes (p := p) hn
      have D1 := D.mono e1
      have hw1 := e1 _ _ hw
      have hg := D.dep.good.works
      refine q_popAt (j := n) hw1 (ev_fld (ev_fld (ev_var rfl) (rf T.cK D1.ins 0)) (rf T.cD D1.dep.ins 4)) (ev_var rfl) (by rw [List.length_map, ew.1]; exact hn) (by rw [List.length_map, ew.1]; omega) fun H2 e2 => ?_
      rw [map_erase]
      have hl := erase_len p.works n hn
      have hD := (D1.dep.mono e2).upd_p (ts := ts.eraseIdx n) (ws := p.works.eraseIdx n) ⟨_, e2 _ _ hw1⟩ ((ew.mono fun _ _ q => PieceAt.mono (e1.trans e2) q).erase hn) (by omega) (fun x hx => D.dep.good.ok x (erase_mem hx))
      obtain ⟨hD3, hK⟩ := own_list (p' := { p with works := p.works.eraseIdx n }) D (e1.trans e2) hw (by unfold ft; simp) rfl hD
      exact s_ans0 an (by rw [er]; exact hD3) hK (kept_none D hK fun c hc z => ft_some hD3 z hc) (by rw [er]) rfl (el_lst (ea_cons ev_c ea_nil) (by show 1 ≤ 100000; decide))
    · exact an.no D (dro_no (of_decide_eq_false hb)) e1 hx hx1
end
end Dw
namespace Dw
open PySem PySem.Spec PyProof.Rows L2 Evl
abbrev sChk : Stmt := inClass (top 40) 6
abbrev NChk : List Str := ["self", "numbers", "duty", "one", "other"]
theorem scChk : FnScope NChk ["self", "numbers"] (defScope sChk) := ⟨rfl, rfl, rfl, by decide +kernel, rfl, by decide +kernel, by decide +kernel⟩
def spChk (K : PySem.W.Frag) (Z : Cs) : Sp := fun vs H Q E => ∃ (k l d : Addr) (A : DA) (p : Sw82.Plan) (ns : List Nat), vs = [.ref k, .ref l] ∧ DeskAt Z H k d A p ∧ SqL K H l (ns.map nV) ∧ ns.length ≤ 20 ∧ Ans Z k d A H (res p (.check ns)) Q E
/-! ### rising lists -/
theorem rising_zip : ∀ l : List Nat, Sw82.rising l = (l.zip (l.drop 1)).all fun z => decide (z.1 < z.2)
  | [] => rfl
  | [_] => rfl
  | a :: b :: l => by
    show (decide (a < b) && Sw82.rising (b :: l)) = (decide (a < b) && ((b :: l).zip l).all _)
    rw [rising_zip (b :: l)]
    rfl
theorem rising_lt : ∀ (l : List Nat) (a : Nat), Sw82.rising (a :: l) = true → ∀ x ∈ l, a < x
  | [], _, _, _, h => by cases h
  | b :: l, a, hr, x, hx => by
    have hr' : (decide (a < b) && Sw82.rising (b :: l)) = true := hr
    rw [Bool.and_eq_true] at hr'
    have h1 := of_decide_eq_true hr'.1
    rcases List.mem_cons.mp hx with e | hx
    · rw [e]; exact h1
    · exact Nat.lt_trans h1 (rising_lt l b hr'.2 x hx)
theorem rising_tail {a : Nat} : ∀ {l : List Nat}, Sw82.rising (a :: l) = true → Sw82.rising l = true
  | [], _ => rfl
  | b :: l, h => by
    have hr' : (decide (a < b) && Sw82.rising (b :: l)) = true := h
    rw [Bool.and_eq_true] at hr'
    exact hr'.2
theorem rising_nodup : ∀ {l : List Nat}, Sw82.rising l = true → l.Nodup
  | [], _ => List.nodup_nil
  | a :: l, h => List.nodup_cons.mpr ⟨fun q => Nat.lt_irrefl _ (rising_lt l a h a q), rising_nodup (rising_tail h)⟩
theorem rising_last : ∀ (l : List Nat) (y : Nat), Sw82.rising (l ++ [y]) = true → ∀ x ∈ l ++ [y], x ≤ y
  | [], y, _, x, hx => by
    have : x = y := by simpa using hx
    omega
  | a :: l, y, h, x, hx => by
    rcases List.mem_cons.mp hx with e | hx
    · have := rising_lt (l ++ [y]) a h y (by simp)
      omega
    · exact rising_last l y (rising_tail h) x hx
theorem chk_of {p : Sw82.Plan} {l : List Nat} {y : Nat} (h : Sw82.rising (l ++ [y]) = true) : chkT p (l ++ [y]) = decide (y < p.works.length) := by
  have h1 : (l ++ [y]).isEmpty = false := by cases l <;> rfl
  unfold chkT
  rw [h, h1, Bool.true_and, Bool.not_false, Bool.true_and]
  by_cases c : y < p.works.length
  · rw [decide_eq_true c, List.all_eq_true]
    intro x hx
    exact decide_eq_true (Nat.lt_of_le_of_lt (rising_last l y h x hx) c)
  · rw [decide_eq_false c, List.all_eq_false]
    exact ⟨y, by simp, by simpa using c⟩
/-! ### .. != [] -/
theorem dp_ints {K : PySem.W.Frag} {H : Hp} : ∀ ns : List Nat, DpAll K H (ns.map nV) (ns.map fun n : Nat => PyData.int (n : Int))
  | [] => .nil
  | n :: ns => .cons (.int _) (dp_ints ns)
theorem lay_ints : ∀ ns : List Nat, PyData.canLayAll0 (ns.map fun n : Nat => PyData.int (n : Int)) = true
  | [] => by simp only [List.map_nil, PyData.canLayAll0]
  | n :: ns => by
    rw [List.map_cons]
    simp only [PyData.canLayAll0, PyData.canLay0, lay_ints ns, Bool.and_self]
theorem deep_ints : ∀ ns : List Nat, PyData.depthAll (ns.map fun n : Nat => PyData.int (n : Int)) = 0
  | [] => rfl
  | n :: ns => by
    rw [List.map_cons]
    show max 0 (PyData.depthAll _) = 0
    rw [deep_ints ns]
    rfl
theorem shaped_ints (ns : List Nat) : SeqAt.shaped (.list (ns.map fun n : Nat => PyData.int (n : Int))) = true := by
  unfold SeqAt.shaped
  rw [Bool.and_eq_true]
  refine ⟨?_, decide_eq_true ?_⟩
  · show PyData.canLay0 (.list _) = true
    simp only [PyData.canLay0]
    exact lay_ints ns
  · show PyData.depthAll _ + 1 ≤ 64
    rw [deep_ints ns]
    decide
theorem ev_neNil {K : PySem.W.Frag} {σ : L2.St} {H : Hp} {ta tb : TE} {l : Addr} {ns : List Nat} (h : Ev ta σ H (.ref l)) (hl : SqL K H l (ns.map nV)) (hb : EvL tb σ H []) : Ev (tOp (rNeD K) ta tb) σ H (.bl (!ns.isEmpty)) := ev_opL h hb fun q H1 hq e1 H2 e2 Q q' =>
  ⟨.list (ns.map fun n : Nat => PyData.int (n : Int)), .list [], .lst (ex_l (e1.trans e2) hl) (dp_ints ns), .lst (SqL.of (e2 _ _ hq)) .nil, shaped_ints ns, shaped_ints [], by
    have e : PyData.eqv (.list (ns.map fun n : Nat => PyData.int (n : Int))) (.list []) = ns.isEmpty := by
      cases ns with
      | nil => simp [PyData.eqv, PyData.eqvAll]
      | cons n ns => simp [PyData.eqv, PyData.eqvAll]
    rw [e]
    exact q' H2 (Ex.refl H2)⟩
theorem in_two {n : Nat} : inV (nV n) [V.int 1, V.int 2] = true ↔ n = 1 ∨ n = 2 := by
  have e : inV (nV n) [V.int 1, V.int 2] = (decide (n = 1) || decide (n = 2)) := by
    unfold inV
    rw [List.any_cons, List.any_cons, List.any_nil, Bool.or_false]
    have h : ∀ m : Nat, eqV (nV m) (nV n) = decide (n = m) := fun m => by
      show (((m : Int)) == (n : Int)) = decide (n = m)
      by_cases c : n = m
      · subst c; simp
      · rw [decide_eq_false c]
        simpa using fun z : (m : Int) = (n : Int) => c (by omega)
    exact congr (congrArg _ (h 1)) (h 2)
  rw [e]
  simp
/-- a list of some kind is listed -/
theorem l_lis {K : PySem.W.Frag} {l : Addr} {xs : List V} {H : Hp} (hl : SqL K H l xs) (hz : xs.length ≤ 50000) : SpL (spLis K) [.ref l] H (.int (xs.length : Int) :: xs) := fun H1 e Q q E => ⟨l, xs, rfl, ex_l e hl, hz, fun p' H2 a b c => q p' H2 a b c⟩
theorem wrong_ok {p : Sw82.Plan} {ws : List Sw82.Work} (h : ¬ (p.wrong ws = 1 ∨ p.wrong ws = 2)) : p.linked ws = true ∧ ∃ d, p.duty ws = some d := by
  unfold Sw82.Plan.wrong at h
  by_cases c : p.linked ws = false
  · rw [if_pos c] at h
    exact absurd (Or.inl rfl) h
  · rw [if_neg c] at h
    refine ⟨by simpa using c, ?_⟩
    cases hd : p.duty ws with
    | none =>
      rw [hd] at h
      exact absurd (Or.inr rfl) h
    | some d => exact ⟨d, rfl⟩
theorem out_len (p : Sw82.Plan) (l : List Nat) : (Sw82.dutyOut p l).length ≤ l.length + 4 := by
  unfold Sw82.dutyOut
  split
  · rw [List.length_append]
    unfold Sw82.ints
    rw [List.length_map]
    show 4 + _ ≤ _
    omega
  · unfold Sw82.ints
    rw [List.length_map]
    omega
section
variable {P : Program} {w : World} {K : PySem.W.Frag} {mg : Str → Option Value} {base : Heap} {Z : Cs}
theorem l_told {a : Addr} {H : Hp} {p : Sw82.Plan} {ns : List Nat} {d : Sw82.Duty} (D : DutyAt Z H a p ns) (h1 : p.linked (wsOf p ns) = true) (h2 : p.duty (wsOf p ns) = some d) (h3 : ns.length ≤ 100) : SpL (spTold Z) [.ref a] H ((Sw82.dutyOut p (p.inOrder ns)).map V.int) := fun H1 e Q q E =>
  ⟨a, p, ns, d, rfl, D.mono e, h1, h2, h3, fun p' H2 a b c => q p' H2 a b c⟩
theorem DutyAt.mof {a : Addr} {H : Hp} {p : Sw82.Plan} {ns : List Nat} (D : DutyAt Z H a p ns) {m : Str} (hm : m ∉ nDuty) : MOf H a Z.U m := by
  obtain ⟨q, v, h, _⟩ := D
  exact Dw.mof h hm
theorem ok_chk {f : Addr} {fd : FuncData} (F : Fun K "check" "Desk.check" sChk f fd) (T : Txt K mg Z) (hNeed : HasF P w K mg base (L2.CX P w) 3 "need" (spNeed Z)) (hDuty : HasC P w K mg base CX0 6 "Duty" Z.U (spDuty K Z)) (hTold : HasM P w K mg base CX0 1 Z.U "told" (spTold Z)) (hLis : HasF P w K mg base CX0 1 "listed" (spLis K)) : FnOk P w K mg base (L2.CX P w) 8 f fd ["self", "numbers"] (spChk K Z) := by
  refine F.okX scChk (fun vs H Q E h => ?_) (fun cdv A outer s H vs Q E hr h => ?_)
  · obtain ⟨k, l, d, A, p, ns, rfl, _⟩ := h
    rfl
  · obtain ⟨k, l, d, A, p, ns, rfl, D, hl, hlen, an⟩ := h
    have hr3 : Room 3 _ := hr.mono (by decide)
    have hr1 : Room 1 _ := hr.mono (by decide)
    refine ⟨_, pss_cons (ps_expr (pe_cl (E := E) hNeed hr3 (passes_call (takes_of rfl rfl rfl rfl) (fun _ _ _ _ h => h)) (pa_cons (pe_and (pe_cmpR (op_neD hr.units) (pv 1) (pe_lst pa_nil) (nomark _)) (pe_one (pe_callB (cr_all rfl) (by rfl) T.bAll (by decide +kernel) (pa_cons (pe_lc (own := [("one", 3), ("other", 4)]) (g := gTup K 2 (gCons (gName 3) (gCons (gName 4) gNil))) (tt := tYes) (te := tOp (rI0 fun i j => .bl (decide (i < j))) (tVar 3) (tVar 4)) rfl scChk.nd
          (pi_zip (by rfl) T.bZip (pa_cons (pv 1) (pa_cons (pe_slice sl_list (pv 1) (po_some pe_int) po_none) pa_nil))) (blkOk_by (N := NChk) (sc := defScope sChk) (by decide +kernel))
          (fun _ _ _ _ _ => by exact pg_tup rfl (pgs_cons (pg_name (i := 3) scChk.nd rfl (Or.inl rfl)) (pgs_cons (pg_name (i := 4) scChk.nd rfl (Or.inl rfl)) pgs_nil))) (fun _ _ _ _ _ => pts_nil)
          (fun _ _ _ _ _ => by exact pe_cmpR op_lt (pv 3) (pv 4) (nomark _))) pa_nil)))) (pa_cons (pe_k T.kNone) pa_nil))))
      (pss_cons (ps_expr (pe_cl (E := E) hNeed hr3 (passes_call (takes_of rfl rfl rfl rfl) (fun _ _ _ _ h => h)) (pa_cons (pe_cmpR op_lt (pe_ix ix_list (pv 1) (pe_un un_neg pe_int) (fun _ _ => rfl)) (pe_callB call_len_seq (by rfl) T.bLen PySem.boot_len (pa_cons (pe_fld (pe_fld (pv 0) rfl) rfl) pa_nil)) (nomark _)) (pa_cons (pe_k T.kNone) pa_nil))))
      (pss_cons (ps_set (i := 2) scChk.nd rfl (Or.inl rfl) (pe_mk (E := E0) hDuty hr pass0 (pa_cons (pe_fld (pv 0) rfl) (pa_cons (pv 1) pa_nil))))
      (pss_cons (ps_if (pt_cmpR op_in_seq (pe_fld (pv 2) rfl) (pe_tup (pa_cons (pe_k T.kGap) (pa_cons (pe_k T.kHome) pa_nil))) (by rfl)) (pss_one (ps_ret (pe_lst (pa_cons (pe_fld (pv 2) rfl) pa_nil)))) pss_nil)
      (pss_one (ps_ret (pe_op op_cat (pe_op op_cat (pe_lst (pa_cons (pe_fld (pv 2) rfl) pa_nil)) (pe_cl (E := E0) hLis hr1 pass0 (pa_cons (pe_me0 (E := E0) hTold T.cU.cl hr1 pass0 (pv 2)) pa_nil))) (pe_cl (E := E0) hLis hr1 pass0 (pa_cons (pe_lst (pa_cons (pe_fld (pv 2) rfl) (pa_cons (pe_fld (pv 2) rfl) pa_nil))) pa_nil)))))))), ?_⟩
    have hall : Ev (tCB (rAll K) (tCons (tLc (iZip K (tCons (tVar 1) (tCons (tSl (rSlL K) (tVar 1) (tPart (tC (.int 1))) tNoPart) tNil))) (gTup K 2 (gCons (gName 3) (gCons (gName 4) gNil))) tYes (tOp (rI0 fun i j => .bl (decide (i < j))) (tVar 3) (tVar 4)) [3, 4]) tNil)) [some (.ref k), some (.ref l), none, none, none] H (.bl (Sw82.rising ns)) := by
      have hsl : EvL (tSl (rSlL K) (tVar 1) (tPart (tC (.int 1))) tNoPart) [some (.ref k), some (.ref l), none, none, none] H ((ns.map nV).drop 1) := by
        rw [← cut_one]
        exact el_sl (ev_var rfl) (eo_some ev_c) eo_none hl
      have hzl : (ns.zip (ns.drop 1)).length = min (ns.map nV).length ((ns.map nV).drop 1).length := by
        rw [List.length_zip, List.length_drop, List.length_drop, List.length_map]
      refine ev_cbL (el_compA (ns.zip (ns.drop 1)) (fun z => V.bl (decide (z.1 < z.2))) (by rw [hzl, List.length_map]; omega) (it_zip (ev_var rfl) hl hsl hzl) (fun i z y H' H'' hz e1 hy => ?_)) fun q H1 hq e1 H2 e2 Q' q' => ?_
      · obtain ⟨h1, h2⟩ := zip_at hz
        obtain ⟨TT, ux, uy, rfl, hT, rfl, hux, huy⟩ := hy
        obtain ⟨x1, hx1, rfl⟩ := map_at hux
        rw [← List.map_drop] at huy
        obtain ⟨y1, hy1, rfl⟩ := map_at huy
        rw [h1] at hx1
        rw [h2] at hy1
        cases hx1
        cases hy1
        exact ⟨Ex.new hT, _, fun Q h => ⟨TT, _, rfl, SqT.of upd_same, rfl, _, _, rfl, _, _, rfl, rfl, h⟩, rfl, ev_is (ev_op (ev_var rfl) (ev_var rfl) rv_I0) (congrArg V.bl (lt_nat _ _))⟩
      · refine ⟨q, (ns.zip (ns.drop 1)).map fun z => decide (z.1 < z.2), rfl, ?_, ?_⟩
        · rw [List.map_map]
          exact SqL.of (e2 _ _ hq)
        · rw [List.all_map]
          rw [rising_zip] at q'
          exact q' H2 (Ex.refl H2)
    refine q_need (b := (!ns.isEmpty && Sw82.rising ns)) (ev_andV (ev_neNil (ev_var rfl) hl (el_lst ea_nil (by decide))) (fun _ => hall)) ev_c (fun hb H1 e1 => ?_) (fun hb H1 x e1 hx hx1 => ?_)
    · rw [Bool.and_eq_true] at hb
      obtain ⟨hb1, hris⟩ := hb
      have hne : ns ≠ [] := fun z => by subst z; cases hb1
      obtain ⟨r, y, rfl⟩ : ∃ r y, ns = r ++ [y] := ⟨ns.dropLast, ns.getLast hne, (List.dropLast_concat_getLast hne).symm⟩
      have hct := chk_of (p := p) hris
      have D1 := D.mono e1
      have hl1 := ex_l e1 hl
      obtain ⟨ts, hp, ep⟩ := D1.dep.pcs
      have hal : atI ((r ++ [y]).map nV) (-1) = some (nV y) := by
        rw [List.map_append]
        exact atI_last _ _
      refine q_need (b := decide (y < p.works.length)) (ev_is (ev_op (ev_op (ev_var rfl) (ev_un ev_c ru_neg) (rv_ixL hl1 hal)) (ev_len (ev_fld (ev_fld (ev_var rfl) (rf T.cK D1.ins 0)) (rf T.cD D1.dep.ins 4)) (SqL.of hp)) rv_I0) ?_) ev_c (fun hm H2 e2 => ?_) (fun hm H2 x e2 hx hx2 => ?_)
      · rw [List.length_map, ep.1]
        exact congrArg V.bl (lt_nat _ _)
      · rw [hm] at hct
        have hm' : y < p.works.length := of_decide_eq_true hm
        have D2 := D1.mono e2
        refine q_asgMk ((ea_cons (ev_fld (ev_var rfl) (rf T.cK D2.ins 0)) (ea_cons (ev_var rfl) ea_nil)) H2 (Ex.refl H2) _ fun H3 e3 => ?_)
        intro x dx hx hdx hne2
        have e03 := (e1.trans e2).trans e3
        refine ⟨H3, x, d, l, r ++ [y], p, rfl, young hx hdx hne2, hx, ⟨dx, upd_same⟩, ⟨A, (D.mono e03).dep⟩, ex_l e03 hl, rising_nodup hris, fun n hn => Nat.lt_of_le_of_lt (rising_last r y hris n hn) hm', hne, by omega, fun H4 e4 hDu => ⟨rfl, ?_⟩⟩
        have e04 := e03.trans e4
        obtain ⟨qq, vv, hI, hq, hv⟩ := id hDu
        refine q_when (b := inV (nV (p.wrong (wsOf p (r ++ [y])))) [V.int 1, V.int 2]) (et_test (ev_inU (ev_fld (ev_var rfl) (rf T.cU hI 7)) (eu_tup (ea_cons ev_c (ea_cons ev_c ea_nil)) (by show 2 ≤ 100000; decide)) rfl rfl)) (fun hw H5 e5 => ?_) (fun hw H5 e5 => ?_)
        · have hw' := in_two.mp hw
          have er := chk_bad hct hw'
          have e05 := e04.trans e5
          exact s_ans0 an (by rw [er]; exact D.mono e05) (Kept.of e05) (fun q hq => fresh_back e05 hq) (by rw [er]) rfl (el_lst (ea_cons (ev_fld (ev_var rfl) (rf T.cU (hI.mono e5) 7)) ea_nil) (by show 1 ≤ 100000; decide))
        · have hw' : ¬ (p.wrong (wsOf p (r ++ [y])) = 1 ∨ p.wrong (wsOf p (r ++ [y])) = 2) := fun z => by
            rw [in_two.mpr z] at hw
            cases hw
          have er := chk_yes hct hw'
          obtain ⟨hlk, du, hdu⟩ := wrong_ok hw'
          have ev := hv du hlk hdu
          subst ev
          have e05 := e04.trans e5
          have hI5 := hI.mono e5
          have hDu5 := hDu.mono e5
          have hol := out_len p (p.inOrder (r ++ [y]))
          rw [Dm.inOrder_length] at hol
          refine s_retL (el_cat2 (el_cat2 (el_lst (ea_cons (ev_fld (ev_var rfl) (rf T.cU hI5 7)) ea_nil) (by show 1 ≤ 100000; decide)) (el_clL (el_me (ev_var rfl) (hDu5.mof (by decide +kernel)) ea_nil (l_told hDu5 hlk hdu (by omega))) fun q H6 h6 e6 => l_lis (SqL.of h6) (by rw [List.length_map]; omega)) ?_) (el_clL (el_lst (ea_cons (ev_fld (ev_var rfl) (rf T.cU hI5 5)) (ea_cons (ev_fld (ev_var rfl) (rf T.cU hI5 6)) ea_nil)) (by show 2 ≤ 100000; decide)) fun q H6 h6 e6 => l_lis (SqL.of h6) (by show 2 ≤ 50000; decide)) ?_) fun q H6 hq6 e6 h6 => ?_
          · show 1 + (((Sw82.dutyOut p (p.inOrder (r ++ [y]))).map V.int).length + 1) ≤ _
            rw [List.length_map]; omega
          · rw [List.length_append]
            show 1 + (((Sw82.dutyOut p (p.inOrder (r ++ [y]))).map V.int).length + 1) + 3 ≤ _
            rw [List.length_map]; omega
          · have e06 := e05.trans e6
            refine an.1 q H6 d A (fresh_back e05 hq6) (by rw [er]; exact D.mono e06) (Kept.of e06) (ft_some (D.mono e05) hq6) ?_
            rw [h6, er]
            congr 2
            rw [List.map_append, List.map_append, List.map_cons, List.length_map]
            rfl
      · rw [hm] at hct
        exact an.no D (chk_no hct) (e1.trans e2) (fresh_back e1 hx) hx2
    · refine an.no D (chk_no ?_) e1 hx hx1
      unfold chkT
      rcases Bool.and_eq_false_iff.mp hb with q | q
      · rw [q]; simp
      · rw [q]; simp
end
end Dw
namespace Dw
open PySem PySem.Spec PyProof.Rows L2 Evl
abbrev sBst : Stmt := inClass (top 40) 7
abbrev NBst : List Str := ["self", "plans", "found", "duty"]
theorem scBst : FnScope NBst ["self"] (defScope sBst) := ⟨rfl, rfl, rfl, by decide +kernel, rfl, by decide +kernel, by decide +kernel⟩
abbrev sNvr : Stmt := inClass (top 40) 8
theorem scNvr : FnScope ["self", "found"] ["self"] (defScope sNvr) := ⟨rfl, rfl, rfl, by decide +kernel, rfl, by decide +kernel, by decide +kernel⟩
def spBst (Z : Cs) : Sp := fun vs H Q E => ∃ (k d : Addr) (A : DA) (p : Sw82.Plan), vs = [.ref k] ∧ DeskAt Z H k d A p ∧ Ans Z k d A H (res p .best) Q E
def spNvr (Z : Cs) : Sp := fun vs H Q E => ∃ (k d : Addr) (A : DA) (p : Sw82.Plan), vs = [.ref k] ∧ DeskAt Z H k d A p ∧ Ans Z k d A H (res p .never) Q E
theorem B_few {p : Sw82.Plan} (hn : p.works.length ≤ 7) : ∀ (k m : Nat), m ≤ k → m < 2 ^ p.works.length → ∀ b, Dm.B p m = some b → b.duties.length ≤ m
  | k, 0, _, _, b, hb => by
    rw [Dm.B_zero] at hb
    cases hb
    exact Nat.le_refl _
  | 0, m + 1, hk, _, _, _ => by omega
  | k + 1, m + 1, hk, hm, b, hb => by
    obtain ⟨s, b2, _, _, hs0, hsm, hb2, hdu⟩ := Dm.pick_is hn hm (Nat.succ_ne_zero m) (Dm.tab_holds hn (m + 1) hm) hb
    have := B_few hn k (m + 1 - s) (by omega) (by omega) b2 hb2
    rw [hdu, List.length_cons]
    omega
theorem s_ext {K : PySem.W.Frag} {ta te : TE} {D : Ends} {σ : L2.St} {H : Hp} {l : Addr} {xs zs : List V} (hl : H l = some (.lst xs)) (ha : Ev ta σ H (.ref l)) (h : EvL te σ H zs) (hz : xs.length + zs.length ≤ 10000000) (k : ∀ H1, Ex H H1 → D.nx σ (upd H1 l (.lst (xs ++ zs)))) :
    tDrop (tBM K "list" rExtend ta (tCons te tNil)) D σ H := ha H (Ex.refl H) _ fun H1 e1 =>
  ⟨Or.inl ⟨rfl, xs, sq_of (e1 l _ hl)⟩, h H1 e1 _ fun p H2 hp e2 h2 => ⟨l, p, xs, zs, rfl, rfl, (e1.trans e2) _ _ hl, h2, Nat.le_trans hz (by decide), k H2 (e1.trans e2)⟩⟩
theorem q_ext {K : PySem.W.Frag} {ta te : TE} {tz : TS} {D : Ends} {σ : L2.St} {H : Hp} {l : Addr} {xs zs : List V} (hl : H l = some (.lst xs)) (ha : Ev ta σ H (.ref l)) (h : EvL te σ H zs) (hz : xs.length + zs.length ≤ 10000000) (k : ∀ H1, Ex H H1 → tz D σ (upd H1 l (.lst (xs ++ zs)))) :
    tSeq (tDrop (tBM K "list" rExtend ta (tCons te tNil))) tz D σ H := s_ext (D := { D with nx := tz D }) hl ha h hz k
theorem ext_eq (A B : List Int) : (A ++ ((B.length : Int) :: B)).map V.int = A.map V.int ++ (.int ((B.map V.int).length : Int) :: B.map V.int) := by
  rw [List.map_append, List.map_cons, List.length_map]
/-- the told duties behind how many numbers they are -/
def toldAll (p : Sw82.Plan) (ss : List Nat) : List Int := (ss.map fun g => Sw82.dutyOut p (p.inOrder (Sw82.members p.works.length g))).flatMap fun w => (w.length : Int) :: w
theorem told_snoc (p : Sw82.Plan) (ss : List Nat) (s : Nat) : toldAll p (ss ++ [s]) = toldAll p ss ++ ((Sw82.dutyOut p (p.inOrder (Sw82.members p.works.length s))).length : Int) :: Sw82.dutyOut p (p.inOrder (Sw82.members p.works.length s)) := by
  unfold toldAll
  rw [List.map_append, List.flatMap_append]
  simp [List.flatMap_cons]
theorem told_len {p : Sw82.Plan} (hn : p.works.length ≤ 7) : ∀ ss : List Nat, (toldAll p ss).length ≤ 12 * ss.length
  | [] => Nat.le_refl _
  | s :: ss => by
    have h1 := told_len hn ss
    have h2 := out_len p (p.inOrder (Sw82.members p.works.length s))
    rw [Dm.inOrder_length] at h2
    have h3 := Dm.members_length p.works.length s
    have e : toldAll p (s :: ss) = ((Sw82.dutyOut p (p.inOrder (Sw82.members p.works.length s))).length : Int) :: Sw82.dutyOut p (p.inOrder (Sw82.members p.works.length s)) ++ toldAll p ss := rfl
    rw [e, List.length_append, List.length_cons, List.length_cons]
    omega
section
variable {P : Program} {w : World} {K : PySem.W.Frag} {mg : Str → Option Value} {base : Heap} {Z : Cs}
theorem ok_bst {f : Addr} {fd : FuncData} (F : Fun K "best" "Desk.best" sBst f fd) (T : Txt K mg Z) (hNeed : HasF P w K mg base (L2.CX P w) 3 "need" (spNeed Z)) (hPlans : HasC P w K mg base CX0 9 "Plans" Z.L (spPlans Z)) (hEarl : HasM P w K mg base CX0 2 Z.L "earliest" (spEarl Z)) (hTold : HasM P w K mg base CX0 1 Z.U "told" (spTold Z)) (hLis : HasF P w K mg base CX0 1 "listed" (spLis K)) : FnOk P w K mg base (L2.CX P w) 11 f fd ["self"] (spBst Z) := by
  refine F.okX scBst (fun vs H Q E h => ?_) (fun cdv A outer s H vs Q E hr h => ?_)
  · obtain ⟨k, d, A, p, rfl, _⟩ := h
    rfl
  · obtain ⟨k, d, A, p, rfl, D, an⟩ := h
    have hr3 : Room 3 _ := hr.mono (by decide)
    have hr2 : Room 2 _ := hr.mono (by decide)
    have hr1 : Room 1 _ := hr.mono (by decide)
    refine ⟨_, pss_cons (ps_set (i := 1) scBst.nd rfl (Or.inl rfl) (pe_mk (E := E0) hPlans hr pass0 (pa_cons (pe_fld (pv 0) rfl) pa_nil)))
      (pss_cons (ps_expr (pe_cl (E := E) hNeed hr3 (passes_call (takes_of rfl rfl rfl rfl) (fun _ _ _ _ h => h)) (pa_cons (pe_cmpR op_notN (pe_ix ix_list (pe_fld (pv 1) rfl) (pe_fld (pv 1) rfl) (fun _ _ => rfl)) pe_non (nomark _)) (pa_cons (pe_k T.kNoWay) pa_nil))))
      (pss_cons (ps_set (i := 2) scBst.nd rfl (Or.inl rfl) (pe_op op_cat (pe_lst (pa_cons (pe_ix ix_list (pe_fld (pv 1) rfl) (pe_fld (pv 1) rfl) (fun _ _ => rfl)) pa_nil)) (pe_cl (E := E0) hLis hr1 pass0 (pa_cons (pe_lst (pa_cons (pe_ix ix_list (pe_fld (pv 1) rfl) (pe_fld (pv 1) rfl) (fun _ _ => rfl)) pa_nil)) pa_nil))))
      (pss_cons (ps_for (passes_of rfl) rfl (pi_list (pe_me0 (E := E0) hEarl T.cL.cl hr2 pass0 (pv 1))) (pg_name (i := 3) scBst.nd rfl (Or.inl rfl))
        (pss_one (ps_expr (pe_bm PySem.F.plainAttrs_list PySem.F.slot_list_extend PySem.F.type_list_extend mt_extend (pv 2) (pa_cons (pe_cl (E := E0) hLis hr1 pass0 (pa_cons (pe_me0 (E := E0) hTold T.cU.cl hr1 pass0 (pv 3)) pa_nil)) pa_nil)))))
      (pss_one (ps_ret (pv 2)))))), ?_⟩
    refine q_asgMk ((ea_cons (ev_fld (ev_var rfl) (rf T.cK D.ins 0)) ea_nil) H (Ex.refl H) _ fun H1 e1 => ?_)
    intro x dx hx hdx hne
    refine ⟨H1, x, d, p, rfl, young hx hdx hne, hx, ⟨dx, upd_same⟩, ⟨A, (D.mono e1).dep⟩, fun H0 H2 q a b kvs e2 PA => ⟨rfl, ?_⟩⟩
    have e02 := e1.trans (e2.trans PA.ex)
    have hpos := Nat.two_pow_pos p.works.length
    have h2n : 2 ^ p.works.length ≤ 2 ^ 7 := Nat.pow_le_pow_right (by decide) PA.wk
    have hwh : whole p = 2 ^ p.works.length - 1 := rfl
    have hT : (Dm.tab p (whole p)).getD (whole p) (none, 0) = Dm.ofB p.best := by
      rw [Dm.best_is]
      exact Dm.tab_holds PA.wk (whole p) (by omega) (whole p) (Nat.lt_succ_self _)
    have hlt : whole p < (Dm.tab p (whole p)).length := by rw [Dm.tab_len]; omega
    have pays : ∀ {H3 : Hp} {σ : L2.St}, Ex H2 H3 → σ[1]? = some (some (.ref x)) → Ev (tOp (rIxL K) (tFld K (tVar 1) "pays") (tFld K (tVar 1) "whole")) σ H3 (oV (Dm.ofB p.best).1) := fun {H3 σ} e hσ => by
      rw [← hT]
      have P3 := PA.mono e
      exact ev_op (ev_fld (ev_var hσ) (rf T.cL P3.ins 2)) (ev_fld (ev_var hσ) (rf T.cL P3.ins 1)) (rv_ixL (SqL.of P3.pa) (at_map (d := (none, 0)) hlt))
    have ways : ∀ {H3 : Hp} {σ : L2.St}, Ex H2 H3 → σ[1]? = some (some (.ref x)) → Ev (tOp (rIxL K) (tFld K (tVar 1) "ways") (tFld K (tVar 1) "whole")) σ H3 (nV (Dm.ofB p.best).2) := fun {H3 σ} e hσ => by
      rw [← hT]
      have P3 := PA.mono e
      exact ev_op (ev_fld (ev_var hσ) (rf T.cL P3.ins 3)) (ev_fld (ev_var hσ) (rf T.cL P3.ins 1)) (rv_ixL (SqL.of P3.wa) (at_map (d := (none, 0)) hlt))
    cases hB : p.best with
    | none =>
      rw [hB] at pays
      refine q_need (b := false) (ev_is (ev_op (pays (Ex.refl H2) rfl) ev_c rv_notN) rfl) ev_c (fun hb => by cases hb) (fun _ H3 y e3 hy hy3 => ?_)
      exact an.no D (best_no hB) (e02.trans e3) (fresh_back e02 hy) hy3
    | some bd =>
      rw [hB] at pays ways
      have er := best_yes hB
      have hBw : Dm.B p (whole p) = some bd := by rw [← hB, Dm.best_is]
      have hfew := B_few PA.wk (whole p) (whole p) (Nat.le_refl _) (by omega) bd hBw
      refine q_need (b := true) (ev_is (ev_op (pays (Ex.refl H2) rfl) ev_c rv_notN) rfl) ev_c (fun _ H3 e3 => ?_) (fun hb => by cases hb)
      have hcat : EvL (tOp rCat (tLst (tCons (tOp (rIxL K) (tFld K (tVar 1) "pays") (tFld K (tVar 1) "whole")) tNil)) (tCl (spLis K) E0 (tCons (tLst (tCons (tOp (rIxL K) (tFld K (tVar 1) "ways") (tFld K (tVar 1) "whole")) tNil)) tNil))) [some (.ref k), some (.ref x), none, none] H3 (([(bd.cost : Int), 1, (bd.many : Int)]).map V.int) :=
        el_cat2 (el_lst (ea_cons (pays e3 rfl) ea_nil) (by show 1 ≤ 100000; decide)) (el_clL (el_lst (ea_cons (ways e3 rfl) ea_nil) (by show 1 ≤ 100000; decide)) fun q H6 h6 e6 => l_lis (SqL.of h6) (by show 1 ≤ 50000; decide)) (by show 1 + 2 ≤ 100000; decide)
      refine q_asgL hcat fun f0 H4 hf0 e4 h4 => ?_
      have P4 := PA.mono (e3.trans e4)
      obtain ⟨dy, hx4⟩ := P4.ins
      have hf02 : H2 f0 = none := fresh_back e3 hf0
      have hf0H : H f0 = none := fresh_back e02 hf02
      have hf00 : H0 f0 = none := fresh_back PA.ex hf02
      refine ⟨_, rfl, x, dy, _, rfl, hx4, lookup_zip_none (by decide +kernel), H0, x, q, a, b, kvs, p, bd, rfl, P4, hBw, fun ff as H5 e5 hff hE => ?_⟩
      have hf05 := e5 _ _ h4
      have hne5 : ff ≠ f0 := fun z => by
        subst z
        rw [hff] at hf05
        cases as with
        | nil => cases hf05
        | cons t as => cases hf05
      have e05 := e02.trans (e3.trans (e4.trans e5))
      have e0H5 : Ex H0 H5 := P4.ex.trans e5
      refine ⟨ff, rfl, ⟨_, SqL.of hff⟩, for_list (K := K) (a := ff) (xs := as.map V.ref) (fun i σ' H' => ∃ dv : Option V, σ' = [some (.ref k), some (.ref x), some (.ref f0), dv] ∧ (∀ c o, H5 c = some o → c ≠ f0 → H' c = some o) ∧ H' f0 = some (.lst (([(bd.cost : Int), 1, (bd.many : Int)] ++ toldAll p (bd.duties.take i)).map V.int)))
        ⟨none, rfl, fun c o h _ => h, hf05⟩ (fun i σ' H' _ ⟨_, _, h1, _⟩ => SqL.of (h1 _ _ hff hne5)) (fun i y σ' H' hi hV => ?_) (fun σ' H' hV => ?_)⟩
      · obtain ⟨dv, rfl, hst, hl⟩ := hV
        obtain ⟨t, ht, rfl⟩ := map_at hi
        obtain ⟨s', hs'⟩ := at_of_lt (l := bd.duties) (n := i) (by rw [← hE.1]; exact (List.getElem?_eq_some_iff.mp ht).1)
        obtain ⟨hDu, hri⟩ := hE.2 i t s' ht hs'
        have e0' : Ex H0 H' := fun c o h => hst c o (e0H5 c o h) (ne_of_none h hf00)
        have hDu' := hDu.mono e0'
        obtain ⟨hlk, du, hdu⟩ := right_duty (Dm.rights_mem.mp hri).2.2
        have hwk := PA.wk
        have hml := Dm.members_length p.works.length s'
        have hol := out_len p (p.inOrder (Sw82.members p.works.length s'))
        rw [Dm.inOrder_length] at hol
        have htl := told_len PA.wk (bd.duties.take i)
        have htk := List.length_take_le i bd.duties
        have hi' : i < bd.duties.length := (List.getElem?_eq_some_iff.mp hs').1
        refine s_ext (xs := ([(bd.cost : Int), 1, (bd.many : Int)] ++ toldAll p (bd.duties.take i)).map V.int) (zs := .int (((Sw82.dutyOut p (p.inOrder (Sw82.members p.works.length s'))).map V.int).length : Int) :: (Sw82.dutyOut p (p.inOrder (Sw82.members p.works.length s'))).map V.int) hl (ev_var rfl) (el_clL (el_me (ev_var rfl) (hDu'.mof (by decide +kernel)) ea_nil (l_told hDu' hlk hdu (by omega))) fun q H6 h6 e6 => l_lis (SqL.of h6) (by rw [List.length_map]; omega)) ?_ fun H6 e6 => ⟨_, rfl, fun c o h n => ?_, ?_⟩
        · have htk3 := List.length_take_le i bd.duties
          rw [List.length_map, List.length_append, List.length_cons (a := V.int _), List.length_map]
          show 3 + (toldAll p (bd.duties.take i)).length + ((Sw82.dutyOut p (p.inOrder (Sw82.members p.works.length s'))).length + 1) ≤ 10000000
          omega
        · rw [upd_ne n]
          exact e6 _ _ (hst c o h n)
        · rw [upd_same]
          have et : bd.duties.take (i + 1) = bd.duties.take i ++ [s'] := by rw [List.take_add_one, hs']; rfl
          rw [et, told_snoc, ← List.append_assoc, ext_eq]
      · obtain ⟨dv, rfl, hst, hl⟩ := hV
        rw [List.length_map, hE.1, List.take_length] at hl
        have eH' : Ex H H' := fun c o h => hst c o (e05 c o h) (ne_of_none h hf0H)
        refine s_ret (ev_var rfl) fun H6 e6 => ?_
        refine an.1 f0 H6 d A hf0H (by rw [er]; exact D.mono (eH'.trans e6)) (Kept.of (eH'.trans e6)) (ft_some D hf0H) ?_
        rw [er]
        exact e6 _ _ hl
theorem ok_nvr {f : Addr} {fd : FuncData} (F : Fun K "never" "Desk.never" sNvr f fd) (T : Txt K mg Z) (hNev : HasF P w K mg base CX0 9 "never_used" (spNev Z)) (hLis : HasF P w K mg base CX0 1 "listed" (spLis K)) : FnOk P w K mg base CX0 10 f fd ["self"] (spNvr Z) := by
  refine F.ok scNvr (fun vs H Q E h => ?_) (fun cdv A outer s H vs Q E hr h => ?_)
  · obtain ⟨k, d, A, p, rfl, _⟩ := h
    rfl
  · obtain ⟨k, d, A, p, rfl, D, an⟩ := h
    have hr1 : Room 1 _ := hr.mono (by decide)
    refine ⟨_, pss_cons (ps_set (i := 1) scNvr.nd rfl (Or.inl rfl) (pe_cl (E := E0) hNev hr pass0 (pa_cons (pe_fld (pv 0) rfl) pa_nil)))
      (pss_one (ps_ret (pe_op op_cat (pe_lst (pa_cons (pe_callB call_len_seq (by rfl) T.bLen PySem.boot_len (pa_cons (pv 1) pa_nil)) pa_nil)) (pe_cl (E := E0) hLis hr1 pass0 (pa_cons (pv 1) pa_nil))))), ?_⟩
    have hn : p.never.length ≤ 7 := by
      have h := List.length_filter_le (fun i => (List.range (2 ^ p.works.length)).all fun g => !g.testBit i || p.wrong (p.works_ g) != 0) (List.range p.works.length)
      rw [List.length_range] at h
      exact Nat.le_trans h D.dep.good.works
    refine q_asgL (el_cl (xs := p.never.map nV) (ea_cons (ev_fld (ev_var rfl) (rf T.cK D.ins 0)) ea_nil) (fun H1 e Q q E => ⟨d, p, rfl, ⟨A, (D.mono e).dep⟩, fun p' H2 a b c => q p' H2 a b c⟩)) fun l H1 hl e1 h1 => ?_
    refine s_retL (el_cat2 (el_lst (ea_cons (ev_len (ev_var rfl) (SqL.of h1)) ea_nil) (by show 1 ≤ 100000; decide)) (el_cl (ea_cons (ev_var rfl) ea_nil) (l_lis (SqL.of h1) (by rw [List.length_map]; omega))) (by show 1 + ((p.never.map nV).length + 1) ≤ _; rw [List.length_map]; omega)) fun q H2 hq e2 h2 => ?_
    have e := e1.trans e2
    refine an.1 q H2 d A (fresh_back e1 hq) (by rw [never_res]; exact D.mono e) (Kept.of e) (ft_some (D.mono e1) hq) ?_
    rw [h2, never_res, List.length_map]
    congr 2
    rw [List.map_cons, List.map_cons]
    unfold Sw82.ints
    rw [map_nV]
    rfl
end
end Dw
namespace Dw
open PySem PySem.Spec PyProof.Rows L2 Evl
abbrev sAnw : Stmt := inClass (top 40) 9
abbrev NAnw : List Str := ["self", "call", "numbers", "row"]
theorem scAnw : FnScope NAnw NAnw (defScope sAnw) := ⟨rfl, rfl, rfl, by decide +kernel, rfl, by decide +kernel, by decide +kernel⟩
abbrev sAnd : Stmt := top 41
abbrev NAnd : List Str := ["desk", "call", "numbers", "row", "found", "refused"]
theorem scAnd : FnScope NAnd ["desk", "call", "numbers", "row"] (defScope sAnd) := ⟨rfl, rfl, rfl, by decide +kernel, rfl, by decide +kernel, by decide +kernel⟩
/-- which call the numbers are -/
inductive CallIs : Int → List Int → List Int → Sw82.Call → Prop
  | beg (a b c d e f g h i : Nat) (ys : List Int) : CallIs 0 [(a : Int), b, c, d, e, f, g, h, i] ys (.begins ⟨a, b, c, d, e, f, g, h, i⟩)
  | pla (i b h : Nat) (ys : List Int) : CallIs 1 [(i : Int), b, h] ys (.place i (b == 1) (h == 1))
  | way (a b n : Nat) (ys : List Int) : CallIs 2 [(a : Int), b, n] ys (.way a b n)
  | wor (a b s t : Nat) (ys : List Int) : CallIs 3 [(a : Int), b, s, t] ys (.work ⟨a, b, s, t⟩)
  | dro (n : Nat) (ys : List Int) : CallIs 4 [(n : Int)] ys (.drop n)
  | chk (ns : List Nat) (h : ns.length ≤ 20) : CallIs 5 [] (ns.map fun n : Nat => (n : Int)) (.check ns)
  | best (ys : List Int) : CallIs 6 [] ys .best
  | never (ys : List Int) : CallIs 7 [] ys .never
def spAnw (K : PySem.W.Frag) (Z : Cs) : Sp := fun vs H Q E => ∃ (k n r d : Addr) (c : Int) (xs ys : List Int) (A : DA) (p : Sw82.Plan) (cl : Sw82.Call), vs = [.ref k, .int c, .ref n, .ref r] ∧ DeskAt Z H k d A p ∧ SqL K H n (xs.map V.int) ∧ SqL K H r (ys.map V.int) ∧ CallIs c xs ys cl ∧ Ans Z k d A H (res p cl) Q E
/-- answered: no error is left -/
def spAnd (K : PySem.W.Frag) (Z : Cs) : Sp := fun vs H Q _ => ∃ (k n r d : Addr) (c : Int) (xs ys : List Int) (A : DA) (p : Sw82.Plan) (cl : Sw82.Call), vs = [.ref k, .int c, .ref n, .ref r] ∧ DeskAt Z H k d A p ∧ SqL K H n (xs.map V.int) ∧ SqL K H r (ys.map V.int) ∧ CallIs c xs ys cl ∧
  ∀ q H' d' A', (∀ b o, H b = some o → b ∉ ft k d A → b ≠ q) → DeskAt Z H' k d' A' (res p cl).1 → Kept k d A H d' A' H' → q ∉ ft k d' A' → H' q = some (.lst ((res p cl).2.map V.int)) → Q (.ref q) H'
theorem Ans.mono {Z : Cs} {k d : Addr} {A : DA} {H H1 : Hp} {r : Sw82.Plan × List Int} {Q : VK} {E : XK} (e : Ex H H1) (a : Ans Z k d A H r Q E) : Ans Z k d A H1 r Q E :=
  ⟨fun q H' d' A' hq hD hK hf h => a.1 q H' d' A' (fresh_back e hq) hD (fun b o hb n => hK b o (e _ _ hb) n) hf h, fun c x H' d' A' hr hx h hD hK => a.2 c x H' d' A' hr (fresh_back e hx) h hD (fun b o hb n => hK b o (e _ _ hb) n)⟩
theorem q_skip {n c : Int} {tu tz : TS} {D : Ends} {σ : L2.St} {H : Hp} (hσ : σ[1]? = some (some (.int c))) (hc : ¬ c = n) (k : ∀ H1, Ex H H1 → tz D σ H1) : tSeq (tIfS (tTest (tOp rEq (tVar 1) (tC (.int n)))) tu tNext) tz D σ H :=
  q_when (b := false) (et_is (et_test (ev_op (ev_var hσ) ev_c (rv_eq rfl))) (decide_eq_false fun z => hc (by injection z))) (fun z => by cases z) fun _ => k
theorem q_hit {n : Int} {tu tz : TS} {D : Ends} {σ : L2.St} {H : Hp} (hσ : σ[1]? = some (some (.int n))) (k : ∀ H1, Ex H H1 → tu { D with nx := tz D } σ H1) : tSeq (tIfS (tTest (tOp rEq (tVar 1) (tC (.int n)))) tu tNext) tz D σ H :=
  q_when (b := true) (et_is (et_test (ev_op (ev_var hσ) ev_c (rv_eq rfl))) (decide_eq_true rfl)) (fun _ => k) fun z => by cases z
/-- return self.m(..) -/
theorem s_retM {K : PySem.W.Frag} {Z : Cs} {t : TA} {m : Str} {sp : Sp} {E : XK} {D : Ends} {σ : L2.St} {H : Hp} {k d : Addr} {A : DA} {p : Sw82.Plan} {vs : List V} (hσ : σ[0]? = some (some (.ref k))) (hD : DeskAt Z H k d A p) (hm : m ∉ nDesk) (ht : EvA t σ H vs) (g : ∀ H1, Ex H H1 → sp (.ref k :: vs) H1 D.rt E) : tRet (tMe Z.K m sp E (tVar 0) t) D σ H := by
  obtain ⟨dx, hk⟩ := hD.ins
  exact ⟨_, hσ, k, dx, _, rfl, hk, lookup_zip_none hm, ht H (Ex.refl H) _ g⟩
section
variable {P : Program} {w : World} {K : PySem.W.Frag} {mg : Str → Option Value} {base : Heap} {Z : Cs}
theorem ev_at {l : Addr} {xs : List Int} {H : Hp} {σ : L2.St} {i j : Nat} {z : Int} (hσ : σ[i]? = some (some (.ref l))) (hl : SqL K H l (xs.map V.int)) (h : xs[j]? = some z) : Ev (tOp (rIxL K) (tVar i) (tC (.int (j : Int)))) σ H (.int z) := ev_op (ev_var hσ) ev_c (rv_ixL hl (atI_nat (by rw [List.getElem?_map, h]; rfl)))
theorem ok_anw {f : Addr} {fd : FuncData} (F : Fun K "answer" "Desk.answer" sAnw f fd) (T : Txt K mg Z) (h0 : HasM P w K mg base (L2.CX P w) 5 Z.K "begins" (spBeg K Z)) (h1 : HasM P w K mg base (L2.CX P w) 5 Z.K "place" (spPla Z)) (h2 : HasM P w K mg base (L2.CX P w) 5 Z.K "way" (spWay Z)) (h3 : HasM P w K mg base (L2.CX P w) 5 Z.K "add_work" (spWor Z))
    (h4 : HasM P w K mg base (L2.CX P w) 5 Z.K "drop" (spDro Z)) (h5 : HasM P w K mg base (L2.CX P w) 8 Z.K "check" (spChk K Z)) (h6 : HasM P w K mg base (L2.CX P w) 11 Z.K "best" (spBst Z)) (h7 : HasM P w K mg base CX0 10 Z.K "never" (spNvr Z)) : FnOk P w K mg base (L2.CX P w) 12 f fd NAnw (spAnw K Z) := by
  refine F.okX scAnw (fun vs H Q E h => ?_) (fun cdv A outer s H vs Q E hr h => ?_)
  · obtain ⟨k, n, r, d, c, xs, ys, A, p, cl, rfl, _⟩ := h
    rfl
  · obtain ⟨k, n, r, d, c, xs, ys, A, p, cl, rfl, D, hn, hrw, hc, an⟩ := h
    have hr5 : Room 5 _ := hr.mono (by decide)
    have hr8 : Room 8 _ := hr.mono (by decide)
    have hr10 : Room 10 _ := hr.mono (by decide)
    refine ⟨_, pss_cons (ps_if (pt_cmpR op_eq (pv 1) pe_int (nomark _)) (pss_one (ps_ret (pe_me (E := E) h0 T.cK.cl hr5 (passes_call (takes_of rfl rfl rfl rfl) (fun _ _ _ _ h => h)) (pv 0) (pa_cons (pv 2) pa_nil)))) pss_nil)
      (pss_cons (ps_if (pt_cmpR op_eq (pv 1) pe_int (nomark _)) (pss_one (ps_ret (pe_me (E := E) h1 T.cK.cl hr5 (passes_call (takes_of rfl rfl rfl rfl) (fun _ _ _ _ h => h)) (pv 0) (pa_cons (pe_ix ix_list (pv 2) pe_int (fun _ _ => rfl)) (pa_cons (pe_ix ix_list (pv 2) pe_int (fun _ _ => rfl)) (pa_cons (pe_ix ix_list (pv 2) pe_int (fun _ _ => rfl)) pa_nil)))))) pss_nil)
      (pss_cons (ps_if (pt_cmpR op_eq (pv 1) pe_int (nomark _)) (pss_one (ps_ret (pe_me (E := E) h2 T.cK.cl hr5 (passes_call (takes_of rfl rfl rfl rfl) (fun _ _ _ _ h => h)) (pv 0) (pa_cons (pe_ix ix_list (pv 2) pe_int (fun _ _ => rfl)) (pa_cons (pe_ix ix_list (pv 2) pe_int (fun _ _ => rfl)) (pa_cons (pe_ix ix_list (pv 2) pe_int (fun _ _ => rfl)) pa_nil)))))) pss_nil)
      (pss_cons (ps_if (pt_cmpR op_eq (pv 1) pe_int (nomark _)) (pss_one (ps_ret (pe_me (E := E) h3 T.cK.cl hr5 (passes_call (takes_of rfl rfl rfl rfl) (fun _ _ _ _ h => h)) (pv 0) (pa_cons (pe_ix ix_list (pv 2) pe_int (fun _ _ => rfl)) (pa_cons (pe_ix ix_list (pv 2) pe_int (fun _ _ => rfl)) (pa_cons (pe_ix ix_list (pv 2) pe_int (fun _ _ => rfl)) (pa_cons (pe_ix ix_list (pv 2) pe_int (fun _ _ => rfl)) pa_nil))))))) pss_nil)
      (pss_cons (ps_if (pt_cmpR op_eq (pv 1) pe_int (nomark _)) (pss_one (ps_ret (pe_me (E := E) h4 T.cK.cl hr5 (passes_call (takes_of rfl rfl rfl rfl) (fun _ _ _ _ h => h)) (pv 0) (pa_cons (pe_ix ix_list (pv 2) pe_int (fun _ _ => rfl)) pa_nil)))) pss_nil)
      (pss_cons (ps_if (pt_cmpR op_eq (pv 1) (pe_k T.kCheck) (nomark _)) (pss_one (ps_ret (pe_me (E := E) h5 T.cK.cl hr8 (passes_call (takes_of rfl rfl rfl rfl) (fun _ _ _ _ h => h)) (pv 0) (pa_cons (pv 3) pa_nil)))) pss_nil)
      (pss_cons (ps_if (pt_cmpR op_eq (pv 1) pe_int (nomark _)) (pss_one (ps_ret (pe_me0 (E := E) h6 T.cK.cl hr (passes_call (takes_of rfl rfl rfl rfl) (fun _ _ _ _ h => h)) (pv 0)))) pss_nil)
      (pss_one (ps_ret (pe_me0 (E := E0) h7 T.cK.cl hr10 pass0 (pv 0)))))))))), ?_⟩
    cases hc with
    | beg a b c d e f g h i ys =>
      refine q_hit rfl fun H1 e1 => s_retM (K := K) rfl (D.mono e1) (by decide +kernel) (ea_cons (ev_var rfl) ea_nil) fun H2 e2 => ?_
      exact ⟨k, n, _, A, p, ⟨a, b, c, d, e, f, g, h, i⟩, rfl, D.mono (e1.trans e2), ex_l (e1.trans e2) hn, an.mono (e1.trans e2)⟩
    | pla i b h ys =>
      refine q_skip rfl (by decide) fun H1 e1 => q_hit rfl fun H2 e2 => ?_
      have e := e1.trans e2
      refine s_retM (K := K) rfl (D.mono e) (by decide +kernel) (ea_cons (ev_at (j := 0) rfl (ex_l e hn) rfl) (ea_cons (ev_at (j := 1) rfl (ex_l e hn) rfl) (ea_cons (ev_at (j := 2) rfl (ex_l e hn) rfl) ea_nil))) fun H3 e3 => ?_
      exact ⟨k, d, A, p, i, b, h, rfl, D.mono (e.trans e3), an.mono (e.trans e3)⟩
    | way a b m ys =>
      refine q_skip rfl (by decide) fun H1 e1 => q_skip rfl (by decide) fun H2 e2 => q_hit rfl fun H3 e3 => ?_
      have e := (e1.trans e2).trans e3
      refine s_retM (K := K) rfl (D.mono e) (by decide +kernel) (ea_cons (ev_at (j := 0) rfl (ex_l e hn) rfl) (ea_cons (ev_at (j := 1) rfl (ex_l e hn) rfl) (ea_cons (ev_at (j := 2) rfl (ex_l e hn) rfl) ea_nil))) fun H4 e4 => ?_
      exact ⟨k, d, A, p, a, b, m, rfl, D.mono (e.trans e4), an.mono (e.trans e4)⟩
    | wor a b s t ys =>
      refine q_skip rfl (by decide) fun H1 e1 => q_skip rfl (by decide) fun H2 e2 => q_skip rfl (by decide) fun H3 e3 => q_hit rfl fun H4 e4 => ?_
      have e := ((e1.trans e2).trans e3).trans e4
      refine s_retM (K := K) rfl (D.mono e) (by decide +kernel) (ea_cons (ev_at (j := 0) rfl (ex_l e hn) rfl) (ea_cons (ev_at (j := 1) rfl (ex_l e hn) rfl) (ea_cons (ev_at (j := 2) rfl (ex_l e hn) rfl) (ea_cons (ev_at (j := 3) rfl (ex_l e hn) rfl) ea_nil)))) fun H5 e5 => ?_
      exact ⟨k, d, A, p, ⟨a, b, s, t⟩, rfl, D.mono (e.trans e5), an.mono (e.trans e5)⟩
    | dro m ys =>
      refine q_skip rfl (by decide) fun H1 e1 => q_skip rfl (by decide) fun H2 e2 => q_skip rfl (by decide) fun H3 e3 => q_skip rfl (by decide) fun H4 e4 => q_hit rfl fun H5 e5 => ?_
      have e := (((e1.trans e2).trans e3).trans e4).trans e5
      refine s_retM (K := K) rfl (D.mono e) (by decide +kernel) (ea_cons (ev_at (j := 0) rfl (ex_l e hn) rfl) ea_nil) fun H6 e6 => ?_
      exact ⟨k, d, A, p, m, rfl, D.mono (e.trans e6), an.mono (e.trans e6)⟩
    | chk ns h20 =>
      refine q_skip rfl (by decide) fun H1 e1 => q_skip rfl (by decide) fun H2 e2 => q_skip rfl (by decide) fun H3 e3 => q_skip rfl (by decide) fun H4 e4 => q_skip rfl (by decide) fun H5 e5 => q_hit rfl fun H6 e6 => ?_
      have e := ((((e1.trans e2).trans e3).trans e4).trans e5).trans e6
      refine s_retM (K := K) rfl (D.mono e) (by decide +kernel) (ea_cons (ev_var rfl) ea_nil) fun H7 e7 => ?_
      rw [map_nV] at hrw
      exact ⟨k, r, d, A, p, ns, rfl, D.mono (e.trans e7), ex_l (e.trans e7) hrw, h20, an.mono (e.trans e7)⟩
    | best ys =>
      refine q_skip rfl (by decide) fun H1 e1 => q_skip rfl (by decide) fun H2 e2 => q_skip rfl (by decide) fun H3 e3 => q_skip rfl (by decide) fun H4 e4 => q_skip rfl (by decide) fun H5 e5 => q_skip rfl (by decide) fun H6 e6 => q_hit rfl fun H7 e7 => ?_
      have e := (((((e1.trans e2).trans e3).trans e4).trans e5).trans e6).trans e7
      refine s_retM (K := K) rfl (D.mono e) (by decide +kernel) ea_nil fun H8 e8 => ?_
      exact ⟨k, d, A, p, rfl, D.mono (e.trans e8), an.mono (e.trans e8)⟩
    | never ys =>
      refine q_skip rfl (by decide) fun H1 e1 => q_skip rfl (by decide) fun H2 e2 => q_skip rfl (by decide) fun H3 e3 => q_skip rfl (by decide) fun H4 e4 => q_skip rfl (by decide) fun H5 e5 => q_skip rfl (by decide) fun H6 e6 => q_skip rfl (by decide) fun H7 e7 => ?_
      have e := (((((e1.trans e2).trans e3).trans e4).trans e5).trans e6).trans e7
      refine s_retM (K := K) rfl (D.mono e) (by decide +kernel) ea_nil fun H8 e8 => ?_
      have a8 := an.mono (e.trans e8)
      exact ⟨k, d, A, p, rfl, D.mono (e.trans e8), ⟨a8.1, fun c x H' d' A' hr => by
        have : (res p .never).2 = [c] := hr
        rw [never_res] at this
        cases this⟩⟩
/-- o.m(e, ..) within a try: what it raises is wished for at the slots as they stand -/
def tMeS (C : Addr) (m : Str) (sp : Sp) (E : L2.St → XK) (ta : TE) (t : TA) : TE := fun σ H Q => ta σ H fun x H1 => ∃ a dx fs, x = .ref a ∧ H1 a = some (.ins C dx fs) ∧ fs.lookup m = none ∧ t σ H1 fun vs H2 => sp (x :: vs) H2 Q (E σ)
theorem pe_meS {X : Cx} {CX : CXT} {k : Nat} {C : Addr} {sp : Sp} {E : L2.St → XK} {m : Str} {pos apos : Pos} {e o : Expr} {es : List Expr} {ta : TE} {t : TA} {pl : Sem Bool} (h : HasM X.prog X.w X.K X.mg X.base CX k C m sp) (he : PE X o ta) (c : Cls X.K C)
    (hr : Room k X.A) (hx : ∀ σ, PassesAt CX X σ (E σ)) (ha : PA X (e :: es) t)
    (hst : starEach (e :: es) X.env = (false, eval e X.env) :: starEach es X.env := by rfl) (hpl : (backTo pos (starEach es X.env)).any (·.1) = false := by rfl)
    (ht : eval (.Call (.Attribute o m apos) (e :: es) [] pos) X.env = (do
      let ov ← eval o X.env
      standAt apos.atName
      let (f, first) ← holding [ov] (getMethod ov m pl)
      callWith pos f first (backTo pos (starEach (e :: es) X.env)) (backToKw pos (keywordEach [] X.env))) := by rfl) :
    PE X (.Call (.Attribute o m apos) (e :: es) [] pos) (tMeS C m sp E ta t) := by
  obtain ⟨f, fd, ps, F, hm, hb⟩ := h
  refine ⟨fun pins s σ H Q I h => ?_⟩
  refine PySem.W.methodCall_KW (pl := pl) (thn (he.run pins s σ H _ I h) fun u s1 ⟨x, H1, I1, rx, a, dx, fs, ex, ea, l, q⟩ => ?_) ht
  subst ex
  obtain rfl : u = Value.ref a := rx
  refine getmeth_ok I1 ea c hm l ?_
  refine PySem.W.callWith_K (first := [.ref a]) (h₀ := X.base) I.ok.mod.kin hm.kp (thn (ha.run pos pins s1 σ H1 _ I1 q) fun us s2 ⟨vs, H2, I2, r, q2⟩ => ⟨I2.kIn, ?_⟩) hst hpl
  exact run_fnS (us := .ref a :: us) (vs := .ref a :: vs) F hr hb (hx σ) I2 (.cons rfl r) q2
/-- [refused.code] in the suite -/
def t_suite (Z : Cs) : Addr → Value → Option Addr → TS := fun a cls d => tAsg (tLst (tCons (tByLow Z.E a cls d (tVar 5)) tNil)) (gName 4)
theorem ok_and {f : Addr} {fd : FuncData} (F : Fun K "answered" "answered" sAnd f fd) (T : Txt K mg Z) (hAnw : HasM P w K mg base (L2.CX P w) 12 Z.K "answer" (spAnw K Z)) : FnOk P w K mg base CX0 13 f fd ["desk", "call", "numbers", "row"] (spAnd K Z) := by
  refine F.ok scAnd (fun vs H Q E h => ?_) (fun cdv A outer s H vs Q E hr h => ?_)
  · obtain ⟨k, n, r, d, c, xs, ys, A, p, cl, rfl, _⟩ := h
    rfl
  · obtain ⟨k, n, r, d, c, xs, ys, A, p, cl, rfl, D, hn, hrw, hc, an⟩ := h
    refine ⟨_, pss_cons (ps_try_as (i := 5) (tb := fun W => tAsg (tMeS Z.K "answer" (spAnw K Z) (WE W) (tVar 0) (tCons (tVar 1) (tCons (tVar 2) (tCons (tVar 3) tNil)))) (gName 4)) (ts := t_suite Z) (Wout := fun _ _ _ _ => False) rfl rfl scAnd.nd rfl rfl ⟨rfl, by decide, Or.inl T.low.gC⟩ takes0
          (fun W pn xe tk _ => pss_one (ps_set (i := 4) scAnd.nd rfl (Or.inl rfl) (by exact (pe_meS hAnw (pv 0) T.cK.cl hr (fun σ => passAt tk σ) (by exact (pa_cons (pv 1) (pa_cons (pv 2) (pa_cons (pv 3) pa_nil))))))))
          (fun a oe cls d pn hz hf => pss_one (ps_set (i := 4) scAnd.nd rfl (Or.inl rfl) (by exact (pe_lst (pa_cons (pe_byLow T.low hz hf (pv 5)) pa_nil))))))
      (pss_one (ps_ret (pv 4))), ?_⟩
    obtain ⟨dx, hk⟩ := D.ins
    refine ⟨_, rfl, k, dx, _, rfl, hk, lookup_zip_none (by decide +kernel), _, rfl, _, rfl, _, rfl, k, n, r, d, c, xs, ys, A, p, cl, rfl, D, hn, hrw, hc, ?_, ?_⟩
    · intro q H' d' A' hq hD hK hf h
      exact ⟨_, rfl, an q H' d' A' (fun b o hb _ => ne_of_none hb hq) hD hK hf h⟩
    · intro v x H' d' A' hr2 hx h hD hK
      refine ⟨true, T.low.te, fun _ a0 _ => ?_, fun z => Bool.noConfusion z⟩
      refine ⟨_, rfl, rfl, rfl, x, _, rfl, h, (by show 1 ≤ sizeLine; decide), fun q hq => ⟨_, rfl, ?_⟩⟩
      have e : Ex H' (upd H' q (.lst [.int v])) := Ex.new hq
      refine an q _ d' A' ?_ (hD.mono e) (fun b o hb nb => ⟨e _ _ (hK b o hb nb).1, (hK b o hb nb).2⟩) (ft_some hD hq) ?_
      · exact fun b o hb nb => ne_of_none (hK b o hb nb).1 hq
      · rw [hr2]
        exact upd_same
end
end Dw
namespace Dw
open PySw82 PyFlat
/-! ### how the calls lie in the list -/
theorem call_flat {p : Int} {r : List Int} {n : Nat} {c : List (List Int)} {t : List Int} (hs : shape p = some (n, 0)) (h : PyFlat.call shape (p :: r) = some (c, t)) : n ≤ r.length ∧ c = [p :: r.take n] ∧ t = r.drop n := by
  unfold PyFlat.call at h
  simp only [hs] at h
  by_cases q : r.length < n
  · rw [if_pos q] at h
    cases h
  · rw [if_neg q] at h
    simp only [PyFlat.rows] at h
    cases h
    exact ⟨by omega, rfl, rfl⟩
theorem call_row {p : Int} {r : List Int} {c : List (List Int)} {t : List Int} (hs : shape p = some (0, 1)) (h : PyFlat.call shape (p :: r) = some (c, t)) : ∃ (m : Nat) (r' : List Int), r = (m : Int) :: r' ∧ m ≤ r'.length ∧ c = [[p], r'.take m] ∧ t = r'.drop m := by
  unfold PyFlat.call at h
  simp only [hs] at h
  rw [if_neg (Nat.not_lt_zero _)] at h
  simp only [PyFlat.rows, List.drop_zero, List.take_zero] at h
  cases r with
  | nil =>
    simp only [PyFlat.row] at h
    cases h
  | cons z r' =>
    simp only [PyFlat.row] at h
    by_cases q : 0 ≤ z ∧ z.toNat ≤ r'.length
    · rw [if_pos q] at h
      simp only at h
      cases h
      refine ⟨z.toNat, r', ?_, q.2, rfl, rfl⟩
      have : (z.toNat : Int) = z := Int.toNat_of_nonneg q.1
      rw [this]
    · rw [if_neg q] at h
      simp only at h
      cases h
/-- how many numbers a call has -/
def many : List Int := [9, 3, 3, 4, 1, 0, 0, 0]
theorem shape_cases {p : Int} {x : Nat × Nat} (h : shape p = some x) : (p = 5 ∧ x = (0, 1)) ∨ ∃ (j n : Nat), p = (j : Int) ∧ j < 8 ∧ j ≠ 5 ∧ many[j]? = some (n : Int) ∧ x = (n, 0) := by
  unfold shape at h
  by_cases h0 : p = 0
  · rw [if_pos h0] at h; cases h; exact Or.inr ⟨0, 9, h0, by decide, by decide, rfl, rfl⟩
  rw [if_neg h0] at h
  by_cases h1 : p = 1
  · rw [if_pos h1] at h; cases h; exact Or.inr ⟨1, 3, h1, by decide, by decide, rfl, rfl⟩
  rw [if_neg h1] at h
  by_cases h2 : p = 2
  · rw [if_pos h2] at h; cases h; exact Or.inr ⟨2, 3, h2, by decide, by decide, rfl, rfl⟩
  rw [if_neg h2] at h
  by_cases h3 : p = 3
  · rw [if_pos h3] at h; cases h; exact Or.inr ⟨3, 4, h3, by decide, by decide, rfl, rfl⟩
  rw [if_neg h3] at h
  by_cases h4 : p = 4
  · rw [if_pos h4] at h; cases h; exact Or.inr ⟨4, 1, h4, by decide, by decide, rfl, rfl⟩
  rw [if_neg h4] at h
  by_cases h5 : p = 5
  · rw [if_pos h5] at h; cases h; exact Or.inl ⟨h5, rfl⟩
  rw [if_neg h5] at h
  by_cases h6 : p = 6
  · rw [if_pos h6] at h; cases h; exact Or.inr ⟨6, 0, h6, by decide, by decide, rfl, rfl⟩
  rw [if_neg h6] at h
  by_cases h7 : p = 7
  · rw [if_pos h7] at h; cases h; exact Or.inr ⟨7, 0, h7, by decide, by decide, rfl, rfl⟩
  rw [if_neg h7] at h
  cases h
/-- the next call -/
theorem next_call {f at' : Nat} {l : List Int} {raw : List (List (List Int))} (hlt : at' < l.length) (h : PyFlat.calls shape f (l.drop at') = some raw) :
    ∃ (f' : Nat) (c : List (List Int)) (cs : List (List (List Int))), raw = c :: cs ∧
      ((∃ (j n : Nat), l[at']? = some (j : Int) ∧ j < 8 ∧ j ≠ 5 ∧ many[j]? = some (n : Int) ∧ at' + 1 + n ≤ l.length ∧ c = [(j : Int) :: (l.drop (at' + 1)).take n] ∧ PyFlat.calls shape f' (l.drop (at' + 1 + n)) = some cs) ∨
       (∃ m : Nat, l[at']? = some 5 ∧ l[at' + 1]? = some (m : Int) ∧ at' + 2 + m ≤ l.length ∧ c = [[5], (l.drop (at' + 2)).take m] ∧ PyFlat.calls shape f' (l.drop (at' + 2 + m)) = some cs)) := by
  have hg : l[at']? = some l[at'] := by simp [hlt]
  rw [List.drop_eq_getElem_cons hlt] at h
  generalize l[at'] = p at h hg
  cases f with
  | zero => simp only [PyFlat.calls] at h; cases h
  | succ f =>
    simp only [PyFlat.calls] at h
    cases hc : PyFlat.call shape (p :: l.drop (at' + 1)) with
    | none => rw [hc] at h; cases h
    | some ct =>
      obtain ⟨c, t⟩ := ct
      rw [hc] at h
      simp only at h
      cases hcs : PyFlat.calls shape f t with
      | none => rw [hcs] at h; cases h
      | some cs =>
        rw [hcs] at h
        cases h
        refine ⟨f, c, cs, rfl, ?_⟩
        have hsh : ∃ x, shape p = some x := by
          cases q : shape p with
          | none =>
            unfold PyFlat.call at hc
            simp only [q] at hc
            cases hc
          | some x => exact ⟨x, rfl⟩
        obtain ⟨x, hx⟩ := hsh
        rcases shape_cases hx with ⟨rfl, rfl⟩ | ⟨j, n, rfl, hj, h5, hm, rfl⟩
        · obtain ⟨m, r', hr, hml, hcc, ht⟩ := call_row hx hc
          have hl1 : at' + 1 < l.length := by
            have := congrArg List.length hr
            rw [List.length_drop, List.length_cons] at this
            omega
          have hr' := hr
          rw [List.drop_eq_getElem_cons hl1] at hr'
          have ea : l[at' + 1] = (m : Int) := (List.cons.inj hr').1
          have eb : l.drop (at' + 1 + 1) = r' := (List.cons.inj hr').2
          subst eb
          refine Or.inr ⟨m, hg, ?_, ?_, hcc, ?_⟩
          · rw [← ea]; simp [hl1]
          · rw [List.length_drop] at hml
            omega
          · rw [ht, List.drop_drop] at hcs
            have e : at' + 1 + 1 + m = at' + 2 + m := rfl
            rw [e] at hcs
            exact hcs
        · obtain ⟨hn, hcc, ht⟩ := call_flat hx hc
          refine Or.inl ⟨j, n, hg, hj, h5, hm, ?_, hcc, ?_⟩
          · rw [List.length_drop] at hn
            omega
          · rw [ht, List.drop_drop] at hcs
            exact hcs
/-! ### a call from its numbers -/
theorem all_nat {l : List Int} (h : l.all Sw82Neutral.nat = true) : ∃ ns : List Nat, l = ns.map fun n : Nat => (n : Int) := by
  refine ⟨l.map Int.toNat, ?_⟩
  rw [List.map_map]
  symm
  rw [List.map_congr_left (g := id)]
  · exact List.map_id _
  · intro z hz
    have := List.all_eq_true.mp h z hz
    unfold Sw82Neutral.nat at this
    rw [Bool.and_eq_true] at this
    exact Int.toNat_of_nonneg (of_decide_eq_true this.1)
theorem call_in {ns : List Nat} {cl : Sw82.Call} (h : Sw82Neutral.callOf (ns.map fun n : Nat => (n : Int)) = some cl) : Sw82Neutral.callIn ns = some cl := by
  unfold Sw82Neutral.callOf at h
  split at h
  · cases h
  · rw [List.map_map] at h
    have e : ns.map (Int.toNat ∘ fun n : Nat => (n : Int)) = ns := by
      rw [List.map_congr_left (g := id)]
      · exact List.map_id _
      · intro n _
        exact Int.toNat_natCast n
    rw [e] at h
    exact h
theorem call_nat {l : List Int} {cl : Sw82.Call} (h : Sw82Neutral.callOf l = some cl) : ∃ ns : List Nat, l = (ns.map fun n : Nat => (n : Int)) ∧ Sw82Neutral.callIn ns = some cl := by
  have ha : l.all Sw82Neutral.nat = true := by
    unfold Sw82Neutral.callOf at h
    split at h
    · cases h
    · rename_i q
      simpa using q
  obtain ⟨ns, rfl⟩ := all_nat ha
  exact ⟨ns, rfl, call_in h⟩
theorem flat_call {j n : Nat} {xs : List Int} {cl : Sw82.Call} (hj : j < 8) (h5 : j ≠ 5) (hm : many[j]? = some (n : Int)) (hl : xs.length = n) (h : Sw82Neutral.callOf ((PySw82.whole [(j : Int) :: xs]).headD []) = some cl) (ys : List Int) : CallIs (j : Int) xs ys cl := by
  have hn : ∀ k : Nat, many[j]? = some (k : Int) → n = k := fun k q => by
    rw [hm] at q
    have := Option.some.inj q
    omega
  have step : ∀ (k : Nat) (c : Nat), j = c → (∀ zs : List Nat, Sw82Neutral.callIn (c :: zs) = Sw82Neutral.callIn (c :: zs)) → True := fun _ _ _ _ => trivial
  match j, hj, h5 with
  | 0, _, _ =>
    have := hn 9 rfl
    subst this
    match xs, hl with
    | [a, b, c, d, e, f, g, i, k], _ =>
      obtain ⟨ns, e1, e2⟩ := call_nat (l := [0, a, b, c, d, e, f, g, i, k]) h
      match ns, e1 with
      | [n0, a', b', c', d', e', f', g', i', k'], e1 =>
        simp only [List.map_cons, List.map_nil, List.cons.injEq, and_true] at e1
        obtain ⟨z0, rfl, rfl, rfl, rfl, rfl, rfl, rfl, rfl, rfl⟩ := e1
        have : n0 = 0 := by omega
        subst this
        cases e2
        exact .beg _ _ _ _ _ _ _ _ _ _
  | 1, _, _ =>
    have := hn 3 rfl
    subst this
    match xs, hl with
    | [a, b, c], _ =>
      obtain ⟨ns, e1, e2⟩ := call_nat (l := [1, a, b, c]) h
      match ns, e1 with
      | [n0, a', b', c'], e1 =>
        simp only [List.map_cons, List.map_nil, List.cons.injEq, and_true] at e1
        obtain ⟨z0, rfl, rfl, rfl⟩ := e1
        have : n0 = 1 := by omega
        subst this
        have e3 : (if b' ≤ 1 ∧ c' ≤ 1 then some (Sw82.Call.place a' (b' == 1) (c' == 1)) else none) = some cl := e2
        split at e3
        · cases e3
          exact .pla _ _ _ _
        · cases e3
  | 2, _, _ =>
    have := hn 3 rfl
    subst this
    match xs, hl with
    | [a, b, c], _ =>
      obtain ⟨ns, e1, e2⟩ := call_nat (l := [2, a, b, c]) h
      match ns, e1 with
      | [n0, a', b', c'], e1 =>
        simp only [List.map_cons, List.map_nil, List.cons.injEq, and_true] at e1
        obtain ⟨z0, rfl, rfl, rfl⟩ := e1
        have : n0 = 2 := by omega
        subst this
        cases e2
        exact .way _ _ _ _
  | 3, _, _ =>
    have := hn 4 rfl
    subst this
    match xs, hl with
    | [a, b, c, d], _ =>
      obtain ⟨ns, e1, e2⟩ := call_nat (l := [3, a, b, c, d]) h
      match ns, e1 with
      | [n0, a', b', c', d'], e1 =>
        simp only [List.map_cons, List.map_nil, List.cons.injEq, and_true] at e1
        obtain ⟨z0, rfl, rfl, rfl, rfl⟩ := e1
        have : n0 = 3 := by omega
        subst this
        cases e2
        exact .wor _ _ _ _ _
  | 4, _, _ =>
    have := hn 1 rfl
    subst this
    match xs, hl with
    | [a], _ =>
      obtain ⟨ns, e1, e2⟩ := call_nat (l := [4, a]) h
      match ns, e1 with
      | [n0, a'], e1 =>
        simp only [List.map_cons, List.map_nil, List.cons.injEq, and_true] at e1
        obtain ⟨z0, rfl⟩ := e1
        have : n0 = 4 := by omega
        subst this
        cases e2
        exact .dro _ _
  | 6, _, _ =>
    have := hn 0 rfl
    subst this
    match xs, hl with
    | [], _ =>
      obtain ⟨ns, e1, e2⟩ := call_nat (l := [6]) h
      match ns, e1 with
      | [n0], e1 =>
        simp only [List.map_cons, List.map_nil, List.cons.injEq, and_true] at e1
        have : n0 = 6 := by omega
        subst this
        cases e2
        exact .best _
  | 7, _, _ =>
    have := hn 0 rfl
    subst this
    match xs, hl with
    | [], _ =>
      obtain ⟨ns, e1, e2⟩ := call_nat (l := [7]) h
      match ns, e1 with
      | [n0], e1 =>
        simp only [List.map_cons, List.map_nil, List.cons.injEq, and_true] at e1
        have : n0 = 7 := by omega
        subst this
        cases e2
        exact .never _
theorem row_call {r0 : List Int} {cl : Sw82.Call} (h : Sw82Neutral.callOf ((PySw82.whole [[5], r0]).headD []) = some cl) : CallIs 5 [] r0 cl := by
  obtain ⟨ns, e1, e2⟩ := call_nat (l := 5 :: (r0.length : Int) :: r0) h
  match ns, e1 with
  | n0 :: m :: zs, e1 =>
    simp only [List.map_cons, List.cons.injEq] at e1
    obtain ⟨z0, hm, rfl⟩ := e1
    have : n0 = 5 := by omega
    subst this
    have e3 : (Sw82Neutral.listIn (m :: zs)).map Sw82.Call.check = some cl := e2
    have e4 : Sw82Neutral.listIn (m :: zs) = if m ≤ 20 ∧ zs.length = m then some zs else none := rfl
    rw [e4] at e3
    split at e3
    · rename_i q
      cases e3
      exact .chk zs (by omega)
    · cases e3
/-! ### what is answered -/
/-- what the calls that are left answer -/
def rest (s : Sw82.Plan) (raw : List (List (List Int))) : List Int := PyFlat.told (PyFlat.played (fun s c => Sw82Neutral.step s (c.headD [])) s (raw.map PySw82.whole))
theorem rest_nil (s : Sw82.Plan) : rest s [] = [] := rfl
theorem rest_cons (s : Sw82.Plan) (c : List (List Int)) (cs : List (List (List Int))) {cl : Sw82.Call} (h : Sw82Neutral.callOf ((PySw82.whole c).headD []) = some cl) : rest s (c :: cs) = ((res s cl).2.length : Int) :: (res s cl).2 ++ rest (res s cl).1 cs := by
  have e : Sw82Neutral.step s ((PySw82.whole c).headD []) = res s cl := by
    unfold Sw82Neutral.step res
    rw [h]
  unfold rest
  rw [List.map_cons]
  show PyFlat.told ((Sw82Neutral.step s ((PySw82.whole c).headD [])).2 :: PyFlat.played _ (Sw82Neutral.step s ((PySw82.whole c).headD [])).1 (cs.map PySw82.whole)) = _
  rw [e]
  unfold PyFlat.told
  rw [List.flatMap_cons]
/-- each call is one -/
def AllOf (raw : List (List (List Int))) : Prop := ∀ c ∈ raw, ∃ cl, Sw82Neutral.callOf ((PySw82.whole c).headD []) = some cl
theorem asked_of {l : List Int} (h : answers_asked l = true) : ∃ raw, PyFlat.calls shape l.length l = some raw ∧ AllOf raw ∧ answers l = rest Sw82.init raw ∧ (answers l).length ≤ 10000000 := by
  unfold answers_asked at h
  cases hc : PyFlat.calls shape l.length l with
  | none => rw [hc] at h; cases h
  | some raw =>
    rw [hc] at h
    simp only [Bool.and_eq_true] at h
    obtain ⟨⟨⟨_, _⟩, ha⟩, hs⟩ := h
    refine ⟨raw, rfl, fun c hcm => ?_, ?_, of_decide_eq_true hs⟩
    · unfold Sw82Neutral.asked at ha
      rw [Bool.and_eq_true] at ha
      have := List.all_eq_true.mp ha.1 ((PySw82.whole c).headD []) (List.mem_map.mpr ⟨PySw82.whole c, List.mem_map.mpr ⟨c, hcm, rfl⟩, rfl⟩)
      exact Option.isSome_iff_exists.mp this
    · unfold PySw82.answers PySw82.calls
      rw [hc]
      rfl
end Dw
namespace Dw
open PySem PySem.Spec PyProof.Rows L2 Evl
abbrev sRun : Stmt := top 42
abbrev NRun : List Str := ["calls", "desk", "found", "at", "end", "numbers", "row", "begin", "answer"]
theorem scRun : FnScope NRun ["calls"] (defScope sRun) := ⟨rfl, rfl, rfl, by decide +kernel, rfl, by decide +kernel, by decide +kernel⟩
def spRun (K : PySem.W.Frag) : Sp := fun vs H Q _ => ∃ (a : Addr) (l : List Int), vs = [.ref a] ∧ SqL K H a (l.map V.int) ∧ l.length ≤ 2000 ∧ PySw82.answers_asked l = true ∧ ∀ (H' : Hp) (p : Addr), H' p = some (.lst ((PySw82.answers l).map V.int)) → Q (.ref p) H'
theorem cut_two {xs : List V} {i n : Nat} (h : i + n ≤ xs.length) : cutV xs (some (i : Int)) (some ((i + n : Nat) : Int)) = (xs.drop i).take n := by
  unfold cutV
  rw [HT.sIx_nat, HT.sIx_nat, Nat.min_eq_left h, Nat.min_eq_left (show i ≤ xs.length by omega)]
  congr 1
  omega
/-- the calls stand, apart from all that changes -/
def Std (K : PySem.W.Frag) (H : Hp) (a : Addr) (xs : List V) (k d : Addr) (A : DA) (f : Addr) : Prop :=
  (∃ o, H a = some o ∧ (o = .lst xs ∨ ∃ q, o = .frz q (.lst xs)) ∧ a ∉ ft k d A ∧ a ≠ f) ∨ ∀ H', SqL K H' a xs
section
variable {K : PySem.W.Frag} {H H' : Hp} {a k d d' f : Addr} {A A' : DA} {xs : List V}
theorem Std.sq (h : Std K H a xs k d A f) : SqL K H a xs := by
  rcases h with ⟨o, h1, h2, _⟩ | h
  · rcases h2 with rfl | ⟨q, rfl⟩
    · exact Or.inl (Or.inl h1)
    · exact Or.inl (Or.inr ⟨q, h1⟩)
  · exact h H
theorem Std.kept (h : Std K H a xs k d A f) (hK : Kept k d A H d' A' H') : Std K H' a xs k d' A' f := by
  rcases h with ⟨o, h1, h2, h3, h4⟩ | h
  · exact Or.inl ⟨o, (hK a o h1 h3).1, h2, (hK a o h1 h3).2, h4⟩
  · exact Or.inr h
theorem Std.mono (e : Ex H H') (h : Std K H a xs k d A f) : Std K H' a xs k d A f := h.kept (Kept.of e)
theorem Std.upd {o : HO} (h : Std K H a xs k d A f) : Std K (upd H f o) a xs k d A f := by
  rcases h with ⟨u, h1, h2, h3, h4⟩ | h
  · exact Or.inl ⟨u, by rw [upd_ne h4]; exact h1, h2, h3, h4⟩
  · exact Or.inr h
theorem Std.new (h : SqL K H a xs) (hn : ∀ o, H a = some o → H' a = some o ∧ a ∉ ft k d A ∧ a ≠ f) : Std K H' a xs k d A f := by
  rcases h with (h | ⟨q, h⟩) | h
  · obtain ⟨h1, h2, h3⟩ := hn _ h
    exact Or.inl ⟨_, h1, Or.inl rfl, h2, h3⟩
  · obtain ⟨h1, h2, h3⟩ := hn _ h
    exact Or.inl ⟨_, h1, Or.inr ⟨q, rfl⟩, h2, h3⟩
  · exact Or.inr fun H' => Or.inr h
theorem DeskAt.upd_f {Z : Cs} {p : Sw82.Plan} {ys zs : List V} (hf : H f = some (.lst ys)) (n : f ∉ ft k d A) (D : DeskAt Z H k d A p) : DeskAt Z (upd H f (.lst zs)) k d A p := by
  have n' := not_ft n
  obtain ⟨dk, hk⟩ := D.ins
  obtain ⟨dx', hi⟩ := D.dep.ins
  obtain ⟨dr, hr⟩ := D.dep.rul
  obtain ⟨ts, hw, ew⟩ := D.dep.way
  obtain ⟨us, hp, ep⟩ := D.dep.pcs
  obtain ⟨ks, hb, rb⟩ := D.dep.brk
  have up : ∀ {c : Addr} {o o' : HO}, H c = some o → (∀ xs, o ≠ .lst xs) → upd H f o' c = some o := fun {c o o'} h n => by
    rw [upd_ne (ne_of h hf (n _))]
    exact h
  refine ⟨⟨dk, up hk fun _ z => (by cases z)⟩, ⟨⟨dx', up hi fun _ z => (by cases z)⟩, ⟨dr, up hr fun _ z => (by cases z)⟩, ⟨ks, up hb fun _ z => (by cases z), rb⟩, (by rw [upd_ne (Ne.symm n'.2.2.2.1)]; exact D.dep.hom), ⟨ts, (by rw [upd_ne (Ne.symm n'.2.2.2.2.1)]; exact hw), ew.mono fun _ _ h => up h fun _ z => by cases z⟩,
    ⟨us, (by rw [upd_ne (Ne.symm n'.2.2.2.2.2)]; exact hp), ep.mono fun _ _ h => let ⟨dy, h⟩ := h; ⟨dy, up h fun _ z => (by cases z)⟩⟩, D.dep.wh, D.dep.wp, D.dep.hp, D.dep.good⟩⟩
end
/-- one more, much in it -/
theorem q_appB {K : PySem.W.Frag} {ta te : TE} {tz : TS} {D : Ends} {σ : L2.St} {H : Hp} {l : Addr} {xs : List V} {v : V} (hl : H l = some (.lst xs)) (ha : Ev ta σ H (.ref l)) (h : Ev te σ H v) (hz : xs.length < 10000000) (k : ∀ H1, Ex H H1 → tz D σ (upd H1 l (.lst (xs ++ [v])))) :
    tSeq (tDrop (tBM K "list" rAppend ta (tCons te tNil))) tz D σ H := ha H (Ex.refl H) _ fun H1 e1 =>
  ⟨Or.inl ⟨rfl, xs, sq_of (e1 l _ hl)⟩, h H1 e1 _ fun H2 e2 => ⟨l, xs, v, rfl, rfl, (e1.trans e2) _ _ hl, Nat.lt_of_lt_of_le hz (by decide), k H2 (e1.trans e2)⟩⟩
theorem q_extA {K : PySem.W.Frag} {ta te : TE} {tz : TS} {D : Ends} {σ : L2.St} {H : Hp} {l b : Addr} {xs zs : List V} (hl : H l = some (.lst xs)) (ha : Ev ta σ H (.ref l)) (h : Ev te σ H (.ref b)) (hb : H b = some (.lst zs)) (hz : xs.length + zs.length ≤ 10000000) (k : ∀ H1, Ex H H1 → tz D σ (upd H1 l (.lst (xs ++ zs)))) :
    tSeq (tDrop (tBM K "list" rExtend ta (tCons te tNil))) tz D σ H := ha H (Ex.refl H) _ fun H1 e1 =>
  ⟨Or.inl ⟨rfl, xs, sq_of (e1 l _ hl)⟩, h H1 e1 _ fun H2 e2 => ⟨l, b, xs, zs, rfl, rfl, (e1.trans e2) _ _ hl, (e1.trans e2) _ _ hb, Nat.le_trans hz (by decide), k H2 (e1.trans e2)⟩⟩
theorem q_asgCl {sp : Sp} {E : XK} {t : TA} {i : Nat} {tz : TS} {D : Ends} {σ : L2.St} {H : Hp} (k : t σ H fun vs H1 => sp vs H1 (fun v H2 => tz D (σ.set i (some v)) H2) E) : tSeq (tAsg (tCl sp E t) (gName i)) tz D σ H := k
theorem at_int {l : List Int} {j : Nat} {z : Int} (h : l[j]? = some z) : atI (l.map V.int) (j : Int) = some (.int z) := atI_nat (by rw [List.getElem?_map, h]; rfl)
section
variable {P : Program} {w : World} {K : PySem.W.Frag} {mg : Str → Option Value} {base : Heap} {Z : Cs}
theorem ok_run {f : Addr} {fd : FuncData} (F : Fun K "answers" "answers" sRun f fd) (T : Txt K mg Z) (hKi : HasC P w K mg base CX0 3 "Desk" Z.K (spKi Z)) (hAnd : HasF P w K mg base CX0 13 "answered" (spAnd K Z)) : FnOk P w K mg base CX0 14 f fd ["calls"] (spRun K) := by
  refine F.ok scRun (fun vs H Q E h => ?_) (fun cdv A outer s H vs Q E hr h => ?_)
  · obtain ⟨a, l, rfl, _⟩ := h
    rfl
  · obtain ⟨a, l, rfl, hl, hlen, hask, k⟩ := h
    have hr4 : Room 4 _ := hr.mono (by decide)
    obtain ⟨m, hm1, hm2⟩ := T.tMany
    refine ⟨_, pss_cons (ps_set (i := 1) scRun.nd rfl (Or.inl rfl) (pe_mk0 (E := E0) hKi hr4 pass0))
      (pss_cons (ps_set (i := 2) scRun.nd rfl (Or.inl rfl) (pe_lst pa_nil))
      (pss_cons (ps_set (i := 3) scRun.nd rfl (Or.inl rfl) pe_int)
      (pss_cons (ps_while PassesOwn.never (pt_cmpR op_lt (pv 3) (pe_callB call_len_seq (by rfl) T.bLen PySem.boot_len (pa_cons (pv 0) pa_nil)) (nomark _))
        (pss_cons (ps_set (i := 4) scRun.nd rfl (Or.inl rfl) (pe_op op_add (pe_op op_add (pv 3) pe_int) (pe_ix ix_tup (pe_glob (v := .ref m) rfl hm1 rfl) (pe_ix ix_list (pv 0) (pv 3) (fun _ _ => rfl)) (fun _ _ => rfl))))
        (pss_cons (ps_set (i := 5) scRun.nd rfl (Or.inl rfl) (pe_slice sl_list (pv 0) (po_some (pe_op op_add (pv 3) pe_int)) (po_some (pv 4))))
        (pss_cons (ps_set (i := 6) scRun.nd rfl (Or.inl rfl) (pe_lst pa_nil))
        (pss_cons (ps_if (pt_cmpR op_eq (pe_ix ix_list (pv 0) (pv 3) (fun _ _ => rfl)) (pe_k T.kCheck) (nomark _))
          (pss_cons (ps_set (i := 7) scRun.nd rfl (Or.inl rfl) (pe_op op_add (pv 4) pe_int))
          (pss_cons (ps_set (i := 4) scRun.nd rfl (Or.inl rfl) (pe_op op_add (pv 7) (pe_ix ix_list (pv 0) (pv 4) (fun _ _ => rfl))))
          (pss_one (ps_set (i := 6) scRun.nd rfl (Or.inl rfl) (pe_slice sl_list (pv 0) (po_some (pv 7)) (po_some (pv 4))))))) pss_nil)
        (pss_cons (ps_set (i := 8) scRun.nd rfl (Or.inl rfl) (pe_cl (E := E0) hAnd hr pass0 (pa_cons (pv 1) (pa_cons (pe_ix ix_list (pv 0) (pv 3) (fun _ _ => rfl)) (pa_cons (pv 5) (pa_cons (pv 6) pa_nil))))))
        (pss_cons (ps_expr (pe_bm PySem.F.plainAttrs_list PySem.F.slot_list_append PySem.F.type_list_append mt_append (pv 2) (pa_cons (pe_callB call_len_seq (by rfl) T.bLen PySem.boot_len (pa_cons (pv 8) pa_nil)) pa_nil)))
        (pss_cons (ps_expr (pe_bm PySem.F.plainAttrs_list PySem.F.slot_list_extend PySem.F.type_list_extend mt_extend (pv 2) (pa_cons (pv 8) pa_nil)))
        (pss_one (ps_set (i := 3) scRun.nd rfl (Or.inl rfl) (pv 4)))))))))))
      (pss_one (ps_ret (pv 2)))))), ?_⟩
    obtain ⟨raw0, hc0, hall0, hans, hbig⟩ := asked_of hask
    refine q_asgMk (fun x dx hx hdx hne => ⟨H, x, rfl, young hx hdx hne, hx, ⟨dx, upd_same⟩, fun H1 d A e1 hD hd hb hh hw hp => ⟨rfl, ?_⟩⟩)
    refine q_asgL (el_lst ea_nil (by decide)) fun fo H2 hfo e2 hF => ?_
    refine q_asg ev_c fun H3 e3 => ?_
    have e13 : Ex H H3 := e1.trans (e2.trans e3)
    have hfoH : H fo = none := fresh_back e1 hfo
    have D3 := hD.mono (e2.trans e3)
    refine q_while (fun m' σ' H' => ∃ (i : Nat) (G : List Int) (s : Sw82.Plan) (d : Addr) (A : DA) (f' : Nat) (raw : List (List (List Int))) (o4 o5 o6 o7 o8 : Option V), σ' = [some (.ref a), some (.ref x), some (.ref fo), some (nV i), o4, o5, o6, o7, o8] ∧ m' = l.length - i ∧ i ≤ l.length ∧ DeskAt Z H' x d A s ∧ H' fo = some (.lst (G.map V.int)) ∧ fo ∉ ft x d A ∧
        Std K H' a (l.map V.int) x d A fo ∧ PyFlat.calls PySw82.shape f' (l.drop i) = some raw ∧ AllOf raw ∧ G ++ rest s raw = PySw82.answers l) (l.length - 0)
      ⟨0, [], Sw82.init, d, A, l.length, raw0, none, none, none, none, none, rfl, rfl, Nat.zero_le _, D3, e3 _ _ hF, ft_some hD hfo, Std.new hl fun o ho => ⟨e13 _ _ ho, in_ft ⟨ne_of_none ho hx, ne_of_none ho hd, ne_of_none ho hb, ne_of_none ho hh, ne_of_none ho hw, ne_of_none ho hp⟩, ne_of_none ho hfoH⟩, hc0, hall0, hans.symm⟩ (fun m' σ' H' hV => ?_)
    obtain ⟨i, G, s, d, A, f', raw, o4, o5, o6, o7, o8, rfl, rfl, hi, D, hG, hf, S, hc, hall, heq⟩ := hV
    refine ⟨decide (i < l.length), et_is (et_test (ev_op (ev_var rfl) (ev_len (ev_var rfl) S.sq) rv_I0)) (by rw [List.length_map]; exact lt_nat _ _), fun hb0 H4 e4 => ?_, fun hb0 H4 e4 => ?_⟩
    · have hlt : i < l.length := of_decide_eq_true hb0
      refine ⟨fun σ2 H2 => ∃ m', m' < l.length - i ∧ ∃ (i : Nat) (G : List Int) (s : Sw82.Plan) (d : Addr) (A : DA) (f' : Nat) (raw : List (List (List Int))) (o4 o5 o6 o7 o8 : Option V), σ2 = [some (.ref a), some (.ref x), some (.ref fo), some (nV i), o4, o5, o6, o7, o8] ∧ m' = l.length - i ∧ i ≤ l.length ∧ DeskAt Z H2 x d A s ∧ H2 fo = some (.lst (G.map V.int)) ∧ fo ∉ ft x d A ∧
        Std K H2 a (l.map V.int) x d A fo ∧ PyFlat.calls PySw82.shape f' (l.drop i) = some raw ∧ AllOf raw ∧ G ++ rest s raw = PySw82.answers l, fun _ _ h => h, ?_⟩
      obtain ⟨f2, c, cs, rfl, hnext⟩ := next_call hlt hc
      obtain ⟨cl, hcl⟩ := hall c List.mem_cons_self
      have hall' : AllOf cs := fun c' h' => hall c' (List.mem_cons_of_mem _ h')
      rw [rest_cons s c cs hcl] at heq
      -- what follows the call's reading
      have key : ∀ (pz : Int) (en : Nat) (n r : Addr) (xs ys : List Int) (o7 : Option V) (H5 : Hp), Ex H4 H5 → l[i]? = some pz → SqL K H5 n (xs.map V.int) → SqL K H5 r (ys.map V.int) → CallIs pz xs ys cl → i < en → en ≤ l.length → PyFlat.calls PySw82.shape f2 (l.drop en) = some cs →
          tSeq (tAsg (tCl (spAnd K Z) E0 (tCons (tVar 1) (tCons (tOp (rIxL K) (tVar 0) (tVar 3)) (tCons (tVar 5) (tCons (tVar 6) tNil))))) (gName 8))
            (tSeq (tDrop (tBM K "list" rAppend (tVar 2) (tCons (tCB (rLenS K) (tCons (tVar 8) tNil)) tNil)))
            (tSeq (tDrop (tBM K "list" rExtend (tVar 2) (tCons (tVar 8) tNil))) (tAsg (tVar 4) (gName 3))))
            { nx := fun σ2 H2 => ∃ m', m' < l.length - i ∧ ∃ (i : Nat) (G : List Int) (s : Sw82.Plan) (d : Addr) (A : DA) (f' : Nat) (raw : List (List (List Int))) (o4 o5 o6 o7 o8 : Option V), σ2 = [some (.ref a), some (.ref x), some (.ref fo), some (nV i), o4, o5, o6, o7, o8] ∧ m' = l.length - i ∧ i ≤ l.length ∧ DeskAt Z H2 x d A s ∧ H2 fo = some (.lst (G.map V.int)) ∧ fo ∉ ft x d A ∧
                Std K H2 a (l.map V.int) x d A fo ∧ PyFlat.calls PySw82.shape f' (l.drop i) = some raw ∧ AllOf raw ∧ G ++ rest s raw = PySw82.answers l, rt := Q, ct := fun σ2 H2 => ∃ m', m' < l.length - i ∧ ∃ (i : Nat) (G : List Int) (s : Sw82.Plan) (d : Addr) (A : DA) (f' : Nat) (raw : List (List (List Int))) (o4 o5 o6 o7 o8 : Option V), σ2 = [some (.ref a), some (.ref x), some (.ref fo), some (nV i), o4, o5, o6, o7, o8] ∧ m' = l.length - i ∧ i ≤ l.length ∧ DeskAt Z H2 x d A s ∧ H2 fo = some (.lst (G.map V.int)) ∧ fo ∉ ft x d A ∧
                Std K H2 a (l.map V.int) x d A fo ∧ PyFlat.calls PySw82.shape f' (l.drop i) = some raw ∧ AllOf raw ∧ G ++ rest s raw = PySw82.answers l, bk := tRet (tVar 2) { nx := fun _ H' => Q .non H', rt := Q } }
            [some (.ref a), some (.ref x), some (.ref fo), some (nV i), some (nV en), some (.ref n), some (.ref r), o7, o8] H5 := by
        intro pz en n r xs ys o7 H5 e5 hpz hn hrw hci hien hen hcs
        have e45 := e4.trans e5
        have S5 := S.mono e45
        refine q_asgCl ((ea_cons (ev_var rfl) (ea_cons (ev_op (ev_var rfl) (ev_var rfl) (rv_ixL S5.sq (at_int hpz))) (ea_cons (ev_var rfl) (ea_cons (ev_var rfl) ea_nil)))) H5 (Ex.refl H5) _ fun H6 e6 => ?_)
        have e46 := e45.trans e6
        refine ⟨x, n, r, d, pz, xs, ys, A, s, cl, rfl, D.mono e46, ex_l e6 hn, ex_l e6 hrw, hci, fun q H7 d' A' hne7 hD7 hK7 hq7 hqq => ?_⟩
        have hG6 := e46 _ _ hG
        have hfk := hK7 fo _ hG6 hf
        have hfq : fo ≠ q := hne7 fo _ hG6 hf
        have S7 := (S5.mono e6).kept hK7
        have hle : G.length + ((res s cl).2.length + 1) ≤ 10000000 := by
          have h1 := congrArg List.length heq
          rw [List.length_append, List.length_append, List.length_cons] at h1
          omega
        refine q_appB hfk.1 (ev_var rfl) (ev_len (ev_var rfl) (SqL.of hqq)) (by rw [List.length_map]; omega) fun H8 e8 => ?_
        have hqq8 : upd H8 fo (.lst (G.map V.int ++ [.int ((((res s cl).2.map V.int).length : Nat) : Int)])) q = some (.lst ((res s cl).2.map V.int)) := by
          rw [upd_ne (Ne.symm hfq)]
          exact e8 _ _ hqq
        have D8 : DeskAt Z (upd H8 fo (.lst (G.map V.int ++ [.int ((((res s cl).2.map V.int).length : Nat) : Int)]))) x d' A' (res s cl).1 := (hD7.mono e8).upd_f (e8 _ _ hfk.1) hfk.2
        have S8 : Std K (upd H8 fo (.lst (G.map V.int ++ [.int ((((res s cl).2.map V.int).length : Nat) : Int)]))) a (l.map V.int) x d' A' fo := (S7.mono e8).upd
        refine q_extA upd_same (ev_var rfl) (ev_var rfl) hqq8 (by rw [List.length_append, List.length_map, List.length_map]; show G.length + 1 + _ ≤ _; omega) fun H9 e9 => ?_
        refine s_asg (ev_var rfl) fun H10 e10 => ?_
        refine ⟨l.length - en, by omega, en, G ++ ((res s cl).2.length : Int) :: (res s cl).2, (res s cl).1, d', A', f2, cs, _, _, _, _, _, rfl, rfl, hen, ((D8.mono e9).upd_f (e9 _ _ upd_same) hfk.2).mono e10, ?_, hfk.2, ((S8.mono e9).upd).mono e10, hcs, hall', ?_⟩
        · rw [e10 _ _ upd_same, ext_eq, List.append_assoc]
          rfl
        · rw [List.append_assoc]
          exact heq
      have hmany : ∀ (H5 : Hp) {j n : Nat}, j < 8 → many[j]? = some (n : Int) → RV (rIxT K) (.ref m) (.int (j : Int)) H5 (nV n) := fun H5 j n hj hmn => rv_ixT (hm2 H5) (at_int hmn)
      have S4 := S.mono e4
      rcases hnext with ⟨j, n, hij, hj, hj5, hmn, hle, rfl, hcs⟩ | ⟨mm, hi5, hi1, hle, rfl, hcs⟩
      · have hlx : ((l.drop (i + 1)).take n).length = n := by
          rw [List.length_take, List.length_drop]
          omega
        have hci := fun ys => flat_call hj hj5 hmn hlx hcl ys
        refine q_asg (v := nV (i + 1 + n)) (ev_is (ev_op (ev_op (ev_var rfl) ev_c rv_I0) (ev_op ev_c (ev_op (ev_var rfl) (ev_var rfl) (rv_ixL S4.sq (at_int hij))) (hmany H4 hj hmn)) rv_I0) rfl) fun H5 e5 => ?_
        have S5 := S4.mono e5
        refine q_asgL (xs := ((l.drop (i + 1)).take n).map V.int) (by
          rw [List.map_take, List.map_drop, ← cut_two (by rw [List.length_map]; exact hle)]
          exact el_sl (ev_var rfl) (eo_some (ev_is (ev_op (ev_var rfl) ev_c rv_I0) rfl)) (eo_some (ev_var rfl)) S5.sq) fun nl H6 hnl e6 hnn => ?_
        refine q_asgL (el_lst ea_nil (by decide)) fun rl H7 hrl e7 hrr => ?_
        have S7 := (S5.mono e6).mono e7
        refine q_when (b := false) (et_is (et_test (ev_op (ev_op (ev_var rfl) (ev_var rfl) (rv_ixL S7.sq (at_int hij))) ev_c (rv_eq rfl))) (decide_eq_false fun z => hj5 (by injection z with z; omega))) (fun z => by cases z) fun _ H8 e8 => ?_
        exact key (j : Int) (i + 1 + n) nl rl ((l.drop (i + 1)).take n) [] o7 H8 ((e5.trans e6).trans (e7.trans e8)) hij (SqL.of ((e7.trans e8) _ _ hnn)) (SqL.of (e8 _ _ hrr)) (hci []) (by omega) hle hcs
      · have hci := row_call hcl
        refine q_asg (v := nV (i + 1)) (ev_is (ev_op (ev_op (ev_var rfl) ev_c rv_I0) (ev_op ev_c (ev_op (ev_var rfl) (ev_var rfl) (rv_ixL S4.sq (at_int hi5))) (hmany H4 (j := 5) (n := 0) (by decide) rfl)) rv_I0) (congrArg V.int (Int.add_zero _))) fun H5 e5 => ?_
        have S5 := S4.mono e5
        refine q_asgL (xs := ([] : List Int).map V.int) (by
          have e : ([] : List Int).map V.int = cutV (l.map V.int) (some ((i + 1 : Nat) : Int)) (some ((i + 1 + 0 : Nat) : Int)) := by
            rw [cut_two (by rw [List.length_map]; omega), List.take_zero]
            rfl
          rw [e]
          exact el_sl (ev_var rfl) (eo_some (ev_is (ev_op (ev_var rfl) ev_c rv_I0) rfl)) (eo_some (ev_var rfl)) S5.sq) fun nl H6 hnl e6 hnn => ?_
        refine q_asgL (el_lst ea_nil (by decide)) fun rl H7 hrl e7 hrr => ?_
        have S7 := (S5.mono e6).mono e7
        refine q_when (b := true) (et_is (et_test (ev_op (ev_op (ev_var rfl) (ev_var rfl) (rv_ixL S7.sq (at_int hi5))) ev_c (rv_eq rfl))) (decide_eq_true rfl)) (fun _ H8 e8 => ?_) (fun z => by cases z)
        have S8 := S7.mono e8
        refine q_asg (v := nV (i + 2)) (ev_is (ev_op (ev_var rfl) ev_c rv_I0) rfl) fun H9 e9 => ?_
        have S9 := S8.mono e9
        refine q_asg (v := nV (i + 2 + mm)) (ev_is (ev_op (ev_var rfl) (ev_op (ev_var rfl) (ev_var rfl) (rv_ixL S9.sq (at_int hi1))) rv_I0) rfl) fun H10 e10 => ?_
        have S10 := S9.mono e10
        refine s_asgL (xs := ((l.drop (i + 2)).take mm).map V.int) (by
          rw [List.map_take, List.map_drop, ← cut_two (by rw [List.length_map]; exact hle)]
          exact el_sl (ev_var rfl) (eo_some (ev_var rfl)) (eo_some (ev_var rfl)) S10.sq) fun rl2 H11 hrl2 e11 hrr2 => ?_
        exact key 5 (i + 2 + mm) nl rl2 [] ((l.drop (i + 2)).take mm) _ H11 ((((e5.trans e6).trans (e7.trans e8)).trans (e9.trans e10)).trans e11) hi5 (SqL.of (((e7.trans e8).trans ((e9.trans e10).trans e11)) _ _ hnn)) (SqL.of hrr2) hci (by omega) hle hcs
    · have hge : ¬ i < l.length := of_decide_eq_false hb0
      have hil : i = l.length := by omega
      subst hil
      rw [List.drop_length] at hc
      have hraw : raw = [] := by
        cases f' with
        | zero => simp only [PyFlat.calls] at hc; cases hc; rfl
        | succ f' => simp only [PyFlat.calls] at hc; cases hc; rfl
      subst hraw
      rw [rest_nil, List.append_nil] at heq
      subst heq
      exact s_ret (ev_var rfl) fun H5 e5 => k H5 fo ((e4.trans e5) _ _ hG)
end
end Dw
namespace Dw
open PySem PySem.Spec PyProof.Rows L2 Evl
open PySem.W (Codec)
/-- an error of the class at S is what «except S» names -/
theorem exm_self {K : PySem.W.Frag} {S : Addr} (h1 : PySem.W.subIn K (.ref S) (.type "BaseException") = some true) (h2 : PySem.W.isClsIn K S = true) (h3 : PySem.W.typeIn K (.ref S) = some (.type "type")) (h4 : PySem.W.subIn K (.ref S) (.ref S) = some true) :
    PySem.W.exmOne K (.ref S) (.ref S) = some true := by
  have e1 : (PySem.W.subIn K (.ref S) (.type "BaseException") == some true) = true := by rw [h1] <;> rfl
  have e2 : ((PySem.W.clsIn K S).isSome && PySem.W.typeIn K (.ref S) == some (.type "type")) = true := by
    have h2' : (PySem.W.clsIn K S).isSome = true := h2
    rw [h2', h3] <;> rfl
  show (if (PySem.W.subIn K (.ref S) (.type "BaseException") == some true) = true then (if ((PySem.W.clsIn K S).isSome && PySem.W.typeIn K (.ref S) == some (.type "type")) = true then PySem.W.subIn K (.ref S) (.ref S) else none) else none) = some true
  rw [if_pos e1, if_pos e2]
  exact h4
theorem tup_at {K : PySem.W.Frag} {m : Addr} {od : Option Addr} {its : Array Value} {n : Nat} {sl : Array (Option Value)} {xs : List V} (l : K.lookup m = some ⟨.type "tuple", od, .seq its n, sl⟩) (v : Vals xs its.toList) (hz : xs.length ≤ 100000) (H : Hp) : SqT K H m xs :=
  Or.inr ⟨_, its, n, l, rfl, rfl, (by rw [← Array.length_toList, ← v.length]; exact sz_of hz), v⟩
theorem all_mk {P : Program} {w : World} {K : PySem.W.Frag} {h : Heap} {mg : Str → Option Value} {fa cR cP cD cU cL cK cE fI fMin fCan fOrd fLen fPay fHw fGap fBrk fHome fDrv fBy fTold fLook fDuty fMem fFirst fRights fPw fLa fPlans fEarl fNev fRul fPie fDep fPut fNeed fAre fLis fKi fBeg fPla fWay fWor fDro fChk fBst fNvr fAnw fAnd fRun mMany mFirst : Addr} (X : K.In h) (G : h.Ns mainGlobals mg) (hfa : mg "answers" = some (.ref fa))
    {nm q : Str} {N : Addr} {bs : List Value} {sn : List Str} {sub : List Value} {ab : Bool} {col : Option Bool} {dd : Option Addr} {m0 m1 m2 m3 m5 : Option Value}
    {odI anI : Option Addr} {slI : Array (Option Value)} {ocI dcI pmI cdI ctI : Value}
    {odMin anMin : Option Addr} {slMin : Array (Option Value)} {ocMin kVMin dcMin pmMin cdMin ctMin : Value}
    {odCan anCan : Option Addr} {slCan : Array (Option Value)} {ocCan kVCan dcCan pmCan cdCan ctCan : Value}
    {odOrd anOrd : Option Addr} {slOrd : Array (Option Value)} {ocOrd kVOrd dcOrd pmOrd cdOrd ctOrd : Value}
    {odLen anLen : Option Addr} {slLen : Array (Option Value)} {ocLen kVLen dcLen pmLen cdLen ctLen : Value}
    {odPay anPay : Option Addr} {slPay : Array (Option Value)} {ocPay kVPay dcPay pmPay cdPay ctPay : Value}
    {odHw anHw : Option Addr} {slHw : Array (Option Value)} {ocHw kVHw dcHw pmHw cdHw ctHw : Value}
    {odGap anGap : Option Addr} {slGap : Array (Option Value)} {ocGap kVGap dcGap pmGap cdGap ctGap : Value}
    {odBrk anBrk : Option Addr} {slBrk : Array (Option Value)} {ocBrk kVBrk dcBrk pmBrk cdBrk ctBrk : Value}
    {odHome anHome : Option Addr} {slHome : Array (Option Value)} {ocHome kVHome dcHome pmHome cdHome ctHome : Value}
    {odDrv anDrv : Option Addr} {slDrv : Array (Option Value)} {ocDrv kVDrv dcDrv pmDrv cdDrv ctDrv : Value}
    {odBy anBy : Option Addr} {slBy : Array (Option Value)} {ocBy kVBy dcBy pmBy cdBy ctBy : Value}
    {odTold anTold : Option Addr} {slTold : Array (Option Value)} {ocTold kVTold dcTold pmTold cdTold ctTold : Value}
    {odLook anLook : Option Addr} {slLook : Array (Option Value)} {ocLook kVLook dcLook pmLook cdLook ctLook : Value}
    {odDuty anDuty : Option Addr} {slDuty : Array (Option Value)} {ocDuty kVDuty dcDuty pmDuty cdDuty ctDuty : Value}
    {odMem anMem : Option Addr} {slMem : Array (Option Value)} {ocMem kVMem dcMem pmMem cdMem ctMem : Value}
    {odFirst anFirst : Option Addr} {slFirst : Array (Option Value)} {ocFirst kVFirst dcFirst pmFirst cdFirst ctFirst : Value}
    {odRights anRights : Option Addr} {slRights : Array (Option Value)} {ocRights kVRights dcRights pmRights cdRights ctRights : Value}
    {odPw anPw : Option Addr} {slPw : Array (Option Value)} {ocPw kVPw dcPw pmPw cdPw ctPw : Value}
    {odLa anLa : Option Addr} {slLa : Array (Option Value)} {ocLa kVLa dcLa pmLa cdLa ctLa : Value}
    {odPlans anPlans : Option Addr} {slPlans : Array (Option Value)} {ocPlans kVPlans dcPlans pmPlans cdPlans ctPlans : Value}
    {odEarl anEarl : Option Addr} {slEarl : Array (Option Value)} {ocEarl kVEarl dcEarl pmEarl cdEarl ctEarl : Value}
    {odNev anNev : Option Addr} {slNev : Array (Option Value)} {ocNev kVNev dcNev pmNev cdNev ctNev : Value}
    {odRul anRul : Option Addr} {slRul : Array (Option Value)} {ocRul kVRul dcRul pmRul cdRul ctRul : Value}
    {odPie anPie : Option Addr} {slPie : Array (Option Value)} {ocPie kVPie dcPie pmPie cdPie ctPie : Value}
    {odDep anDep : Option Addr} {slDep : Array (Option Value)} {ocDep kVDep dcDep pmDep cdDep ctDep : Value}
    {odPut anPut : Option Addr} {slPut : Array (Option Value)} {ocPut kVPut dcPut pmPut cdPut ctPut : Value}
    {odNeed anNeed : Option Addr} {slNeed : Array (Option Value)} {ocNeed kVNeed dcNeed pmNeed cdNeed ctNeed : Value}
    {odAre anAre : Option Addr} {slAre : Array (Option Value)} {ocAre kVAre dcAre pmAre cdAre ctAre : Value}
    {odLis anLis : Option Addr} {slLis : Array (Option Value)} {ocLis kVLis dcLis pmLis cdLis ctLis : Value}
    {odKi anKi : Option Addr} {slKi : Array (Option Value)} {ocKi kVKi dcKi pmKi cdKi ctKi : Value}
    {odBeg anBeg : Option Addr} {slBeg : Array (Option Value)} {ocBeg kVBeg dcBeg pmBeg cdBeg ctBeg : Value}
    {odPla anPla : Option Addr} {slPla : Array (Option Value)} {ocPla kVPla dcPla pmPla cdPla ctPla : Value}
    {odWay anWay : Option Addr} {slWay : Array (Option Value)} {ocWay kVWay dcWay pmWay cdWay ctWay : Value}
    {odWor anWor : Option Addr} {slWor : Array (Option Value)} {ocWor kVWor dcWor pmWor cdWor ctWor : Value}
    {odDro anDro : Option Addr} {slDro : Array (Option Value)} {ocDro kVDro dcDro pmDro cdDro ctDro : Value}
    {odChk anChk : Option Addr} {slChk : Array (Option Value)} {ocChk kVChk dcChk pmChk cdChk ctChk : Value}
    {odBst anBst : Option Addr} {slBst : Array (Option Value)} {ocBst kVBst dcBst pmBst cdBst ctBst : Value}
    {odNvr anNvr : Option Addr} {slNvr : Array (Option Value)} {ocNvr kVNvr dcNvr pmNvr cdNvr ctNvr : Value}
    {odAnw anAnw : Option Addr} {slAnw : Array (Option Value)} {ocAnw kVAnw dcAnw pmAnw cdAnw ctAnw : Value}
    {odAnd anAnd : Option Addr} {slAnd : Array (Option Value)} {ocAnd kVAnd dcAnd pmAnd cdAnd ctAnd : Value}
    {odRun anRun : Option Addr} {slRun : Array (Option Value)} {ocRun kVRun dcRun pmRun cdRun ctRun : Value}
    {tkPlaces : Tok}
    {tkRight : Tok}
    {tkGap : Tok}
    {tkHome : Tok}
    {tkLong : Tok}
    {tkWork : Tok}
    {tkDriven : Tok}
    {tkCheck : Tok}
    {tkBad : Tok}
    {tkNone : Tok}
    {tkMany : Tok}
    {tkNoWay : Tok}
    {tkMost : Tok}
    {tkWays : Tok}
    {tkPieces : Tok}
    {odTMany : Option Addr} {itsTMany : Array Value} {nTMany : Nat} {slTMany : Array (Option Value)}
    {odTFirst : Option Addr} {itsTFirst : Array Value} {nTFirst : Nat} {slTFirst : Array (Option Value)}
    (acR : PySem.W.nsIn K mainGlobals "Rules" = some (some (.ref cR)))
    (pgcR : PySem.W.plainGet K cR Str.empty = true)
    (hdcR : PySem.W.hasDictIn K cR = true)
    (pocR : PySem.W.plainOver K cR = true)
    (sacR : PySem.W.findIn K (.ref cR) "__setattr__" = some (some (.builtin "object.__setattr__")))
    (mkcR : PySem.W.makesIn K cR = true)
    (kccR : PySem.W.keepIn K (.ref cR) = true)
    (n0cR : PySem.W.findIn K (.ref cR) "long" = some none)
    (n1cR : PySem.W.findIn K (.ref cR) "work" = some none)
    (n2cR : PySem.W.findIn K (.ref cR) "drive" = some none)
    (n3cR : PySem.W.findIn K (.ref cR) "rest" = some none)
    (n4cR : PySem.W.findIn K (.ref cR) "ahead" = some none)
    (n5cR : PySem.W.findIn K (.ref cR) "behind" = some none)
    (n6cR : PySem.W.findIn K (.ref cR) "change" = some none)
    (n7cR : PySem.W.findIn K (.ref cR) "least" = some none)
    (n8cR : PySem.W.findIn K (.ref cR) "twice" = some none)
    (acP : PySem.W.nsIn K mainGlobals "Piece" = some (some (.ref cP)))
    (pgcP : PySem.W.plainGet K cP Str.empty = true)
    (hdcP : PySem.W.hasDictIn K cP = true)
    (pocP : PySem.W.plainOver K cP = true)
    (sacP : PySem.W.findIn K (.ref cP) "__setattr__" = some (some (.builtin "object.__setattr__")))
    (mkcP : PySem.W.makesIn K cP = true)
    (kccP : PySem.W.keepIn K (.ref cP) = true)
    (n0cP : PySem.W.findIn K (.ref cP) "begin" = some none)
    (n1cP : PySem.W.findIn K (.ref cP) "end" = some none)
    (n2cP : PySem.W.findIn K (.ref cP) "first" = some none)
    (n3cP : PySem.W.findIn K (.ref cP) "last" = some none)
    (acD : PySem.W.nsIn K mainGlobals "Depot" = some (some (.ref cD)))
    (pgcD : PySem.W.plainGet K cD Str.empty = true)
    (hdcD : PySem.W.hasDictIn K cD = true)
    (pocD : PySem.W.plainOver K cD = true)
    (sacD : PySem.W.findIn K (.ref cD) "__setattr__" = some (some (.builtin "object.__setattr__")))
    (mkcD : PySem.W.makesIn K cD = true)
    (kccD : PySem.W.keepIn K (.ref cD) = true)
    (n0cD : PySem.W.findIn K (.ref cD) "rules" = some none)
    (n1cD : PySem.W.findIn K (.ref cD) "breaks" = some none)
    (n2cD : PySem.W.findIn K (.ref cD) "homes" = some none)
    (n3cD : PySem.W.findIn K (.ref cD) "ways" = some none)
    (n4cD : PySem.W.findIn K (.ref cD) "pieces" = some none)
    (acU : PySem.W.nsIn K mainGlobals "Duty" = some (some (.ref cU)))
    (pgcU : PySem.W.plainGet K cU Str.empty = true)
    (hdcU : PySem.W.hasDictIn K cU = true)
    (pocU : PySem.W.plainOver K cU = true)
    (sacU : PySem.W.findIn K (.ref cU) "__setattr__" = some (some (.builtin "object.__setattr__")))
    (mkcU : PySem.W.makesIn K cU = true)
    (kccU : PySem.W.keepIn K (.ref cU) = true)
    (n0cU : PySem.W.findIn K (.ref cU) "numbers" = some none)
    (n1cU : PySem.W.findIn K (.ref cU) "home" = some none)
    (n2cU : PySem.W.findIn K (.ref cU) "begin" = some none)
    (n3cU : PySem.W.findIn K (.ref cU) "end" = some none)
    (n4cU : PySem.W.findIn K (.ref cU) "pay" = some none)
    (n5cU : PySem.W.findIn K (.ref cU) "work" = some none)
    (n6cU : PySem.W.findIn K (.ref cU) "driven" = some none)
    (n7cU : PySem.W.findIn K (.ref cU) "wrong" = some none)
    (acL : PySem.W.nsIn K mainGlobals "Plans" = some (some (.ref cL)))
    (pgcL : PySem.W.plainGet K cL Str.empty = true)
    (hdcL : PySem.W.hasDictIn K cL = true)
    (pocL : PySem.W.plainOver K cL = true)
    (sacL : PySem.W.findIn K (.ref cL) "__setattr__" = some (some (.builtin "object.__setattr__")))
    (mkcL : PySem.W.makesIn K cL = true)
    (kccL : PySem.W.keepIn K (.ref cL) = true)
    (n0cL : PySem.W.findIn K (.ref cL) "duties" = some none)
    (n1cL : PySem.W.findIn K (.ref cL) "whole" = some none)
    (n2cL : PySem.W.findIn K (.ref cL) "pays" = some none)
    (n3cL : PySem.W.findIn K (.ref cL) "ways" = some none)
    (acK : PySem.W.nsIn K mainGlobals "Desk" = some (some (.ref cK)))
    (pgcK : PySem.W.plainGet K cK Str.empty = true)
    (hdcK : PySem.W.hasDictIn K cK = true)
    (pocK : PySem.W.plainOver K cK = true)
    (sacK : PySem.W.findIn K (.ref cK) "__setattr__" = some (some (.builtin "object.__setattr__")))
    (mkcK : PySem.W.makesIn K cK = true)
    (kccK : PySem.W.keepIn K (.ref cK) = true)
    (n0cK : PySem.W.findIn K (.ref cK) "depot" = some none)
    (aE : PySem.W.nsIn K mainGlobals "Refused" = some (some (.ref cE)))
    (xL : K.lookup cE = some (excClassObj nm q cE N bs [.type "ValueError", .type "Exception", .type "BaseException", .type "object"] true sn sub ab col dd m0 m1 m2 m3 m5 "ValueError.__new__"))
    (saE : PySem.W.findIn K (.ref cE) "__setattr__" = some (some (.builtin "object.__setattr__")))
    (gaE : PySem.W.findIn K (.ref cE) "__getattribute__" = some (some (.builtin "BaseException.__getattribute__")))
    (ggE : PySem.W.findIn K (.ref cE) "__getattr__" = some none)
    (nbE : PySem.W.findIn K (.ref cE) "code" = some none)
    (aI : PySem.W.findIn K (.ref cE) "__init__" = some (some (.ref fI)))
    (tI : PySem.W.typeIn K (.ref fI) = some (.type "function"))
    (lI : K.lookup fI = some ⟨ocI, odI, .func (PySem.W.fnOf "__init__" "Refused.__init__" (PySem.LowX.iA ⟨186, 17, 186, 21⟩ ⟨186, 23, 186, 27⟩) (PySem.LowX.iB ⟨187, 8, 187, 12⟩ ⟨187, 8, 187, 17⟩ ⟨187, 20, 187, 24⟩ ⟨187, 8, 187, 24⟩) PySem.LowX.iS .none .none dcI pmI anI cdI ctI), slI⟩)
    (ccI : PySem.W.codeIn K cdI "Refused.__init__" = true)
    (kE : PySem.W.keepIn K (.ref cE) = true)
    (eE : PySem.W.subIn K (.ref cE) (.type "BaseException") = some true)
    (tE : PySem.W.typeIn K (.ref cE) = some (.type "type"))
    (hE : PySem.W.hasDictIn K cE = true)
    (iE : PySem.W.isClsIn K cE = true)
    (sE : PySem.W.subIn K (.ref cE) (.ref cE) = some true)
    (aMin : PySem.W.findIn K (.ref cD) "minutes" = some (some (.ref fMin)))
    (iMin : PySem.W.isFn K (.ref fMin) = true)
    (lMin : K.lookup fMin = some ⟨ocMin, odMin, .func (PySem.W.fnOf "minutes" "Depot.minutes" (defArgs sMin) (defBody sMin) (defScope sMin) .none kVMin dcMin pmMin anMin cdMin ctMin), slMin⟩)
    (ccMin : PySem.W.codeIn K cdMin "Depot.minutes" = true)
    (kMin : PySem.W.keepIn K (.ref fMin) = true)
    (aCan : PySem.W.findIn K (.ref cD) "can_break" = some (some (.ref fCan)))
    (iCan : PySem.W.isFn K (.ref fCan) = true)
    (lCan : K.lookup fCan = some ⟨ocCan, odCan, .func (PySem.W.fnOf "can_break" "Depot.can_break" (defArgs sCan) (defBody sCan) (defScope sCan) .none kVCan dcCan pmCan anCan cdCan ctCan), slCan⟩)
    (ccCan : PySem.W.codeIn K cdCan "Depot.can_break" = true)
    (kCan : PySem.W.keepIn K (.ref fCan) = true)
    (aOrd : PySem.W.findIn K (.ref cD) "in_order" = some (some (.ref fOrd)))
    (iOrd : PySem.W.isFn K (.ref fOrd) = true)
    (lOrd : K.lookup fOrd = some ⟨ocOrd, odOrd, .func (PySem.W.fnOf "in_order" "Depot.in_order" (defArgs sOrd) (defBody sOrd) (defScope sOrd) .none kVOrd dcOrd pmOrd anOrd cdOrd ctOrd), slOrd⟩)
    (ccOrd : PySem.W.codeIn K cdOrd "Depot.in_order" = true)
    (kOrd : PySem.W.keepIn K (.ref fOrd) = true)
    (aLen : PySem.W.findIn K (.ref cP) "length" = some (some (.ref fLen)))
    (iLen : PySem.W.isFn K (.ref fLen) = true)
    (lLen : K.lookup fLen = some ⟨ocLen, odLen, .func (PySem.W.fnOf "length" "Piece.length" (defArgs sLen) (defBody sLen) (defScope sLen) .none kVLen dcLen pmLen anLen cdLen ctLen), slLen⟩)
    (ccLen : PySem.W.codeIn K cdLen "Piece.length" = true)
    (kLen : PySem.W.keepIn K (.ref fLen) = true)
    (aPay : PySem.W.nsIn K mainGlobals "pay_for" = some (some (.ref fPay)))
    (lPay : K.lookup fPay = some ⟨ocPay, odPay, .func (PySem.W.fnOf "pay_for" "pay_for" (defArgs sPay) (defBody sPay) (defScope sPay) .none kVPay dcPay pmPay anPay cdPay ctPay), slPay⟩)
    (ccPay : PySem.W.codeIn K cdPay "pay_for" = true)
    (kPay : PySem.W.keepIn K (.ref fPay) = true)
    (aHw : PySem.W.nsIn K mainGlobals "home_ways" = some (some (.ref fHw)))
    (lHw : K.lookup fHw = some ⟨ocHw, odHw, .func (PySem.W.fnOf "home_ways" "home_ways" (defArgs sHw) (defBody sHw) (defScope sHw) .none kVHw dcHw pmHw anHw cdHw ctHw), slHw⟩)
    (ccHw : PySem.W.codeIn K cdHw "home_ways" = true)
    (kHw : PySem.W.keepIn K (.ref fHw) = true)
    (aGap : PySem.W.nsIn K mainGlobals "gap_between" = some (some (.ref fGap)))
    (lGap : K.lookup fGap = some ⟨ocGap, odGap, .func (PySem.W.fnOf "gap_between" "gap_between" (defArgs sGap) (defBody sGap) (defScope sGap) .none kVGap dcGap pmGap anGap cdGap ctGap), slGap⟩)
    (ccGap : PySem.W.codeIn K cdGap "gap_between" = true)
    (kGap : PySem.W.keepIn K (.ref fGap) = true)
    (aBrk : PySem.W.nsIn K mainGlobals "is_break" = some (some (.ref fBrk)))
    (lBrk : K.lookup fBrk = some ⟨ocBrk, odBrk, .func (PySem.W.fnOf "is_break" "is_break" (defArgs sBrk) (defBody sBrk) (defScope sBrk) .none kVBrk dcBrk pmBrk anBrk cdBrk ctBrk), slBrk⟩)
    (ccBrk : PySem.W.codeIn K cdBrk "is_break" = true)
    (kBrk : PySem.W.keepIn K (.ref fBrk) = true)
    (aHome : PySem.W.nsIn K mainGlobals "best_home" = some (some (.ref fHome)))
    (lHome : K.lookup fHome = some ⟨ocHome, odHome, .func (PySem.W.fnOf "best_home" "best_home" (defArgs sHome) (defBody sHome) (defScope sHome) .none kVHome dcHome pmHome anHome cdHome ctHome), slHome⟩)
    (ccHome : PySem.W.codeIn K cdHome "best_home" = true)
    (kHome : PySem.W.keepIn K (.ref fHome) = true)
    (aDrv : PySem.W.nsIn K mainGlobals "driven_together" = some (some (.ref fDrv)))
    (lDrv : K.lookup fDrv = some ⟨ocDrv, odDrv, .func (PySem.W.fnOf "driven_together" "driven_together" (defArgs sDrv) (defBody sDrv) (defScope sDrv) .none kVDrv dcDrv pmDrv anDrv cdDrv ctDrv), slDrv⟩)
    (ccDrv : PySem.W.codeIn K cdDrv "driven_together" = true)
    (kDrv : PySem.W.keepIn K (.ref fDrv) = true)
    (aBy : PySem.W.findIn K (.ref cU) "by_rules" = some (some (.ref fBy)))
    (iBy : PySem.W.isFn K (.ref fBy) = true)
    (lBy : K.lookup fBy = some ⟨ocBy, odBy, .func (PySem.W.fnOf "by_rules" "Duty.by_rules" (defArgs sBy) (defBody sBy) (defScope sBy) .none kVBy dcBy pmBy anBy cdBy ctBy), slBy⟩)
    (ccBy : PySem.W.codeIn K cdBy "Duty.by_rules" = true)
    (kBy : PySem.W.keepIn K (.ref fBy) = true)
    (aTold : PySem.W.findIn K (.ref cU) "told" = some (some (.ref fTold)))
    (iTold : PySem.W.isFn K (.ref fTold) = true)
    (lTold : K.lookup fTold = some ⟨ocTold, odTold, .func (PySem.W.fnOf "told" "Duty.told" (defArgs sTold) (defBody sTold) (defScope sTold) .none kVTold dcTold pmTold anTold cdTold ctTold), slTold⟩)
    (ccTold : PySem.W.codeIn K cdTold "Duty.told" = true)
    (kTold : PySem.W.keepIn K (.ref fTold) = true)
    (aLook : PySem.W.findIn K (.ref cU) "looked_at" = some (some (.ref fLook)))
    (iLook : PySem.W.isFn K (.ref fLook) = true)
    (lLook : K.lookup fLook = some ⟨ocLook, odLook, .func (PySem.W.fnOf "looked_at" "Duty.looked_at" (defArgs sLook) (defBody sLook) (defScope sLook) .none kVLook dcLook pmLook anLook cdLook ctLook), slLook⟩)
    (ccLook : PySem.W.codeIn K cdLook "Duty.looked_at" = true)
    (kLook : PySem.W.keepIn K (.ref fLook) = true)
    (aDuty : PySem.W.findIn K (.ref cU) "__init__" = some (some (.ref fDuty)))
    (iDuty : PySem.W.isFn K (.ref fDuty) = true)
    (lDuty : K.lookup fDuty = some ⟨ocDuty, odDuty, .func (PySem.W.fnOf "__init__" "Duty.__init__" (defArgs sDuty) (defBody sDuty) (defScope sDuty) .none kVDuty dcDuty pmDuty anDuty cdDuty ctDuty), slDuty⟩)
    (ccDuty : PySem.W.codeIn K cdDuty "Duty.__init__" = true)
    (kDuty : PySem.W.keepIn K (.ref fDuty) = true)
    (aMem : PySem.W.nsIn K mainGlobals "members" = some (some (.ref fMem)))
    (lMem : K.lookup fMem = some ⟨ocMem, odMem, .func (PySem.W.fnOf "members" "members" (defArgs sMem) (defBody sMem) (defScope sMem) .none kVMem dcMem pmMem anMem cdMem ctMem), slMem⟩)
    (ccMem : PySem.W.codeIn K cdMem "members" = true)
    (kMem : PySem.W.keepIn K (.ref fMem) = true)
    (aFirst : PySem.W.nsIn K mainGlobals "first_duties" = some (some (.ref fFirst)))
    (lFirst : K.lookup fFirst = some ⟨ocFirst, odFirst, .func (PySem.W.fnOf "first_duties" "first_duties" (defArgs sFirst) (defBody sFirst) (defScope sFirst) .none kVFirst dcFirst pmFirst anFirst cdFirst ctFirst), slFirst⟩)
    (ccFirst : PySem.W.codeIn K cdFirst "first_duties" = true)
    (kFirst : PySem.W.keepIn K (.ref fFirst) = true)
    (aRights : PySem.W.nsIn K mainGlobals "right_duties" = some (some (.ref fRights)))
    (lRights : K.lookup fRights = some ⟨ocRights, odRights, .func (PySem.W.fnOf "right_duties" "right_duties" (defArgs sRights) (defBody sRights) (defScope sRights) .none kVRights dcRights pmRights anRights cdRights ctRights), slRights⟩)
    (ccRights : PySem.W.codeIn K cdRights "right_duties" = true)
    (kRights : PySem.W.keepIn K (.ref fRights) = true)
    (aPw : PySem.W.findIn K (.ref cL) "pay_with" = some (some (.ref fPw)))
    (iPw : PySem.W.isFn K (.ref fPw) = true)
    (lPw : K.lookup fPw = some ⟨ocPw, odPw, .func (PySem.W.fnOf "pay_with" "Plans.pay_with" (defArgs sPw) (defBody sPw) (defScope sPw) .none kVPw dcPw pmPw anPw cdPw ctPw), slPw⟩)
    (ccPw : PySem.W.codeIn K cdPw "Plans.pay_with" = true)
    (kPw : PySem.W.keepIn K (.ref fPw) = true)
    (aLa : PySem.W.findIn K (.ref cL) "look_at" = some (some (.ref fLa)))
    (iLa : PySem.W.isFn K (.ref fLa) = true)
    (lLa : K.lookup fLa = some ⟨ocLa, odLa, .func (PySem.W.fnOf "look_at" "Plans.look_at" (defArgs sLa) (defBody sLa) (defScope sLa) .none kVLa dcLa pmLa anLa cdLa ctLa), slLa⟩)
    (ccLa : PySem.W.codeIn K cdLa "Plans.look_at" = true)
    (kLa : PySem.W.keepIn K (.ref fLa) = true)
    (aPlans : PySem.W.findIn K (.ref cL) "__init__" = some (some (.ref fPlans)))
    (iPlans : PySem.W.isFn K (.ref fPlans) = true)
    (lPlans : K.lookup fPlans = some ⟨ocPlans, odPlans, .func (PySem.W.fnOf "__init__" "Plans.__init__" (defArgs sPl) (defBody sPl) (defScope sPl) .none kVPlans dcPlans pmPlans anPlans cdPlans ctPlans), slPlans⟩)
    (ccPlans : PySem.W.codeIn K cdPlans "Plans.__init__" = true)
    (kPlans : PySem.W.keepIn K (.ref fPlans) = true)
    (aEarl : PySem.W.findIn K (.ref cL) "earliest" = some (some (.ref fEarl)))
    (iEarl : PySem.W.isFn K (.ref fEarl) = true)
    (lEarl : K.lookup fEarl = some ⟨ocEarl, odEarl, .func (PySem.W.fnOf "earliest" "Plans.earliest" (defArgs sEa) (defBody sEa) (defScope sEa) .none kVEarl dcEarl pmEarl anEarl cdEarl ctEarl), slEarl⟩)
    (ccEarl : PySem.W.codeIn K cdEarl "Plans.earliest" = true)
    (kEarl : PySem.W.keepIn K (.ref fEarl) = true)
    (aNev : PySem.W.nsIn K mainGlobals "never_used" = some (some (.ref fNev)))
    (lNev : K.lookup fNev = some ⟨ocNev, odNev, .func (PySem.W.fnOf "never_used" "never_used" (defArgs sNev) (defBody sNev) (defScope sNev) .none kVNev dcNev pmNev anNev cdNev ctNev), slNev⟩)
    (ccNev : PySem.W.codeIn K cdNev "never_used" = true)
    (kNev : PySem.W.keepIn K (.ref fNev) = true)
    (aRul : PySem.W.findIn K (.ref cR) "__init__" = some (some (.ref fRul)))
    (iRul : PySem.W.isFn K (.ref fRul) = true)
    (lRul : K.lookup fRul = some ⟨ocRul, odRul, .func (PySem.W.fnOf "__init__" "Rules.__init__" (defArgs sRul) (defBody sRul) (defScope sRul) .none kVRul dcRul pmRul anRul cdRul ctRul), slRul⟩)
    (ccRul : PySem.W.codeIn K cdRul "Rules.__init__" = true)
    (kRul : PySem.W.keepIn K (.ref fRul) = true)
    (aPie : PySem.W.findIn K (.ref cP) "__init__" = some (some (.ref fPie)))
    (iPie : PySem.W.isFn K (.ref fPie) = true)
    (lPie : K.lookup fPie = some ⟨ocPie, odPie, .func (PySem.W.fnOf "__init__" "Piece.__init__" (defArgs sPie) (defBody sPie) (defScope sPie) .none kVPie dcPie pmPie anPie cdPie ctPie), slPie⟩)
    (ccPie : PySem.W.codeIn K cdPie "Piece.__init__" = true)
    (kPie : PySem.W.keepIn K (.ref fPie) = true)
    (aDep : PySem.W.findIn K (.ref cD) "__init__" = some (some (.ref fDep)))
    (iDep : PySem.W.isFn K (.ref fDep) = true)
    (lDep : K.lookup fDep = some ⟨ocDep, odDep, .func (PySem.W.fnOf "__init__" "Depot.__init__" (defArgs sDep) (defBody sDep) (defScope sDep) .none kVDep dcDep pmDep anDep cdDep ctDep), slDep⟩)
    (ccDep : PySem.W.codeIn K cdDep "Depot.__init__" = true)
    (kDep : PySem.W.keepIn K (.ref fDep) = true)
    (aPut : PySem.W.findIn K (.ref cD) "put_place" = some (some (.ref fPut)))
    (iPut : PySem.W.isFn K (.ref fPut) = true)
    (lPut : K.lookup fPut = some ⟨ocPut, odPut, .func (PySem.W.fnOf "put_place" "Depot.put_place" (defArgs sPut) (defBody sPut) (defScope sPut) .none kVPut dcPut pmPut anPut cdPut ctPut), slPut⟩)
    (ccPut : PySem.W.codeIn K cdPut "Depot.put_place" = true)
    (kPut : PySem.W.keepIn K (.ref fPut) = true)
    (aNeed : PySem.W.nsIn K mainGlobals "need" = some (some (.ref fNeed)))
    (lNeed : K.lookup fNeed = some ⟨ocNeed, odNeed, .func (PySem.W.fnOf "need" "need" (defArgs sNeed) (defBody sNeed) (defScope sNeed) .none kVNeed dcNeed pmNeed anNeed cdNeed ctNeed), slNeed⟩)
    (ccNeed : PySem.W.codeIn K cdNeed "need" = true)
    (kNeed : PySem.W.keepIn K (.ref fNeed) = true)
    (aAre : PySem.W.nsIn K mainGlobals "are_places" = some (some (.ref fAre)))
    (lAre : K.lookup fAre = some ⟨ocAre, odAre, .func (PySem.W.fnOf "are_places" "are_places" (defArgs sAre) (defBody sAre) (defScope sAre) .none kVAre dcAre pmAre anAre cdAre ctAre), slAre⟩)
    (ccAre : PySem.W.codeIn K cdAre "are_places" = true)
    (kAre : PySem.W.keepIn K (.ref fAre) = true)
    (aLis : PySem.W.nsIn K mainGlobals "listed" = some (some (.ref fLis)))
    (lLis : K.lookup fLis = some ⟨ocLis, odLis, .func (PySem.W.fnOf "listed" "listed" (defArgs sLis) (defBody sLis) (defScope sLis) .none kVLis dcLis pmLis anLis cdLis ctLis), slLis⟩)
    (ccLis : PySem.W.codeIn K cdLis "listed" = true)
    (kLis : PySem.W.keepIn K (.ref fLis) = true)
    (aKi : PySem.W.findIn K (.ref cK) "__init__" = some (some (.ref fKi)))
    (iKi : PySem.W.isFn K (.ref fKi) = true)
    (lKi : K.lookup fKi = some ⟨ocKi, odKi, .func (PySem.W.fnOf "__init__" "Desk.__init__" (defArgs sKi) (defBody sKi) (defScope sKi) .none kVKi dcKi pmKi anKi cdKi ctKi), slKi⟩)
    (ccKi : PySem.W.codeIn K cdKi "Desk.__init__" = true)
    (kKi : PySem.W.keepIn K (.ref fKi) = true)
    (aBeg : PySem.W.findIn K (.ref cK) "begins" = some (some (.ref fBeg)))
    (iBeg : PySem.W.isFn K (.ref fBeg) = true)
    (lBeg : K.lookup fBeg = some ⟨ocBeg, odBeg, .func (PySem.W.fnOf "begins" "Desk.begins" (defArgs sBeg) (defBody sBeg) (defScope sBeg) .none kVBeg dcBeg pmBeg anBeg cdBeg ctBeg), slBeg⟩)
    (ccBeg : PySem.W.codeIn K cdBeg "Desk.begins" = true)
    (kBeg : PySem.W.keepIn K (.ref fBeg) = true)
    (aPla : PySem.W.findIn K (.ref cK) "place" = some (some (.ref fPla)))
    (iPla : PySem.W.isFn K (.ref fPla) = true)
    (lPla : K.lookup fPla = some ⟨ocPla, odPla, .func (PySem.W.fnOf "place" "Desk.place" (defArgs sPla) (defBody sPla) (defScope sPla) .none kVPla dcPla pmPla anPla cdPla ctPla), slPla⟩)
    (ccPla : PySem.W.codeIn K cdPla "Desk.place" = true)
    (kPla : PySem.W.keepIn K (.ref fPla) = true)
    (aWay : PySem.W.findIn K (.ref cK) "way" = some (some (.ref fWay)))
    (iWay : PySem.W.isFn K (.ref fWay) = true)
    (lWay : K.lookup fWay = some ⟨ocWay, odWay, .func (PySem.W.fnOf "way" "Desk.way" (defArgs sWay) (defBody sWay) (defScope sWay) .none kVWay dcWay pmWay anWay cdWay ctWay), slWay⟩)
    (ccWay : PySem.W.codeIn K cdWay "Desk.way" = true)
    (kWay : PySem.W.keepIn K (.ref fWay) = true)
    (aWor : PySem.W.findIn K (.ref cK) "add_work" = some (some (.ref fWor)))
    (iWor : PySem.W.isFn K (.ref fWor) = true)
    (lWor : K.lookup fWor = some ⟨ocWor, odWor, .func (PySem.W.fnOf "add_work" "Desk.add_work" (defArgs sWor) (defBody sWor) (defScope sWor) .none kVWor dcWor pmWor anWor cdWor ctWor), slWor⟩)
    (ccWor : PySem.W.codeIn K cdWor "Desk.add_work" = true)
    (kWor : PySem.W.keepIn K (.ref fWor) = true)
    (aDro : PySem.W.findIn K (.ref cK) "drop" = some (some (.ref fDro)))
    (iDro : PySem.W.isFn K (.ref fDro) = true)
    (lDro : K.lookup fDro = some ⟨ocDro, odDro, .func (PySem.W.fnOf "drop" "Desk.drop" (defArgs sDro) (defBody sDro) (defScope sDro) .none kVDro dcDro pmDro anDro cdDro ctDro), slDro⟩)
    (ccDro : PySem.W.codeIn K cdDro "Desk.drop" = true)
    (kDro : PySem.W.keepIn K (.ref fDro) = true)
    (aChk : PySem.W.findIn K (.ref cK) "check" = some (some (.ref fChk)))
    (iChk : PySem.W.isFn K (.ref fChk) = true)
    (lChk : K.lookup fChk = some ⟨ocChk, odChk, .func (PySem.W.fnOf "check" "Desk.check" (defArgs sChk) (defBody sChk) (defScope sChk) .none kVChk dcChk pmChk anChk cdChk ctChk), slChk⟩)
    (ccChk : PySem.W.codeIn K cdChk "Desk.check" = true)
    (kChk : PySem.W.keepIn K (.ref fChk) = true)
    (aBst : PySem.W.findIn K (.ref cK) "best" = some (some (.ref fBst)))
    (iBst : PySem.W.isFn K (.ref fBst) = true)
    (lBst : K.lookup fBst = some ⟨ocBst, odBst, .func (PySem.W.fnOf "best" "Desk.best" (defArgs sBst) (defBody sBst) (defScope sBst) .none kVBst dcBst pmBst anBst cdBst ctBst), slBst⟩)
    (ccBst : PySem.W.codeIn K cdBst "Desk.best" = true)
    (kBst : PySem.W.keepIn K (.ref fBst) = true)
    (aNvr : PySem.W.findIn K (.ref cK) "never" = some (some (.ref fNvr)))
    (iNvr : PySem.W.isFn K (.ref fNvr) = true)
    (lNvr : K.lookup fNvr = some ⟨ocNvr, odNvr, .func (PySem.W.fnOf "never" "Desk.never" (defArgs sNvr) (defBody sNvr) (defScope sNvr) .none kVNvr dcNvr pmNvr anNvr cdNvr ctNvr), slNvr⟩)
    (ccNvr : PySem.W.codeIn K cdNvr "Desk.never" = true)
    (kNvr : PySem.W.keepIn K (.ref fNvr) = true)
    (aAnw : PySem.W.findIn K (.ref cK) "answer" = some (some (.ref fAnw)))
    (iAnw : PySem.W.isFn K (.ref fAnw) = true)
    (lAnw : K.lookup fAnw = some ⟨ocAnw, odAnw, .func (PySem.W.fnOf "answer" "Desk.answer" (defArgs sAnw) (defBody sAnw) (defScope sAnw) .none kVAnw dcAnw pmAnw anAnw cdAnw ctAnw), slAnw⟩)
    (ccAnw : PySem.W.codeIn K cdAnw "Desk.answer" = true)
    (kAnw : PySem.W.keepIn K (.ref fAnw) = true)
    (aAnd : PySem.W.nsIn K mainGlobals "answered" = some (some (.ref fAnd)))
    (lAnd : K.lookup fAnd = some ⟨ocAnd, odAnd, .func (PySem.W.fnOf "answered" "answered" (defArgs sAnd) (defBody sAnd) (defScope sAnd) .none kVAnd dcAnd pmAnd anAnd cdAnd ctAnd), slAnd⟩)
    (ccAnd : PySem.W.codeIn K cdAnd "answered" = true)
    (kAnd : PySem.W.keepIn K (.ref fAnd) = true)
    (aRun : PySem.W.nsIn K mainGlobals "answers" = some (some (.ref fRun)))
    (lRun : K.lookup fRun = some ⟨ocRun, odRun, .func (PySem.W.fnOf "answers" "answers" (defArgs sRun) (defBody sRun) (defScope sRun) .none kVRun dcRun pmRun anRun cdRun ctRun), slRun⟩)
    (ccRun : PySem.W.codeIn K cdRun "answers" = true)
    (kRun : PySem.W.keepIn K (.ref fRun) = true)
    (gkPlaces : PySem.W.nsIn K mainGlobals "MANY_PLACES" = some (some (.int 20 tkPlaces)))
    (gkRight : PySem.W.nsIn K mainGlobals "RIGHT" = some (some (.int 0 tkRight)))
    (gkGap : PySem.W.nsIn K mainGlobals "NO_GAP" = some (some (.int 1 tkGap)))
    (gkHome : PySem.W.nsIn K mainGlobals "NO_HOME" = some (some (.int 2 tkHome)))
    (gkLong : PySem.W.nsIn K mainGlobals "TOO_LONG" = some (some (.int 3 tkLong)))
    (gkWork : PySem.W.nsIn K mainGlobals "TOO_MUCH_WORK" = some (some (.int 4 tkWork)))
    (gkDriven : PySem.W.nsIn K mainGlobals "TOO_MUCH_DRIVEN" = some (some (.int 5 tkDriven)))
    (gkCheck : PySem.W.nsIn K mainGlobals "CHECK" = some (some (.int 5 tkCheck)))
    (gkBad : PySem.W.nsIn K mainGlobals "BAD" = some (some (.int (-1) tkBad)))
    (gkNone : PySem.W.nsIn K mainGlobals "NONE" = some (some (.int (-2) tkNone)))
    (gkMany : PySem.W.nsIn K mainGlobals "TOO_MANY" = some (some (.int (-5) tkMany)))
    (gkNoWay : PySem.W.nsIn K mainGlobals "NO_WAY" = some (some (.int (-6) tkNoWay)))
    (gkMost : PySem.W.nsIn K mainGlobals "MOST" = some (some (.int 100000 tkMost)))
    (gkWays : PySem.W.nsIn K mainGlobals "MOST_WAYS" = some (some (.int 40 tkWays)))
    (gkPieces : PySem.W.nsIn K mainGlobals "MOST_PIECES" = some (some (.int 7 tkPieces)))
    (bMin : PySem.W.nsIn K mainGlobals "min" = some none)
    (bMax : PySem.W.nsIn K mainGlobals "max" = some none)
    (bSum : PySem.W.nsIn K mainGlobals "sum" = some none)
    (bZip : PySem.W.nsIn K mainGlobals "zip" = some none)
    (bLen : PySem.W.nsIn K mainGlobals "len" = some none)
    (bAny : PySem.W.nsIn K mainGlobals "any" = some none)
    (bAll : PySem.W.nsIn K mainGlobals "all" = some none)
    (bList : PySem.W.nsIn K mainGlobals "list" = some none)
    (bRange : PySem.W.nsIn K mainGlobals "range" = some none)
    (bSorted : PySem.W.nsIn K mainGlobals "sorted" = some none)
    (aTMany : PySem.W.nsIn K mainGlobals "MANY" = some (some (.ref mMany)))
    (lTMany : K.lookup mMany = some ⟨.type "tuple", odTMany, .seq itsTMany nTMany, slTMany⟩)
    (vTMany : Vals (([9, 3, 3, 4, 1, 0, 0, 0] : List Int).map V.int) itsTMany.toList)
    (aTFirst : PySem.W.nsIn K mainGlobals "FIRST_RULES" = some (some (.ref mFirst)))
    (lTFirst : K.lookup mFirst = some ⟨.type "tuple", odTFirst, .seq itsTFirst nTFirst, slTFirst⟩)
    (vTFirst : Vals (([600, 480, 240, 30, 10, 10, 5, 0, 100000] : List Int).map V.int) itsTFirst.toList) :
    ∃ fd : FuncData, (∀ (s : Shared) (us : List Value), us.length = (["calls"] : List Str).length → BindsTo s fd ⟨us, []⟩ ((["calls"] : List Str).zip us)) ∧ ∀ base : Heap, K.In base → base.Ns mainGlobals mg → FnOk P w K mg base CX0 14 fa fd ["calls"] (spRun K) := by
  have e := hfa.symm.trans (PySem.W.mg_of X G aRun)
  cases e
  let Z : Cs := ⟨cR, cP, cD, cU, cL, cE, cK, fI⟩
  have cRA : ClsA K cR nRules := ⟨⟨pgcR, hdcR, pocR, sacR⟩, by decide +kernel, fun f hf => by
    rcases List.mem_cons.mp hf with rfl | hf
    · exact n0cR
    rcases List.mem_cons.mp hf with rfl | hf
    · exact n1cR
    rcases List.mem_cons.mp hf with rfl | hf
    · exact n2cR
    rcases List.mem_cons.mp hf with rfl | hf
    · exact n3cR
    rcases List.mem_cons.mp hf with rfl | hf
    · exact n4cR
    rcases List.mem_cons.mp hf with rfl | hf
    · exact n5cR
    rcases List.mem_cons.mp hf with rfl | hf
    · exact n6cR
    rcases List.mem_cons.mp hf with rfl | hf
    · exact n7cR
    rcases List.mem_cons.mp hf with rfl | hf
    · exact n8cR
    cases hf⟩
  have cPA : ClsA K cP nPiece := ⟨⟨pgcP, hdcP, pocP, sacP⟩, by decide +kernel, fun f hf => by
    rcases List.mem_cons.mp hf with rfl | hf
    · exact n0cP
    rcases List.mem_cons.mp hf with rfl | hf
    · exact n1cP
    rcases List.mem_cons.mp hf with rfl | hf
    · exact n2cP
    rcases List.mem_cons.mp hf with rfl | hf
    · exact n3cP
    cases hf⟩
  have cDA : ClsA K cD nDepot := ⟨⟨pgcD, hdcD, pocD, sacD⟩, by decide +kernel, fun f hf => by
    rcases List.mem_cons.mp hf with rfl | hf
    · exact n0cD
    rcases List.mem_cons.mp hf with rfl | hf
    · exact n1cD
    rcases List.mem_cons.mp hf with rfl | hf
    · exact n2cD
    rcases List.mem_cons.mp hf with rfl | hf
    · exact n3cD
    rcases List.mem_cons.mp hf with rfl | hf
    · exact n4cD
    cases hf⟩
  have cUA : ClsA K cU nDuty := ⟨⟨pgcU, hdcU, pocU, sacU⟩, by decide +kernel, fun f hf => by
    rcases List.mem_cons.mp hf with rfl | hf
    · exact n0cU
    rcases List.mem_cons.mp hf with rfl | hf
    · exact n1cU
    rcases List.mem_cons.mp hf with rfl | hf
    · exact n2cU
    rcases List.mem_cons.mp hf with rfl | hf
    · exact n3cU
    rcases List.mem_cons.mp hf with rfl | hf
    · exact n4cU
    rcases List.mem_cons.mp hf with rfl | hf
    · exact n5cU
    rcases List.mem_cons.mp hf with rfl | hf
    · exact n6cU
    rcases List.mem_cons.mp hf with rfl | hf
    · exact n7cU
    cases hf⟩
  have cLA : ClsA K cL nPlans := ⟨⟨pgcL, hdcL, pocL, sacL⟩, by decide +kernel, fun f hf => by
    rcases List.mem_cons.mp hf with rfl | hf
    · exact n0cL
    rcases List.mem_cons.mp hf with rfl | hf
    · exact n1cL
    rcases List.mem_cons.mp hf with rfl | hf
    · exact n2cL
    rcases List.mem_cons.mp hf with rfl | hf
    · exact n3cL
    cases hf⟩
  have cKA : ClsA K cK nDesk := ⟨⟨pgcK, hdcK, pocK, sacK⟩, by decide +kernel, fun f hf => by
    rcases List.mem_cons.mp hf with rfl | hf
    · exact n0cK
    cases hf⟩
  have low : PySem.LowX.LowTxt K mg cE fI :=
    { gC := PySem.W.mg_of X G aE, cls := ⟨nm, q, N, bs, _, sn, sub, ab, col, dd, m0, m1, m2, m3, m5, xL, by decide +kernel⟩, sa := saE, ga := gaE, gg := ggE, noN := nbE, iC := aI, tC := tI, kC := kE, exC := eE, tyC := tE, hdC := hE, te := exm_self eE iE tE sE,
      fn := ⟨_, _, _, _, _, _, _, _, _, _, _, _, _, _, lI, ccI⟩ }
  have T : Txt K mg Z :=
    { cR := cRA, cP := cPA, cD := cDA, cU := cUA, cL := cLA, cK := cKA, low := low, bMin := PySem.W.mg_none_of X G bMin, bMax := PySem.W.mg_none_of X G bMax, bSum := PySem.W.mg_none_of X G bSum, bZip := PySem.W.mg_none_of X G bZip, bLen := PySem.W.mg_none_of X G bLen, bAny := PySem.W.mg_none_of X G bAny, bAll := PySem.W.mg_none_of X G bAll, bList := PySem.W.mg_none_of X G bList, bRange := PySem.W.mg_none_of X G bRange, bSorted := PySem.W.mg_none_of X G bSorted, kPlaces := ⟨_, PySem.W.mg_of X G gkPlaces⟩, kRight := ⟨_, PySem.W.mg_of X G gkRight⟩, kGap := ⟨_, PySem.W.mg_of X G gkGap⟩, kHome := ⟨_, PySem.W.mg_of X G gkHome⟩, kLong := ⟨_, PySem.W.mg_of X G gkLong⟩, kWork := ⟨_, PySem.W.mg_of X G gkWork⟩, kDriven := ⟨_, PySem.W.mg_of X G gkDriven⟩, kCheck := ⟨_, PySem.W.mg_of X G gkCheck⟩, kBad := ⟨_, PySem.W.mg_of X G gkBad⟩, kNone := ⟨_, PySem.W.mg_of X G gkNone⟩, kMany := ⟨_, PySem.W.mg_of X G gkMany⟩, kNoWay := ⟨_, PySem.W.mg_of X G gkNoWay⟩, kMost := ⟨_, PySem.W.mg_of X G gkMost⟩, kWays := ⟨_, PySem.W.mg_of X G gkWays⟩, kPieces := ⟨_, PySem.W.mg_of X G gkPieces⟩, tMany := ⟨mMany, PySem.W.mg_of X G aTMany, tup_at lTMany vTMany (by decide)⟩, tFirst := ⟨mFirst, PySem.W.mg_of X G aTFirst, tup_at lTFirst vTFirst (by decide)⟩ }
  have FMin := fun_mk (st := sMin) lMin ccMin kMin
  have bdMin := FMin.binds (ps := ["self", "a", "b"]) fun _ _ _ _ _ _ us hl => match us, hl with | [_, _, _], _ => rfl
  have FCan := fun_mk (st := sCan) lCan ccCan kCan
  have bdCan := FCan.binds (ps := ["self", "place"]) fun _ _ _ _ _ _ us hl => match us, hl with | [_, _], _ => rfl
  have FOrd := fun_mk (st := sOrd) lOrd ccOrd kOrd
  have bdOrd := FOrd.binds (ps := ["self", "numbers"]) fun _ _ _ _ _ _ us hl => match us, hl with | [_, _], _ => rfl
  have FLen := fun_mk (st := sLen) lLen ccLen kLen
  have bdLen := FLen.binds (ps := ["self"]) fun _ _ _ _ _ _ us hl => match us, hl with | [_], _ => rfl
  have FPay := fun_mk (st := sPay) lPay ccPay kPay
  have bdPay := FPay.binds (ps := ["rules", "minutes"]) fun _ _ _ _ _ _ us hl => match us, hl with | [_, _], _ => rfl
  have FHw := fun_mk (st := sHw) lHw ccHw kHw
  have bdHw := FHw.binds (ps := ["depot", "home", "begin", "end"]) fun _ _ _ _ _ _ us hl => match us, hl with | [_, _, _, _], _ => rfl
  have FGap := fun_mk (st := sGap) lGap ccGap kGap
  have bdGap := FGap.binds (ps := ["depot", "piece", "other"]) fun _ _ _ _ _ _ us hl => match us, hl with | [_, _, _], _ => rfl
  have FBrk := fun_mk (st := sBrk) lBrk ccBrk kBrk
  have bdBrk := FBrk.binds (ps := ["depot", "piece", "other"]) fun _ _ _ _ _ _ us hl => match us, hl with | [_, _, _], _ => rfl
  have FHome := fun_mk (st := sHome) lHome ccHome kHome
  have bdHome := FHome.binds (ps := ["depot", "begin", "end"]) fun _ _ _ _ _ _ us hl => match us, hl with | [_, _, _], _ => rfl
  have FDrv := fun_mk (st := sDrv) lDrv ccDrv kDrv
  have bdDrv := FDrv.binds (ps := ["depot", "pieces"]) fun _ _ _ _ _ _ us hl => match us, hl with | [_, _], _ => rfl
  have FBy := fun_mk (st := sBy) lBy ccBy kBy
  have bdBy := FBy.binds (ps := ["self", "rules"]) fun _ _ _ _ _ _ us hl => match us, hl with | [_, _], _ => rfl
  have FTold := fun_mk (st := sTold) lTold ccTold kTold
  have bdTold := FTold.binds (ps := ["self"]) fun _ _ _ _ _ _ us hl => match us, hl with | [_], _ => rfl
  have FLook := fun_mk (st := sLook) lLook ccLook kLook
  have bdLook := FLook.binds (ps := ["self", "depot", "pieces"]) fun _ _ _ _ _ _ us hl => match us, hl with | [_, _, _], _ => rfl
  have FDuty := fun_mk (st := sDuty) lDuty ccDuty kDuty
  have bdDuty := FDuty.binds (ps := ["self", "depot", "numbers"]) fun _ _ _ _ _ _ us hl => match us, hl with | [_, _, _], _ => rfl
  have FMem := fun_mk (st := sMem) lMem ccMem kMem
  have bdMem := FMem.binds (ps := ["some"]) fun _ _ _ _ _ _ us hl => match us, hl with | [_], _ => rfl
  have FFirst := fun_mk (st := sFirst) lFirst ccFirst kFirst
  have bdFirst := FFirst.binds (ps := ["duties", "left"]) fun _ _ _ _ _ _ us hl => match us, hl with | [_, _], _ => rfl
  have FRights := fun_mk (st := sRights) lRights ccRights kRights
  have bdRights := FRights.binds (ps := ["depot"]) fun _ _ _ _ _ _ us hl => match us, hl with | [_], _ => rfl
  have FPw := fun_mk (st := sPw) lPw ccPw kPw
  have bdPw := FPw.binds (ps := ["self", "some", "left"]) fun _ _ _ _ _ _ us hl => match us, hl with | [_, _, _], _ => rfl
  have FLa := fun_mk (st := sLa) lLa ccLa kLa
  have bdLa := FLa.binds (ps := ["self", "left"]) fun _ _ _ _ _ _ us hl => match us, hl with | [_, _], _ => rfl
  have FPlans := fun_mk (st := sPl) lPlans ccPlans kPlans
  have bdPlans := FPlans.binds (ps := ["self", "depot"]) fun _ _ _ _ _ _ us hl => match us, hl with | [_, _], _ => rfl
  have FEarl := fun_mk (st := sEa) lEarl ccEarl kEarl
  have bdEarl := FEarl.binds (ps := ["self"]) fun _ _ _ _ _ _ us hl => match us, hl with | [_], _ => rfl
  have FNev := fun_mk (st := sNev) lNev ccNev kNev
  have bdNev := FNev.binds (ps := ["depot"]) fun _ _ _ _ _ _ us hl => match us, hl with | [_], _ => rfl
  have FRul := fun_mk (st := sRul) lRul ccRul kRul
  have bdRul := FRul.binds (ps := ["self", "numbers"]) fun _ _ _ _ _ _ us hl => match us, hl with | [_, _], _ => rfl
  have FPie := fun_mk (st := sPie) lPie ccPie kPie
  have bdPie := FPie.binds (ps := NPie) fun _ _ _ _ _ _ us hl => match us, hl with | [_, _, _, _, _], _ => rfl
  have FDep := fun_mk (st := sDep) lDep ccDep kDep
  have bdDep := FDep.binds (ps := ["self", "rules"]) fun _ _ _ _ _ _ us hl => match us, hl with | [_, _], _ => rfl
  have FPut := fun_mk (st := sPut) lPut ccPut kPut
  have bdPut := FPut.binds (ps := ["self", "place", "can_break", "is_home"]) fun _ _ _ _ _ _ us hl => match us, hl with | [_, _, _, _], _ => rfl
  have FNeed := fun_mk (st := sNeed) lNeed ccNeed kNeed
  have bdNeed := FNeed.binds (ps := ["holds", "code"]) fun _ _ _ _ _ _ us hl => match us, hl with | [_, _], _ => rfl
  have FAre := fun_mk (st := sAre) lAre ccAre kAre
  have bdAre := FAre.binds (ps := ["a", "b"]) fun _ _ _ _ _ _ us hl => match us, hl with | [_, _], _ => rfl
  have FLis := fun_mk (st := sLis) lLis ccLis kLis
  have bdLis := FLis.binds (ps := ["some"]) fun _ _ _ _ _ _ us hl => match us, hl with | [_], _ => rfl
  have FKi := fun_mk (st := sKi) lKi ccKi kKi
  have bdKi := FKi.binds (ps := ["self"]) fun _ _ _ _ _ _ us hl => match us, hl with | [_], _ => rfl
  have FBeg := fun_mk (st := sBeg) lBeg ccBeg kBeg
  have bdBeg := FBeg.binds (ps := ["self", "numbers"]) fun _ _ _ _ _ _ us hl => match us, hl with | [_, _], _ => rfl
  have FPla := fun_mk (st := sPla) lPla ccPla kPla
  have bdPla := FPla.binds (ps := NPla) fun _ _ _ _ _ _ us hl => match us, hl with | [_, _, _, _], _ => rfl
  have FWay := fun_mk (st := sWay) lWay ccWay kWay
  have bdWay := FWay.binds (ps := NWay) fun _ _ _ _ _ _ us hl => match us, hl with | [_, _, _, _], _ => rfl
  have FWor := fun_mk (st := sWor) lWor ccWor kWor
  have bdWor := FWor.binds (ps := NWor) fun _ _ _ _ _ _ us hl => match us, hl with | [_, _, _, _, _], _ => rfl
  have FDro := fun_mk (st := sDro) lDro ccDro kDro
  have bdDro := FDro.binds (ps := ["self", "number"]) fun _ _ _ _ _ _ us hl => match us, hl with | [_, _], _ => rfl
  have FChk := fun_mk (st := sChk) lChk ccChk kChk
  have bdChk := FChk.binds (ps := ["self", "numbers"]) fun _ _ _ _ _ _ us hl => match us, hl with | [_, _], _ => rfl
  have FBst := fun_mk (st := sBst) lBst ccBst kBst
  have bdBst := FBst.binds (ps := ["self"]) fun _ _ _ _ _ _ us hl => match us, hl with | [_], _ => rfl
  have FNvr := fun_mk (st := sNvr) lNvr ccNvr kNvr
  have bdNvr := FNvr.binds (ps := ["self"]) fun _ _ _ _ _ _ us hl => match us, hl with | [_], _ => rfl
  have FAnw := fun_mk (st := sAnw) lAnw ccAnw kAnw
  have bdAnw := FAnw.binds (ps := NAnw) fun _ _ _ _ _ _ us hl => match us, hl with | [_, _, _, _], _ => rfl
  have FAnd := fun_mk (st := sAnd) lAnd ccAnd kAnd
  have bdAnd := FAnd.binds (ps := ["desk", "call", "numbers", "row"]) fun _ _ _ _ _ _ us hl => match us, hl with | [_, _, _, _], _ => rfl
  have FRun := fun_mk (st := sRun) lRun ccRun kRun
  refine ⟨PySem.W.fnOf "answers" "answers" (defArgs sRun) (defBody sRun) (defScope sRun) .none kVRun dcRun pmRun anRun cdRun ctRun, fun s us hu => match us, hu with | [_], _ => .of_eq rfl, fun base _ _ => ?_⟩
  have hMin : HasM P w K mg base CX0 1 Z.D "minutes" (spMin Z) := ⟨_, _, _, ok_min FMin T, ⟨aMin, iMin, kMin⟩, bdMin⟩
  have hCan : HasM P w K mg base CX0 1 Z.D "can_break" (spCan Z) := ⟨_, _, _, ok_can FCan T, ⟨aCan, iCan, kCan⟩, bdCan⟩
  have hOrd : HasM P w K mg base CX0 1 Z.D "in_order" (spOrd K Z) := ⟨_, _, _, ok_ord FOrd T, ⟨aOrd, iOrd, kOrd⟩, bdOrd⟩
  have hLen : HasM P w K mg base CX0 1 Z.P "length" (spLen Z) := ⟨_, _, _, ok_len FLen T, ⟨aLen, iLen, kLen⟩, bdLen⟩
  have hPay : HasF P w K mg base CX0 1 "pay_for" (spPay Z) := ⟨_, _, _, ok_pay FPay T, PySem.W.mg_of X G aPay, kPay, bdPay⟩
  have hHw : HasF P w K mg base CX0 2 "home_ways" (spHw Z) := ⟨_, _, _, ok_hw FHw T hMin, PySem.W.mg_of X G aHw, kHw, bdHw⟩
  have hGap : HasF P w K mg base CX0 2 "gap_between" (spGap Z) := ⟨_, _, _, ok_gap FGap T hMin, PySem.W.mg_of X G aGap, kGap, bdGap⟩
  have hBrk : HasF P w K mg base CX0 3 "is_break" (spBrk Z) := ⟨_, _, _, ok_brk FBrk T hGap hCan, PySem.W.mg_of X G aBrk, kBrk, bdBrk⟩
  have hHome : HasF P w K mg base CX0 3 "best_home" (spHome Z) := ⟨_, _, _, ok_home FHome T hHw, PySem.W.mg_of X G aHome, kHome, bdHome⟩
  have hDrv : HasF P w K mg base CX0 4 "driven_together" (spDrv K Z) := ⟨_, _, _, ok_drv FDrv T hLen hBrk, PySem.W.mg_of X G aDrv, kDrv, bdDrv⟩
  have hBy : HasM P w K mg base CX0 1 Z.U "by_rules" (spBy Z) := ⟨_, _, _, ok_by FBy T, ⟨aBy, iBy, kBy⟩, bdBy⟩
  have hTold : HasM P w K mg base CX0 1 Z.U "told" (spTold Z) := ⟨_, _, _, ok_told FTold T, ⟨aTold, iTold, kTold⟩, bdTold⟩
  have hLook : HasM P w K mg base CX0 5 Z.U "looked_at" (spLook Z) := ⟨_, _, _, ok_look FLook T hGap hHome hPay hLen hDrv hBy, ⟨aLook, iLook, kLook⟩, bdLook⟩
  have hDuty : HasC P w K mg base CX0 6 "Duty" Z.U (spDuty K Z) := ⟨_, _, _, ok_duty FDuty T hOrd hLook, ⟨mkcU, aDuty, iDuty, kccU⟩, PySem.W.mg_of X G acU, bdDuty⟩
  have hMem : HasF P w K mg base CX0 1 "members" spMem := ⟨_, _, _, ok_mem FMem T, PySem.W.mg_of X G aMem, kMem, bdMem⟩
  have hFirst : HasF P w K mg base CX0 1 "first_duties" (spFirst Z) := ⟨_, _, _, ok_first FFirst T, PySem.W.mg_of X G aFirst, kFirst, bdFirst⟩
  have hRights : HasF P w K mg base CX0 8 "right_duties" (spRights Z) := ⟨_, _, _, ok_rights FRights T hDuty hMem, PySem.W.mg_of X G aRights, kRights, bdRights⟩
  have hPw : HasM P w K mg base CX0 1 Z.L "pay_with" (spPw Z) := ⟨_, _, _, ok_pw FPw T, ⟨aPw, iPw, kPw⟩, bdPw⟩
  have hLa : HasM P w K mg base CX0 2 Z.L "look_at" (spLa Z) := ⟨_, _, _, ok_la FLa T hPw hFirst, ⟨aLa, iLa, kLa⟩, bdLa⟩
  have hPlans : HasC P w K mg base CX0 9 "Plans" Z.L (spPlans Z) := ⟨_, _, _, ok_plans FPlans T hRights hLa, ⟨mkcL, aPlans, iPlans, kccL⟩, PySem.W.mg_of X G acL, bdPlans⟩
  have hEarl : HasM P w K mg base CX0 2 Z.L "earliest" (spEarl Z) := ⟨_, _, _, ok_earl FEarl T hPw hFirst, ⟨aEarl, iEarl, kEarl⟩, bdEarl⟩
  have hNev : HasF P w K mg base CX0 9 "never_used" (spNev Z) := ⟨_, _, _, ok_nev FNev T hRights, PySem.W.mg_of X G aNev, kNev, bdNev⟩
  have hRul : HasC P w K mg base CX0 1 "Rules" Z.R (spRul K Z) := ⟨_, _, _, ok_rul FRul T, ⟨mkcR, aRul, iRul, kccR⟩, PySem.W.mg_of X G acR, bdRul⟩
  have hPie : HasC P w K mg base CX0 1 "Piece" Z.P (spPie Z) := ⟨_, _, _, ok_pie FPie T, ⟨mkcP, aPie, iPie, kccP⟩, PySem.W.mg_of X G acP, bdPie⟩
  have hDep : HasC P w K mg base CX0 1 "Depot" Z.D (spDep Z) := ⟨_, _, _, ok_dep FDep T, ⟨mkcD, aDep, iDep, kccD⟩, PySem.W.mg_of X G acD, bdDep⟩
  have hPut : HasM P w K mg base CX0 1 Z.D "put_place" (spPut Z) := ⟨_, _, _, ok_put FPut T, ⟨aPut, iPut, kPut⟩, bdPut⟩
  have hNeed : HasF P w K mg base (L2.CX P w) 3 "need" (spNeed Z) := ⟨_, _, _, ok_need FNeed T, PySem.W.mg_of X G aNeed, kNeed, bdNeed⟩
  have hAre : HasF P w K mg base CX0 1 "are_places" spAre := ⟨_, _, _, ok_are FAre T, PySem.W.mg_of X G aAre, kAre, bdAre⟩
  have hLis : HasF P w K mg base CX0 1 "listed" (spLis K) := ⟨_, _, _, ok_lis FLis T, PySem.W.mg_of X G aLis, kLis, bdLis⟩
  have hKi : HasC P w K mg base CX0 3 "Desk" Z.K (spKi Z) := ⟨_, _, _, ok_ki FKi T hRul hDep, ⟨mkcK, aKi, iKi, kccK⟩, PySem.W.mg_of X G acK, bdKi⟩
  have hBeg : HasM P w K mg base (L2.CX P w) 5 Z.K "begins" (spBeg K Z) := ⟨_, _, _, ok_beg FBeg T hNeed hRul hDep, ⟨aBeg, iBeg, kBeg⟩, bdBeg⟩
  have hPla : HasM P w K mg base (L2.CX P w) 5 Z.K "place" (spPla Z) := ⟨_, _, _, ok_pla FPla T hNeed hPut, ⟨aPla, iPla, kPla⟩, bdPla⟩
  have hWay : HasM P w K mg base (L2.CX P w) 5 Z.K "way" (spWay Z) := ⟨_, _, _, ok_way FWay T hNeed hAre, ⟨aWay, iWay, kWay⟩, bdWay⟩
  have hWor : HasM P w K mg base (L2.CX P w) 5 Z.K "add_work" (spWor Z) := ⟨_, _, _, ok_wor FWor T hNeed hAre hPie, ⟨aWor, iWor, kWor⟩, bdWor⟩
  have hDro : HasM P w K mg base (L2.CX P w) 5 Z.K "drop" (spDro Z) := ⟨_, _, _, ok_dro FDro T hNeed, ⟨aDro, iDro, kDro⟩, bdDro⟩
  have hChk : HasM P w K mg base (L2.CX P w) 8 Z.K "check" (spChk K Z) := ⟨_, _, _, ok_chk FChk T hNeed hDuty hTold hLis, ⟨aChk, iChk, kChk⟩, bdChk⟩
  have hBst : HasM P w K mg base (L2.CX P w) 11 Z.K "best" (spBst Z) := ⟨_, _, _, ok_bst FBst T hNeed hPlans hEarl hTold hLis, ⟨aBst, iBst, kBst⟩, bdBst⟩
  have hNvr : HasM P w K mg base CX0 10 Z.K "never" (spNvr Z) := ⟨_, _, _, ok_nvr FNvr T hNev hLis, ⟨aNvr, iNvr, kNvr⟩, bdNvr⟩
  have hAnw : HasM P w K mg base (L2.CX P w) 12 Z.K "answer" (spAnw K Z) := ⟨_, _, _, ok_anw FAnw T hBeg hPla hWay hWor hDro hChk hBst hNvr, ⟨aAnw, iAnw, kAnw⟩, bdAnw⟩
  have hAnd : HasF P w K mg base CX0 13 "answered" (spAnd K Z) := ⟨_, _, _, ok_and FAnd T hAnw, PySem.W.mg_of X G aAnd, kAnd, bdAnd⟩
  exact ok_run FRun T hKi hAnd
end Dw
open PySem PySem.W PyProof.Rows
set_option maxRecDepth 100000 in
set_option maxHeartbeats 16000000 in
theorem PySem.Challenge.cw_dutyrules_s01_answers_holds : PySem.Challenge.rw_dutyrules_s01_answers.Holds := by
  w_on; k_headS; (case hw => exact ⟨[.list [.int 6]], by decide +kernel, by decide +kernel⟩)
  k_fillS
  refine L2.walk_specK (r := PySem.Challenge.rw_dutyrules_s01_answers) (k := 14) (CX := L2.CX0) (ps := ["calls"]) (sp := Dw.spRun) (by decide +kernel) rfl rfl ⟨rfl, by decide, by decide⟩ (fun w h Y => PySem.W.kIn_of Y) ?F ?S (fun _ _ _ _ z => z)
  case F =>
    intro w mg fa h Y KX G hmg
    refine' Dw.all_mk KX G hmg ?acR ?pgcR ?hdcR ?pocR ?sacR ?mkcR ?kccR ?n0cR ?n1cR ?n2cR ?n3cR ?n4cR ?n5cR ?n6cR ?n7cR ?n8cR ?acP ?pgcP ?hdcP ?pocP ?sacP ?mkcP ?kccP ?n0cP ?n1cP ?n2cP ?n3cP ?acD ?pgcD ?hdcD ?pocD ?sacD ?mkcD ?kccD ?n0cD ?n1cD ?n2cD ?n3cD ?n4cD ?acU ?pgcU ?hdcU ?pocU ?sacU ?mkcU ?kccU ?n0cU ?n1cU ?n2cU ?n3cU ?n4cU ?n5cU ?n6cU ?n7cU ?acL ?pgcL ?hdcL ?pocL ?sacL ?mkcL ?kccL ?n0cL ?n1cL ?n2cL ?n3cL ?acK ?pgcK ?hdcK ?pocK ?sacK ?mkcK ?kccK ?n0cK ?aE ?xL ?saE ?gaE ?ggE ?nbE ?aI ?tI ?lI ?ccI ?kE ?eE ?tE ?hE ?iE ?sE ?aMin ?iMin ?lMin ?ccMin ?kMin ?aCan ?iCan ?lCan ?ccCan ?kCan ?aOrd ?iOrd ?lOrd ?ccOrd ?kOrd ?aLen ?iLen ?lLen ?ccLen ?kLen ?aPay ?lPay ?ccPay ?kPay ?aHw ?lHw ?ccHw ?kHw ?aGap ?lGap ?ccGap ?kGap ?aBrk ?lBrk ?ccBrk ?kBrk ?aHome ?lHome ?ccHome ?kHome ?aDrv ?lDrv ?ccDrv ?kDrv ?aBy ?iBy ?lBy ?ccBy ?kBy ?aTold ?iTold ?lTold ?ccTold ?kTold ?aLook ?iLook ?lLook ?ccLook ?kLook ?aDuty ?iDuty ?lDuty ?ccDuty ?kDuty ?aMem ?lMem ?ccMem ?kMem ?aFirst ?lFirst ?ccFirst ?kFirst ?aRights ?lRights ?ccRights ?kRights ?aPw ?iPw ?lPw ?ccPw ?kPw ?aLa ?iLa ?lLa ?ccLa ?kLa ?aPlans ?iPlans ?lPlans ?ccPlans ?kPlans ?aEarl ?iEarl ?lEarl ?ccEarl ?kEarl ?aNev ?lNev ?ccNev ?kNev ?aRul ?iRul ?lRul ?ccRul ?kRul ?aPie ?iPie ?lPie ?ccPie ?kPie ?aDep ?iDep ?lDep ?ccDep ?kDep ?aPut ?iPut ?lPut ?ccPut ?kPut ?aNeed ?lNeed ?ccNeed ?kNeed ?aAre ?lAre ?ccAre ?kAre ?aLis ?lLis ?ccLis ?kLis ?aKi ?iKi ?lKi ?ccKi ?kKi ?aBeg ?iBeg ?lBeg ?ccBeg ?kBeg ?aPla ?iPla ?lPla ?ccPla ?kPla ?aWay ?iWay ?lWay ?ccWay ?kWay ?aWor ?iWor ?lWor ?ccWor ?kWor ?aDro ?iDro ?lDro ?ccDro ?kDro ?aChk ?iChk ?lChk ?ccChk ?kChk ?aBst ?iBst ?lBst ?ccBst ?kBst ?aNvr ?iNvr ?lNvr ?ccNvr ?kNvr ?aAnw ?iAnw ?lAnw ?ccAnw ?kAnw ?aAnd ?lAnd ?ccAnd ?kAnd ?aRun ?lRun ?ccRun ?kRun ?gkPlaces ?gkRight ?gkGap ?gkHome ?gkLong ?gkWork ?gkDriven ?gkCheck ?gkBad ?gkNone ?gkMany ?gkNoWay ?gkMost ?gkWays ?gkPieces ?bMin ?bMax ?bSum ?bZip ?bLen ?bAny ?bAll ?bList ?bRange ?bSorted ?aTMany ?lTMany ?vTMany ?aTFirst ?lTFirst ?vTFirst
    (case acR => k_is)
    (case pgcR => k_is)
    (case hdcR => k_is)
    (case pocR => k_is)
    (case sacR => k_is)
    (case mkcR => k_is)
    (case kccR => k_is)
    (case n0cR => k_is)
    (case n1cR => k_is)
    (case n2cR => k_is)
    (case n3cR => k_is)
    (case n4cR => k_is)
    (case n5cR => k_is)
    (case n6cR => k_is)
    (case n7cR => k_is)
    (case n8cR => k_is)
    (case acP => k_is)
    (case pgcP => k_is)
    (case hdcP => k_is)
    (case pocP => k_is)
    (case sacP => k_is)
    (case mkcP => k_is)
    (case kccP => k_is)
    (case n0cP => k_is)
    (case n1cP => k_is)
    (case n2cP => k_is)
    (case n3cP => k_is)
    (case acD => k_is)
    (case pgcD => k_is)
    (case hdcD => k_is)
    (case pocD => k_is)
    (case sacD => k_is)
    (case mkcD => k_is)
    (case kccD => k_is)
    (case n0cD => k_is)
    (case n1cD => k_is)
    (case n2cD => k_is)
    (case n3cD => k_is)
    (case n4cD => k_is)
    (case acU => k_is)
    (case pgcU => k_is)
    (case hdcU => k_is)
    (case pocU => k_is)
    (case sacU => k_is)
    (case mkcU => k_is)
    (case kccU => k_is)
    (case n0cU => k_is)
    (case n1cU => k_is)
    (case n2cU => k_is)
    (case n3cU => k_is)
    (case n4cU => k_is)
    (case n5cU => k_is)
    (case n6cU => k_is)
    (case n7cU => k_is)
    (case acL => k_is)
    (case pgcL => k_is)
    (case hdcL => k_is)
    (case pocL => k_is)
    (case sacL => k_is)
    (case mkcL => k_is)
    (case kccL => k_is)
    (case n0cL => k_is)
    (case n1cL => k_is)
    (case n2cL => k_is)
    (case n3cL => k_is)
    (case acK => k_is)
    (case pgcK => k_is)
    (case hdcK => k_is)
    (case pocK => k_is)
    (case sacK => k_is)
    (case mkcK => k_is)
    (case kccK => k_is)
    (case n0cK => k_is)
    (case aE => k_is)
    (case xL => k_is)
    (case saE => k_is)
    (case gaE => k_is)
    (case ggE => k_is)
    (case nbE => k_is)
    (case aI => k_is)
    (case tI => k_is)
    (case lI => k_is)
    (case ccI => k_is)
    (case kE => k_is)
    (case eE => k_is)
    (case tE => k_is)
    (case hE => k_is)
    (case iE => k_is)
    (case sE => first | rfl | k_is)
    (case aMin => k_is)
    (case iMin => k_is)
    (case lMin => k_is)
    (case ccMin => k_is)
    (case kMin => k_is)
    (case aCan => k_is)
    (case iCan => k_is)
    (case lCan => k_is)
    (case ccCan => k_is)
    (case kCan => k_is)
    (case aOrd => k_is)
    (case iOrd => k_is)
    (case lOrd => k_is)
    (case ccOrd => k_is)
    (case kOrd => k_is)
    (case aLen => k_is)
    (case iLen => k_is)
    (case lLen => k_is)
    (case ccLen => k_is)
    (case kLen => k_is)
    (case aPay => k_is)
    (case lPay => k_is)
    (case ccPay => k_is)
    (case kPay => k_is)
    (case aHw => k_is)
    (case lHw => k_is)
    (case ccHw => k_is)
    (case kHw => k_is)
    (case aGap => k_is)
    (case lGap => k_is)
    (case ccGap => k_is)
    (case kGap => k_is)
    (case aBrk => k_is)
    (case lBrk => k_is)
    (case ccBrk => k_is)
    (case kBrk => k_is)
    (case aHome => k_is)
    (case lHome => k_is)
    (case ccHome => k_is)
    (case kHome => k_is)
    (case aDrv => k_is)
    (case lDrv => k_is)
    (case ccDrv => k_is)
    (case kDrv => k_is)
    (case aBy => k_is)
    (case iBy => k_is)
    (case lBy => k_is)
    (case ccBy => k_is)
    (case kBy => k_is)
    (case aTold => k_is)
    (case iTold => k_is)
    (case lTold => k_is)
    (case ccTold => k_is)
    (case kTold => k_is)
    (case aLook => k_is)
    (case iLook => k_is)
    (case lLook => k_is)
    (case ccLook => k_is)
    (case kLook => k_is)
    (case aDuty => k_is)
    (case iDuty => k_is)
    (case lDuty => k_is)
    (case ccDuty => k_is)
    (case kDuty => k_is)
    (case aMem => k_is)
    (case lMem => k_is)
    (case ccMem => k_is)
    (case kMem => k_is)
    (case aFirst => k_is)
    (case lFirst => k_is)
    (case ccFirst => k_is)
    (case kFirst => k_is)
    (case aRights => k_is)
    (case lRights => k_is)
    (case ccRights => k_is)
    (case kRights => k_is)
    (case aPw => k_is)
    (case iPw => k_is)
    (case lPw => k_is)
    (case ccPw => k_is)
    (case kPw => k_is)
    (case aLa => k_is)
    (case iLa => k_is)
    (case lLa => k_is)
    (case ccLa => k_is)
    (case kLa => k_is)
    (case aPlans => k_is)
    (case iPlans => k_is)
    (case lPlans => k_is)
    (case ccPlans => k_is)
    (case kPlans => k_is)
    (case aEarl => k_is)
    (case iEarl => k_is)
    (case lEarl => k_is)
    (case ccEarl => k_is)
    (case kEarl => k_is)
    (case aNev => k_is)
    (case lNev => k_is)
    (case ccNev => k_is)
    (case kNev => k_is)
    (case aRul => k_is)
    (case iRul => k_is)
    (case lRul => k_is)
    (case ccRul => k_is)
    (case kRul => k_is)
    (case aPie => k_is)
    (case iPie => k_is)
    (case lPie => k_is)
    (case ccPie => k_is)
    (case kPie => k_is)
    (case aDep => k_is)
    (case iDep => k_is)
    (case lDep => k_is)
    (case ccDep => k_is)
    (case kDep => k_is)
    (case aPut => k_is)
    (case iPut => k_is)
    (case lPut => k_is)
    (case ccPut => k_is)
    (case kPut => k_is)
    (case aNeed => k_is)
    (case lNeed => k_is)
    (case ccNeed => k_is)
    (case kNeed => k_is)
    (case aAre => k_is)
    (case lAre => k_is)
    (case ccAre => k_is)
    (case kAre => k_is)
    (case aLis => k_is)
    (case lLis => k_is)
    (case ccLis => k_is)
    (case kLis => k_is)
    (case aKi => k_is)
    (case iKi => k_is)
    (case lKi => k_is)
    (case ccKi => k_is)
    (case kKi => k_is)
    (case aBeg => k_is)
    (case iBeg => k_is)
    (case lBeg => k_is)
    (case ccBeg => k_is)
    (case kBeg => k_is)
    (case aPla => k_is)
    (case iPla => k_is)
    (case lPla => k_is)
    (case ccPla => k_is)
    (case kPla => k_is)
    (case aWay => k_is)
    (case iWay => k_is)
    (case lWay => k_is)
    (case ccWay => k_is)
    (case kWay => k_is)
    (case aWor => k_is)
    (case iWor => k_is)
    (case lWor => k_is)
    (case ccWor => k_is)
    (case kWor => k_is)
    (case aDro => k_is)
    (case iDro => k_is)
    (case lDro => k_is)
    (case ccDro => k_is)
    (case kDro => k_is)
    (case aChk => k_is)
    (case iChk => k_is)
    (case lChk => k_is)
    (case ccChk => k_is)
    (case kChk => k_is)
    (case aBst => k_is)
    (case iBst => k_is)
    (case lBst => k_is)
    (case ccBst => k_is)
    (case kBst => k_is)
    (case aNvr => k_is)
    (case iNvr => k_is)
    (case lNvr => k_is)
    (case ccNvr => k_is)
    (case kNvr => k_is)
    (case aAnw => k_is)
    (case iAnw => k_is)
    (case lAnw => k_is)
    (case ccAnw => k_is)
    (case kAnw => k_is)
    (case aAnd => k_is)
    (case lAnd => k_is)
    (case ccAnd => k_is)
    (case kAnd => k_is)
    (case aRun => k_is)
    (case lRun => k_is)
    (case ccRun => k_is)
    (case kRun => k_is)
    (case gkPlaces => k_is)
    (case gkRight => k_is)
    (case gkGap => k_is)
    (case gkHome => k_is)
    (case gkLong => k_is)
    (case gkWork => k_is)
    (case gkDriven => k_is)
    (case gkCheck => k_is)
    (case gkBad => k_is)
    (case gkNone => k_is)
    (case gkMany => k_is)
    (case gkNoWay => k_is)
    (case gkMost => k_is)
    (case gkWays => k_is)
    (case gkPieces => k_is)
    (case bMin => k_is)
    (case bMax => k_is)
    (case bSum => k_is)
    (case bZip => k_is)
    (case bLen => k_is)
    (case bAny => k_is)
    (case bAll => k_is)
    (case bList => k_is)
    (case bRange => k_is)
    (case bSorted => k_is)
    (case aTMany => k_is)
    (case lTMany => k_is)
    (case vTMany => exact .cons ⟨_, rfl⟩ (.cons ⟨_, rfl⟩ (.cons ⟨_, rfl⟩ (.cons ⟨_, rfl⟩ (.cons ⟨_, rfl⟩ (.cons ⟨_, rfl⟩ (.cons ⟨_, rfl⟩ (.cons ⟨_, rfl⟩ (.nil)))))))))
    (case aTFirst => k_is)
    (case lTFirst => k_is)
    (case vTFirst => exact .cons ⟨_, rfl⟩ (.cons ⟨_, rfl⟩ (.cons ⟨_, rfl⟩ (.cons ⟨_, rfl⟩ (.cons ⟨_, rfl⟩ (.cons ⟨_, rfl⟩ (.cons ⟨_, rfl⟩ (.cons ⟨_, rfl⟩ (.cons ⟨_, rfl⟩ (.nil))))))))))
  case S =>
    intro K H xs a hO hwi hask hx
    cases hx with
    | cons h1 h2 =>
      cases h2
      cases h1 with
      | lst hs ha =>
        have e := L2.ints_dw a.1 _ ha
        subst e
        have q : ((Codec.inLen 0 2000 a.1 && a.1.all (Codec.inInt 0 4294967295)) && true) = true := hwi
        rw [Bool.and_eq_true, Bool.and_eq_true] at q
        exact ⟨_, a.1, rfl, hs, (Codec.inNat_iff.mp q.1.1).2, hask, fun H' p hp => .lst (L2.SqL.of hp) (L2.dw_ints _)⟩
#print axioms PySem.Challenge.cw_dutyrules_s01_answers_holds
