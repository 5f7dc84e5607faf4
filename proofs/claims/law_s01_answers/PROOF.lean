import PyProof.Rows.All
import Wide.All
import OpenK.AllK
import Wide.FinOn
import PyProof.EqAt
import PyProof.EqKinds
import PyProof.TupleCall
import Open.SpecLaws
import KE.OsGo
import KE.SortData
import PySem.Challenge.RW_freechoice_s01_answers
import HandS.ForSpec
import HandS.Comp
import HandS.Iter
import HandS.Walk
set_option Elab.async false
set_option linter.all false
set_option maxRecDepth 100000
set_option maxHeartbeats 2000000
/-! # Siphons, traps and free choice: the program answers what is due, at every line of calls. Mathematics in plain Lean; words of the heap and promises; each def once; the end. -/
namespace My
open Sq62

/-! ### A. the greatest siphon, the greatest trap -/
def emptied (g : Net) (s : Places) : List Nat := (g.ts.filter fun t => !meets t.takes s).flatMap fun t => t.puts
def drained (g : Net) (s : Places) : List Nat := (g.ts.filter fun t => !meets t.puts s).flatMap fun t => t.takes
def without (s out : List Nat) : List Nat := s.filter fun p => !out.contains p

theorem not_in_emptied (g : Net) (s : Places) (p : Nat) : (!(emptied g s).contains p) = g.ts.all fun t => !t.puts.contains p || meets t.takes s := by
  rw [Bool.eq_iff_iff]
  simp only [emptied, Bool.not_eq_true', List.contains_eq_mem, decide_eq_false_iff_not, List.mem_flatMap, List.mem_filter, List.all_eq_true, Bool.or_eq_true, not_exists, not_and]
  constructor
  · intro h t ht
    by_cases c : meets t.takes s = true
    · exact .inr c
    · exact .inl (h t ⟨ht, by simpa using c⟩)
  · rintro h t ⟨ht, c⟩ hp
    rcases h t ht with q | q
    · exact q hp
    · rw [q] at c; cases c
theorem not_in_drained (g : Net) (s : Places) (p : Nat) : (!(drained g s).contains p) = g.ts.all fun t => !t.takes.contains p || meets t.puts s := by
  rw [Bool.eq_iff_iff]
  simp only [drained, Bool.not_eq_true', List.contains_eq_mem, decide_eq_false_iff_not, List.mem_flatMap, List.mem_filter, List.all_eq_true, Bool.or_eq_true, not_exists, not_and]
  constructor
  · intro h t ht
    by_cases c : meets t.puts s = true
    · exact .inr c
    · exact .inl (h t ⟨ht, by simpa using c⟩)
  · rintro h t ⟨ht, c⟩ hp
    rcases h t ht with q | q
    · exact q hp
    · rw [q] at c; cases c
theorem without_lt {s out : List Nat} (h : meets s out = true) : (without s out).length < s.length := by
  unfold meets at h
  obtain ⟨p, hp, hq⟩ := List.any_eq_true.mp h
  rcases Nat.lt_or_ge (without s out).length s.length with q | q
  · exact q
  · have e := List.length_filter_eq_length_iff.mp (Nat.le_antisymm (List.length_filter_le _ _) q) p hp
    rw [hq] at e; cases e
theorem without_same {s out : List Nat} (h : meets s out = false) : without s out = s := by
  refine List.filter_eq_self.mpr fun p hp => ?_
  unfold meets at h
  have q := List.any_eq_false.mp h p hp
  cases e : out.contains p with
  | false => rfl
  | true => exact absurd e q
theorem gs_filter (g : Net) (s : Places) : (s.filter fun p => g.ts.all fun t => !t.puts.contains p || meets t.takes s) = without s (emptied g s) := by
  unfold without
  congr 1
  funext p
  exact (not_in_emptied g s p).symm
theorem gt_filter (g : Net) (s : Places) : (s.filter fun p => g.ts.all fun t => !t.takes.contains p || meets t.puts s) = without s (drained g s) := by
  unfold without
  congr 1
  funext p
  exact (not_in_drained g s p).symm
theorem gs_succ (g : Net) (s : Places) (f : Nat) : g.greatestSiphon (f + 1) s = if (without s (emptied g s)).length = s.length then s else g.greatestSiphon f (without s (emptied g s)) := by
  rw [← gs_filter]
  rfl
theorem gt_succ (g : Net) (s : Places) (f : Nat) : g.greatestTrap (f + 1) s = if (without s (drained g s)).length = s.length then s else g.greatestTrap f (without s (drained g s)) := by
  rw [← gt_filter]
  rfl
theorem gs_turn {g : Net} {s : Places} {f : Nat} (h : meets s (emptied g s) = true) (hf : s.length ≤ f) :
    ∃ f', g.greatestSiphon f s = g.greatestSiphon f' (without s (emptied g s)) ∧ (without s (emptied g s)).length ≤ f' := by
  have lt := without_lt h
  cases f with
  | zero => omega
  | succ f =>
    refine ⟨f, ?_, by omega⟩
    rw [gs_succ, if_neg (by omega)]
theorem gs_end {g : Net} {s : Places} {f : Nat} (h : meets s (emptied g s) = false) : g.greatestSiphon f s = s := by
  cases f with
  | zero => rfl
  | succ f => rw [gs_succ, without_same h, if_pos rfl]
theorem gt_turn {g : Net} {s : Places} {f : Nat} (h : meets s (drained g s) = true) (hf : s.length ≤ f) :
    ∃ f', g.greatestTrap f s = g.greatestTrap f' (without s (drained g s)) ∧ (without s (drained g s)).length ≤ f' := by
  have lt := without_lt h
  cases f with
  | zero => omega
  | succ f =>
    refine ⟨f, ?_, by omega⟩
    rw [gt_succ, if_neg (by omega)]
theorem gt_end {g : Net} {s : Places} {f : Nat} (h : meets s (drained g s) = false) : g.greatestTrap f s = s := by
  cases f with
  | zero => rfl
  | succ f => rw [gt_succ, without_same h, if_pos rfl]
theorem gs_len (g : Net) : ∀ (f : Nat) (s : Places), (g.greatestSiphon f s).length ≤ s.length
  | 0, _ => Nat.le_refl _
  | f + 1, s => by
    rw [gs_succ]
    split
    · exact Nat.le_refl _
    · exact Nat.le_trans (gs_len g f _) (List.length_filter_le _ _)
theorem gt_len (g : Net) : ∀ (f : Nat) (s : Places), (g.greatestTrap f s).length ≤ s.length
  | 0, _ => Nat.le_refl _
  | f + 1, s => by
    rw [gt_succ]
    split
    · exact Nat.le_refl _
    · exact Nat.le_trans (gt_len g f _) (List.length_filter_le _ _)

/-! ### rising rows -/
theorem rising_pairwise : ∀ {l : List Nat}, rising l = true ↔ l.Pairwise (· < ·)
  | [] => by simp [rising]
  | [a] => by simp [rising]
  | a :: b :: l => by
    have ih := rising_pairwise (l := b :: l)
    have e : rising (a :: b :: l) = (decide (a < b) && rising (b :: l)) := rfl
    rw [e, Bool.and_eq_true, decide_eq_true_eq, ih]
    constructor
    · rintro ⟨h1, h2⟩
      refine List.pairwise_cons.mpr ⟨fun c hc => ?_, h2⟩
      rcases List.mem_cons.mp hc with rfl | hc
      · exact h1
      · exact Nat.lt_trans h1 ((List.pairwise_cons.mp h2).1 c hc)
    · intro h
      have h := List.pairwise_cons.mp h
      exact ⟨h.1 b (List.mem_cons_self ..), h.2⟩
theorem rising_all (l : List Nat) : rising l = (List.range (l.length - 1)).all fun k => decide (l.getD k 0 < l.getD (k + 1) 0) := by
  induction l with
  | nil => rfl
  | cons a l ih =>
    cases l with
    | nil => rfl
    | cons b l =>
      unfold rising
      rw [ih]
      show _ = (List.range (l.length + 1)).all _
      rw [List.range_succ_eq_map, List.all_cons, List.all_map]
      rfl
theorem pairwise_bound : ∀ {l : List Nat} {n m : Nat}, l.Pairwise (· < ·) → (∀ p ∈ l, m ≤ p ∧ p < m + n) → l.length ≤ n
  | [], _, _, _, _ => Nat.zero_le _
  | a :: l, n, m, h, b => by
    have h := List.pairwise_cons.mp h
    have ba := b a (List.mem_cons_self ..)
    cases n with
    | zero => omega
    | succ n =>
      have ih := pairwise_bound (l := l) (n := n) (m := m + 1) h.2 fun p hp => by
        have q := h.1 p hp
        have r := b p (List.mem_cons_of_mem _ hp)
        omega
      simp only [List.length_cons]
      omega
theorem rising_len {l : List Nat} {n : Nat} (h : rising l = true) (b : ∀ p ∈ l, p < n) : l.length ≤ n :=
  pairwise_bound (m := 0) (rising_pairwise.mp h) fun p hp => ⟨Nat.zero_le _, by have := b p hp; omega⟩
end My
namespace My
open Sq62

/-! ### B. the least ones -/
theorem within_iff {a b : Places} : within a b = true ↔ ∀ p ∈ a, p ∈ b := by
  unfold within
  simp [List.all_eq_true]
theorem within_refl (a : Places) : within a a = true := within_iff.mpr fun _ h => h
theorem within_trans {a b c : Places} (h : within a b = true) (k : within b c = true) : within a c = true :=
  within_iff.mpr fun p hp => within_iff.mp k p (within_iff.mp h p hp)
theorem sub_of_within : ∀ {a b : List Nat}, a.Pairwise (· < ·) → b.Pairwise (· < ·) → (∀ p ∈ a, p ∈ b) → a.Sublist b
  | [], _, _, _, _ => List.nil_sublist _
  | x :: a, [], _, _, h => absurd (h x (List.mem_cons_self ..)) (by simp)
  | x :: a, y :: b, ha, hb, h => by
    have ha' := List.pairwise_cons.mp ha
    have hb' := List.pairwise_cons.mp hb
    rcases List.mem_cons.mp (h x (List.mem_cons_self ..)) with e | hx
    · subst e
      refine (sub_of_within ha'.2 hb'.2 fun p hp => ?_).cons_cons x
      rcases List.mem_cons.mp (h p (List.mem_cons_of_mem _ hp)) with e | q
      · have := ha'.1 p hp
        omega
      · exact q
    · refine (sub_of_within ha hb'.2 fun p hp => ?_).cons y
      rcases List.mem_cons.mp (h p hp) with e | q
      · have h1 := hb'.1 x hx
        rcases List.mem_cons.mp hp with e2 | hp2
        · omega
        · have := ha'.1 p hp2
          omega
      · exact q
theorem within_same {a b : Places} (ha : rising a = true) (hb : rising b = true) (h : within a b = true) (hl : b.length ≤ a.length) : a = b :=
  (sub_of_within (rising_pairwise.mp ha) (rising_pairwise.mp hb) (within_iff.mp h)).eq_of_length_le hl

/-- what the loop of least_ones does with one row -/
def keep (found : List Places) (row : Places) : List Places := if found.any (fun o => within o row) = true then found else found ++ [row]
structure Kept (pre found : List Places) : Prop where
  mem : ∀ s, s ∈ found ↔ s ∈ pre ∧ ∀ r ∈ pre, within r s = true → r = s
  has : ∀ r ∈ pre, ∃ o ∈ found, within o r = true
  sub : found.Sublist pre
theorem kept_nil : Kept [] [] := ⟨by simp, by simp, List.Sublist.slnil⟩
theorem kept_more {pre found : List Places} {x : Places} (h : Kept pre found) (hr : ∀ s ∈ pre ++ [x], rising s = true) (hn : x ∉ pre) (hl : ∀ s ∈ pre, s.length ≤ x.length) : Kept (pre ++ [x]) (keep found x) := by
  have rx : rising x = true := hr x (by simp)
  have old : ∀ s ∈ pre, within x s = true → x = s := fun s hs w => within_same rx (hr s (by simp [hs])) w (hl s hs)
  unfold keep
  by_cases c : found.any (fun o => within o x) = true
  · rw [if_pos c]
    obtain ⟨o, ho, wo⟩ := List.any_eq_true.mp c
    have po := ((h.mem o).mp ho).1
    refine ⟨fun s => ?_, fun r hr' => ?_, h.sub.trans (List.sublist_append_left _ _)⟩
    · rw [h.mem s]
      constructor
      · rintro ⟨h1, h2⟩
        refine ⟨by simp [h1], fun r hr' w => ?_⟩
        rcases List.mem_append.mp hr' with q | q
        · exact h2 r q w
        · rw [List.mem_singleton] at q
          subst q
          exact old s h1 w
      · rintro ⟨h1, h2⟩
        rcases List.mem_append.mp h1 with q | q
        · exact ⟨q, fun r hr' w => h2 r (by simp [hr']) w⟩
        · rw [List.mem_singleton] at q
          subst q
          have e := h2 o (by simp [po]) wo
          rw [e] at po
          exact absurd po hn
    · rcases List.mem_append.mp hr' with q | q
      · exact h.has r q
      · rw [List.mem_singleton] at q
        subst q
        exact ⟨o, ho, wo⟩
  · rw [if_neg c]
    have no : ∀ o ∈ found, ¬ within o x = true := fun o ho w => c (List.any_eq_true.mpr ⟨o, ho, w⟩)
    refine ⟨fun s => ?_, fun r hr' => ?_, h.sub.append (List.Sublist.refl _)⟩
    · rw [List.mem_append, List.mem_singleton, h.mem s]
      constructor
      · rintro (⟨h1, h2⟩ | rfl)
        · refine ⟨by simp [h1], fun r hr' w => ?_⟩
          rcases List.mem_append.mp hr' with q | q
          · exact h2 r q w
          · rw [List.mem_singleton] at q
            subst q
            exact old s h1 w
        · refine ⟨by simp, fun r hr' w => ?_⟩
          rcases List.mem_append.mp hr' with q | q
          · obtain ⟨o, ho, wo⟩ := h.has r q
            exact absurd (within_trans wo w) (no o ho)
          · rw [List.mem_singleton] at q
            exact q
      · rintro ⟨h1, h2⟩
        rcases List.mem_append.mp h1 with q | q
        · exact .inl ⟨q, fun r hr' w => h2 r (by simp [hr']) w⟩
        · rw [List.mem_singleton] at q
          exact .inr q
    · rcases List.mem_append.mp hr' with q | q
      · obtain ⟨o, ho, wo⟩ := h.has r q
        exact ⟨o, by simp [ho], wo⟩
      · rw [List.mem_singleton] at q
        subst q
        exact ⟨r, by simp, within_refl r⟩
theorem kept_all : ∀ (post pre found : List Places), Kept pre found → (∀ s ∈ pre ++ post, rising s = true) → (pre ++ post).Nodup → (pre ++ post).Pairwise (fun a b => a.length ≤ b.length) → Kept (pre ++ post) (post.foldl keep found)
  | [], pre, found, h, _, _, _ => by
    rw [List.append_nil]
    exact h
  | x :: post, pre, found, h, hr, hn, hl => by
    have e : pre ++ x :: post = pre ++ [x] ++ post := by simp
    rw [e] at hr hn hl ⊢
    refine kept_all post (pre ++ [x]) _ (kept_more h (fun s hs => hr s (List.mem_append_left _ hs)) ?_ ?_) hr hn hl
    · intro hx
      have q := (List.nodup_append.mp hn).1
      have q := (List.nodup_append.mp q).2.2 x hx x (by simp)
      exact q rfl
    · intro s hs
      have q := (List.pairwise_append.mp (List.pairwise_append.mp hl).1).2.2
      exact q s hs x (by simp)
theorem kept_of {l : List Places} (hr : ∀ s ∈ l, rising s = true) (hn : l.Nodup) (hl : l.Pairwise (fun a b => a.length ≤ b.length)) : Kept l (l.foldl keep []) :=
  kept_all l [] [] kept_nil hr hn hl

/-! ### the order of rows -/
theorem firstOf_cons (a b : Nat) (l m : Places) : firstOf (a :: l) (b :: m) = (decide (a < b) || (a == b && firstOf l m)) := rfl
theorem firstOf_irrefl : ∀ a : Places, firstOf a a = false
  | [] => rfl
  | a :: l => by simp [firstOf_cons, firstOf_irrefl l]
theorem firstOf_asymm : ∀ {a b : Places}, firstOf a b = true → firstOf b a = false
  | [], [], h => by cases h
  | [], _ :: _, _ => rfl
  | _ :: _, [], h => by cases h
  | a :: l, b :: m, h => by
    rw [firstOf_cons] at h ⊢
    simp only [Bool.or_eq_true, decide_eq_true_eq, Bool.and_eq_true, beq_iff_eq] at h
    rcases h with h | ⟨h, k⟩
    · have h1 : ¬ b < a := by omega
      have h2 : ¬ b = a := by omega
      simp [h1, h2]
    · subst h
      simp [firstOf_asymm k]
theorem firstOf_conn : ∀ {a b : Places}, firstOf a b = false → firstOf b a = false → a = b
  | [], [], _, _ => rfl
  | [], _ :: _, h, _ => by cases h
  | _ :: _, [], _, h => by cases h
  | a :: l, b :: m, h, k => by
    rw [firstOf_cons] at h k
    simp only [Bool.or_eq_false_iff, decide_eq_false_iff_not] at h k
    have e : a = b := by omega
    subst e
    rw [firstOf_conn (a := l) (b := m) (by simpa using h.2) (by simpa using k.2)]
theorem firstOf_trans : ∀ {a b c : Places}, firstOf a b = true → firstOf b c = true → firstOf a c = true
  | [], b, [], h, k => by cases b <;> cases h <;> cases k
  | [], _, _ :: _, _, _ => rfl
  | _ :: _, [], _, h, _ => by cases h
  | _ :: _, _ :: _, [], _, k => by cases k
  | a :: l, b :: m, c :: n, h, k => by
    rw [firstOf_cons] at h k ⊢
    simp only [Bool.or_eq_true, decide_eq_true_eq, Bool.and_eq_true, beq_iff_eq] at h k ⊢
    rcases h with h | ⟨h, h'⟩ <;> rcases k with k | ⟨k, k'⟩
    · exact .inl (by omega)
    · exact .inl (by omega)
    · exact .inl (by omega)
    · exact .inr ⟨by omega, firstOf_trans h' k'⟩
/-- not behind -/
def leP (a b : Places) : Prop := firstOf b a = false
theorem put_perm (x : Places) : ∀ l : List Places, (put x l).Perm (x :: l)
  | [] => List.Perm.refl _
  | y :: l => by
    unfold put
    split
    · exact List.Perm.refl _
    · exact ((put_perm x l).cons y).trans (List.Perm.swap ..)
theorem leP_trans {a b c : Places} (h : leP a b) (k : leP b c) : leP a c := by
  unfold leP at *
  cases e : firstOf c a with
  | false => rfl
  | true =>
    cases f : firstOf a b with
    | true =>
      have := firstOf_trans e f
      rw [this] at k; cases k
    | false =>
      have := firstOf_conn f h
      subst this
      rw [e] at k; cases k
theorem put_sorted (x : Places) : ∀ {l : List Places}, l.Pairwise leP → (put x l).Pairwise leP
  | [], _ => by simp [put]
  | y :: l, h => by
    have h' := List.pairwise_cons.mp h
    unfold put
    split
    · rename_i c
      refine List.pairwise_cons.mpr ⟨fun z hz => ?_, h⟩
      have q : leP x y := firstOf_asymm c
      rcases List.mem_cons.mp hz with rfl | hz
      · exact q
      · exact leP_trans q (h'.1 z hz)
    · rename_i c
      refine List.pairwise_cons.mpr ⟨fun z hz => ?_, put_sorted x h'.2⟩
      rcases List.mem_cons.mp ((put_perm x l).mem_iff.mp hz) with rfl | hz
      · unfold leP
        simpa using c
      · exact h'.1 z hz
theorem puts_sorted : ∀ (l m : List Places), m.Pairwise leP → (l.foldl (fun m s => put s m) m).Pairwise leP
  | [], _, h => h
  | x :: l, m, h => puts_sorted l (put x m) (put_sorted x h)
theorem puts_perm : ∀ (l m : List Places), (l.foldl (fun m s => put s m) m).Perm (l ++ m)
  | [], m => List.Perm.refl _
  | x :: l, m => (puts_perm l (put x m)).trans (((put_perm x m).append_left l).trans List.perm_middle)
theorem sorted_one : ∀ {l m : List Places}, l.Perm m → l.Pairwise leP → m.Pairwise leP → l = m
  | [], m, h, _, _ => (List.Perm.eq_nil h.symm).symm
  | x :: l, [], h, _, _ => absurd h.length_eq (by simp)
  | x :: l, y :: m, h, hl, hm => by
    have hl' := List.pairwise_cons.mp hl
    have hm' := List.pairwise_cons.mp hm
    have h1 : leP x y := by
      rcases List.mem_cons.mp (h.mem_iff.mpr (List.mem_cons_self ..)) with e | q
      · rw [e]; exact firstOf_irrefl _
      · exact hl'.1 y q
    have h2 : leP y x := by
      rcases List.mem_cons.mp (h.mem_iff.mp (List.mem_cons_self ..)) with e | q
      · rw [e]; exact firstOf_irrefl _
      · exact hm'.1 x q
    have e : x = y := firstOf_conn h2 h1
    subst e
    rw [sorted_one h.cons_inv hl'.2 hm'.2]
/-- the program's least ones are the specification's -/
theorem least_is {l m out : List Places} (hr : ∀ s ∈ l, rising s = true) (hn : l.Nodup) (hl : l.Pairwise (fun a b => a.length ≤ b.length)) (hp : l.Perm m) (ho : out.Perm (l.foldl keep [])) (hs : out.Pairwise leP) : out = least m := by
  have K := kept_of hr hn hl
  have nf : (l.foldl keep []).Nodup := hn.sublist K.sub
  have nm : m.Nodup := hp.nodup_iff.mp hn
  unfold least
  refine sorted_one (ho.trans ?_) hs (puts_sorted _ _ List.Pairwise.nil)
  refine List.Perm.trans ?_ (puts_perm _ _).symm
  rw [List.append_nil]
  refine (List.perm_ext_iff_of_nodup nf (nm.filter _)).mpr fun s => ?_
  rw [K.mem, List.mem_filter, hp.mem_iff]
  simp only [Bool.not_eq_true', List.any_eq_false, Bool.and_eq_true, bne_iff_ne, not_and, Decidable.not_not]
  constructor
  · rintro ⟨h1, h2⟩
    exact ⟨h1, fun r hr' w => h2 r (hp.mem_iff.mpr hr') w⟩
  · rintro ⟨h1, h2⟩
    exact ⟨h1, fun r hr' w => h2 r (hp.mem_iff.mp hr') w⟩
end My
namespace My
open Sq62

/-! ### C. all choices -/
/-- found, behind n turns of all_choices' loop -/
def choices : Nat → List Places
  | 0 => [[]]
  | n + 1 => choices n ++ (choices n).map fun row => row ++ [n]
theorem pow_pos2 (n : Nat) : 0 < 2 ^ n := Nat.pow_pos (by decide)
theorem some_succ_low {n k : Nat} (h : k < 2 ^ n) : some_ (n + 1) k = some_ n k := by
  unfold some_
  rw [List.range_succ, List.filter_append]
  have e : k / 2 ^ n = 0 := Nat.div_eq_of_lt h
  simp [e]
theorem bit_low {n j k : Nat} (h : j < n) : (2 ^ n + k) / 2 ^ j % 2 = k / 2 ^ j % 2 := by
  have e : 2 ^ n = 2 ^ j * (2 * 2 ^ (n - j - 1)) := by
    rw [show 2 * 2 ^ (n - j - 1) = 2 ^ (n - j - 1 + 1) by rw [Nat.pow_succ, Nat.mul_comm], ← Nat.pow_add]
    congr 1
    omega
  rw [e, Nat.mul_add_div (pow_pos2 j)]
  omega
theorem some_succ_high {n k : Nat} (h : k < 2 ^ n) : some_ (n + 1) (2 ^ n + k) = some_ n k ++ [n] := by
  unfold some_
  rw [List.range_succ, List.filter_append]
  have e : (2 ^ n + k) / 2 ^ n = 1 := by
    rw [Nat.add_div_left _ (pow_pos2 n), Nat.div_eq_of_lt h]
  have q : (List.range n).filter (fun j => (2 ^ n + k) / 2 ^ j % 2 == 1) = (List.range n).filter (fun j => k / 2 ^ j % 2 == 1) := by
    refine List.filter_congr fun j hj => ?_
    rw [bit_low (List.mem_range.mp hj)]
  rw [q]
  simp [e]
theorem choices_is : ∀ n : Nat, choices n = (List.range (2 ^ n)).map (some_ n)
  | 0 => rfl
  | n + 1 => by
    have e : 2 ^ (n + 1) = 2 ^ n + 2 ^ n := by rw [Nat.pow_succ]; omega
    rw [e, List.range_add, List.map_append]
    show choices n ++ (choices n).map (fun row => row ++ [n]) = _
    rw [choices_is n, List.map_map, List.map_map]
    congr 1
    · refine List.map_congr_left fun k hk => ?_
      exact (some_succ_low (List.mem_range.mp hk)).symm
    · refine List.map_congr_left fun k hk => ?_
      exact (some_succ_high (List.mem_range.mp hk)).symm
theorem choices_len (n : Nat) : (choices n).length = 2 ^ n := by rw [choices_is]; simp
theorem mem_choices {n : Nat} {s : Places} (h : s ∈ choices n) : rising s = true ∧ (∀ p ∈ s, p < n) := by
  rw [choices_is] at h
  obtain ⟨k, _, rfl⟩ := List.mem_map.mp h
  unfold some_
  refine ⟨rising_pairwise.mpr (List.pairwise_lt_range.filter _), fun p hp => ?_⟩
  exact List.mem_range.mp (List.mem_filter.mp hp).1
theorem choices_nodup : ∀ n : Nat, (choices n).Nodup
  | 0 => by simp [choices]
  | n + 1 => by
    show (choices n ++ (choices n).map fun row => row ++ [n]).Nodup
    refine List.nodup_append.mpr ⟨choices_nodup n, ?_, fun a ha b hb e => ?_⟩
    · refine List.Pairwise.map _ (fun a b h => ?_) (choices_nodup n)
      intro q
      exact h (List.append_cancel_right q)
    · obtain ⟨c, _, rfl⟩ := List.mem_map.mp hb
      have q := (mem_choices ha).2 n (by rw [e]; simp)
      omega
theorem sets_is (n : Nat) : sets n = (choices n).filter fun s => !s.isEmpty := by
  rw [choices_is]
  rfl
/-- rows in order, those of fewer places first: what all_choices hands back -/
structure Choices (n : Nat) (l : List Places) : Prop where
  perm : l.Perm (sets n)
  len : l.Pairwise (fun a b => a.length ≤ b.length)
theorem Choices.rising {n : Nat} {l : List Places} (h : Choices n l) : ∀ s ∈ l, Sq62.rising s = true := fun s hs => by
  have q := h.perm.mem_iff.mp hs
  rw [sets_is] at q
  exact (mem_choices (List.mem_filter.mp q).1).1
theorem Choices.bound {n : Nat} {l : List Places} (h : Choices n l) : ∀ s ∈ l, ∀ p ∈ s, p < n := fun s hs => by
  have q := h.perm.mem_iff.mp hs
  rw [sets_is] at q
  exact (mem_choices (List.mem_filter.mp q).1).2
theorem Choices.nodup {n : Nat} {l : List Places} (h : Choices n l) : l.Nodup := by
  refine h.perm.nodup_iff.mpr ?_
  rw [sets_is]
  exact (choices_nodup n).filter _
theorem Choices.length {n : Nat} {l : List Places} (h : Choices n l) : l.length ≤ 2 ^ n := by
  rw [h.perm.length_eq, sets_is, ← choices_len n]
  exact List.length_filter_le _ _
theorem siphons_is {g : Net} {l out : List Places} (h : Choices g.n l) (ho : out.Perm ((l.filter g.siphon).foldl keep [])) (hs : out.Pairwise leP) : out = g.siphons := by
  refine least_is (fun s hs => h.rising s (List.mem_filter.mp hs).1) (h.nodup.filter _) (h.len.filter _) (h.perm.filter _) ho hs
theorem traps_is {g : Net} {l out : List Places} (h : Choices g.n l) (ho : out.Perm ((l.filter g.trap).foldl keep [])) (hs : out.Pairwise leP) : out = g.traps := by
  refine least_is (fun s hs => h.rising s (List.mem_filter.mp hs).1) (h.nodup.filter _) (h.len.filter _) (h.perm.filter _) ho hs

/-! ### D. choices that are not free -/
def bad (g : Net) (i j : Nat) : Bool := match g.ts[i]?, g.ts[j]? with
  | some t, some u => decide (i < j) && (meets t.takes u.takes && t.takes != u.takes)
  | _, _ => false
theorem unfree_eq (g : Net) : g.unfree = ((List.range g.ts.length).flatMap fun i => (List.range g.ts.length).map fun j => (i, j)).find? fun x => bad g x.1 x.2 := rfl
theorem unfree_none {g : Net} (h : ∀ i j, i < j → j < g.ts.length → bad g i j = false) : g.unfree = none := by
  rw [unfree_eq, List.find?_eq_none]
  rintro ⟨i, j⟩ hx
  simp only [List.mem_flatMap, List.mem_map, List.mem_range] at hx
  obtain ⟨i', hi, j', hj, e⟩ := hx
  cases e
  rcases Nat.lt_or_ge i j with q | q
  · simp [h i j q hj]
  · have n : ¬ i < j := by omega
    unfold bad
    split
    · simp [n]
    · simp
theorem find_range {p : Nat → Bool} {n j : Nat} (hj : j < n) (h : p j = true) (hb : ∀ k, k < j → p k = false) : (List.range n).find? p = some j := by
  rw [List.find?_range_eq_some]
  exact ⟨h, List.mem_range.mpr hj, fun k hk => by rw [hb k hk]; rfl⟩
theorem unfree_some {g : Net} {i j : Nat} (hij : i < j) (hj : j < g.ts.length) (hb : bad g i j = true) (h1 : ∀ a b, a < i → a < b → b < g.ts.length → bad g a b = false) (h2 : ∀ b, i < b → b < j → bad g i b = false) : g.unfree = some (i, j) := by
  have low : ∀ a b, b ≤ a → bad g a b = false := fun a b hab => by
    have n : ¬ a < b := by omega
    unfold bad
    split
    · simp [n]
    · rfl
  rw [unfree_eq, List.find?_flatMap]
  have row : ∀ a, ((List.range g.ts.length).map fun j => (a, j)).find? (fun x => bad g x.1 x.2) = ((List.range g.ts.length).find? (bad g a)).map fun j => (a, j) := fun a => by
    rw [List.find?_map]
    rfl
  have split : List.range g.ts.length = List.range i ++ i :: (List.range (g.ts.length - i - 1)).map (fun x => i + 1 + x) := by
    have e : g.ts.length = i + (1 + (g.ts.length - i - 1)) := by omega
    conv => lhs; rw [e, List.range_add]
    congr 1
    rw [List.range_add]
    simp [List.map_map, Function.comp_def, Nat.add_assoc]
  have hd : ∀ a, a < i → ((List.range g.ts.length).map fun j => (a, j)).find? (fun x => bad g x.1 x.2) = none := fun a ha => by
    rw [row a]
    have : (List.range g.ts.length).find? (bad g a) = none := by
      rw [List.find?_eq_none]
      intro b hb'
      have hb' := List.mem_range.mp hb'
      rcases Nat.lt_or_ge a b with q | q
      · simp [h1 a b ha q hb']
      · simp [low a b q]
    rw [this]
    rfl
  have hi : ((List.range g.ts.length).map fun k => (i, k)).find? (fun x => bad g x.1 x.2) = some (i, j) := by
    rw [row i, find_range hj hb fun k hk => ?_]
    · rfl
    · rcases Nat.lt_or_ge i k with q | q
      · exact h2 k q hk
      · exact low i k q
  have all : ∀ (l r : List Nat), (∀ a ∈ l, ((List.range g.ts.length).map fun j => (a, j)).find? (fun x => bad g x.1 x.2) = none) →
      (l ++ i :: r).findSome? (fun a => ((List.range g.ts.length).map fun j => (a, j)).find? (fun x => bad g x.1 x.2)) = some (i, j) := fun l r hl => by
    rw [List.findSome?_append, List.findSome?_eq_none_iff.mpr hl, List.findSome?_cons, hi]
    rfl
  refine Eq.trans (congrArg (fun z => List.findSome? _ z) split) (all _ _ fun a ha => hd a (List.mem_range.mp ha))

/-! ### E. one that fires -/
theorem fired_get {t : Transition} {m : Marking} {i x : Nat} (h : m[i]? = some x) : (fired t m)[i]? = some (x - (if t.takes.contains i = true then 1 else 0) + (if t.puts.contains i = true then 1 else 0)) := by
  unfold fired
  have hl : i < m.length := (List.getElem?_eq_some_iff.mp h).1
  have e : ((List.range m.length).zip m)[i]? = some (i, x) := by
    rw [List.getElem?_zip_eq_some]
    exact ⟨by simp [hl], h⟩
  rw [List.getElem?_map, e]
  rfl
theorem fired_len (t : Transition) (m : Marking) : (fired t m).length = m.length := by
  unfold fired
  simp
theorem may_at {t : Transition} {m : Marking} (h : may t m = true) {i x : Nat} (hx : m[i]? = some x) (hi : t.takes.contains i = true) : 0 < x := by
  unfold may at h
  have q := List.all_eq_true.mp h i (by simpa using hi)
  unfold at_ at q
  rw [hx] at q
  simpa using q
theorem fired_int {t : Transition} {m : Marking} (hm : may t m = true) {i x : Nat} (h : m[i]? = some x) (a b : Bool) (ha : t.takes.contains i = a) (hb : t.puts.contains i = b) :
    ((x - (if t.takes.contains i = true then 1 else 0) + (if t.puts.contains i = true then 1 else 0) : Nat) : Int) = (x : Int) - (if a = true then 1 else 0) + (if b = true then 1 else 0) := by
  subst ha hb
  by_cases c : t.takes.contains i = true
  · have := may_at hm h c
    rw [if_pos c, if_pos c]
    split <;> omega
  · rw [if_neg c, if_neg c]
    split <;> omega
theorem fires_len (g : Net) : ∀ (l : List Nat) (m k : Marking), g.fires m l = some k → k.length = m.length
  | [], m, k, h => by
    cases h
    rfl
  | i :: l, m, k, h => by
    unfold Net.fires at h
    split at h
    · cases h
    · rename_i t _
      split at h
      · rw [fires_len g l _ _ h, fired_len]
      · cases h
end My
/-! # Siphons, traps and free choice: the words of this proof -/
namespace PySem
namespace LowX
open PySem.W PySem.Calls PyProof.Rows PySem.HandSPX
/-! ### the text of __init__ -/
def iA (p1 p2 : Pos) : Arguments := { posonlyargs := [], args := [{ arg := "self", annotation := none, pos := p1 }, { arg := "told", annotation := none, pos := p2 }], vararg := none, kwonlyargs := [], kw_defaults := [], kwarg := none, defaults := [] }
def iB (q1 q2 q3 q4 : Pos) : List Stmt := [.Assign [.Attribute (.Name "self" q1) "told" q2] (.Name "told" q3) q4]
def iS : Scope := { kind := .function, names := [(PySem.Str.ofString "self", .local), (PySem.Str.ofString "told", .local)], isGenerator := false, isCoroutine := false, more := [] }
/-- what the written part says of Refused, at C, and of its __init__, at fI -/
structure LowTxt (K : Frag) (mg : Str → Option Value) (C fI : Addr) : Prop where
  gC : mg "Refused" = some (.ref C)
  cls : ∃ nm q N bs bm sn sub ab col dd k0 k1 k2 k3 k5, K.lookup C = some (excClassObj nm q C N bs bm true sn sub ab col dd k0 k1 k2 k3 k5 "ValueError.__new__") ∧ refsVE bm = true
  sa : findIn K (.ref C) "__setattr__" = some (some (.builtin "object.__setattr__"))
  ga : findIn K (.ref C) "__getattribute__" = some (some (.builtin "BaseException.__getattribute__"))
  gg : findIn K (.ref C) "__getattr__" = some none
  noN : findIn K (.ref C) "told" = some none
  iC : findIn K (.ref C) "__init__" = some (some (.ref fI))
  tC : typeIn K (.ref fI) = some (.type "function")
  kC : keepIn K (.ref C) = true
  exC : subIn K (.ref C) (.type "BaseException") = some true
  tyC : typeIn K (.ref C) = some (.type "type")
  hdC : hasDictIn K C = true
  te : exmOne K (.ref C) (.ref C) = some true
  fn : ∃ (oc : Value) (od : Option Addr) (doc pm : Value) (an : Option Addr) (cdv ct : Value) (osl : Array (Option Value)) (p1 p2 q1 q2 q3 q4 : Pos),
    K.lookup fI = some ⟨oc, od, .func (fnOf "__init__" "Refused.__init__" (iA p1 p2) (iB q1 q2 q3 q4) iS .none .none doc pm an cdv ct), osl⟩ ∧ codeIn K cdv "Refused.__init__" = true
theorem one_size (v : Value) : [v].length ≤ sizeLine := by
  rw [sizeLine_eq]
  exact (by decide : 1 ≤ 16777216)
theorem kept_but {K : Frag} {h h' : Heap} {x : Addr} (X : K.In h) (hx : K.lookup x = none) (k : ∀ b o, b ≠ x → h.get? b = some o → h'.get? b = some o) : K.In h' := fun a o e =>
  k a o (fun z => by rw [z, hx] at e; cases e) (X a o e)
theorem ldC {M : Model} {s : Shared} {name : Str} {scope : Scope} {L a : Addr} {cd : Value} {m : Str → Option Value} {x : Str} {pos : Pos} {v : Value} {Q : Value → Shared → Prop} {A : Around} {E : Value → Shared → Prop} (hn : s.heap.Ns L m) (hv : m x = some v) (h : Q v s)
    (hk : scope.kind = .function := by rfl) (hl : (envOfC name scope L a cd).kindOf x = some .local := by rfl) (hd : (x == ("__debug__" : Str)) = false := by decide) :
    wpAny M A (eval (.Name x pos) (envOfC name scope L a cd)) Q E s := wpAny_Name (wpAny_loadName_local hk hl hn hv h) hd
/-- what __init__ leaves of a fresh exception at x -/
structure InitEnd (h h' : Heap) (x C dx t1 : Addr) (v : Value) : Prop where
  keep : ∀ b o, b ≠ x → h.get? b = some o → h'.get? b = some o
  obj : h'.get? x = some { cls := .ref C, dict := some dx, data := .fields #[.ref t1, .none, .none, .none, .bool false, .none] }
  dbig : h.objs.size ≤ dx
  dne : dx ≠ x
  ns : h'.Ns1 dx (fun y => if y = "told" then some v else none)
/-- a made Refused -/
structure OwnMade (h h' : Heap) (e C d : Addr) (v : Value) : Prop where
  keep : ∀ b o, h.get? b = some o → h'.get? b = some o
  new : h.objs.size ≤ e
  obj : ∃ oe vs, h'.get? e = some oe ∧ oe.cls = .ref C ∧ oe.dict = some d ∧ oe.data = .fields vs ∧ vs[1]? = some .none
  dbig : h.objs.size ≤ d
  dne : d ≠ e
  ns : h'.Ns1 d (fun y => if y = "told" then some v else none)
section
variable {prog : Program} {w : World} {A : Around} {E : Value → Shared → Prop} {R : Result → Shared → Prop} {s : Shared} {K : Frag} {mg : Str → Option Value} {C fI : Addr}
theorem low_init (T : LowTxt K mg C fI) {x t0 : Addr} {v : Value} (X : K.In s.heap) (hlim : s.heap.NoLimit) (hx : s.heap.get? x = some (excO C t0)) (hnx : K.lookup x = none) (hroom : A.depth < recursionLimit)
    (hq : ∀ h' tk dx, InitEnd s.heap h' x C dx t0 v → R (.ok (.ret .none)) { s with heap := h', toks := tk }) :
    codeAny (model prog w) A (.call (.ref fI) ⟨[.ref x, v], []⟩) R s := by
  obtain ⟨oc, od, doc, pm, an, cdv, ct, osl, p1, p2, q1, q2, q3, q4, ho, hcd⟩ := T.fn
  obtain ⟨nm, q, N, bs, bm, sn, sub, ab, col, dd, k0, k1, k2, k3, k5, hC, hbm⟩ := T.cls
  have hcl : clsIn K C = some { name := nm, bases := bs, mro := .ref C :: bm, ns := N, qualname := q, hasDict := true, slotNames := sn, subclasses := sub, abstract := ab, collection := col, hasDel := false } := by unfold clsIn; rw [hC] <;> rfl
  refine Att.call_fn (binds := [("self", .ref x), ("told", v)]) X hlim ho hcd hroom (BindsTo.of_eq (by first | rfl | with_unfolding_all rfl)) (by first | rfl | decide | with_unfolding_all rfl) (fun s₁ IC => ?_) rfl rfl rfl
  obtain ⟨h₁, tk₁, rfl⟩ := IC.toInCall.same
  have k : ∀ b o, s.heap.get? b = some o → h₁.get? b = some o := IC.toInCall.keep
  have hn := IC.toInCall.ns
  have hxL : s.heap.objs.size ≠ x := Nat.ne_of_gt (Heap.lt_size hx)
  have X₁ : K.In h₁ := X.keeps k
  have hx₁ := k _ _ hx
  -- self.told = told
  show wpAny _ _ (execs _ _) _ _ _
  refine wpAny_execs_cons (plainObj_wpAny_Assign_Attribute ?_)
  refine ldC (v := v) hn (by first | rfl | with_unfolding_all rfl | kernel_rfl) (ldC (v := .ref x) hn (by first | rfl | with_unfolding_all rfl | kernel_rfl) ?_)
  refine set_plain X₁ (ox := excO C t0) (od := none) ⟨hx₁, rfl, rfl, trivial⟩ T.sa ?_
  refine exc_osa X₁ hx₁ hcl (show refsVE (.ref C :: bm) = true from hbm) rfl T.noN (fun h₃ tk₃ dx k₃ dn dne hx₃ hn₃ => ?_)
  show wpAny _ _ (execs _ _) _ _ _
  have z : s.heap.objs.size < h₁.objs.size := hn.lt
  exact wpAny_execs_nil (hq h₃ tk₃ dx ⟨fun b o hb e => k₃ b o hb (k b o e), hx₃, Nat.le_of_lt (Nat.lt_of_lt_of_le z dn), dne, hn₃⟩)
theorem low_made (T : LowTxt K mg C fI) {v : Value} (X : K.In s.heap) (hlim : s.heap.NoLimit) (hroom : A.depth + 1 < recursionLimit)
    (hq : ∀ h' tk e d, OwnMade s.heap h' e C d v → R (.ok (.ret (.ref e))) { s with heap := h', toks := tk }) :
    codeAny (model prog w) A (.call (.ref C) ⟨[v], []⟩) R s := by
  obtain ⟨nm, q, N, bs, bm, sn, sub, ab, col, dd, k0, k1, k2, k3, k5, hC, hbm⟩ := T.cls
  obtain ⟨hp, g, dr, tk, os⟩ := s
  have k : ∀ b o, hp.get? b = some o → ((hp.push (kdv_tup [v])).push (excO C hp.objs.size)).get? b = some o := fun b o e => Heap.get?_push_of_some _ (Heap.get?_push_of_some _ e)
  have hget : ((hp.push (kdv_tup [v])).push (excO C hp.objs.size)).get? (hp.objs.size + 1) = some (excO C hp.objs.size) := by heap_get
  have hnx : K.lookup (hp.objs.size + 1) = none := by
    cases e : K.lookup (hp.objs.size + 1) with
    | none => rfl
    | some o =>
      have z : hp.get? (hp.objs.size + 1) = some o := X _ _ e
      exact absurd (Nat.lt_of_succ_lt (Heap.lt_size z)) (Nat.lt_irrefl _)
  refine call_own F.excBase_ValueError (fun X => refsVE_contains X bm hbm) (X _ _ hC) (looks_findIn X T.iC) (fun self => bind_fn X self T.tC) (one_size v) ?_
  refine low_init (s := ⟨(hp.push (kdv_tup [v])).push (excO C hp.objs.size), g, dr, tk, os⟩) T (X.keeps k) (hlim.keeps k) hget hnx ?_ fun h' tk' dx ⟨k', hx, dn, dne, hns⟩ => ?_
  · show A.depth + 1 < recursionLimit
    exact hroom
  · have old : ∀ b o, hp.get? b = some o → h'.get? b = some o := fun b o e => k' b o (Nat.ne_of_lt (Nat.lt_succ_of_lt (Heap.lt_size e))) (k b o e)
    have z : hp.objs.size + 1 + 1 ≤ dx := by
      first
        | (simpa only [Heap.size_push] using dn)
        | exact dn
        | (have q := dn; rw [Heap.size_push, Heap.size_push] at q; exact q)
    exact ⟨rfl, hq h' tk' (hp.objs.size + 1) dx ⟨old, Nat.le_succ _, ⟨_, _, hx, rfl, rfl, rfl, rfl⟩, Nat.le_trans (Nat.le_trans (Nat.le_succ _) (Nat.le_succ _)) z, dne, hns⟩⟩
end
end LowX
end PySem
namespace L2
open PySem PySem.Spec PyProof.Rows
theorem relO_low {v : V} {v' : Value} (r : RelV v v') (f : Str) : RelO (List.lookup f [(("told" : Str), v)]) (if f = "told" then some v' else none) := by
  by_cases hw : f = "told"
  · subst hw
    rw [if_pos rfl]
    have q : List.lookup ("told" : Str) [(("told" : Str), v)] = some v := by simp [List.lookup]
    rw [q]
    exact r
  · rw [if_neg hw]
    have qw : (f == ("told" : Str)) = false := by simpa using hw
    have q2 : List.lookup f [(("told" : Str), v)] = none := by simp [List.lookup, qw]
    rw [q2]
    trivial
section
variable {X : Cx} {C fI : Addr}
/-- Refused(e) as what is raised -/
def tMkLow (C : Addr) (ta : TA) : St → Hp → XK → Prop := fun σ H Q => ta σ H fun vs H1 => ∃ v, vs = [v] ∧ ∀ d, H1 d = none → Q (.ref C) (some d) (upd H1 d (.xd [(("told" : Str), v)]))
theorem pmk_low {a : Expr} {ta : TA} {p pos : Pos} {k : Nat} (T : PySem.LowX.LowTxt X.K X.mg C fI) (hr : Room k X.A) (ha : PA X [a] ta) (hg : Gl X "Refused" := by rfl)
    (he : starEach (a :: []) X.env = (false, eval a X.env) :: starEach [] X.env := by rfl) (hpl : (backTo pos (starEach [] X.env)).any (·.1) = false := by rfl) :
    PMk X (.Call (.Name "Refused" p) [a] [] pos) (tMkLow C ta) := by
  intro pins s σ H Q I h
  refine wpAny_Call_Name_kw (ld_glob I hg T.gC ?_)
  refine PySem.W.callWith_K (h₀ := X.base) I.ok.mod.kin T.kC (thn (ha.run pos pins s σ H _ I h) fun us s1 hh => ?_) he hpl
  obtain ⟨vs, H1, I1, r1, v, ev, q1⟩ := hh
  subst ev
  refine ⟨I1.kIn, ?_⟩
  cases r1 with
  | cons rv rn =>
    rename_i v' us'
    cases rn
    show wpAny _ _ (call (.ref C) [v']) _ _ _
    have hlim := I1.nolimit
    obtain ⟨hp, g, dr, tk, os⟩ := s1
    refine wpAny_call (PySem.LowX.low_made T I1.kIn hlim (by have := hr.dp; omega) fun h' tk' e d M => ?_)
    show MkP X pins σ Q (.ref e) ⟨h', g, dr, tk', os⟩
    obtain ⟨oe, fv, hoe, hc, hd, hdat, h1⟩ := M.obj
    have hns := M.ns
    obtain ⟨G', g1, g2⟩ := restrict h' fun b => decide (b ≠ e)
    have gk : ∀ b, b ≠ e → G'.get? b = h'.get? b := fun b hb => g1 b (decide_eq_true hb)
    have ge : G'.get? e = none := g2 e (by simp)
    have old : ∀ b o, hp.get? b = some o → G'.get? b = some o := fun b o q => (gk b (Nat.ne_of_lt (Nat.lt_of_lt_of_le (Heap.lt_size q) M.new))).trans (M.keep b o q)
    have ob : ObjOk X.prog X.w (upd H1 d (.xd [(("told" : Str), v)])) G' d (.xd [(("told" : Str), v)]) :=
      ⟨_, hns.at (fun o q => (gk d M.dne).trans q), fun f => relO_low rv f⟩
    have J : Inv X pins σ (upd H1 d (.xd [(("told" : Str), v)])) ⟨G', g, dr, tk', os⟩ := I1.laid (t' := tk') old M.dbig ob
    refine ⟨e, oe, fv, ⟨G', g, dr, tk', os⟩, _, .ref C, some d, rfl, J, fun b o q => ?_, ge, hoe, ⟨hc, hd⟩, hdat, h1, ?_, rfl, I1.bare, raises_own T.exC T.tyC, q1 d (I1.hok.fresh M.dbig)⟩
    · by_cases hb : b = e
      · have q' : G'.get? b = some o := q
        rw [hb, ge] at q'; cases q'
      · exact (gk b hb).symm.trans q
    · rw [upd_ne (Ne.symm M.dne)]
      exact I1.hok.fresh M.new
/-- raise Refused(e) -/
def tRaiseLow (C : Addr) (W : WX) (ta : TA) : TS := fun _ σ H => tMkLow C ta σ H fun cls d H' => W cls d σ H'
theorem ps_raiseLow {a : Expr} {ta : TA} {W : WX} {p pos pos2 : Pos} {k : Nat} (hc : X.calm = true) (T : PySem.LowX.LowTxt X.K X.mg C fI) (hr : Room k X.A) (tk : Takes X W) (ha : PA X [a] ta) (hg : Gl X "Refused" := by rfl)
    (he : starEach (a :: []) X.env = (false, eval a X.env) :: starEach [] X.env := by rfl) (hpl : (backTo pos (starEach [] X.env)).any (·.1) = false := by rfl) :
    PS X (.Raise (some (.Call (.Name "Refused" p) [a] [] pos)) none pos2) (tRaiseLow C W ta) := ps_raise hc tk (pmk_low T hr ha hg he hpl)
/-- error.told, low the exception that the suite holds (at a; its class cls, its dict d) -/
def tByLow (C : Addr) (a : Addr) (cls : Value) (d : Option Addr) (te : TE) : TE := fun σ H Q => te σ H fun x H1 => x = .ref a ∧ cls = .ref C ∧ ∃ (dd : Addr) (v : V), d = some dd ∧ H1 dd = some (.xd [(("told" : Str), v)]) ∧ Q v H1
theorem pe_byLow {a : Addr} {oe : Obj} {cls : Value} {d : Option Addr} {pn : List (Addr × Obj)} {e : Expr} {te : TE} {pos : Pos} (T : PySem.LowX.LowTxt X.K X.mg C fI) (hz : Zc cls d oe) (hf : ∃ vs, oe.data = .fields vs) (he : PE (X.suite a ((a, oe) :: pn)) e te)
    (hb : attributeBase e "told" X.env (eval e X.env) = eval e X.env := by rfl) :
    PE (X.suite a ((a, oe) :: pn)) (.Attribute e "told" pos) (tByLow C a cls d te) := by
  refine ⟨fun pins s σ H Q I h => ?_⟩
  refine attr_of hb (thn (he.run pins s σ H _ I h) fun u s1 hh => ?_)
  obtain ⟨x, H1, I1, rx, ex, ec, dd, v, ed, ea, q⟩ := hh
  subst ex
  obtain rfl : u = Value.ref a := rx
  subst ec
  subst ed
  obtain ⟨ha, _⟩ := I1.pin (a, oe) (List.mem_append_left _ List.mem_cons_self)
  obtain ⟨vs, hd⟩ := hf
  have hx : ObjOk X.prog X.w H1 s1.heap dd (.xd [(("told" : Str), v)]) := I1.hok dd _ ea
  obtain ⟨mA, hns, hr⟩ := hx
  obtain ⟨od, ho, hl⟩ := lookIn_ns hns
  have l : List.lookup ("told" : Str) [(("told" : Str), v)] = some v := by simp [List.lookup]
  obtain ⟨u, hu, ru⟩ := RelO.some_of (v := v) (o := mA "told") (by rw [← l]; exact hr "told")
  have J : PySem.W.InstAt s1.heap a oe C (some od) := ⟨ha, hz.1, by unfold PySem.W.notCls; rw [hd] <;> rfl, by rw [hz.2]; exact ho⟩
  exact HandSPX.exc_get I1.kIn J T.ga T.gg T.exC (PySem.W.findObj_own T.hdC T.noN rfl (by rw [hl, hu])) (handed_of ru) ⟨v, H1, I1.tok _, ru, q⟩
end
end L2

namespace L2
open PySem PySem.Spec PyProof.Rows
/-- an if whose test is known -/
theorem if_true_of {c : Bool} {A B : Prop} (hc : c = true) (h : A) : if c = true then A else B := by
  rw [if_pos hc]
  exact h
theorem if_false_of {c : Bool} {A B : Prop} (hc : c = false) (h : B) : if c = true then A else B := by
  rw [hc, if_neg Bool.false_ne_true]
  exact h
end L2

namespace My
open PySem PySem.Spec PyProof.Rows L2
/-! ### the text -/
/-- the i-th statement of the program's top -/
def top (i : Nat) : Stmt := PySem.Challenge.pw_freechoice_s01_answers.main.body.getD i (.Pass ⟨0, 0, 0, 0⟩)

/-! ### the heap -/
def nv (n : Nat) : V := .int (n : Int)
/-- at p a list of numbers, tracked -/
def LI (H : Hp) (p : Addr) (xs : List Nat) : Prop := H p = some (.lst (xs.map nv))
def LZ (H : Hp) (p : Addr) (zs : List Int) : Prop := H p = some (.lst (zs.map V.int))
def RowV (H : Hp) (v : V) (r : List Nat) : Prop := ∃ a, v = .ref a ∧ LI H a r
/-- at p a list of rows -/
def RowsAt (H : Hp) (p : Addr) (l : List (List Nat)) : Prop := ∃ prs : List (V × List Nat), H p = some (.lst (prs.map Prod.fst)) ∧ (∀ x ∈ prs, RowV H x.1 x.2) ∧ prs.map Prod.snd = l
def TrV (H : Hp) (v : V) (t : Sq62.Transition) : Prop := ∃ a b c, v = .ref a ∧ H a = some (.tup [.ref b, .ref c]) ∧ LI H b t.takes ∧ LI H c t.puts
def TrsAt (H : Hp) (p : Addr) (l : List Sq62.Transition) : Prop := ∃ prs : List (V × Sq62.Transition), H p = some (.lst (prs.map Prod.fst)) ∧ (∀ x ∈ prs, TrV H x.1 x.2) ∧ prs.map Prod.snd = l
def netF (n : Nat) (q : Addr) : List (Str × V) := [("n", nv n), ("transitions", .ref q)]
structure PlacesOk (n : Nat) (s : List Nat) : Prop where
  up : Sq62.rising s = true
  lt : ∀ p ∈ s, p < n
structure NetOk (g : Sq62.Net) : Prop where
  n1 : 1 ≤ g.n
  n9 : g.n ≤ 9
  ten : g.ts.length ≤ 10
  takes : ∀ t ∈ g.ts, PlacesOk g.n t.takes
  puts : ∀ t ∈ g.ts, PlacesOk g.n t.puts
def NetAt (C : Addr) (H : Hp) (a : Addr) (g : Sq62.Net) : Prop := NetOk g ∧ ∃ dx q, H a = some (.ins C dx (netF g.n q)) ∧ TrsAt H q g.ts
def houF (a b : Addr) : List (Str × V) := [("net", .ref a), ("marking", .ref b)]
def HouseAt (CH CN : Addr) (H : Hp) (p : Addr) (h : Sq62.House) : Prop := h.m.length = h.g.n ∧ ∃ dx a b, H p = some (.ins CH dx (houF a b)) ∧ NetAt CN H a h.g ∧ LI H b h.m
/-- a call as read_calls tells it -/
def RowZ (H : Hp) (v : V) (r : List Int) : Prop := ∃ a, v = .ref a ∧ LZ H a r
def RowsZ (H : Hp) (p : Addr) (l : List (List Int)) : Prop := ∃ prs : List (V × List Int), H p = some (.lst (prs.map Prod.fst)) ∧ (∀ x ∈ prs, RowZ H x.1 x.2) ∧ prs.map Prod.snd = l
def CallV (H : Hp) (v : V) (c : List (List Int)) : Prop := ∃ t pn pr p nums rows, c = (p :: nums) :: rows ∧ v = .ref t ∧ H t = some (.tup [.int p, .ref pn, .ref pr]) ∧ LZ H pn nums ∧ RowsZ H pr rows
def CallsAt (H : Hp) (p : Addr) (l : List (List (List Int))) : Prop := ∃ prs : List (V × List (List Int)), H p = some (.lst (prs.map Prod.fst)) ∧ (∀ x ∈ prs, CallV H x.1 x.2) ∧ prs.map Prod.snd = l
/-- all as it was but what stands at a -/
def But (a : Addr) (H H' : Hp) : Prop := ∀ b o, H b = some o → b ≠ a → H' b = some o

section
variable {H H' : Hp} {p a C CH CN : Addr}
theorem Same.but (s : Same H H') : But a H H' := fun b o e _ => s b o e
theorem LI.same {xs : List Nat} (h : LI H p xs) (s : Same H H') : LI H' p xs := s _ _ h
theorem LZ.same {xs : List Int} (h : LZ H p xs) (s : Same H H') : LZ H' p xs := s _ _ h
theorem RowV.same {v : V} {r : List Nat} (h : RowV H v r) (s : Same H H') : RowV H' v r := let ⟨a, e, l⟩ := h; ⟨a, e, l.same s⟩
theorem RowsAt.same {l : List (List Nat)} (h : RowsAt H p l) (s : Same H H') : RowsAt H' p l := let ⟨prs, e, r, q⟩ := h; ⟨prs, s _ _ e, fun x hx => (r x hx).same s, q⟩
theorem RowZ.same {v : V} {r : List Int} (h : RowZ H v r) (s : Same H H') : RowZ H' v r := let ⟨a, e, l⟩ := h; ⟨a, e, l.same s⟩
theorem RowsZ.same {l : List (List Int)} (h : RowsZ H p l) (s : Same H H') : RowsZ H' p l := let ⟨prs, e, r, q⟩ := h; ⟨prs, s _ _ e, fun x hx => (r x hx).same s, q⟩
theorem TrV.same {v : V} {t : Sq62.Transition} (h : TrV H v t) (s : Same H H') : TrV H' v t := let ⟨a, b, c, e, q, l, m⟩ := h; ⟨a, b, c, e, s _ _ q, l.same s, m.same s⟩
theorem TrsAt.same {l : List Sq62.Transition} (h : TrsAt H p l) (s : Same H H') : TrsAt H' p l := let ⟨prs, e, r, q⟩ := h; ⟨prs, s _ _ e, fun x hx => (r x hx).same s, q⟩
theorem NetAt.same {g : Sq62.Net} (h : NetAt C H a g) (s : Same H H') : NetAt C H' a g := let ⟨w, dx, q, e, t⟩ := h; ⟨w, dx, q, s _ _ e, t.same s⟩
theorem HouseAt.same {g : Sq62.House} (h : HouseAt CH CN H a g) (s : Same H H') : HouseAt CH CN H' a g := let ⟨w, dx, x, y, e, t, m⟩ := h; ⟨w, dx, x, y, s _ _ e, t.same s, m.same s⟩
theorem CallV.same {v : V} {c : List (List Int)} (h : CallV H v c) (s : Same H H') : CallV H' v c := let ⟨t, pn, pr, p, nums, rows, e1, e2, e3, e4, e5⟩ := h; ⟨t, pn, pr, p, nums, rows, e1, e2, s _ _ e3, e4.same s, e5.same s⟩
theorem CallsAt.same {l : List (List (List Int))} (h : CallsAt H p l) (s : Same H H') : CallsAt H' p l := let ⟨prs, e, r, q⟩ := h; ⟨prs, s _ _ e, fun x hx => (r x hx).same s, q⟩
/-- a new object -/
theorem same_new {o : HO} (h : H p = none) : Same H (upd H p o) := fun b u e => by
  rw [upd_ne (ne_of_none e h)]
  exact e
/-- what is written was not there at first -/
theorem same_upd {o : HO} (h : H p = none) (s : Same H H') : Same H (upd H' p o) := fun b u e => by
  rw [upd_ne (ne_of_none e h)]
  exact s b u e
theorem But.trans {H1 : Hp} (h : But a H H1) (k : But a H1 H') : But a H H' := fun b o e n => k b o (h b o e n) n
theorem but_upd {o : HO} : But a H (upd H a o) := fun b u e n => by
  rw [upd_ne n]
  exact e
theorem But.same {H1 : Hp} (h : But a H H1) (s : Same H1 H') : But a H H' := fun b o e n => s b o (h b o e n)
/-- lists and tuples and nets stand where a house is written -/
theorem LI.but {xs : List Nat} {h : Sq62.House} (l : LI H p xs) (hh : HouseAt CH CN H a h) (b : But a H H') : LI H' p xs := b _ _ l fun e => by
  obtain ⟨_, dx, x, y, e1, _⟩ := hh
  rw [← e, l] at e1
  cases e1
theorem len_li {xs ys : List Nat} (h : LI H p xs) (k : LI H p ys) : xs.length = ys.length := by
  unfold LI at h k
  rw [h] at k
  have e := congrArg List.length (HO.lst.inj (Option.some.inj k))
  simpa using e
end

/-! ### what is refused -/
/-- an error of the class at R that tells z, all as it was -/
def Rf (E : XK) (R : Addr) (H : Hp) (z : Int) : Prop := ∀ d H', Same H H' → H' d = some (.xd [(("told" : Str), V.int z)]) → E (.ref R) (some d) H'
theorem Rf.same {E : XK} {R : Addr} {H H' : Hp} {z : Int} (h : Rf E R H z) (s : Same H H') : Rf E R H' z := fun d H2 s2 e => h d H2 (s.trans s2) e

/-! ### lookups of fields -/
theorem lk_here {k : Str} {v : V} {r : List (Str × V)} : List.lookup k ((k, v) :: r) = some v := by
  have e : (k == k) = true := beq_self_eq_true k
  simp only [List.lookup, e]
theorem lk_past {k g : Str} {v : V} {r : List (Str × V)} (h : (k == g) = false) : List.lookup k ((g, v) :: r) = List.lookup k r := by
  simp only [List.lookup, h]
theorem put_here {f : Str} {v x : V} {r : List (Str × V)} : putF f v ((f, x) :: r) = (f, v) :: r := if_pos rfl
theorem put_past {f g : Str} {v x : V} {r : List (Str × V)} (h : ¬ g = f) : putF f v ((g, x) :: r) = (g, x) :: putF f v r := if_neg h
theorem netF_n (n : Nat) (q : Addr) : (netF n q).lookup ("n" : Str) = some (nv n) := lk_here
theorem netF_t (n : Nat) (q : Addr) : (netF n q).lookup ("transitions" : Str) = some (.ref q) := (lk_past (by decide +kernel)).trans lk_here
theorem netF_no (n : Nat) (q : Addr) {m : Str} (h1 : (m == ("n" : Str)) = false) (h2 : (m == ("transitions" : Str)) = false) : (netF n q).lookup m = none := (lk_past h1).trans ((lk_past h2).trans rfl)
theorem houF_n (a b : Addr) : (houF a b).lookup ("net" : Str) = some (.ref a) := lk_here
theorem houF_m (a b : Addr) : (houF a b).lookup ("marking" : Str) = some (.ref b) := (lk_past (by decide +kernel)).trans lk_here
theorem houF_no (a b : Addr) {m : Str} (h1 : (m == ("net" : Str)) = false) (h2 : (m == ("marking" : Str)) = false) : (houF a b).lookup m = none := (lk_past h1).trans ((lk_past h2).trans rfl)
theorem netF_new (n : Nat) (q : Addr) : putF "transitions" (.ref q) (putF "n" (nv n) []) = netF n q := (put_past (by decide +kernel)).trans rfl
theorem houF_new (a b : Addr) : putF "marking" (.ref b) (putF "net" (.ref a) []) = houF a b := (put_past (by decide +kernel)).trans rfl
theorem houF_putm (a b c : Addr) : putF "marking" (.ref c) (houF a b) = houF a c := (put_past (by decide +kernel)).trans (congrArg _ put_here)
theorem houF_putn (a b c : Addr) : putF "net" (.ref c) (houF a b) = houF c b := put_here

/-! ### loops -/
section
variable {K : PySem.W.Frag} {a D : Addr} {g : TG} {tt : TT} {te : TE} {vs : List Nat} {σ : L2.St} {H1 : Hp} {Qd : Hp → Prop} {α : Type}
theorem range_more {β : Type} (f : Nat → Option β) (i : Nat) : (List.range (i + 1)).filterMap f = (List.range i).filterMap f ++ (f i).toList := by
  rw [List.range_succ, List.filterMap_append]
  cases h : f i <;> simp [List.filterMap_cons, h]
theorem fm_len {β : Type} (f : Nat → Option β) (i : Nat) : ((List.range i).filterMap f).length ≤ i := Nat.le_trans (List.length_filterMap_le _ _) (Nat.le_of_eq (List.length_range))
/-- a comprehension that leaves all as it is, its items told by the turn -/
theorem lc_turns {J : It} {n : Nat} {G : Hp → Prop} {Y : Nat → Hp → V → Hp → Prop} (w : Walk J n G Y) (out : Nat → Option V) (hn : n ≤ 1000000) (hD : H1 D = none) (hG : ∀ H, Same H1 H → G H)
    (turn : ∀ i x H H' (Kt : V → Hp → Prop) (Kf : Hp → Prop), i < n → Same H1 H → Y i H x H' → (∀ y H5, out i = some y → Same H H5 → Kt y H5) → (∀ H5, out i = none → Same H H5 → Kf H5) →
      g x (wipe σ vs) H' fun σ2 H2 => wipe σ2 vs = wipe σ vs ∧ tt σ2 H2 fun b H3 => if b = true then te σ2 H3 Kt else Kf H3)
    (fin : ∀ H, Same H1 H → H D = some (.lst ((List.range n).filterMap out)) → Qd H) :
    ∃ W : Nat → Nat → Hp → Prop, (∃ m, W 0 m (upd H1 D (.lst []))) ∧ ∀ i m H, W i m H →
      (J.stop i H ∧ Qd H) ∨ (J.go i H ∧ ∃ Nx : Hp → Prop, (∀ H', Nx H' → ∃ m', m' < m ∧ W (i + 1) m' H') ∧ ∀ x H', J.yld i H x H' → g x (wipe σ vs) H' fun σ2 H2 => wipe σ2 vs = wipe σ vs ∧ tt σ2 H2 fun b H3 =>
        if b = true then te σ2 H3 fun y H4 => ∃ acc, H4 D = some (.lst acc) ∧ acc.length < sizeLine ∧ Nx (upd H4 D (.lst (acc ++ [y]))) else Nx H3) := by
  refine lc_it w (fun i H => Same H1 H ∧ H D = some (.lst ((List.range i).filterMap out))) ⟨same_new hD, upd_same⟩ (fun i H _ p => hG H p.1) ?_ (fun H p => fin H p.1 p.2)
  rintro i x H H' hi ⟨s, hL⟩ y
  refine turn i x H H' _ _ hi s y (fun y H5 ho s5 => ?_) (fun H5 ho s5 => ?_)
  · refine ⟨_, s5 _ _ hL, ?_, same_upd hD (s.trans s5), ?_⟩
    · have := fm_len out i
      rw [sizeLine_eq]
      omega
    · rw [upd_same, range_more, ho]
      rfl
  · refine ⟨s.trans s5, ?_⟩
    rw [range_more, ho]
    simpa using s5 _ _ hL
theorem fm_get {β : Type} {xs : List α} {f : α → Option β} : (List.range xs.length).filterMap (fun i => (xs[i]?).bind f) = xs.filterMap f := by
  induction xs with
  | nil => rfl
  | cons x xs ih =>
    rw [List.length_cons, List.range_succ_eq_map, List.filterMap_cons, List.filterMap_map, List.filterMap_cons, ← ih]
    rfl
/-- the same over a list of things that e tells -/
theorem lc_each {e : α → V} {xs : List α} (f : α → Option V) (hn : xs.length ≤ 1000000) (hD : H1 D = none) (hs : SqL K H1 a (xs.map e))
    (turn : ∀ x H (Kt : V → Hp → Prop) (Kf : Hp → Prop), x ∈ xs → Same H1 H → (∀ y H5, f x = some y → Same H H5 → Kt y H5) → (∀ H5, f x = none → Same H H5 → Kf H5) →
      g (e x) (wipe σ vs) H fun σ2 H2 => wipe σ2 vs = wipe σ vs ∧ tt σ2 H2 fun b H3 => if b = true then te σ2 H3 Kt else Kf H3)
    (fin : ∀ H, Same H1 H → H D = some (.lst (xs.filterMap f)) → Qd H) :
    ∃ W : Nat → Nat → Hp → Prop, (∃ m, W 0 m (upd H1 D (.lst []))) ∧ ∀ i m H, W i m H →
      ((Itl K a).stop i H ∧ Qd H) ∨ ((Itl K a).go i H ∧ ∃ Nx : Hp → Prop, (∀ H', Nx H' → ∃ m', m' < m ∧ W (i + 1) m' H') ∧ ∀ x H', (Itl K a).yld i H x H' → g x (wipe σ vs) H' fun σ2 H2 => wipe σ2 vs = wipe σ vs ∧ tt σ2 H2 fun b H3 =>
        if b = true then te σ2 H3 fun y H4 => ∃ acc, H4 D = some (.lst acc) ∧ acc.length < sizeLine ∧ Nx (upd H4 D (.lst (acc ++ [y]))) else Nx H3) := by
  refine lc_turns (walk_list (xs := xs.map e)) (fun i => (xs[i]?).bind f) (by rw [List.length_map]; exact hn) hD (fun H s => s.seq hs) ?_ (fun H s q => fin H s ?_)
  · rintro i v H H' Kt Kf hi s ⟨rfl, hv⟩ kt kf
    rw [List.length_map] at hi
    rw [List.getElem?_map, List.getElem?_eq_getElem hi] at hv
    have hv : e xs[i] = v := Option.some.inj hv
    subst hv
    have ex : xs[i]? = some xs[i] := List.getElem?_eq_getElem hi
    refine turn xs[i] H' Kt Kf (List.getElem_mem hi) s (fun y H5 ho => kt y H5 ?_) (fun H5 ho => kf H5 ?_)
    · show (xs[i]?).bind f = some y
      rw [ex]; exact ho
    · show (xs[i]?).bind f = none
      rw [ex]; exact ho
  · rw [q, List.length_map, fm_get]
/-- a for over a list of things that e tells: Pv by the part gone through -/
theorem for_each {tb : TS} {Ds : Ends} {H : Hp} {e : α → V} {xs : List α} (Pv : List α → L2.St → Hp → Prop) (h0 : Pv [] σ H) (hl : ∀ pre σ H, Pv pre σ H → SqL K H a (xs.map e))
    (hs : ∀ pre x post σ H, xs = pre ++ x :: post → Pv pre σ H → g (e x) σ H fun σ2 H2 => tb { Ds with nx := Pv (pre ++ [x]), ct := Pv (pre ++ [x]), bk := Ds.nx } σ2 H2) (hd : ∀ σ H, Pv xs σ H → Ds.nx σ H) :
    ∃ W : Nat → Nat → L2.St → Hp → Prop, (∃ m, W 0 m σ H) ∧ ∀ i m σ H, W i m σ H →
      ((Itl K a).stop i H ∧ Ds.nx σ H) ∨ ((Itl K a).go i H ∧ ∃ N : L2.St → Hp → Prop, (∀ σ' H', N σ' H' → ∃ m', m' < m ∧ W (i + 1) m' σ' H') ∧ ∀ x H', (Itl K a).yld i H x H' → g x σ H' fun σ2 H2 => tb { Ds with nx := N, ct := N, bk := Ds.nx } σ2 H2) := by
  refine for_list (K := K) (a := a) (xs := xs.map e) (fun i σ H => Pv (xs.take i) σ H) h0 (fun i σ H _ p => hl _ _ _ p) ?_ ?_
  · intro i v σ H hv p
    rw [List.getElem?_map] at hv
    cases hx : xs[i]? with
    | none => rw [hx] at hv; cases hv
    | some x =>
      rw [hx] at hv
      have hv : e x = v := Option.some.inj hv
      subst hv
      obtain ⟨hi, hx'⟩ := List.getElem?_eq_some_iff.mp hx
      have e1 : xs = xs.take i ++ x :: xs.drop (i + 1) := by
        conv => lhs; rw [← List.take_append_drop i xs]
        rw [← hx', List.drop_eq_getElem_cons hi]
      have e2 : xs.take (i + 1) = xs.take i ++ [x] := by
        rw [List.take_succ, hx]
        rfl
      rw [e2]
      exact hs _ _ _ _ _ e1 p
  · intro σ H p
    rw [List.length_map, List.take_length] at p
    exact hd _ _ p
end

/-! ### sorted, of data -/
def rSortedD (K : PySem.W.Frag) : List V → Hp → VK → Prop := fun vs H Q => ∃ (a : Addr) (bs : List (V × PyData)), vs = [V.ref a] ∧ SqL K H a (bs.map Prod.fst) ∧ (∀ b ∈ bs, Dp K H b.1 b.2) ∧ PySem.W.AllAlike (bs.map Prod.snd) ∧ PySem.W.Sortable (bs.map Prod.snd) ∧
  (∀ b ∈ bs, b.2.depth ≤ 60) ∧ ∀ p, H p = none → Q (.ref p) (upd H p (.lst ((bs.mergeSort (PySem.W.dataLe false Prod.snd)).map Prod.fst)))
theorem each_vals : ∀ {bs : List (V × PyData)} {us : List Value}, Vals (bs.map Prod.fst) us → PySem.W.EachIs (fun (v : Value) (b : V × PyData) => RelV b.1 v) us bs
  | [], _, .nil => .nil
  | _ :: _, _, .cons r t => .cons r (each_vals t)
theorem vals_each : ∀ {bs : List (V × PyData)} {us : List Value}, PySem.W.EachIs (fun (v : Value) (b : V × PyData) => RelV b.1 v) us bs → Vals (bs.map Prod.fst) us
  | _, _, .nil => .nil
  | _, _, .cons r t => .cons r (vals_each t)
theorem each_reads {X : Cx} {pins : List (Addr × Obj)} {σ : L2.St} {H : Hp} {s : Shared} (I : Inv X pins σ H s) : ∀ {bs : List (V × PyData)} {us : List Value}, Vals (bs.map Prod.fst) us → (∀ b ∈ bs, Dp X.K H b.1 b.2) → PySem.W.EachIs (fun (v : Value) (b : V × PyData) => ∃ as, Reads s.heap v b.2 as) us bs
  | [], _, .nil, _ => .nil
  | b :: _, _, .cons r t, h => .cons (Dp.reads I b.2 b.1 _ (h b (List.mem_cons_self ..)) r) (each_reads I t fun c hc => h c (List.mem_cons_of_mem _ hc))
theorem cr_sortedD {X : Cx} {k : Nat} (hr : Room k X.A) : CallR X (.builtin "sorted") (rSortedD X.K) := by
  intro pins s σ H vs us Q I r h
  obtain ⟨a, bs, rfl, hs, hd, hal, hso, hdep, q⟩ := h
  obtain ⟨its, rv, hl, hz⟩ := I.list hs
  obtain ⟨u, rfl, ru⟩ := Vals.one r
  obtain rfl : u = Value.ref a := ru
  have hz' : bs.length ≤ sizeLine := by simpa using hz
  refine PySem.W.sorted_data (R := fun (v : Value) (b : V × PyData) => RelV b.1 v) (enc := Prod.snd) hl.isList (each_vals rv) (each_reads I rv hd) hal hso hz' (fun b hb => ?_) fun out ho eo => ?_
  · have h1 := hdep b hb
    have h2 := hr.units
    omega
  · obtain ⟨n, hn⟩ := sortedAll_at s.heap its (List.toArray out)
    have hp : s.heap.objs.size ≤ s.heap.objs.size + 1 := Nat.le_succ _
    refine ⟨.ref (s.heap.objs.size + 1), upd H (s.heap.objs.size + 1) (.lst ((bs.mergeSort (PySem.W.dataLe false Prod.snd)).map Prod.fst)), I.laid (t' := s.toks) (fun b o e => sortedAll_old e) hp ⟨?_, out, n, vals_each eo, hn⟩, rfl, q _ (I.hok.fresh hp)⟩
    rw [List.length_map, (List.mergeSort_perm _ _).length_eq]
    exact hz'
end My
namespace My
open PySem PySem.Spec PyProof.Rows L2
/-! ### a def, a method, as one hypothesis -/
structure OkF (P : Program) (w : World) (K : PySem.W.Frag) (mg : Str → Option Value) (base : Heap) (CX : CXT) (k : Nat) (x : Str) (ps : List Str) (sp : Sp) : Prop where
  ex : ∃ (f : Addr) (fd : FuncData), mg x = some (.ref f) ∧ PySem.W.keepIn K (.ref f) = true ∧ Binds K fd ps [] ∧ FnOk P w K mg base CX k f fd ps sp
structure OkM (P : Program) (w : World) (K : PySem.W.Frag) (mg : Str → Option Value) (base : Heap) (C : Addr) (CX : CXT) (k : Nat) (x : Str) (ps : List Str) (sp : Sp) : Prop where
  ex : ∃ (f : Addr) (fd : FuncData), Meth K C x f ∧ Binds K fd ps [] ∧ FnOk P w K mg base CX k f fd ps sp
structure OkI (P : Program) (w : World) (K : PySem.W.Frag) (mg : Str → Option Value) (base : Heap) (C : Addr) (CX : CXT) (k : Nat) (x : Str) (ps : List Str) (sp : Sp) : Prop where
  ex : ∃ (f : Addr) (fd : FuncData), mg x = some (.ref C) ∧ Mk K C f ∧ Binds K fd ps [] ∧ FnOk P w K mg base CX k f fd ps sp
section
variable {X : Cx} {CX : CXT} {k j : Nat} {C : Addr} {x m : Str} {ps : List Str} {sp : Sp} {E : XK} {e o : Expr} {es : List Expr} {t : TA} {ta : TE} {p pos apos : Pos}
theorem pc (c : OkF X.prog X.w X.K X.mg X.base CX k x ps sp) (hr : Room j X.A) (hk : k ≤ j) (hx : Passes CX X E) (ha : PA X (e :: es) t) (hg : Gl X x := by rfl) (hdb : (x == ("__debug__" : Str)) = false := by decide)
    (he : starEach (e :: es) X.env = (false, eval e X.env) :: starEach es X.env := by rfl) (hpl : (backTo pos (starEach es X.env)).any (·.1) = false := by rfl) : PE X (.Call (.Name x p) (e :: es) [] pos) (tCall sp [] E t) := by
  obtain ⟨f, fd, h1, h2, h3, h4⟩ := c.ex
  exact pe_call h4 (hr.mono hk) hg h1 h2 h3 .nil hx ha hdb he hpl
theorem pcS {E : L2.St → XK} (c : OkF X.prog X.w X.K X.mg X.base CX k x ps sp) (hr : Room j X.A) (hk : k ≤ j) (hx : ∀ σ, PassesAt CX X σ (E σ)) (ha : PA X (e :: es) t) (hg : Gl X x := by rfl) (hdb : (x == ("__debug__" : Str)) = false := by decide)
    (he : starEach (e :: es) X.env = (false, eval e X.env) :: starEach es X.env := by rfl) (hpl : (backTo pos (starEach es X.env)).any (·.1) = false := by rfl) : PE X (.Call (.Name x p) (e :: es) [] pos) (tCallS sp E t) := by
  obtain ⟨f, fd, h1, h2, h3, h4⟩ := c.ex
  exact pe_callS h4 (hr.mono hk) hg h1 h2 h3 hx ha hdb he hpl
theorem pm {pl : Sem Bool} (he : PE X o ta) (cl : Cls X.K C) (c : OkM X.prog X.w X.K X.mg X.base C CX k m ps sp) (hr : Room j X.A) (hk : k ≤ j) (hx : Passes CX X E) (ha : PA X (e :: es) t)
    (hst : starEach (e :: es) X.env = (false, eval e X.env) :: starEach es X.env := by rfl) (hpl : (backTo pos (starEach es X.env)).any (·.1) = false := by rfl)
    (ht : eval (.Call (.Attribute o m apos) (e :: es) [] pos) X.env = (do
      let ov ← eval o X.env
      standAt apos.atName
      let (f, first) ← holding [ov] (getMethod ov m pl)
      callWith pos f first (backTo pos (starEach (e :: es) X.env)) (backToKw pos (keywordEach [] X.env))) := by rfl) :
    PE X (.Call (.Attribute o m apos) (e :: es) [] pos) (tMeth C m sp [] E ta t) := by
  obtain ⟨f, fd, h1, h3, h4⟩ := c.ex
  exact pe_meth he cl h1 h4 (hr.mono hk) h3 .nil hx ha hst hpl ht
theorem pm0 {pl : Sem Bool} (he : PE X o ta) (cl : Cls X.K C) (c : OkM X.prog X.w X.K X.mg X.base C CX k m ps sp) (hr : Room j X.A) (hk : k ≤ j) (hx : Passes CX X E)
    (ht : eval (.Call (.Attribute o m apos) [] [] pos) X.env = (do
      let ov ← eval o X.env
      standAt apos.atName
      let (f, first) ← holding [ov] (getMethod ov m pl)
      callWith pos f first (backTo pos (starEach [] X.env)) (backToKw pos (keywordEach [] X.env))) := by rfl) :
    PE X (.Call (.Attribute o m apos) [] [] pos) (tMeth C m sp [] E ta tNil) := by
  obtain ⟨f, fd, h1, h3, h4⟩ := c.ex
  exact pe_meth0 he cl h1 h4 (hr.mono hk) h3 .nil hx ht
theorem pk (c : OkI X.prog X.w X.K X.mg X.base C CX k x ps sp) (hr : Room j X.A) (hk : k + 1 ≤ j) (hx : Passes CX X E) (ha : PA X (e :: es) t) (hg : Gl X x := by rfl) (hdb : (x == ("__debug__" : Str)) = false := by decide)
    (he : starEach (e :: es) X.env = (false, eval e X.env) :: starEach es X.env := by rfl) (hpl : (backTo pos (starEach es X.env)).any (·.1) = false := by rfl) : PE X (.Call (.Name x p) (e :: es) [] pos) (tMake C sp [] E t) := by
  obtain ⟨f, fd, h1, h2, h3, h4⟩ := c.ex
  exact pe_make h2 h4 (hr.mono hk) hg h1 h3 .nil hx ha hdb he hpl
theorem pk0 (c : OkI X.prog X.w X.K X.mg X.base C CX k x ps sp) (hr : Room j X.A) (hk : k + 1 ≤ j) (hx : Passes CX X E) (hg : Gl X x := by rfl) (hdb : (x == ("__debug__" : Str)) = false := by decide) : PE X (.Call (.Name x p) [] [] pos) (tMake C sp [] E tNil) := by
  obtain ⟨f, fd, h1, h2, h3, h4⟩ := c.ex
  exact pe_make0 h2 h4 (hr.mono hk) hg h1 h3 .nil hx hdb
/-- a constant of the module -/
theorem pgc {v : V} (h : ∃ u, X.mg x = some u ∧ RelV v u) (hg : Gl X x := by rfl) (hd : (x == ("__debug__" : Str)) = false := by decide) : PE X (.Name x pos) (tC v) := by
  obtain ⟨u, h1, h2⟩ := h
  exact pe_glob hg h1 h2 hd
end

/-! ### what the top has written -/
structure Txt (K : PySem.W.Frag) (mg : Str → Option Value) (R fR CN CH : Addr) : Prop where
  low : PySem.LowX.LowTxt K mg R fR
  gWRONG : ∃ u, mg "WRONG" = some u ∧ RelV (.int (-1)) u
  gNOT_TOLD : ∃ u, mg "NOT_TOLD" = some u ∧ RelV (.int (-3)) u
  gNOT_SO : ∃ u, mg "NOT_SO" = some u ∧ RelV (.int (-4)) u
  gTOO_FULL : ∃ u, mg "TOO_FULL" = some u ∧ RelV (.int (-5)) u
  gMOST_PLACES : ∃ u, mg "MOST_PLACES" = some u ∧ RelV (.int 9) u
  gMOST_TRANSITIONS : ∃ u, mg "MOST_TRANSITIONS" = some u ∧ RelV (.int 10) u
  gMOST_TOKENS : ∃ u, mg "MOST_TOKENS" = some u ∧ RelV (.int 1000) u
  gBEGIN : ∃ u, mg "BEGIN" = some u ∧ RelV (.int 1) u
  gBELONG : ∃ a : Addr, mg "BELONG" = some (.ref a) ∧ ∀ H : Hp, SqT K H a ([1, 0, 0, 0, 0, 0, 0, 0, 0, 0].map nv)
  gROWS : ∃ a : Addr, mg "ROWS" = some (.ref a) ∧ ∀ H : Hp, SqT K H a ([2, 1, 1, 0, 0, 1, 0, 0, 0, 0].map nv)
  zall : mg "all" = none
  zany : mg "any" = none
  zlen : mg "len" = none
  zrange : mg "range" = none
  zsorted : mg "sorted" = none
  zenumerate : mg "enumerate" = none
  zlist : mg "list" = none
  zint : mg "int" = none
  clN : Cls K CN
  nN : NoAttr K CN "n"
  nT : NoAttr K CN "transitions"
  clH : Cls K CH
  nE : NoAttr K CH "net"
  nM : NoAttr K CH "marking"

/-! ### all but one -/
def hid (q : Addr) (H : Hp) : Hp := fun b => if b = q then none else H b
theorem hid_ne {q b : Addr} {H : Hp} (h : b ≠ q) : hid q H b = H b := if_neg h
theorem hid_upd {q : Addr} {H : Hp} {o : HO} : hid q (upd H q o) = hid q H := by
  funext b
  unfold hid upd
  by_cases h : b = q
  · rw [if_pos h, if_pos h]
  · rw [if_neg h, if_neg h, if_neg h]
theorem same_hid {q : Addr} {H H' : Hp} (s : Same H H') : Same (hid q H) (hid q H') := fun b o e => by
  by_cases h : b = q
  · rw [h] at e
    unfold hid at e
    rw [if_pos rfl] at e
    cases e
  · rw [hid_ne h] at e ⊢
    exact s b o e
theorem hid_same {q : Addr} {H : Hp} : Same (hid q H) H := fun b o e => by
  by_cases h : b = q
  · rw [h] at e
    unfold hid at e
    rw [if_pos rfl] at e
    cases e
  · rw [hid_ne h] at e
    exact e
theorem at_hid {q b : Addr} {H : Hp} {o : HO} (e : H b = some o) (h : b ≠ q) : hid q H b = some o := (hid_ne h).trans e


/-- what stands in H' and did not in H -/
def nw (H H' : Hp) : Hp := fun b => if (H b).isNone = true then H' b else none
theorem at_nw {H H' : Hp} {b : Addr} {o : HO} (e : H' b = some o) (n : H b = none) : nw H H' b = some o := by
  unfold nw
  rw [n]
  exact e
theorem nw_same {H H' : Hp} : Same (nw H H') H' := fun b o e => by
  unfold nw at e
  split at e
  · exact e
  · cases e
theorem nw_none {H H' : Hp} {b : Addr} {o : HO} (e : nw H H' b = some o) : H b = none := by
  unfold nw at e
  split at e
  · rename_i h
    exact Option.isNone_iff_eq_none.mp h
  · cases e
theorem nw_mono {H H1 H2 : Hp} (s : Same H1 H2) : Same (nw H H1) (nw H H2) := fun b o e => at_nw (s _ _ (nw_same _ _ e)) (nw_none e)
/-- what is new leaves out what stood -/
theorem nw_hid {H H' : Hp} {z : Addr} {o : HO} (e : H z = some o) : Same (nw H H') (hid z H') := fun b u q => at_hid (nw_same _ _ q) fun k => by
  have n := nw_none q
  rw [k, e] at n
  cases n
theorem hid_free {H : Hp} {z b : Addr} {o : HO} (h : H b = none) (e : H z = some o) : b ≠ z := fun k => by rw [k, e] at h; cases h

theorem hid_nw_upd {q : Addr} {H H' : Hp} {o : HO} : hid q (nw H (upd H' q o)) = hid q (nw H H') := by
  funext b
  unfold hid nw upd
  by_cases h : b = q
  · rw [if_pos h, if_pos h]
  · rw [if_neg h, if_neg h, if_neg h]
theorem hid_nw_upd2 {p q : Addr} {H H' : Hp} {o : HO} : hid p (hid q (nw H (upd H' p o))) = hid p (hid q (nw H H')) := by
  funext d
  by_cases h1 : d = p
  · subst h1
    unfold hid
    rw [if_pos rfl, if_pos rfl]
  · rw [hid_ne h1, hid_ne h1]
    unfold hid nw
    rw [upd_ne h1]
/-- the house behind a call -/
structure Next (CH CN a : Addr) (H : Hp) (h : Sq62.House) (H' : Hp) (h' : Sq62.House) : Prop where
  but : But a H H'
  at_ : HouseAt CH CN H' a h'
  fr : ∀ z o, H z = some o → HouseAt CH CN (hid z H) a h → HouseAt CH CN (hid z H') a h'
theorem Next.same {CH CN a : Addr} {H H' : Hp} {h : Sq62.House} (hh : HouseAt CH CN H a h) (s : Same H H') : Next CH CN a H h H' h := ⟨Same.but s, hh.same s, fun _ _ _ q => q.same (same_hid s)⟩
theorem Next.more {CH CN a : Addr} {H H1 H2 : Hp} {h h' : Sq62.House} (n : Next CH CN a H h H1 h') (s : Same H1 H2) : Next CH CN a H h H2 h' := ⟨n.but.same s, n.at_.same s, fun z o e q => (n.fr z o e q).same (same_hid s)⟩
theorem HouseAt.ins {CH CN a : Addr} {H : Hp} {h : Sq62.House} (q : HouseAt CH CN H a h) : ∃ C dx fs, H a = some (.ins C dx fs) := let ⟨_, dx, x, y, e, _⟩ := q; ⟨CH, dx, houF x y, e⟩
theorem Next.free {CH CN a r : Addr} {H H' : Hp} {h h' : Sq62.House} (n : Next CH CN a H h H' h') (e : H' r = none) : H r = none := by
  cases q : H r with
  | none => rfl
  | some o =>
    by_cases c : r = a
    · obtain ⟨_, _, _, z⟩ := n.at_.ins
      rw [c, z] at e
      cases e
    · rw [n.but r o q c] at e
      cases e
theorem Next.after {CH CN a : Addr} {H H1 H2 : Hp} {h h' : Sq62.House} (s : Same H H1) (n : Next CH CN a H1 h H2 h') : Next CH CN a H h H2 h' := ⟨But.trans (Same.but s) n.but, n.at_, fun z o e q => n.fr z o (s _ _ e) (q.same (same_hid s))⟩

/-- the forms that a call has -/
inductive CallIs : Int → List Int → List (List Int) → Sq62.Call → Prop
  | begin_ (n : Nat) (r s : List Int) (hr : r.length ≤ 1024 ∧ ∀ x ∈ r, 0 ≤ x) (hs : s.length ≤ 1024 ∧ ∀ x ∈ s, 0 ≤ x) : CallIs 1 [(n : Int)] [r, s] (.begin_ n (r.map Int.toNat) (s.map Int.toNat))
  | set (r : List Int) (hr : r.length ≤ 1024 ∧ ∀ x ∈ r, 0 ≤ x) : CallIs 2 [] [r] (.set (r.map Int.toNat))
  | fire (r : List Int) (hr : r.length ≤ 1024 ∧ ∀ x ∈ r, 0 ≤ x) : CallIs 3 [] [r] (.fire (r.map Int.toNat))
  | siphons : CallIs 4 [] [] .siphons
  | traps : CallIs 5 [] [] .traps
  | inside (r : List Int) (hr : r.length ≤ 1024 ∧ ∀ x ∈ r, 0 ≤ x) : CallIs 6 [] [r] (.inside (r.map Int.toNat))
  | empty : CallIs 7 [] [] .empty
  | held : CallIs 8 [] [] .held
  | free : CallIs 9 [] [] .free
  | live : CallIs 10 [] [] .live

/-! ### the promises -/
section
variable (R CN CH : Addr) (K : PySem.W.Frag)
def spAsk : Sp := fun vs H Q E => ∃ (b : Bool) (z : Int), vs = [.bl b, .int z] ∧ (b = true → Q .non H) ∧ (b = false → Rf E R H z)
def spRises : Sp := fun vs H Q _ => ∃ (p : Addr) (xs : List Nat), vs = [.ref p] ∧ LI H p xs ∧ xs.length ≤ 20000 ∧ ∀ H', Same H H' → Q (.bl (Sq62.rising xs)) H'
def spArePlaces : Sp := fun vs H Q _ => ∃ (n : Nat) (p : Addr) (xs : List Nat), vs = [nv n, .ref p] ∧ LI H p xs ∧ xs.length ≤ 20000 ∧ ∀ H', Same H H' → Q (.bl (Sq62.rising xs && xs.all fun p => decide (p < n))) H'
def spCounted : Sp := fun vs H Q _ => ∃ (p : Addr) (xs : List Nat), vs = [.ref p] ∧ LI H p xs ∧ xs.length ≤ 20000 ∧ ∀ H' q, H q = none → Same H H' → LI H' q (xs.length :: xs) → Q (.ref q) H'
def spPlacesAt : Sp := fun vs H Q E => ∃ (n : Nat) (p : Addr) (l : List Nat) (i : Nat), vs = [nv n, .ref p, nv i] ∧ LI H p l ∧ l.length ≤ 20000 ∧ i ≤ l.length ∧ (Sq62.placesOf n (l.drop i) = none → Rf E R H (-3)) ∧
  ∀ pl j, Sq62.placesOf n (l.drop i) = some (pl, l.drop j) → i < j → j ≤ l.length → PlacesOk n pl → ∀ H' t q, Same H H' → H q = none → H t = none → H' t = some (.tup [.ref q, nv j]) → LI H' q pl → Q (.ref t) H'
def spReadTransitions : Sp := fun vs H Q E => ∃ (n : Nat) (p : Addr) (l : List Nat), vs = [nv n, .ref p] ∧ LI H p l ∧ l.length ≤ 20000 ∧ (Sq62.transitions n l.length l = none → Rf E R H (-3)) ∧
  ∀ ts, Sq62.transitions n l.length l = some ts → (∀ t ∈ ts, PlacesOk n t.takes ∧ PlacesOk n t.puts) → ts.length ≤ 20000 → ∀ H' q, Same H H' → TrsAt (nw H H') q ts → Q (.ref q) H'
def spNetInit : Sp := fun vs H Q _ => ∃ (a dx : Addr) (n : Nat) (q : Addr), vs = [.ref a, nv n, .ref q] ∧ H a = some (.ins CN dx []) ∧ ∀ H', H' a = some (.ins CN dx (netF n q)) → But a H H' → Q .non H'
def spIsUsed : Sp := fun vs H Q _ => ∃ (a : Addr) (g : Sq62.Net) (p : Nat), vs = [.ref a, nv p] ∧ NetAt CN H a g ∧ ∀ H', Same H H' → Q (.bl (g.ts.any fun t => t.takes.contains p || t.puts.contains p)) H'
def spAskGood : Sp := fun vs H Q E => ∃ (a : Addr) (g : Sq62.Net), vs = [.ref a] ∧ NetAt CN H a g ∧ (Sq62.used g.n g.ts = true → ∀ H', Same H H' → Q .non H') ∧ (Sq62.used g.n g.ts = false → Rf E R H (-4))
def spPairNotFree : Sp := fun vs H Q _ => ∃ (a : Addr) (g : Sq62.Net), vs = [.ref a] ∧ NetAt CN H a g ∧ (g.unfree = none → ∀ H', Same H H' → Q .non H') ∧ (∀ i j, g.unfree = some (i, j) → ∀ H' q, Same H H' → LI H' q [i, j] → Q (.ref q) H')
def spMeet : Sp := fun vs H Q _ => ∃ (p q : Addr) (xs ys : List Nat), vs = [.ref p, .ref q] ∧ LI H p xs ∧ LI H q ys ∧ xs.length ≤ 20000 ∧ ∀ H', Same H H' → Q (.bl (Sq62.meets xs ys)) H'
def spAskFew : Sp := fun vs H Q E => ∃ (p : Addr) (ts : List Sq62.Transition), vs = [.ref p] ∧ TrsAt H p ts ∧ (ts.length ≤ 10 → ∀ H', Same H H' → Q .non H') ∧ (10 < ts.length → Rf E R H (-1))
def spAskPlaces : Sp := fun vs H Q E => ∃ (n : Nat), vs = [nv n] ∧ (1 ≤ n ∧ n ≤ 9 → ∀ H', Same H H' → Q .non H') ∧ (n = 0 ∨ 9 < n → Rf E R H (-1))
def spIsSiphon : Sp := fun vs H Q _ => ∃ (a p : Addr) (g : Sq62.Net) (s : List Nat), vs = [.ref a, .ref p] ∧ NetAt CN H a g ∧ LI H p s ∧ s.length ≤ 20000 ∧ ∀ H', Same H H' → Q (.bl (g.siphon s)) H'
def spIsTrap : Sp := fun vs H Q _ => ∃ (a p : Addr) (g : Sq62.Net) (s : List Nat), vs = [.ref a, .ref p] ∧ NetAt CN H a g ∧ LI H p s ∧ s.length ≤ 20000 ∧ ∀ H', Same H H' → Q (.bl (g.trap s)) H'
def spEmptiedBy : Sp := fun vs H Q _ => ∃ (a p : Addr) (g : Sq62.Net) (s : List Nat), vs = [.ref a, .ref p] ∧ NetAt CN H a g ∧ LI H p s ∧ s.length ≤ 20000 ∧ ∀ H' q, Same H H' → LI H' q (emptied g s) → Q (.ref q) H'
def spDrainedBy : Sp := fun vs H Q _ => ∃ (a p : Addr) (g : Sq62.Net) (s : List Nat), vs = [.ref a, .ref p] ∧ NetAt CN H a g ∧ LI H p s ∧ s.length ≤ 20000 ∧ ∀ H' q, Same H H' → LI H' q (drained g s) → Q (.ref q) H'
def spGreatestSiphon : Sp := fun vs H Q _ => ∃ (a p : Addr) (g : Sq62.Net) (s : List Nat), vs = [.ref a, .ref p] ∧ NetAt CN H a g ∧ LI H p s ∧ s.length ≤ g.n ∧ ∀ H' q, Same H H' → LI H' q (g.greatestSiphon g.n s) → Q (.ref q) H'
def spGreatestTrap : Sp := fun vs H Q _ => ∃ (a p : Addr) (g : Sq62.Net) (s : List Nat), vs = [.ref a, .ref p] ∧ NetAt CN H a g ∧ LI H p s ∧ s.length ≤ g.n ∧ ∀ H' q, Same H H' → LI H' q (g.greatestTrap g.n s) → Q (.ref q) H'
def spAllChoices : Sp := fun vs H Q _ => ∃ (n : Nat), vs = [nv n] ∧ n ≤ 9 ∧ ∀ H' q l, Same H H' → RowsAt H' q l → Choices n l → Q (.ref q) H'
def spIsWithin : Sp := fun vs H Q _ => ∃ (p q : Addr) (xs ys : List Nat), vs = [.ref p, .ref q] ∧ LI H p xs ∧ LI H q ys ∧ xs.length ≤ 20000 ∧ ∀ H', Same H H' → Q (.bl (Sq62.within xs ys)) H'
def spLeastOnes : Sp := fun vs H Q _ => ∃ (p : Addr) (l : List (List Nat)), vs = [.ref p] ∧ RowsAt H p l ∧ l.length ≤ 20000 ∧ (∀ r ∈ l, r.length ≤ 20000) ∧ ∀ H' q out, Same H H' → RowsAt H' q out → out.Perm (l.foldl keep []) → out.Pairwise leP → Q (.ref q) H'
def spLeastSiphons : Sp := fun vs H Q _ => ∃ (a : Addr) (g : Sq62.Net), vs = [.ref a] ∧ NetAt CN H a g ∧ ∀ H' q, Same H H' → RowsAt H' q g.siphons → Q (.ref q) H'
def spLeastTraps : Sp := fun vs H Q _ => ∃ (a : Addr) (g : Sq62.Net), vs = [.ref a] ∧ NetAt CN H a g ∧ ∀ H' q, Same H H' → RowsAt H' q g.traps → Q (.ref q) H'
def spAreFew : Sp := fun vs H Q _ => ∃ (p : Addr) (m : List Nat), vs = [.ref p] ∧ LI H p m ∧ m.length ≤ 20000 ∧ ∀ H', Same H H' → Q (.bl (Sq62.small m)) H'
def spRowsTold : Sp := fun vs H Q _ => ∃ (p : Addr) (l : List (List Nat)), vs = [.ref p] ∧ RowsAt H p l ∧ l.length ≤ 1000 ∧ (∀ r ∈ l, r.length ≤ 1000) ∧ ∀ H' q, H q = none → Same H H' → LI H' q (l.length :: l.flatMap fun s => s.length :: s) → Q (.ref q) H'
def spHouseInit : Sp := fun vs H Q _ => ∃ (a dx : Addr), vs = [.ref a] ∧ H a = some (.ins CH dx []) ∧ ∀ H', HouseAt CH CN H' a Sq62.fresh → But a H H' → Q .non H'
/-- what a call on the house at a gives back, and what it makes of the house -/
def Does (a : Addr) (c : Sq62.Call) (H : Hp) (h : Sq62.House) (Q : VK) (E : XK) : Prop :=
  ((h.step c).2.value < 0 → Rf E R H (h.step c).2.value) ∧ (0 ≤ (h.step c).2.value → ∀ H' q, H q = none → Next CH CN a H h H' (h.step c).1 → LZ H' q ((h.step c).2.value :: (h.step c).2.out) → Q (.ref q) H')
def spBegin : Sp := fun vs H Q E => ∃ (a : Addr) (n : Nat) (p q : Addr) (h : Sq62.House) (l m : List Nat), vs = [.ref a, nv n, .ref p, .ref q] ∧ HouseAt CH CN H a h ∧ LI H p l ∧ LI H q m ∧ l.length ≤ 1024 ∧ m.length ≤ 1024 ∧ Does R CN CH a (.begin_ n l m) H h Q E
def spSetMarking : Sp := fun vs H Q E => ∃ (a p : Addr) (h : Sq62.House) (m : List Nat), vs = [.ref a, .ref p] ∧ HouseAt CH CN H a h ∧ LI H p m ∧ m.length ≤ 1024 ∧ Does R CN CH a (.set m) H h Q E
def spFired : Sp := fun vs H Q E => ∃ (a p : Addr) (i : Nat) (h : Sq62.House) (m : List Nat), vs = [.ref a, .ref p, nv i] ∧ HouseAt CH CN H a h ∧ LI H p m ∧ m.length = h.g.n ∧ (h.g.ts[i]? = none → Rf E R H (-3)) ∧
  (∀ t, h.g.ts[i]? = some t → Sq62.may t m = false → Rf E R H (-3)) ∧ ∀ t, h.g.ts[i]? = some t → Sq62.may t m = true → ∀ H' q, Same H H' → H q = none ∧ LI H' q (Sq62.fired t m) → Q (.ref q) H'
def spFire : Sp := fun vs H Q E => ∃ (a p : Addr) (h : Sq62.House) (l : List Nat), vs = [.ref a, .ref p] ∧ HouseAt CH CN H a h ∧ LI H p l ∧ l.length ≤ 1024 ∧ Does R CN CH a (.fire l) H h Q E
def spM (c : Sq62.Call) : Sp := fun vs H Q E => ∃ (a : Addr) (h : Sq62.House), vs = [.ref a] ∧ HouseAt CH CN H a h ∧ Does R CN CH a c H h Q E
def spInside : Sp := fun vs H Q E => ∃ (a p : Addr) (h : Sq62.House) (s : List Nat), vs = [.ref a, .ref p] ∧ HouseAt CH CN H a h ∧ LI H p s ∧ s.length ≤ 1024 ∧ Does R CN CH a (.inside s) H h Q E
def spIsHeld : Sp := fun vs H Q _ => ∃ (a p : Addr) (h : Sq62.House) (s : List Nat), vs = [.ref a, .ref p] ∧ HouseAt CH CN H a h ∧ LI H p s ∧ PlacesOk h.g.n s ∧ ∀ H', Same H H' → Q (.bl (h.g.held h.m s)) H'
def spReadCalls : Sp := fun vs H Q _ => ∃ (p : Addr) (ns : List Int) (cs : List (List (List Int))), vs = [.ref p] ∧ SqL K H p (ns.map V.int) ∧ ns.length ≤ 16000 ∧ PyFlat.calls PySq62.shape ns.length ns = some cs ∧ ∀ H' q, Same H H' → CallsAt (nw H H') q cs → Q (.ref q) H'
/-- a call as told: its number, what belongs to it, its rows -/
def spTold : Sp := fun vs H Q E => ∃ (a : Addr) (p : Int) (pn pr : Addr) (h : Sq62.House) (nums : List Int) (rows : List (List Int)) (c : Sq62.Call), vs = [.ref a, .int p, .ref pn, .ref pr] ∧ HouseAt CH CN H a h ∧ LZ H pn nums ∧ RowsZ H pr rows ∧
  CallIs p nums rows c ∧ Does R CN CH a c H h Q E
def spToldRows : Sp := fun vs H Q E => ∃ (a : Addr) (p : Int) (pn pr : Addr) (h : Sq62.House) (nums : List Int) (rows : List (List Int)) (c : Sq62.Call), vs = [.ref a, .int p, .ref pn, .ref pr] ∧ HouseAt CH CN H a h ∧ LZ H pn nums ∧ RowsZ H pr rows ∧ rows ≠ [] ∧
  CallIs p nums rows c ∧ Does R CN CH a c H h Q E
def spAnswered : Sp := fun vs H Q _ => ∃ (a : Addr) (p : Int) (pn pr : Addr) (h : Sq62.House) (nums : List Int) (rows : List (List Int)) (c : Sq62.Call), vs = [.ref a, .int p, .ref pn, .ref pr] ∧ HouseAt CH CN H a h ∧ LZ H pn nums ∧ RowsZ H pr rows ∧
  CallIs p nums rows c ∧ ∀ H' q, H q = none → Next CH CN a H h H' (h.step c).1 → LZ H' q ((h.step c).2.value :: (h.step c).2.out) → Q (.ref q) H'
def spAnswers : Sp := fun vs H Q _ => ∃ (p : Addr) (ns : List Int), vs = [.ref p] ∧ SqL K H p (ns.map V.int) ∧ ns.length ≤ 16000 ∧ PySq62.answers_asked ns = true ∧ ∀ H' q, LZ H' q (PySq62.answers ns) → Q (.ref q) H'
end
end My
namespace My
open PySem PySem.Spec PyProof.Rows L2
/-! ### the defs by their places -/
abbrev s_ask : Stmt := top 6
abbrev s_rises : Stmt := top 10
abbrev s_are_places : Stmt := top 11
abbrev s_counted : Stmt := top 12
abbrev s_places_at : Stmt := top 13
abbrev s_read_transitions : Stmt := top 14
abbrev s_Net_init : Stmt := inClass (top 15) 0
abbrev s_Net_is_used : Stmt := inClass (top 15) 1
abbrev s_Net_ask_good : Stmt := inClass (top 15) 2
abbrev s_Net_pair_not_free : Stmt := inClass (top 15) 3
abbrev s_meet : Stmt := top 16
abbrev s_ask_few : Stmt := top 17
abbrev s_ask_places : Stmt := top 18
abbrev s_is_siphon : Stmt := top 20
abbrev s_is_trap : Stmt := top 21
abbrev s_emptied_by : Stmt := top 22
abbrev s_drained_by : Stmt := top 23
abbrev s_greatest_siphon : Stmt := top 24
abbrev s_greatest_trap : Stmt := top 25
abbrev s_all_choices : Stmt := top 26
abbrev s_is_within : Stmt := top 27
abbrev s_least_ones : Stmt := top 28
abbrev s_least_siphons : Stmt := top 29
abbrev s_least_traps : Stmt := top 30
abbrev s_are_few : Stmt := top 33
abbrev s_rows_told : Stmt := top 34
abbrev s_House_init : Stmt := inClass (top 35) 0
abbrev s_House_begin : Stmt := inClass (top 35) 1
abbrev s_House_set_marking : Stmt := inClass (top 35) 2
abbrev s_House_fired : Stmt := inClass (top 35) 3
abbrev s_House_fire : Stmt := inClass (top 35) 4
abbrev s_House_siphons : Stmt := inClass (top 35) 5
abbrev s_House_traps : Stmt := inClass (top 35) 6
abbrev s_House_inside : Stmt := inClass (top 35) 7
abbrev s_House_empty : Stmt := inClass (top 35) 8
abbrev s_House_is_held : Stmt := inClass (top 35) 9
abbrev s_House_held : Stmt := inClass (top 35) 10
abbrev s_House_free : Stmt := inClass (top 35) 11
abbrev s_House_live : Stmt := inClass (top 35) 12
abbrev s_read_calls : Stmt := top 40
abbrev s_told_with_rows : Stmt := top 41
abbrev s_told_by : Stmt := top 42
abbrev s_answered : Stmt := top 43
abbrev s_answers : Stmt := top 44


/-! ### rules with the written part named -/
def rLen (K : PySem.W.Frag) : List V → Hp → VK → Prop := fun xs H Q => ∃ p ys, xs = [.ref p] ∧ (SqL K H p ys ∨ SqT K H p ys) ∧ Q (.int ys.length) H
def rListOf (K : PySem.W.Frag) : List V → Hp → VK → Prop := fun xs H Q => ∃ p ys, xs = [.ref p] ∧ (SqL K H p ys ∨ SqT K H p ys) ∧ ∀ l, H l = none → Q (.ref l) (upd H l (.lst ys))
theorem pf {X : Cx} {K : PySem.W.Frag} {e : Expr} {ta : TE} {f : Str} {pos : Pos} (hK : X.K = K) (he : PE X e ta) (hb : attributeBase e f X.env (eval e X.env) = eval e X.env) : PE X (.Attribute e f pos) (tFld K ta f) := by
  subst hK
  exact pe_fld he hb
/-! ### numbers in lists -/
theorem inV_nat (n : Nat) (xs : List Nat) : inV (nv n) (xs.map nv) = xs.contains n := by
  unfold inV
  rw [List.any_map, Bool.eq_iff_iff, List.any_eq_true, List.contains_iff_mem]
  constructor
  · rintro ⟨y, hy, e⟩
    have e : ((y : Int) == (n : Int)) = true := e
    have e := beq_iff_eq.mp e
    have e : y = n := by omega
    rw [← e]
    exact hy
  · intro h
    exact ⟨n, h, beq_self_eq_true (n : Int)⟩
theorem flat_nats (xs : List Nat) : (xs.map nv).all flatV = true := by
  rw [List.all_map]
  exact List.all_eq_true.mpr fun _ _ => rfl
theorem small_line {n : Nat} (h : n ≤ 1000000) : n ≤ sizeLine := by
  rw [sizeLine_eq]
  omega
theorem filterMap_some {α β : Type} (f : α → β) (l : List α) : l.filterMap (fun x => some (f x)) = l.map f := by
  induction l with
  | nil => rfl
  | cons a l ih => simp [ih]
theorem filterMap_if {α β : Type} (c : α → Bool) (f : α → β) (l : List α) : l.filterMap (fun x => if c x = true then some (f x) else none) = (l.filter c).map f := by
  induction l with
  | nil => rfl
  | cons a l ih =>
    by_cases h : c a = true
    · simp [h, ih]
    · simp [h, ih]
theorem LI.seq {K : PySem.W.Frag} {H : Hp} {p : Addr} {xs : List Nat} (h : LI H p xs) : SqL K H p (xs.map nv) := SqL.of h
theorem any_id {α : Type} (f : α → Bool) (l : List α) : (l.map f).any id = l.any f := by rw [List.any_map]; rfl
theorem all_id {α : Type} (f : α → Bool) (l : List α) : (l.map f).all id = l.all f := by rw [List.all_map]; rfl
theorem nv_at {xs : List Nat} {i : Nat} (h : i < xs.length) : (xs.map nv)[i]? = some (nv (xs.getD i 0)) := by
  rw [List.getElem?_map, List.getElem?_eq_getElem h, List.getD_eq_getElem?_getD, List.getElem?_eq_getElem h]
  rfl
theorem dlt (a b : Nat) : decide ((a : Int) < (b : Int)) = decide (a < b) := by
  rw [Bool.eq_iff_iff, decide_eq_true_eq, decide_eq_true_eq]
  omega
theorem dle (a b : Nat) : decide ((a : Int) ≤ (b : Int)) = decide (a ≤ b) := by
  rw [Bool.eq_iff_iff, decide_eq_true_eq, decide_eq_true_eq]
  omega
theorem deq (a b : Nat) : decide (V.int (a : Int) = V.int (b : Int)) = decide (a = b) := by
  rw [Bool.eq_iff_iff, decide_eq_true_eq, decide_eq_true_eq]
  constructor
  · intro e
    have e := V.int.inj e
    omega
  · rintro rfl
    rfl
theorem and_if {a b : Bool} {A : Bool → Prop} (h1 : a = true → A b) (h2 : a = false → A false) : A (a && b) := by
  cases a with
  | true => exact h1 rfl
  | false => exact h2 rfl

/-! ### data -/
def dN (n : Nat) : PyData := .int (n : Int)
def dR (xs : List Nat) : PyData := .list (xs.map dN)
theorem dp_nats {K : PySem.W.Frag} {H : Hp} : ∀ xs : List Nat, DpAll K H (xs.map nv) (xs.map dN)
  | [] => .nil
  | x :: xs => .cons (.int _) (dp_nats xs)
theorem dp_row {K : PySem.W.Frag} {H : Hp} {p : Addr} {xs : List Nat} (h : LI H p xs) : Dp K H (.ref p) (dR xs) := .lst h.seq (dp_nats xs)
theorem depth_nats : ∀ xs : List Nat, PyData.depthAll (xs.map dN) = 0
  | [] => by simp [PyData.depthAll]
  | x :: xs => by
    show PyData.depthAll (.int _ :: xs.map dN) = 0
    rw [PyData.depthAll, depth_nats xs]
    simp [PyData.depth]
theorem depth_row (xs : List Nat) : (dR xs).depth = 1 := by
  unfold dR
  rw [PyData.depth, depth_nats]
theorem lay_nats : ∀ xs : List Nat, PyData.canLayAll0 (xs.map dN) = true
  | [] => by simp [PyData.canLayAll0]
  | x :: xs => by
    show PyData.canLayAll0 (.int _ :: xs.map dN) = true
    rw [PyData.canLayAll0, lay_nats xs]
    simp [PyData.canLay0]
theorem shaped_row (xs : List Nat) : SeqAt.shaped (dR xs) = true := by
  unfold SeqAt.shaped
  rw [depth_row]
  have e : (dR xs).canLay0 = true := by
    unfold dR
    rw [PyData.canLay0]
    exact lay_nats xs
  rw [e]
  rfl
theorem eqv_nats : ∀ xs ys : List Nat, PyData.eqvAll (xs.map dN) (ys.map dN) = decide (xs = ys)
  | [], [] => by simp [PyData.eqvAll]
  | [], y :: ys => by simp [PyData.eqvAll]
  | x :: xs, [] => by simp [PyData.eqvAll]
  | x :: xs, y :: ys => by
    show PyData.eqvAll (dN x :: xs.map dN) (dN y :: ys.map dN) = _
    rw [PyData.eqvAll, eqv_nats xs ys]
    have e : PyData.eqv (dN x) (dN y) = decide (x = y) := by
      unfold dN
      rw [PyData.eqv, Bool.eq_iff_iff, beq_iff_eq, decide_eq_true_eq]
      omega
    rw [e, Bool.eq_iff_iff]
    simp
theorem eqv_row (xs ys : List Nat) : PyData.eqv (dR xs) (dR ys) = decide (xs = ys) := by
  unfold dR
  rw [PyData.eqv, eqv_nats]

/-! ### slices -/
theorem cutV_nat (xs : List V) (a b : Nat) (h1 : a ≤ b) (h2 : b ≤ xs.length) : cutV xs (some (a : Int)) (some (b : Int)) = (xs.drop a).take (b - a) := by
  unfold cutV
  rw [HT.sIx_nat, HT.sIx_nat, Nat.min_eq_left h2, Nat.min_eq_left (Nat.le_trans h1 h2)]

/-! ### nets -/
theorem PlacesOk.len {n : Nat} {s : List Nat} (h : PlacesOk n s) : s.length ≤ n := rising_len h.up h.lt
theorem NetOk.takes9 {g : Sq62.Net} (h : NetOk g) {t : Sq62.Transition} (m : t ∈ g.ts) : t.takes.length ≤ 9 := Nat.le_trans (h.takes t m).len h.n9
theorem NetOk.puts9 {g : Sq62.Net} (h : NetOk g) {t : Sq62.Transition} (m : t ∈ g.ts) : t.puts.length ≤ 9 := Nat.le_trans (h.puts t m).len h.n9
theorem NetOk.mono {g : Sq62.Net} (h : NetOk g) {ts : List Sq62.Transition} (hl : ts.length ≤ 10) (hs : ∀ t ∈ ts, t ∈ g.ts) : NetOk ⟨g.n, ts⟩ := ⟨h.n1, h.n9, hl, fun t m => h.takes t (hs t m), fun t m => h.puts t (hs t m)⟩
theorem flat_len {α : Type} {f : α → List Nat} : ∀ {l : List α}, (∀ x ∈ l, (f x).length ≤ 9) → (l.flatMap f).length ≤ 9 * l.length
  | [], _ => Nat.zero_le _
  | x :: l, h => by
    rw [List.flatMap_cons, List.length_append, List.length_cons]
    have h1 := h x (List.mem_cons_self ..)
    have h2 := flat_len (l := l) fun y hy => h y (List.mem_cons_of_mem _ hy)
    omega
theorem emptied_len {g : Sq62.Net} (h : NetOk g) (s : List Nat) : (emptied g s).length ≤ 90 := by
  unfold emptied
  have h1 := flat_len (f := fun t : Sq62.Transition => t.puts) (l := g.ts.filter fun t => !Sq62.meets t.takes s) fun t m => h.puts9 (List.mem_filter.mp m).1
  have h2 := List.length_filter_le (fun t : Sq62.Transition => !Sq62.meets t.takes s) g.ts
  have h3 := h.ten
  omega
theorem drained_len {g : Sq62.Net} (h : NetOk g) (s : List Nat) : (drained g s).length ≤ 90 := by
  unfold drained
  have h1 := flat_len (f := fun t : Sq62.Transition => t.takes) (l := g.ts.filter fun t => !Sq62.meets t.puts s) fun t m => h.takes9 (List.mem_filter.mp m).1
  have h2 := List.length_filter_le (fun t : Sq62.Transition => !Sq62.meets t.puts s) g.ts
  have h3 := h.ten
  omega
theorem emptied_more (n : Nat) (pre : List Sq62.Transition) (t : Sq62.Transition) (s : List Nat) : emptied ⟨n, pre ++ [t]⟩ s = emptied ⟨n, pre⟩ s ++ (if Sq62.meets t.takes s = true then [] else t.puts) := by
  unfold emptied
  rw [List.filter_append, List.flatMap_append]
  congr 1
  by_cases h : Sq62.meets t.takes s = true
  · simp [h]
  · simp [h]
theorem drained_more (n : Nat) (pre : List Sq62.Transition) (t : Sq62.Transition) (s : List Nat) : drained ⟨n, pre ++ [t]⟩ s = drained ⟨n, pre⟩ s ++ (if Sq62.meets t.puts s = true then [] else t.takes) := by
  unfold drained
  rw [List.filter_append, List.flatMap_append]
  congr 1
  by_cases h : Sq62.meets t.puts s = true
  · simp [h]
  · simp [h]
theorem all_filter {α : Type} (c f : α → Bool) (l : List α) : ((l.filter c).map f).all id = l.all fun x => !c x || f x := by
  induction l with
  | nil => rfl
  | cons a l ih =>
    by_cases h : c a = true
    · rw [List.filter_cons_of_pos h, List.map_cons, List.all_cons, List.all_cons, ih, h]
      rfl
    · have h' : c a = false := by simpa using h
      rw [List.filter_cons_of_neg h, List.all_cons, ih, h']
      rfl

/-! ### transitions -/
theorem placesOf_cons (n x : Nat) (r : List Nat) : Sq62.placesOf n (x :: r) = if r.length < x ∨ Sq62.rising (r.take x) = false ∨ ((r.take x).any fun p => decide (n ≤ p)) = true then none else some (r.take x, r.drop x) := rfl
theorem trans_nil (n f : Nat) : Sq62.transitions n f [] = some [] := by
  cases f <;> rfl
theorem trans_none1 {n f : Nat} {l : List Nat} (hl : l ≠ []) (h : Sq62.placesOf n l = none) : Sq62.transitions n f l = none := by
  cases l with
  | nil => exact absurd rfl hl
  | cons x l =>
    cases f with
    | zero => rfl
    | succ f =>
      show (Sq62.placesOf n (x :: l)).bind _ = none
      rw [h]
      rfl
theorem trans_none2 {n f : Nat} {l r : List Nat} {a : List Nat} (hl : l ≠ []) (h : Sq62.placesOf n l = some (a, r)) (h2 : Sq62.placesOf n r = none) : Sq62.transitions n f l = none := by
  cases l with
  | nil => exact absurd rfl hl
  | cons x l =>
    cases f with
    | zero => rfl
    | succ f =>
      show (Sq62.placesOf n (x :: l)).bind _ = none
      rw [h]
      show (Sq62.placesOf n r).bind _ = none
      rw [h2]
      rfl
theorem trans_some {n f : Nat} {l r r2 : List Nat} {a b : List Nat} (hl : l ≠ []) (h : Sq62.placesOf n l = some (a, r)) (h2 : Sq62.placesOf n r = some (b, r2)) : Sq62.transitions n (f + 1) l = (Sq62.transitions n f r2).map fun z => ⟨a, b⟩ :: z := by
  cases l with
  | nil => exact absurd rfl hl
  | cons x l =>
    show (Sq62.placesOf n (x :: l)).bind _ = _
    rw [h]
    show (Sq62.placesOf n r).bind _ = _
    rw [h2]
    rfl

/-! ### a comprehension that makes objects -/
section
variable {K : PySem.W.Frag} {a D : Addr} {g : TG} {tt : TT} {te : TE} {vs : List Nat} {σ : L2.St} {H1 : Hp} {Qd : Hp → Prop} {α β : Type}
theorem lc_objs {e : α → V} {xs : List α} (RR : Hp → V → β → Prop) (mono : ∀ H H' v b, Same H H' → RR H v b → RR H' v b) (F : α → β) (hn : xs.length ≤ 1000000) (hD : H1 D = none) (hs : SqL K H1 a (xs.map e))
    (turn : ∀ x H (Kt : V → Hp → Prop) (Kf : Hp → Prop), x ∈ xs → Same H1 H → (∃ o, H D = some o) → (∀ y H5, Same H H5 → RR (hid D H5) y (F x) → Kt y H5) →
      g (e x) (wipe σ vs) H fun σ2 H2 => wipe σ2 vs = wipe σ vs ∧ tt σ2 H2 fun b H3 => if b = true then te σ2 H3 Kt else Kf H3)
    (fin : ∀ H (ys : List (V × β)), Same H1 H → H D = some (.lst (ys.map Prod.fst)) → (∀ y ∈ ys, RR H y.1 y.2) → ys.map Prod.snd = xs.map F → Qd H) :
    ∃ W : Nat → Nat → Hp → Prop, (∃ m, W 0 m (upd H1 D (.lst []))) ∧ ∀ i m H, W i m H →
      ((Itl K a).stop i H ∧ Qd H) ∨ ((Itl K a).go i H ∧ ∃ Nx : Hp → Prop, (∀ H', Nx H' → ∃ m', m' < m ∧ W (i + 1) m' H') ∧ ∀ x H', (Itl K a).yld i H x H' → g x (wipe σ vs) H' fun σ2 H2 => wipe σ2 vs = wipe σ vs ∧ tt σ2 H2 fun b H3 =>
        if b = true then te σ2 H3 fun y H4 => ∃ acc, H4 D = some (.lst acc) ∧ acc.length < sizeLine ∧ Nx (upd H4 D (.lst (acc ++ [y]))) else Nx H3) := by
  refine lc_list (K := K) (a := a) (xs := xs.map e) (fun i H => Same H1 H ∧ ∃ ys : List (V × β), H D = some (.lst (ys.map Prod.fst)) ∧ (∀ y ∈ ys, RR (hid D H) y.1 y.2) ∧ ys.map Prod.snd = (xs.take i).map F)
    ⟨same_new hD, [], upd_same, (fun _ h => by cases h), rfl⟩ (fun i H _ p => p.1.seq hs) ?_ ?_
  · rintro i v H hv ⟨s, ys, hL, hr, he⟩
    rw [List.getElem?_map] at hv
    cases hx : xs[i]? with
    | none => rw [hx] at hv; cases hv
    | some x =>
      rw [hx] at hv
      have hv : e x = v := Option.some.inj hv
      subst hv
      obtain ⟨hi, hx'⟩ := List.getElem?_eq_some_iff.mp hx
      have hlen : ys.length = i := by
        have := congrArg List.length he
        rw [List.length_map, List.length_map, List.length_take] at this
        omega
      refine turn x H _ _ (List.mem_of_getElem? hx) s ⟨_, hL⟩ fun y H5 s5 hy => ?_
      refine ⟨_, s5 _ _ hL, ?_, same_upd hD (s.trans s5), ys ++ [(y, F x)], ?_, ?_, ?_⟩
      · rw [List.length_map, sizeLine_eq]
        omega
      · rw [upd_same, List.map_append]
        rfl
      · intro z hz
        rw [hid_upd]
        rcases List.mem_append.mp hz with q | q
        · exact mono _ _ _ _ (same_hid s5) (hr z q)
        · rw [List.mem_singleton] at q
          subst q
          exact hy
      · rw [List.map_append, he, List.take_succ, hx, List.map_append]
        rfl
  · rintro H ⟨s, ys, hL, hr, he⟩
    rw [List.length_map, List.take_length] at he
    exact fin H ys s hL (fun y hy => mono _ _ _ _ hid_same (hr y hy)) he
end

/-! ### sorted rows -/
theorem ints_lt : ∀ xs ys : List Nat, decide (xs.map Int.ofNat < ys.map Int.ofNat) = Sq62.firstOf xs ys
  | [], [] => by simp [Sq62.firstOf]
  | [], y :: ys => by simp [Sq62.firstOf]
  | x :: xs, [] => by simp [Sq62.firstOf]
  | x :: xs, y :: ys => by
    rw [firstOf_cons, ← ints_lt xs ys, Bool.eq_iff_iff, decide_eq_true_eq, List.map_cons, List.map_cons, List.cons_lt_cons_iff]
    simp only [Bool.or_eq_true, decide_eq_true_eq, Bool.and_eq_true, beq_iff_eq]
    constructor
    · rintro (h | ⟨h, k⟩)
      · exact .inl (Int.ofNat_lt.mp h)
      · exact .inr ⟨Int.ofNat.inj h, k⟩
    · rintro (h | ⟨h, k⟩)
      · exact .inl (Int.ofNat_lt.mpr h)
      · exact .inr ⟨congrArg Int.ofNat h, k⟩
theorem dataLt_row (xs ys : List Nat) : PySem.W.dataLt (dR xs) (dR ys) = Sq62.firstOf xs ys := by
  rw [← ints_lt, ← PySem.W.dataLt_ints, List.map_map, List.map_map]
  unfold dR
  rw [PySem.W.dataLt_list]
  rfl
theorem alike_nats : ∀ xs ys : List Nat, PySem.W.alikeAll (xs.map dN) (ys.map dN) = true
  | [], _ => by simp [PySem.W.alikeAll]
  | _ :: _, [] => by simp [PySem.W.alikeAll]
  | x :: xs, y :: ys => by
    show PySem.W.alikeAll (dN x :: xs.map dN) (dN y :: ys.map dN) = true
    rw [PySem.W.alikeAll, alike_nats xs ys]
    simp [PySem.W.alike, dN]
theorem alike_row (xs ys : List Nat) : PySem.W.alike (dR xs) (dR ys) = true := by
  unfold dR
  rw [PySem.W.alike]
  exact alike_nats xs ys
/-- (len(row), row) -/
def dL (xs : List Nat) : PyData := .tuple [dN xs.length, dR xs]
theorem alike_lr (xs ys : List Nat) : PySem.W.alike (dL xs) (dL ys) = true := by
  unfold dL
  rw [PySem.W.alike, PySem.W.alikeAll, PySem.W.alikeAll, alike_row]
  simp [PySem.W.alike, PySem.W.alikeAll, dN]
theorem depth_lr (xs : List Nat) : (dL xs).depth ≤ 60 := by
  unfold dL
  rw [PyData.depth, PyData.depthAll, PyData.depthAll, depth_row]
  simp [PyData.depth, PyData.depthAll, dN]
theorem dataLt_lr {xs ys : List Nat} (h : PySem.W.dataLt (dL ys) (dL xs) = false) : xs.length ≤ ys.length := by
  rcases Nat.lt_or_ge ys.length xs.length with c | c
  · have hd : PySem.W.alike (dN ys.length) (dN xs.length) = true := by simp [PySem.W.alike, dN]
    unfold dL at h
    rw [PySem.W.dataLt_pair hd (alike_row _ _)] at h
    have e : PyData.eqv (dN ys.length) (dN xs.length) = false := by
      unfold dN
      rw [PyData.eqv, beq_eq_false_iff_ne]
      omega
    rw [e, if_neg Bool.false_ne_true] at h
    unfold dN at h
    rw [PySem.W.dataLt_int] at h
    have h := of_decide_eq_false h
    omega
  · exact c
theorem dataLe_total {α : Type} (f : α → PyData) : PySem.W.TotalLe (fun a b => PySem.W.dataLe false f a b) := PySem.W.sortLe_total _ _ _

/-! ### what a call does -/
theorem Does.bad {R CN CH a : Addr} {c : Sq62.Call} {H : Hp} {h : Sq62.House} {Q : VK} {E : XK} {z : Int} (D : Does R CN CH a c H h Q E) (e : h.step c = (h, Sq62.says z)) (hz : z < 0) : Rf E R H z := by
  have q := D.1
  rw [e] at q
  exact q hz
theorem Does.good {R CN CH a : Addr} {c : Sq62.Call} {H : Hp} {h h' : Sq62.House} {Q : VK} {E : XK} {v : Int} {out : List Int} (D : Does R CN CH a c H h Q E) (e : h.step c = (h', ⟨v, out⟩)) (hv : 0 ≤ v) :
    ∀ H' q, H q = none → Next CH CN a H h H' h' → LZ H' q (v :: out) → Q (.ref q) H' := by
  have q := D.2
  rw [e] at q
  exact q hv
theorem lz_of {H : Hp} {q : Addr} {xs : List Nat} (h : LI H q xs) : LZ H q (xs.map Int.ofNat) := by
  show _ = _
  rw [List.map_map]
  exact h
/-- the state of read_transitions' loop -/
def WRead (n : Nat) (p q : Addr) (l : List Nat) (H : Hp) : Nat → L2.St → Hp → Prop := fun m σ H' => ∃ (i f : Nat) (prs : List (V × Sq62.Transition)) (v4 v5 : Option V), σ = [some (nv n), some (.ref p), some (.ref q), some (nv i), v4, v5] ∧ m = l.length - i ∧ i ≤ l.length ∧ Same H H' ∧
  H' q = some (.lst (prs.map Prod.fst)) ∧ H q = none ∧ (∀ x ∈ prs, TrV (hid q (nw H H')) x.1 x.2) ∧ (l.drop i).length ≤ f ∧ Sq62.transitions n l.length l = (Sq62.transitions n f (l.drop i)).map (fun z => prs.map Prod.snd ++ z) ∧ (∀ x ∈ prs, PlacesOk n x.2.takes ∧ PlacesOk n x.2.puts) ∧ prs.length ≤ i

/-! ### sizes -/
theorem least_mem {l : List Sq62.Places} {s : Sq62.Places} (h : s ∈ Sq62.least l) : s ∈ l := by
  unfold Sq62.least at h
  have q := (puts_perm _ _).mem_iff.mp h
  rw [List.append_nil] at q
  exact (List.mem_filter.mp q).1
theorem least_len (l : List Sq62.Places) : (Sq62.least l).length ≤ l.length := by
  unfold Sq62.least
  rw [(puts_perm _ _).length_eq, List.append_nil]
  exact List.length_filter_le _ _
theorem sets_ok {n : Nat} {s : List Nat} (h : s ∈ Sq62.sets n) : PlacesOk n s := by
  rw [sets_is] at h
  have q := mem_choices (List.mem_filter.mp h).1
  exact ⟨q.1, q.2⟩
theorem sets_len {n : Nat} (h : n ≤ 9) : (Sq62.sets n).length ≤ 512 := by
  rw [sets_is]
  have q := List.length_filter_le (fun s : Sq62.Places => !s.isEmpty) (choices n)
  rw [choices_len] at q
  have p : 2 ^ n ≤ 2 ^ 9 := Nat.pow_le_pow_right (by decide) h
  omega
theorem siphons_ok {g : Sq62.Net} : ∀ s ∈ g.siphons, PlacesOk g.n s := fun s h => sets_ok (List.mem_filter.mp (least_mem h)).1
theorem traps_ok {g : Sq62.Net} : ∀ s ∈ g.traps, PlacesOk g.n s := fun s h => sets_ok (List.mem_filter.mp (least_mem h)).1
theorem siphons_len {g : Sq62.Net} (h : g.n ≤ 9) : g.siphons.length ≤ 512 := Nat.le_trans (least_len _) (Nat.le_trans (List.length_filter_le _ _) (sets_len h))
theorem traps_len {g : Sq62.Net} (h : g.n ≤ 9) : g.traps.length ≤ 512 := Nat.le_trans (least_len _) (Nat.le_trans (List.length_filter_le _ _) (sets_len h))
theorem rows_len {l : List (List Nat)} {k : Nat} (h : ∀ r ∈ l, r.length ≤ k) : (l.flatMap fun s => s.length :: s).length ≤ (k + 1) * l.length := by
  induction l with
  | nil => exact Nat.zero_le _
  | cons r l ih =>
    have h1 := h r (List.mem_cons_self ..)
    have h2 := ih fun s hs => h s (List.mem_cons_of_mem _ hs)
    rw [List.flatMap_cons, List.length_append, List.length_cons, List.length_cons, Nat.mul_add]
    omega
theorem gt_mem {g : Sq62.Net} : ∀ (f : Nat) (s : Sq62.Places) (p : Nat), p ∈ g.greatestTrap f s → p ∈ s
  | 0, _, _, h => h
  | f + 1, s, p, h => by
    rw [gt_succ] at h
    split at h
    · exact h
    · exact (List.mem_filter.mp (gt_mem f _ p h)).1
theorem map_ofNat (xs : List Nat) : xs.map Int.ofNat = Sq62.ints xs := rfl
theorem at_get {m : List Nat} {p : Nat} (h : p < m.length) : Sq62.at_ m p = m.getD p 0 := by
  unfold Sq62.at_
  rw [List.getD_eq_getElem?_getD]
theorem ite_int (b : Bool) : V.int (if b = true then 1 else 0) = nv (if b = true then 1 else 0) := by
  cases b <;> rfl

/-! ### where an instance is written -/
def IsIns (H : Hp) (a : Addr) : Prop := ∃ C dx fs, H a = some (.ins C dx fs)
section
variable {H H' : Hp} {a p q b C CN CH : Addr}
theorem ne_lst {xs : List V} (h : H p = some (.lst xs)) (i : IsIns H a) : p ≠ a := by
  obtain ⟨C, dx, fs, e⟩ := i
  exact ne_of h e (by intro z; cases z)
theorem ne_tup {xs : List V} (h : H p = some (.tup xs)) (i : IsIns H a) : p ≠ a := by
  obtain ⟨C, dx, fs, e⟩ := i
  exact ne_of h e (by intro z; cases z)
theorem LI.keep {xs : List Nat} (l : LI H p xs) (i : IsIns H a) (k : But a H H') : LI H' p xs := k _ _ l (ne_lst l i)
theorem TrsAt.keep {l : List Sq62.Transition} (h : TrsAt H p l) (i : IsIns H a) (k : But a H H') : TrsAt H' p l := by
  obtain ⟨prs, e, r, q⟩ := h
  refine ⟨prs, k _ _ e (ne_lst e i), fun x hx => ?_, q⟩
  obtain ⟨t1, t2, t3, e1, e2, l1, l2⟩ := r x hx
  exact ⟨t1, t2, t3, e1, k _ _ e2 (ne_tup e2 i), l1.keep i k, l2.keep i k⟩
theorem NetAt.keep {g : Sq62.Net} (h : NetAt C H p g) (n : p ≠ a) (i : IsIns H a) (k : But a H H') : NetAt C H' p g := by
  obtain ⟨w, dx, q, e, t⟩ := h
  exact ⟨w, dx, q, k _ _ e n, t.keep i k⟩
theorem net_ne {n : Nat} {q x m dx dxn : Addr} (h : H a = some (.ins CH dx (houF x m))) (k : H p = some (.ins CN dxn (netF n q))) : p ≠ a := by
  refine ne_of k h ?_
  intro z
  injection z with _ _ z
  injection z with z _
  injection z with z _
  exact absurd z (by decide +kernel)
/-- a house whose fields are written anew -/
theorem house_put {h : Sq62.House} {dx b c : Addr} (ml : h.m.length = h.g.n) (i : IsIns H a) (net : NetAt CN H b h.g) (nb : b ≠ a) (lm : LI H c h.m) : HouseAt CH CN (upd H a (.ins CH dx (houF b c))) a h :=
  ⟨ml, dx, b, c, upd_same, net.keep nb i but_upd, lm.keep i but_upd⟩
end

/-- both fields written: the net at b, the marking at c, neither among what stood, or as they were -/
theorem next_put {CH CN a : Addr} {H H1 : Hp} {h h' : Sq62.House} {dx b c : Addr} (k : But a H H1) (i : IsIns H1 a) (ia : IsIns H a) (ml : h'.m.length = h'.g.n) (net : NetAt CN H1 b h'.g) (nb : b ≠ a) (lm : LI H1 c h'.m)
    (fr : ∀ z o, H z = some o → HouseAt CH CN (hid z H) a h → NetAt CN (hid z H1) b h'.g ∧ LI (hid z H1) c h'.m) : Next CH CN a H h (upd H1 a (.ins CH dx (houF b c))) h' := by
  refine ⟨But.trans k but_upd, house_put ml i net nb lm, fun z o e q => ?_⟩
  have za : a ≠ z := fun w => by
    obtain ⟨_, dx, x, y, e1, _⟩ := q
    unfold hid at e1
    rw [if_pos w] at e1
    cases e1
  have eh : hid z (upd H1 a (.ins CH dx (houF b c))) = upd (hid z H1) a (.ins CH dx (houF b c)) := by
    funext d
    by_cases h1 : d = z
    · subst h1
      rw [upd_ne za.symm]
      unfold hid
      rw [if_pos rfl, if_pos rfl]
    · rw [hid_ne h1]
      by_cases h2 : d = a
      · subst h2
        rw [upd_same, upd_same]
      · rw [upd_ne h2, upd_ne h2, hid_ne h1]
  obtain ⟨f1, f2⟩ := fr z o e q
  rw [eh]
  obtain ⟨C, d2, fs, e2⟩ := i
  exact house_put ml ⟨C, d2, fs, at_hid e2 za⟩ f1 nb f2
theorem house_net {CH CN a z dx b mp : Addr} {H : Hp} {h : Sq62.House} (q : HouseAt CH CN (hid z H) a h) (e : H a = some (.ins CH dx (houF b mp))) : NetAt CN (hid z H) b h.g := by
  obtain ⟨_, dx2, x, y, e1, n, _⟩ := q
  have e2 := hid_same _ _ e1
  rw [e] at e2
  injection e2 with e2
  injection e2 with _ _ e2
  injection e2 with e2 _
  injection e2 with _ e2
  injection e2 with e2
  rw [e2]
  exact n
theorem house_mark {CH CN a z dx b mp : Addr} {H : Hp} {h : Sq62.House} (q : HouseAt CH CN (hid z H) a h) (e : H a = some (.ins CH dx (houF b mp))) : LI (hid z H) mp h.m := by
  obtain ⟨_, dx2, x, y, e1, _, l⟩ := q
  have e2 := hid_same _ _ e1
  rw [e] at e2
  injection e2 with e2
  injection e2 with _ _ e2
  injection e2 with _ e2
  injection e2 with e2 _
  injection e2 with _ e2
  injection e2 with e2
  rw [e2]
  exact l

theorem range_nv {l : List Nat} {n : Nat} (h : l.length = n) : ((List.range n).map fun j => nv (l.getD j 0)) = l.map nv := by
  subst h
  refine List.ext_getElem (by simp) fun i h1 h2 => ?_
  simp only [List.length_map] at h2
  simp [List.getD_eq_getElem?_getD, h2]

/-! ### calls as one list of numbers -/
theorem shape_cases {p : Int} {n k : Nat} (h : PySq62.shape p = some (n, k)) : ∃ j : Nat, j < 10 ∧ p = (j : Int) + 1 ∧ (([1, 0, 0, 0, 0, 0, 0, 0, 0, 0] : List Nat)[j]? = some n) ∧ (([2, 1, 1, 0, 0, 1, 0, 0, 0, 0] : List Nat)[j]? = some k) := by
  unfold PySq62.shape at h
  split at h
  · cases h; exact ⟨0, by decide, by omega, rfl, rfl⟩
  split at h
  · cases h; exact ⟨1, by decide, by omega, rfl, rfl⟩
  split at h
  · cases h; exact ⟨2, by decide, by omega, rfl, rfl⟩
  split at h
  · cases h; exact ⟨3, by decide, by omega, rfl, rfl⟩
  split at h
  · cases h; exact ⟨4, by decide, by omega, rfl, rfl⟩
  split at h
  · cases h; exact ⟨5, by decide, by omega, rfl, rfl⟩
  split at h
  · cases h; exact ⟨6, by decide, by omega, rfl, rfl⟩
  split at h
  · cases h; exact ⟨7, by decide, by omega, rfl, rfl⟩
  split at h
  · cases h; exact ⟨8, by decide, by omega, rfl, rfl⟩
  split at h
  · cases h; exact ⟨9, by decide, by omega, rfl, rfl⟩
  cases h
theorem calls_step {f : Nat} {p : Int} {r : List Int} {rest : List (List (List Int))} (h : PyFlat.calls PySq62.shape f (p :: r) = some rest) :
    ∃ f' n k xs t rest', PySq62.shape p = some (n, k) ∧ n ≤ r.length ∧ PyFlat.rows k (r.drop n) = some (xs, t) ∧ rest = ((p :: r.take n) :: xs) :: rest' ∧ PyFlat.calls PySq62.shape f' t = some rest' := by
  cases f with
  | zero => cases h
  | succ f =>
    unfold PyFlat.calls at h
    unfold PyFlat.call at h
    dsimp only at h
    cases hs : PySq62.shape p with
    | none => rw [hs] at h; cases h
    | some nk =>
      obtain ⟨n, k⟩ := nk
      rw [hs] at h
      dsimp only at h
      by_cases c : r.length < n
      · rw [if_pos c] at h; cases h
      rw [if_neg c] at h
      cases hr : PyFlat.rows k (r.drop n) with
      | none => rw [hr] at h; cases h
      | some xt =>
        obtain ⟨xs, t⟩ := xt
        rw [hr] at h
        dsimp only at h
        cases hc : PyFlat.calls PySq62.shape f t with
        | none => rw [hc] at h; cases h
        | some cs =>
          rw [hc] at h
          exact ⟨f, n, k, xs, t, cs, rfl, by omega, hr, (Option.some.inj h).symm, hc⟩
theorem calls_nil {f : Nat} {rest : List (List (List Int))} (h : PyFlat.calls PySq62.shape f [] = some rest) : rest = [] := by
  cases f with
  | zero => exact (Option.some.inj h).symm
  | succ f => exact (Option.some.inj h).symm
theorem rows_step {k : Nat} {r : List Int} {xs : List (List Int)} {t : List Int} (h : PyFlat.rows (k + 1) r = some (xs, t)) :
    ∃ (n : Nat) (r' : List Int) (ys : List (List Int)), r = (n : Int) :: r' ∧ n ≤ r'.length ∧ xs = r'.take n :: ys ∧ PyFlat.rows k (r'.drop n) = some (ys, t) := by
  unfold PyFlat.rows at h
  cases r with
  | nil => cases h
  | cons z r' =>
    unfold PyFlat.row at h
    dsimp only at h
    by_cases c : 0 ≤ z ∧ z.toNat ≤ r'.length
    · rw [if_pos c] at h
      dsimp only at h
      obtain ⟨n, rfl⟩ := Int.eq_ofNat_of_zero_le c.1
      rw [Int.toNat_natCast] at h c
      cases hr : PyFlat.rows k (r'.drop n) with
      | none => rw [hr] at h; cases h
      | some yt =>
        obtain ⟨ys, t'⟩ := yt
        rw [hr] at h
        injection h with h
        injection h with h1 h2
        subst h1 h2
        exact ⟨n, r', ys, rfl, c.2, rfl, hr⟩
    · rw [if_neg c] at h
      cases h
theorem rows_nil {r : List Int} {xs : List (List Int)} {t : List Int} (h : PyFlat.rows 0 r = some (xs, t)) : xs = [] ∧ t = r := by
  unfold PyFlat.rows at h
  injection h with h
  injection h with h1 h2
  exact ⟨h1.symm, h2.symm⟩
theorem cut_ints (ns : List Int) (a n : Nat) (h : a + n ≤ ns.length) : cutV (ns.map V.int) (some (a : Int)) (some ((a + n : Nat) : Int)) = ((ns.drop a).take n).map V.int := by
  rw [cutV_nat _ _ _ (by omega) (by rw [List.length_map]; exact h), ← List.map_drop, ← List.map_take]
  congr 2
  omega
theorem drop_cons {ns : List Int} {i : Nat} {z : Int} {r : List Int} (h : ns.drop i = z :: r) : i < ns.length ∧ ns[i]? = some z ∧ r = ns.drop (i + 1) ∧ (ns.map V.int)[i]? = some (.int z) := by
  have hi : i < ns.length := by
    rcases Nat.lt_or_ge i ns.length with c | c
    · exact c
    · rw [List.drop_eq_nil_of_le c] at h
      cases h
  rw [List.drop_eq_getElem_cons hi] at h
  injection h with h1 h2
  refine ⟨hi, ?_, h2.symm, ?_⟩
  · rw [List.getElem?_eq_getElem hi, h1]
  · rw [List.getElem?_map, List.getElem?_eq_getElem hi, h1]
    rfl
/-- the state of read_calls' loop -/
def WCalls (p q : Addr) (ns : List Int) (cs : List (List (List Int))) (H : Hp) : Nat → L2.St → Hp → Prop := fun m σ H' => ∃ (i f : Nat) (prs : List (V × List (List Int))) (rest : List (List (List Int))) (v3 v4 v5 v6 v7 : Option V), σ = [some (.ref p), some (.ref q), some (nv i), v3, v4, v5, v6, v7] ∧
  m = ns.length - i ∧ i ≤ ns.length ∧ Same H H' ∧ H' q = some (.lst (prs.map Prod.fst)) ∧ H q = none ∧ (∀ x ∈ prs, CallV (hid q (nw H H')) x.1 x.2) ∧ PyFlat.calls PySq62.shape f (ns.drop i) = some rest ∧ cs = prs.map Prod.snd ++ rest ∧ prs.length ≤ i

/-! ### what a call is -/
theorem lz_li {H : Hp} {p : Addr} {r : List Int} (h : LZ H p r) (z : ∀ x ∈ r, 0 ≤ x) : LI H p (r.map Int.toNat) := by
  show _ = _
  rw [h, List.map_map]
  congr 2
  refine List.map_congr_left fun x hx => ?_
  show V.int x = V.int ((x.toNat : Nat) : Int)
  rw [Int.toNat_of_nonneg (z x hx)]
theorem rows1 {H : Hp} {p : Addr} {r : List Int} (h : RowsZ H p [r]) : ∃ a, H p = some (.lst [.ref a]) ∧ LZ H a r := by
  obtain ⟨prs, e, rz, q⟩ := h
  match prs, q with
  | [x], q =>
    obtain ⟨a, e1, l⟩ := rz x (by simp)
    injection q with q _
    subst q
    refine ⟨a, ?_, l⟩
    rw [e, List.map_cons, e1]
    rfl
theorem rows2 {H : Hp} {p : Addr} {r s : List Int} (h : RowsZ H p [r, s]) : ∃ a b, H p = some (.lst [.ref a, .ref b]) ∧ LZ H a r ∧ LZ H b s := by
  obtain ⟨prs, e, rz, q⟩ := h
  match prs, q with
  | [x, y], q =>
    obtain ⟨a, e1, l⟩ := rz x (by simp)
    obtain ⟨b, e2, m⟩ := rz y (by simp)
    injection q with q q2
    injection q2 with q2 _
    subst q q2
    refine ⟨a, b, ?_, l, m⟩
    rw [e, List.map_cons, List.map_cons, e1, e2]
    rfl
theorem long_ok {r : List Int} (h : Sq62Neutral.long (fun (z : Int) => Sq62Neutral.natural z 64) r = true) : r.length ≤ 1024 ∧ ∀ x ∈ r, 0 ≤ x := by
  unfold Sq62Neutral.long at h
  rw [Bool.and_eq_true] at h
  refine ⟨of_decide_eq_true h.1, fun x hx => ?_⟩
  have q := List.all_eq_true.mp h.2 x hx
  unfold Sq62Neutral.natural at q
  rw [Bool.and_eq_true] at q
  exact of_decide_eq_true q.1
theorem call_is {c0 : List (List Int)} (h : Sq62Neutral.asked1 c0 = true) : ∃ p nums rows c, c0 = (p :: nums) :: rows ∧ Sq62Neutral.callOf c0 = some c ∧ CallIs p nums rows c := by
  unfold Sq62Neutral.asked1 at h
  split at h
  · rename_i a r1 r2
    rw [Bool.and_eq_true, Bool.and_eq_true] at h
    have ha := h.1
    unfold Sq62Neutral.natural at ha
    rw [Bool.and_eq_true] at ha
    obtain ⟨n, rfl⟩ := Int.eq_ofNat_of_zero_le (of_decide_eq_true ha.1)
    exact ⟨1, _, _, _, rfl, rfl, .begin_ n r1 r2 (long_ok h.2.1) (long_ok h.2.2)⟩
  · exact ⟨2, _, _, _, rfl, rfl, .set _ (long_ok h)⟩
  · exact ⟨3, _, _, _, rfl, rfl, .fire _ (long_ok h)⟩
  · exact ⟨4, _, _, _, rfl, rfl, .siphons⟩
  · exact ⟨5, _, _, _, rfl, rfl, .traps⟩
  · exact ⟨6, _, _, _, rfl, rfl, .inside _ (long_ok h)⟩
  · exact ⟨7, _, _, _, rfl, rfl, .empty⟩
  · exact ⟨8, _, _, _, rfl, rfl, .held⟩
  · exact ⟨9, _, _, _, rfl, rfl, .free⟩
  · exact ⟨10, _, _, _, rfl, rfl, .live⟩
  · cases h
theorem step_refused {h : Sq62.House} {c : Sq62.Call} (v : (h.step c).2.value < 0) : (h.step c).1 = h ∧ (h.step c).2.out = [] := by
  cases c with
  | begin_ n l m =>
    unfold Sq62.House.step at v ⊢
    dsimp only at v ⊢
    split at v
    · rw [if_pos (by assumption)]; exact ⟨rfl, rfl⟩
    · rw [if_neg (by assumption)]
      split at v
      · exact ⟨rfl, rfl⟩
      · split at v
        · rw [if_pos (by assumption)]; exact ⟨rfl, rfl⟩
        · rw [if_neg (by assumption)]
          split at v
          · rw [if_pos (by assumption)]; exact ⟨rfl, rfl⟩
          · rw [if_neg (by assumption)]
            split at v
            · rw [if_pos (by assumption)]; exact ⟨rfl, rfl⟩
            · exact absurd v (by show ¬ ((_ : Nat) : Int) < 0; omega)
  | set m =>
    unfold Sq62.House.step at v ⊢
    dsimp only at v ⊢
    split at v
    · rw [if_pos (by assumption)]; exact ⟨rfl, rfl⟩
    · rw [if_neg (by assumption)]
      split at v
      · rw [if_pos (by assumption)]; exact ⟨rfl, rfl⟩
      · exact absurd v (show ¬ (0 : Int) < 0 by decide)
  | fire l =>
    unfold Sq62.House.step at v ⊢
    dsimp only at v ⊢
    split at v
    · exact ⟨rfl, rfl⟩
    · split at v
      · rw [if_pos (by assumption)]; exact ⟨rfl, rfl⟩
      · exact absurd v (by show ¬ ((_ : Nat) : Int) < 0; omega)
  | siphons => exact absurd v (by show ¬ ((_ : Nat) : Int) < 0; omega)
  | traps => exact absurd v (by show ¬ ((_ : Nat) : Int) < 0; omega)
  | inside s =>
    unfold Sq62.House.step at v ⊢
    dsimp only at v ⊢
    split at v
    · rw [if_pos (by assumption)]; exact ⟨rfl, rfl⟩
    · refine absurd v ?_
      dsimp only
      split <;> split <;> decide
  | empty => exact absurd v (by show ¬ ((_ : Nat) : Int) < 0; omega)
  | held => exact absurd v (by show ¬ ((_ : Nat) : Int) < 0; omega)
  | free =>
    unfold Sq62.House.step at v ⊢
    dsimp only at v ⊢
    split at v
    · exact absurd v (show ¬ (1 : Int) < 0 by decide)
    · exact absurd v (show ¬ (0 : Int) < 0 by decide)
  | live =>
    unfold Sq62.House.step at v ⊢
    dsimp only at v ⊢
    split at v
    · refine absurd v ?_
      show ¬ (if h.g.live h.m = true then (1 : Int) else 0) < 0
      split <;> decide
    · exact ⟨rfl, rfl⟩
theorem Does.after {R CN CH a : Addr} {c : Sq62.Call} {H H1 : Hp} {h : Sq62.House} {Q : VK} {E : XK} (D : Does R CN CH a c H h Q E) (s : Same H H1) : Does R CN CH a c H1 h Q E :=
  ⟨fun v => (D.1 v).same s, fun v H' q n nx l => D.2 v H' q (s.free n) (Next.after s nx) l⟩

/-! ### rows of whole numbers as data -/
def dRR (rows : List (List Int)) : PyData := .list (rows.map fun r => .list (r.map .int))
theorem dp_intsV {K : PySem.W.Frag} {H : Hp} : ∀ xs : List Int, DpAll K H (xs.map V.int) (xs.map .int)
  | [] => .nil
  | x :: xs => .cons (.int _) (dp_intsV xs)
theorem dp_rowsV {K : PySem.W.Frag} {H : Hp} : ∀ prs : List (V × List Int), (∀ x ∈ prs, RowZ H x.1 x.2) → DpAll K H (prs.map Prod.fst) ((prs.map Prod.snd).map fun r => .list (r.map .int))
  | [], _ => .nil
  | x :: prs, h => by
    obtain ⟨a, e, l⟩ := h x (List.mem_cons_self ..)
    refine .cons ?_ (dp_rowsV prs fun y hy => h y (List.mem_cons_of_mem _ hy))
    rw [e]
    exact .lst (SqL.of l) (dp_intsV _)
theorem dp_rr {K : PySem.W.Frag} {H : Hp} {p : Addr} {rows : List (List Int)} (h : RowsZ H p rows) : Dp K H (.ref p) (dRR rows) := by
  obtain ⟨prs, e, rz, rfl⟩ := h
  exact .lst (SqL.of e) (dp_rowsV prs rz)
theorem lay_ints : ∀ xs : List Int, PyData.canLayAll0 (xs.map .int) = true
  | [] => by simp [PyData.canLayAll0]
  | x :: xs => by
    show PyData.canLayAll0 (.int x :: xs.map .int) = true
    rw [PyData.canLayAll0, lay_ints xs]
    simp [PyData.canLay0]
theorem lay_rr : ∀ rows : List (List Int), PyData.canLayAll0 (rows.map fun r => .list (r.map .int)) = true
  | [] => by simp [PyData.canLayAll0]
  | r :: rows => by
    show PyData.canLayAll0 (.list (r.map .int) :: rows.map fun r => .list (r.map .int)) = true
    rw [PyData.canLayAll0, lay_rr rows, PyData.canLay0, lay_ints]
    rfl
theorem depth_rr : ∀ rows : List (List Int), PyData.depthAll (rows.map fun r => PyData.list (r.map .int)) ≤ 1
  | [] => by simp [PyData.depthAll]
  | r :: rows => by
    show PyData.depthAll (.list (r.map .int) :: rows.map fun r => .list (r.map .int)) ≤ 1
    have ih := depth_rr rows
    rw [PyData.depthAll, PyData.depth, PySem.W.depth_ints]
    omega
theorem shaped_rr (rows : List (List Int)) : SeqAt.shaped (dRR rows) = true := by
  unfold SeqAt.shaped dRR
  rw [PyData.canLay0, lay_rr, PyData.depth]
  have := depth_rr rows
  rw [Bool.true_and]
  exact decide_eq_true (by omega)
theorem eqv_rr (rows : List (List Int)) : PyData.eqv (dRR rows) (dRR []) = rows.isEmpty := by
  unfold dRR
  rw [PyData.eqv]
  cases rows with
  | nil => simp [PyData.eqvAll]
  | cons r rows => simp [PyData.eqvAll]

/-! ### what is asked -/
theorem whole_id (c : List (List Int)) : PySq62.whole c = c := by
  unfold PySq62.whole
  split <;> rfl
theorem wholes_id (cs : List (List (List Int))) : cs.map PySq62.whole = cs := by
  have e : PySq62.whole = id := funext whole_id
  rw [e, List.map_id]
theorem asked_facts {ns : List Int} (h : PySq62.answers_asked ns = true) : ∃ cs, PyFlat.calls PySq62.shape ns.length ns = some cs ∧ (∀ c ∈ cs, Sq62Neutral.asked1 c = true) ∧
    PySq62.answers ns = PyFlat.told (PyFlat.played Sq62Neutral.step Sq62Neutral.start cs) ∧ (PySq62.answers ns).length ≤ 10000000 := by
  unfold PySq62.answers_asked at h
  cases hc : PyFlat.calls PySq62.shape ns.length ns with
  | none => rw [hc] at h; cases h
  | some cs =>
    rw [hc] at h
    dsimp only at h
    rw [wholes_id] at h
    simp only [Bool.and_eq_true] at h
    obtain ⟨⟨_, h3⟩, h4⟩ := h
    refine ⟨cs, rfl, ?_, ?_, of_decide_eq_true h4⟩
    · unfold Sq62Neutral.asked at h3
      simp only [Bool.and_eq_true] at h3
      exact fun c hc => List.all_eq_true.mp h3.2.2.1 c hc
    · unfold PySq62.answers PySq62.calls
      rw [hc]
      dsimp only
      rw [wholes_id]
theorem neutral_step {s : Sq62.House} {c : List (List Int)} {x : Sq62.Call} (h : Sq62Neutral.callOf c = some x) : Sq62Neutral.step s c = ((s.step x).1, (s.step x).2.value :: (s.step x).2.out) := by
  unfold Sq62Neutral.step
  rw [h]
theorem told_played {s : Sq62.House} {c : List (List Int)} {x : Sq62.Call} (h : Sq62Neutral.callOf c = some x) (r : List (List (List Int))) :
    PyFlat.told (PyFlat.played Sq62Neutral.step s (c :: r)) = ((((s.step x).2.value :: (s.step x).2.out).length : Nat) : Int) :: ((s.step x).2.value :: (s.step x).2.out) ++ PyFlat.told (PyFlat.played Sq62Neutral.step (s.step x).1 r) := by
  show (((Sq62Neutral.step s c).2.length : Nat) : Int) :: (Sq62Neutral.step s c).2 ++ PyFlat.told (PyFlat.played Sq62Neutral.step (Sq62Neutral.step s c).1 r) = _
  rw [neutral_step h]
end My
namespace My
open PySem PySem.Spec PyProof.Rows L2
section
variable {P : Program} {w : World} {K : PySem.W.Frag} {mg : Str → Option Value} {base : Heap} {R fR CN CH : Addr}
/-! ### ask -/
theorem sc_ask : FnScope ["good", "told"] ["good", "told"] (defScope s_ask) := ⟨rfl, rfl, rfl, by decide +kernel, rfl, by decide +kernel, by decide +kernel⟩
theorem ok_ask {f : Addr} {fd : FuncData} (F : Fun K "ask" "ask" s_ask f fd) (T : Txt K mg R fR CN CH)  :
    FnOk P w K mg base (L2.CX P w) 3 f fd ["good", "told"] (spAsk R) := by
  refine F.okX sc_ask (fun vs H Q E h => ?_) (fun cdv A outer s H vs Q E hr h => ?_)
  · obtain ⟨b, z, rfl, _⟩ := h
    rfl
  · obtain ⟨b, z, rfl, k⟩ := h
    refine ⟨_, (pss_one (ps_if (pt_not (pt_val (pv 0))) (pss_one (ps_raiseLow rfl T.low hr (takes_of rfl rfl rfl rfl) (by exact (pa_cons (pv 1) pa_nil)))) pss_nil)), ?_⟩
    obtain ⟨kt, kf⟩ := k
    refine ⟨_, rfl, b, rfl, ?_⟩
    cases b with
    | true => exact iteF (kt rfl)
    | false => exact iteT ⟨_, rfl, _, rfl, fun d hd => kf rfl d _ (same_new hd) upd_same⟩
/-! ### rises -/
theorem sc_rises : FnScope ["row", "k"] ["row"] (defScope s_rises) := ⟨rfl, rfl, rfl, by decide +kernel, rfl, by decide +kernel, by decide +kernel⟩
theorem ok_rises {f : Addr} {fd : FuncData} (F : Fun K "rises" "rises" s_rises f fd) (T : Txt K mg R fR CN CH)  :
    FnOk P w K mg base CX0 1 f fd ["row"] (spRises) := by
  refine F.ok sc_rises (fun vs H Q E h => ?_) (fun cdv A outer s H vs Q E hr h => ?_)
  · obtain ⟨p, xs, rfl, _⟩ := h
    rfl
  · obtain ⟨p, xs, rfl, k⟩ := h
    refine ⟨_, (pss_one (ps_ret (pe_callB (r := rAll K) (cr_all rfl) (by rfl) T.zall (by decide +kernel) (pa_cons (pe_lc (own := [("k", 1)]) (g := (gName 1)) rfl sc_rises.nd (pi_range1 rfl T.zrange (pa_cons (pe_op op_sub (pe_callB (r := rLen K) call_len_seq (by rfl) T.zlen PySem.boot_len (pa_cons (pv 0) pa_nil)) pe_int) pa_nil)) (blkOk_by (own := [("k", 1)]) (N := ["row", "k"]) (sc := defScope s_rises) (by decide +kernel)) (fun _ _ _ _ _ => (pg_name (i := 1) sc_rises.nd rfl (Or.inl rfl))) (fun _ _ _ _ _ => pts_nil) (fun _ _ _ _ _ => (pe_cmpR op_lt (pe_ix (r := rIxL K) ix_list (pv 0) (pv 1) (fun _ _ => rfl)) (pe_ix (r := rIxL K) ix_list (pv 0) (pe_op op_add (pv 1) pe_int) (fun _ _ => rfl)) (nomark _)))) pa_nil)))), ?_⟩
    obtain ⟨lp, hn, k⟩ := k
    have hl : (xs.map nv).length = xs.length := List.length_map ..
    refine ⟨_, rfl, p, _, rfl, .inl lp.seq, _, _, rfl, rfl, _, rfl, by omega, by omega, fun D hD => ?_⟩
    have hz : (((xs.map nv).length : Int) - 1).toNat = xs.length - 1 := by omega
    rw [hz]
    refine lc_turns walk_range (fun i => some (.bl (decide (xs.getD i 0 < xs.getD (i + 1) 0)))) (by omega) hD (fun _ _ => trivial) ?_ ?_
    · rintro i x H2 H3 Kt Kf hi s2 ⟨rfl, rfl⟩ kt kf
      have hs := (lp.same s2).seq (K := K)
      refine ⟨rfl, _, rfl, _, rfl, p, _, _, _, rfl, rfl, hs, at_of (j := i) (by omega) (nv_at (by omega)), _, rfl, _, rfl, _, _, rfl, rfl, p, _, _, _, rfl, rfl, hs, at_of (j := i + 1) (by omega) (nv_at (by omega)), _, _, rfl, rfl, ?_⟩
      exact kt _ _ (congrArg some (congrArg V.bl (dlt _ _).symm)) (Same.refl _)
    · intro H2 s2 hL
      refine ⟨D, (List.range (xs.length - 1)).map fun i => decide (xs.getD i 0 < xs.getD (i + 1) 0), rfl, SqL.of ?_, ?_⟩
      · rw [hL, filterMap_some, List.map_map]
        rfl
      · rw [all_id, ← rising_all]
        exact k H2 s2
/-! ### are_places -/
theorem sc_are_places : FnScope ["n", "row", "place"] ["n", "row"] (defScope s_are_places) := ⟨rfl, rfl, rfl, by decide +kernel, rfl, by decide +kernel, by decide +kernel⟩
theorem ok_are_places {f : Addr} {fd : FuncData} (F : Fun K "are_places" "are_places" s_are_places f fd) (T : Txt K mg R fR CN CH) (c_rises : OkF P w K mg base CX0 1 "rises" ["row"] (spRises)) :
    FnOk P w K mg base CX0 2 f fd ["n", "row"] (spArePlaces) := by
  refine F.ok sc_are_places (fun vs H Q E h => ?_) (fun cdv A outer s H vs Q E hr h => ?_)
  · obtain ⟨n, p, xs, rfl, _⟩ := h
    rfl
  · obtain ⟨n, p, xs, rfl, k⟩ := h
    refine ⟨_, (pss_one (ps_ret (pe_and (pc c_rises hr (by decide) pass0 (pa_cons (pv 1) pa_nil)) (pe_one (pe_callB (r := rAll K) (cr_all rfl) (by rfl) T.zall (by decide +kernel) (pa_cons (pe_lc (own := [("place", 2)]) (g := (gName 2)) rfl sc_are_places.nd (pi_list (pv 1)) (blkOk_by (own := [("place", 2)]) (N := ["n", "row", "place"]) (sc := defScope s_are_places) (by decide +kernel)) (fun _ _ _ _ _ => (pg_name (i := 2) sc_are_places.nd rfl (Or.inl rfl))) (fun _ _ _ _ _ => pts_nil) (fun _ _ _ _ _ => (pe_cmpR op_lt (pv 2) (pv 0) (nomark _)))) pa_nil)))))), ?_⟩
    obtain ⟨lp, hn, k⟩ := k
    refine ⟨_, rfl, p, xs, rfl, lp, hn, fun H1 s1 => ⟨_, rfl, ?_⟩⟩
    refine ite2 (fun c => ?_) (fun c => ?_)
    · refine ⟨_, rfl, p, rfl, ⟨_, (lp.same s1).seq⟩, fun D hD => ?_⟩
      refine lc_each (e := nv) (xs := xs) (fun x => some (.bl (decide (x < n)))) (by omega) hD (lp.same s1).seq ?_ ?_
      · intro x H2 Kt Kf hm s2 kt kf
        refine ⟨rfl, _, rfl, _, rfl, _, _, rfl, rfl, ?_⟩
        exact kt _ _ (congrArg some (congrArg V.bl (dlt _ _).symm)) (Same.refl _)
      · intro H2 s2 hL
        refine ⟨D, xs.map fun x => decide (x < n), rfl, SqL.of ?_, ?_⟩
        · rw [hL, filterMap_some, List.map_map]
          rfl
        · rw [all_id]
          have e := k H2 (s1.trans s2)
          rw [c, Bool.true_and] at e
          exact e
    · have e := k H1 s1
      have c : Sq62.rising xs = false := by simpa using c
      rw [c, Bool.false_and] at e
      exact e
/-! ### counted -/
theorem sc_counted : FnScope ["row"] ["row"] (defScope s_counted) := ⟨rfl, rfl, rfl, by decide +kernel, rfl, by decide +kernel, by decide +kernel⟩
theorem ok_counted {f : Addr} {fd : FuncData} (F : Fun K "counted" "counted" s_counted f fd) (T : Txt K mg R fR CN CH)  :
    FnOk P w K mg base CX0 1 f fd ["row"] (spCounted) := by
  refine F.ok sc_counted (fun vs H Q E h => ?_) (fun cdv A outer s H vs Q E hr h => ?_)
  · obtain ⟨p, xs, rfl, _⟩ := h
    rfl
  · obtain ⟨p, xs, rfl, k⟩ := h
    refine ⟨_, (pss_one (ps_ret (pe_op op_cat (pe_lst (pa_cons (pe_callB (r := rLen K) call_len_seq (by rfl) T.zlen PySem.boot_len (pa_cons (pv 0) pa_nil)) pa_nil)) (pv 0)))), ?_⟩
    obtain ⟨lp, hn, k⟩ := k
    have hl : (xs.map nv).length = xs.length := List.length_map ..
    refine ⟨_, rfl, p, _, rfl, .inl lp.seq, small_line (show 1 ≤ 1000000 by decide), fun q1 h1 => ?_⟩
    have np : p ≠ q1 := ne_of_none lp h1
    refine ⟨_, rfl, q1, p, _, _, rfl, rfl, upd_same, (upd_ne np).trans lp, small_line (by simp only [List.length_cons, List.length_nil]; omega), fun q2 h2 => ?_⟩
    refine k _ q2 ((same_new h1).free h2) ((same_new h1).trans (same_new h2)) ?_
    show _ = _
    rw [upd_same, hl]
    rfl
/-! ### places_at -/
theorem sc_places_at : FnScope ["n", "row", "at", "behind", "found"] ["n", "row", "at"] (defScope s_places_at) := ⟨rfl, rfl, rfl, by decide +kernel, rfl, by decide +kernel, by decide +kernel⟩
theorem ok_places_at {f : Addr} {fd : FuncData} (F : Fun K "places_at" "places_at" s_places_at f fd) (T : Txt K mg R fR CN CH) (c_ask : OkF P w K mg base (L2.CX P w) 3 "ask" ["good", "told"] (spAsk R)) (c_are_places : OkF P w K mg base CX0 2 "are_places" ["n", "row"] (spArePlaces)) :
    FnOk P w K mg base (L2.CX P w) 4 f fd ["n", "row", "at"] (spPlacesAt R) := by
  refine F.okX sc_places_at (fun vs H Q E h => ?_) (fun cdv A outer s H vs Q E hr h => ?_)
  · obtain ⟨n, p, l, i, rfl, _⟩ := h
    rfl
  · obtain ⟨n, p, l, i, rfl, k⟩ := h
    refine ⟨_, (pss_cons (ps_expr (pc c_ask hr (by decide) (passes_call (takes_of rfl rfl rfl rfl) (fun _ _ _ _ h => h)) (pa_cons (pe_cmpR op_lt (pv 2) (pe_callB (r := rLen K) call_len_seq (by rfl) T.zlen PySem.boot_len (pa_cons (pv 1) pa_nil)) (nomark _)) (pa_cons (pgc T.gNOT_TOLD) pa_nil))))
      (pss_cons (ps_set (i := 3) sc_places_at.nd rfl (Or.inl rfl) (pe_op op_add (pe_op op_add (pv 2) pe_int) (pe_ix (r := rIxL K) ix_list (pv 1) (pv 2) (fun _ _ => rfl))))
      (pss_cons (ps_expr (pc c_ask hr (by decide) (passes_call (takes_of rfl rfl rfl rfl) (fun _ _ _ _ h => h)) (pa_cons (pe_cmpR op_le (pv 3) (pe_callB (r := rLen K) call_len_seq (by rfl) T.zlen PySem.boot_len (pa_cons (pv 1) pa_nil)) (nomark _)) (pa_cons (pgc T.gNOT_TOLD) pa_nil))))
      (pss_cons (ps_set (i := 4) sc_places_at.nd rfl (Or.inl rfl) (pe_slice (r := rSlL K) sl_list (pv 1) (po_some (pe_op op_add (pv 2) pe_int)) (po_some (pv 3))))
      (pss_cons (ps_expr (pc c_ask hr (by decide) (passes_call (takes_of rfl rfl rfl rfl) (fun _ _ _ _ h => h)) (pa_cons (pc c_are_places hr (by decide) pass0 (pa_cons (pv 0) (pa_cons (pv 4) pa_nil))) (pa_cons (pgc T.gNOT_TOLD) pa_nil))))
      (pss_one (ps_ret (pe_tup (pa_cons (pv 4) (pa_cons (pv 3) pa_nil)))))))))), ?_⟩
    obtain ⟨lp, hn, hi, kn, ks⟩ := k
    have hl : (l.map nv).length = l.length := List.length_map ..
    refine ⟨_, rfl, _, rfl, p, _, rfl, .inl lp.seq, _, _, rfl, rfl, _, _, rfl, fun c => ?_, fun c => ?_⟩
    · have c := of_decide_eq_true c
      rw [hl] at c
      have c : i < l.length := by omega
      have ed : l.drop i = l.getD i 0 :: l.drop (i + 1) := by
        rw [List.drop_eq_getElem_cons c, List.getD_eq_getElem?_getD, List.getElem?_eq_getElem c]
        rfl
      generalize hx : l.getD i 0 = x at ed
      have hget : (l.map nv)[i]? = some (nv x) := by rw [← hx]; exact nv_at c
      refine ⟨_, rfl, _, _, rfl, rfl, _, rfl, _, rfl, p, _, _, _, rfl, rfl, lp.seq, at_of (j := i) rfl hget, _, _, rfl, rfl, ?_⟩
      refine ⟨_, rfl, _, rfl, p, _, rfl, .inl lp.seq, _, _, rfl, rfl, _, _, rfl, fun c2 => ?_, fun c2 => ?_⟩
      · have c2 := of_decide_eq_true c2
        rw [hl] at c2
        have c2 : i + 1 + x ≤ l.length := by omega
        refine ⟨_, rfl, _, rfl, _, _, rfl, rfl, _, rfl, _, rfl, _, rfl, p, _, rfl, lp.seq, fun q1 h1 => ?_⟩
        have cut : cutV (l.map nv) (some (((i + 1 : Nat)) : Int)) (some ((i + 1 + x : Nat) : Int)) = ((l.drop (i + 1)).take x).map nv := by
          rw [cutV_nat _ _ _ (by omega) (by omega), ← List.map_drop, ← List.map_take]
          congr 2
          omega
        have lq : LI (upd H q1 (.lst (cutV (l.map nv) (some (((i + 1 : Nat)) : Int)) (some ((i + 1 + x : Nat) : Int))))) q1 ((l.drop (i + 1)).take x) := upd_same.trans (by rw [cut])
        have hlen : ((l.drop (i + 1)).take x).length ≤ 20000 := Nat.le_trans (List.length_take_le' _ _) (by rw [List.length_drop]; omega)
        refine ⟨_, rfl, _, rfl, n, q1, _, rfl, lq, hlen, fun H2 s2 => ⟨_, _, rfl, fun c3 => ?_, fun c3 => ?_⟩⟩
        · rw [Bool.and_eq_true] at c3
          have pok : PlacesOk n ((l.drop (i + 1)).take x) := ⟨c3.1, fun p hp => of_decide_eq_true (List.all_eq_true.mp c3.2 p hp)⟩
          have epl : Sq62.placesOf n (l.drop i) = some ((l.drop (i + 1)).take x, l.drop (i + 1 + x)) := by
            rw [ed, placesOf_cons, if_neg, List.drop_drop]
            rintro (z | z | z)
            · rw [List.length_drop] at z
              omega
            · rw [c3.1] at z
              cases z
            · obtain ⟨y, hy, z⟩ := List.any_eq_true.mp z
              have := pok.lt y hy
              have := of_decide_eq_true z
              omega
          refine ⟨_, rfl, _, rfl, small_line (show 2 ≤ 1000000 by decide), fun t ht => ?_⟩
          have ss := (same_new h1).trans s2
          refine ks _ (i + 1 + x) epl (by omega) c2 pok _ t q1 (ss.trans (same_new ht)) h1 (ss.free ht) upd_same ?_
          exact (lq.same s2).same (same_new ht)
        · refine Rf.same (kn ?_) ((same_new h1).trans s2)
          rw [ed, placesOf_cons, if_pos]
          rw [Bool.and_eq_false_iff] at c3
          rcases c3 with z | z
          · exact .inr (.inl z)
          · refine .inr (.inr ?_)
            obtain ⟨y, hy, z⟩ := List.all_eq_false.mp z
            refine List.any_eq_true.mpr ⟨y, hy, decide_eq_true ?_⟩
            have z : ¬ y < n := fun q => z (decide_eq_true q)
            omega
      · have c2 := of_decide_eq_false c2
        rw [hl] at c2
        refine kn ?_
        have hd : (l.drop (i + 1)).length < x := by rw [List.length_drop]; omega
        rw [ed, placesOf_cons, if_pos (.inl hd)]
    · have c := of_decide_eq_false c
      rw [hl] at c
      refine kn ?_
      rw [List.drop_eq_nil_of_le (by omega)]
      rfl
/-! ### read_transitions -/
theorem sc_read_transitions : FnScope ["n", "row", "found", "at", "takes", "puts"] ["n", "row"] (defScope s_read_transitions) := ⟨rfl, rfl, rfl, by decide +kernel, rfl, by decide +kernel, by decide +kernel⟩
theorem ok_read_transitions {f : Addr} {fd : FuncData} (F : Fun K "read_transitions" "read_transitions" s_read_transitions f fd) (T : Txt K mg R fR CN CH) (c_places_at : OkF P w K mg base (L2.CX P w) 4 "places_at" ["n", "row", "at"] (spPlacesAt R)) :
    FnOk P w K mg base (L2.CX P w) 5 f fd ["n", "row"] (spReadTransitions R) := by
  refine F.okX sc_read_transitions (fun vs H Q E h => ?_) (fun cdv A outer s H vs Q E hr h => ?_)
  · obtain ⟨n, p, l, rfl, _⟩ := h
    rfl
  · obtain ⟨n, p, l, rfl, k⟩ := h
    refine ⟨_, (pss_cons (ps_set (i := 2) sc_read_transitions.nd rfl (Or.inl rfl) (pe_lst pa_nil))
      (pss_cons (ps_set (i := 3) sc_read_transitions.nd rfl (Or.inl rfl) pe_int)
      (pss_cons (ps_while (passes_of rfl) (pt_cmpR op_lt (pv 3) (pe_callB (r := rLen K) call_len_seq (by rfl) T.zlen PySem.boot_len (pa_cons (pv 1) pa_nil)) (nomark _)) (pss_cons (ps_asg (pc c_places_at hr (by decide) (passes_call (takes_of rfl rfl rfl rfl) (fun _ _ _ _ h => h)) (pa_cons (pv 0) (pa_cons (pv 1) (pa_cons (pv 3) pa_nil)))) (pg_tup rfl (pgs_cons (pg_name (i := 4) sc_read_transitions.nd rfl (Or.inl rfl)) (pgs_cons (pg_name (i := 3) sc_read_transitions.nd rfl (Or.inl rfl)) pgs_nil))))
      (pss_cons (ps_asg (pc c_places_at hr (by decide) (passes_call (takes_of rfl rfl rfl rfl) (fun _ _ _ _ h => h)) (pa_cons (pv 0) (pa_cons (pv 1) (pa_cons (pv 3) pa_nil)))) (pg_tup rfl (pgs_cons (pg_name (i := 5) sc_read_transitions.nd rfl (Or.inl rfl)) (pgs_cons (pg_name (i := 3) sc_read_transitions.nd rfl (Or.inl rfl)) pgs_nil))))
      (pss_one (ps_expr (pe_bm PySem.F.plainAttrs_list PySem.F.slot_list_append PySem.F.type_list_append mt_append (pv 2) (pa_cons (pe_tup (pa_cons (pv 4) (pa_cons (pv 5) pa_nil))) pa_nil)))))))
      (pss_one (ps_ret (pv 2)))))), ?_⟩
    obtain ⟨lp, hn, kn, ks⟩ := k
    have hl : (l.map nv).length = l.length := List.length_map ..
    refine ⟨small_line (show 0 ≤ 1000000 by decide), fun q hq => ?_⟩
    refine ⟨WRead n p q l H, ⟨_, 0, l.length, [], none, none, rfl, rfl, Nat.zero_le _, same_new hq, upd_same, hq, fun _ h => (by cases h), Nat.le_refl _, ?_, fun _ h => (by cases h), Nat.zero_le _⟩, ?_⟩
    · rw [List.drop_zero]
      show _ = Option.map (fun z => z) _
      rw [Option.map_id']
    rintro m σ H2 ⟨i, f, prs, v4, v5, rfl, rfl, hi, s2, hL, hqn, tr, hf, eq, ok, hpi⟩
    have dl : (l.drop i).length = l.length - i := List.length_drop ..
    refine ⟨_, rfl, _, rfl, p, _, rfl, .inl (lp.same s2).seq, _, _, rfl, rfl, _, rfl, ?_⟩
    refine ite2 (fun c => ?_) (fun c => ?_)
    · have c := of_decide_eq_true c
      rw [hl] at c
      have c : i < l.length := by omega
      have ne : l.drop i ≠ [] := fun z => by
        rw [z] at dl
        simp at dl
        omega
      refine ⟨fun σ' H' => ∃ m', m' < l.length - i ∧ WRead n p q l H m' σ' H', fun _ _ z => z, ?_⟩
      refine ⟨_, rfl, _, rfl, _, rfl, n, p, l, i, rfl, lp.same s2, hn, hi, fun z => Rf.same (kn ?_) s2, fun pl j e1 hij hjl pok H3 t1 q1 s3 hq1 ht1 et1 lq1 => ?_⟩
      · rw [eq, trans_none1 ne z]
        rfl
      refine ⟨t1, _, rfl, SqT.of et1, rfl, _, _, rfl, _, _, rfl, rfl, ?_⟩
      refine ⟨_, rfl, _, rfl, _, rfl, n, p, l, j, rfl, (lp.same s2).same s3, hn, hjl, fun z => Rf.same (kn ?_) (s2.trans s3), fun pl2 j2 e2 hj2 hj2l pok2 H4 t2 q2 s4 hq2 ht2 et2 lq2 => ?_⟩
      · rw [eq, trans_none2 ne e1 z]
        rfl
      refine ⟨t2, _, rfl, SqT.of et2, rfl, _, _, rfl, _, _, rfl, rfl, ?_⟩
      have hL4 : H4 q = some (.lst (prs.map Prod.fst)) := s4 _ _ (s3 _ _ hL)
      refine ⟨_, rfl, .inl ⟨rfl, _, SqL.of hL4⟩, _, rfl, _, rfl, small_line (show 2 ≤ 1000000 by decide), fun t3 ht3 => ?_⟩
      have n3 : q ≠ t3 := ne_of_none hL4 ht3
      refine ⟨q, _, _, rfl, rfl, (upd_ne n3).trans hL4, ?_, ?_⟩
      · rw [List.length_map, sizeLine_eq]
        omega
      obtain ⟨f', rfl⟩ : ∃ f', f = f' + 1 := ⟨f - 1, by omega⟩
      have d2 : (l.drop j2).length = l.length - j2 := List.length_drop ..
      refine ⟨_, (by omega : l.length - j2 < l.length - i), j2, f', prs ++ [(.ref t3, ⟨pl, pl2⟩)], _, _, rfl, rfl, hj2l, same_upd hq ((s2.trans s3).trans (s4.trans (same_new ht3))), ?_, hqn, ?_, by omega, ?_, ?_, ?_⟩
      · rw [upd_same, List.map_append]
        rfl
      · intro x hx
        rw [hid_nw_upd]
        rcases List.mem_append.mp hx with z | z
        · exact (tr x z).same (same_hid (nw_mono ((s3.trans s4).trans (same_new ht3))))
        · rw [List.mem_singleton] at z
          subst z
          have nq1 : q1 ≠ q := fun e => by rw [e, hL] at hq1; cases hq1
          have nq2 : q2 ≠ q := fun e => by rw [e, s3 _ _ hL] at hq2; cases hq2
          exact ⟨t3, q1, q2, rfl, at_hid (at_nw upd_same (((s2.trans s3).trans s4).free ht3)) n3.symm, at_hid (at_nw (same_new ht3 _ _ (s4 _ _ lq1)) (s2.free hq1)) nq1, at_hid (at_nw (same_new ht3 _ _ lq2) ((s2.trans s3).free hq2)) nq2⟩
      · rw [eq, trans_some ne e1 e2, Option.map_map]
        congr 1
        funext z
        simp
      · intro x hx
        rcases List.mem_append.mp hx with z | z
        · exact ok x z
        · rw [List.mem_singleton] at z
          subst z
          exact ⟨pok, pok2⟩
      · rw [List.length_append, List.length_singleton]
        omega
    · have c : ¬ (i : Int) < (((l.map nv).length : Nat) : Int) := fun z => c (decide_eq_true z)
      rw [hl] at c
      have e : l.drop i = [] := List.drop_eq_nil_of_le (by omega)
      rw [e, trans_nil] at eq
      have eq : Sq62.transitions n l.length l = some (prs.map Prod.snd) := by rw [eq]; simp
      refine ⟨_, rfl, ks _ eq ?_ (by rw [List.length_map]; omega) H2 q s2 ⟨prs, at_nw hL hqn, fun x hx => (tr x hx).same hid_same, rfl⟩⟩
      intro t ht
      obtain ⟨x, hx, rfl⟩ := List.mem_map.mp ht
      exact ok x hx
/-! ### Net.__init__ -/
theorem sc_Net_init : FnScope ["self", "n", "transitions"] ["self", "n", "transitions"] (defScope s_Net_init) := ⟨rfl, rfl, rfl, by decide +kernel, rfl, by decide +kernel, by decide +kernel⟩
theorem ok_Net_init {f : Addr} {fd : FuncData} (F : Fun K "__init__" "Net.__init__" s_Net_init f fd) (T : Txt K mg R fR CN CH)  :
    FnOk P w K mg base CX0 1 f fd ["self", "n", "transitions"] (spNetInit CN) := by
  refine F.ok sc_Net_init (fun vs H Q E h => ?_) (fun cdv A outer s H vs Q E hr h => ?_)
  · obtain ⟨a, dx, n, q, rfl, _⟩ := h
    rfl
  · obtain ⟨a, dx, n, q, rfl, k⟩ := h
    refine ⟨_, (pss_cons (ps_fld (pv 0) (pv 1) rfl)
      (pss_one (ps_fld (pv 0) (pv 2) rfl))), ?_⟩
    obtain ⟨hp, k⟩ := k
    refine ⟨_, rfl, _, rfl, a, CN, dx, [], rfl, hp, T.clN, T.nN, (by show 0 < 1000; decide), ?_⟩
    refine ⟨_, rfl, _, rfl, a, CN, dx, _, rfl, upd_same, T.clN, T.nT, (by show 1 < 1000; decide), ?_⟩
    exact k _ (upd_same.trans (congrArg (fun z => some (HO.ins CN dx z)) (netF_new n q))) (but_upd.trans but_upd)
/-! ### Net.is_used -/
theorem sc_Net_is_used : FnScope ["self", "place", "takes", "puts"] ["self", "place"] (defScope s_Net_is_used) := ⟨rfl, rfl, rfl, by decide +kernel, rfl, by decide +kernel, by decide +kernel⟩
theorem ok_Net_is_used {f : Addr} {fd : FuncData} (F : Fun K "is_used" "Net.is_used" s_Net_is_used f fd) (T : Txt K mg R fR CN CH)  :
    FnOk P w K mg base CX0 1 f fd ["self", "place"] (spIsUsed CN) := by
  refine F.ok sc_Net_is_used (fun vs H Q E h => ?_) (fun cdv A outer s H vs Q E hr h => ?_)
  · obtain ⟨a, g, p, rfl, _⟩ := h
    rfl
  · obtain ⟨a, g, p, rfl, k⟩ := h
    refine ⟨_, (pss_one (ps_ret (pe_callB (r := rAny K) (cr_any rfl) (by rfl) T.zany (by decide +kernel) (pa_cons (pe_lc (own := [("takes", 2), ("puts", 3)]) (g := (gTup K 2 (gCons (gName 2) (gCons (gName 3) gNil)))) rfl sc_Net_is_used.nd (pi_list (pf (K := K) rfl (pv 0) rfl)) (blkOk_by (own := [("takes", 2), ("puts", 3)]) (N := ["self", "place", "takes", "puts"]) (sc := defScope s_Net_is_used) (by decide +kernel)) (fun _ _ _ _ _ => (pg_tup rfl (pgs_cons (pg_name (i := 2) sc_Net_is_used.nd rfl (Or.inl rfl)) (pgs_cons (pg_name (i := 3) sc_Net_is_used.nd rfl (Or.inl rfl)) pgs_nil)))) (fun _ _ _ _ _ => pts_nil) (fun _ _ _ _ _ => (pe_or (pe_cmpR (r := rIn K false) op_in_seq (pv 1) (pv 2) (by rfl)) (pe_one (pe_cmpR (r := rIn K false) op_in_seq (pv 1) (pv 3) (by rfl)))))) pa_nil)))), ?_⟩
    obtain ⟨⟨gok, dx, q, hH, prs, hp, tr, et⟩, k⟩ := k
    refine ⟨_, rfl, a, CN, dx, _, _, rfl, hH, T.clN, T.nT, netF_t _ _, q, rfl, ⟨_, SqL.of hp⟩, fun D hD => ?_⟩
    have hlen : prs.length ≤ 10 := by rw [← List.length_map (f := Prod.snd), et]; exact gok.ten
    refine lc_each (e := Prod.fst) (xs := prs) (fun x => some (.bl (x.2.takes.contains p || x.2.puts.contains p))) (by omega) hD (SqL.of hp) ?_ ?_
    · intro x H2 Kt Kf hm s2 kt kf
      obtain ⟨t1, t2, t3, e1, e2, l1, l2⟩ := (tr x hm).same s2
      refine ⟨t1, _, e1, SqT.of e2, rfl, _, _, rfl, _, _, rfl, rfl, rfl, _, rfl, _, rfl, t2, _, rfl, .inl l1.seq, rfl, flat_nats _, ?_⟩
      rw [if_neg Bool.false_ne_true, inV_nat]
      refine ⟨_, rfl, ?_⟩
      refine ite2 (fun c => ?_) (fun c => ?_)
      · refine kt _ _ ?_ (Same.refl _)
        rw [c, Bool.true_or]
      · refine ⟨_, rfl, _, rfl, t3, _, rfl, .inl l2.seq, rfl, flat_nats _, ?_⟩
        rw [if_neg Bool.false_ne_true, inV_nat]
        refine kt _ _ ?_ (Same.refl _)
        have c : x.2.takes.contains p = false := by simpa using c
        rw [c, Bool.false_or]
    · intro H2 s2 hL
      refine ⟨D, prs.map fun x => x.2.takes.contains p || x.2.puts.contains p, rfl, SqL.of ?_, ?_⟩
      · rw [hL, filterMap_some, List.map_map]
        rfl
      · rw [any_id]
        have e := k H2 s2
        rw [← et, List.any_map] at e
        exact e
/-! ### Net.ask_good -/
theorem sc_Net_ask_good : FnScope ["self", "takes", "puts", "place"] ["self"] (defScope s_Net_ask_good) := ⟨rfl, rfl, rfl, by decide +kernel, rfl, by decide +kernel, by decide +kernel⟩
theorem ok_Net_ask_good {f : Addr} {fd : FuncData} (F : Fun K "ask_good" "Net.ask_good" s_Net_ask_good f fd) (T : Txt K mg R fR CN CH) (c_ask : OkF P w K mg base (L2.CX P w) 3 "ask" ["good", "told"] (spAsk R)) (c_Net_is_used : OkM P w K mg base CN CX0 1 "is_used" ["self", "place"] (spIsUsed CN)) :
    FnOk P w K mg base (L2.CX P w) 4 f fd ["self"] (spAskGood R CN) := by
  refine F.okX sc_Net_ask_good (fun vs H Q E h => ?_) (fun cdv A outer s H vs Q E hr h => ?_)
  · obtain ⟨a, g, rfl, _⟩ := h
    rfl
  · obtain ⟨a, g, rfl, k⟩ := h
    refine ⟨_, (pss_cons (ps_expr (pc c_ask hr (by decide) (passes_call (takes_of rfl rfl rfl rfl) (fun _ _ _ _ h => h)) (pa_cons (pe_callB (r := rAll K) (cr_all rfl) (by rfl) T.zall (by decide +kernel) (pa_cons (pe_lc (own := [("takes", 1), ("puts", 2)]) (g := (gTup K 2 (gCons (gName 1) (gCons (gName 2) gNil)))) rfl sc_Net_ask_good.nd (pi_list (pf (K := K) rfl (pv 0) rfl)) (blkOk_by (own := [("takes", 1), ("puts", 2)]) (N := ["self", "takes", "puts", "place"]) (sc := defScope s_Net_ask_good) (by decide +kernel)) (fun _ _ _ _ _ => (pg_tup rfl (pgs_cons (pg_name (i := 1) sc_Net_ask_good.nd rfl (Or.inl rfl)) (pgs_cons (pg_name (i := 2) sc_Net_ask_good.nd rfl (Or.inl rfl)) pgs_nil)))) (fun _ _ _ _ _ => pts_nil) (fun _ _ _ _ _ => (pe_cmpR (r := rNeD K) (op_neD hr.units) (pv 1) (pe_lst pa_nil) (nomark _)))) pa_nil)) (pa_cons (pgc T.gNOT_SO) pa_nil))))
      (pss_one (ps_expr (pc c_ask hr (by decide) (passes_call (takes_of rfl rfl rfl rfl) (fun _ _ _ _ h => h)) (pa_cons (pe_callB (r := rAll K) (cr_all rfl) (by rfl) T.zall (by decide +kernel) (pa_cons (pe_lc (own := [("place", 3)]) (g := (gName 3)) rfl sc_Net_ask_good.nd (pi_range1 rfl T.zrange (pa_cons (pf (K := K) rfl (pv 0) rfl) pa_nil)) (blkOk_by (own := [("place", 3)]) (N := ["self", "takes", "puts", "place"]) (sc := defScope s_Net_ask_good) (by decide +kernel)) (fun _ _ _ _ _ => (pg_name (i := 3) sc_Net_ask_good.nd rfl (Or.inl rfl))) (fun _ _ _ _ _ => pts_nil) (fun _ _ _ _ _ => (pm (pv 0) T.clN c_Net_is_used hr (by decide) pass0 (pa_cons (pv 3) pa_nil)))) pa_nil)) (pa_cons (pgc T.gNOT_SO) pa_nil)))))), ?_⟩
    obtain ⟨net, kgood, kbad⟩ := k
    obtain ⟨gok, dx, q, hH, prs, hp, tr, et⟩ := id net
    have hlen : prs.length ≤ 10 := by rw [← List.length_map (f := Prod.snd), et]; exact gok.ten
    refine ⟨_, rfl, a, CN, dx, _, _, rfl, hH, T.clN, T.nT, netF_t _ _, q, rfl, ⟨_, SqL.of hp⟩, fun D hD => ?_⟩
    refine lc_each (e := Prod.fst) (xs := prs) (fun x => some (.bl (!decide (x.2.takes = [])))) (by omega) hD (SqL.of hp) ?_ ?_
    · intro x H2 Kt Kf hm s2 kt kf
      obtain ⟨t1, t2, t3, e1, e2, l1, l2⟩ := (tr x hm).same s2
      refine ⟨t1, _, e1, SqT.of e2, rfl, _, _, rfl, _, _, rfl, rfl, rfl, _, rfl, small_line (show 0 ≤ 1000000 by decide), fun e he => ?_⟩
      have l3 : LI (upd H2 e (.lst [])) e [] := upd_same
      refine ⟨dR x.2.takes, dR [], dp_row (l1.same (same_new he)), dp_row l3, shaped_row _, shaped_row _, ?_⟩
      rw [eqv_row]
      exact kt _ _ rfl (same_new he)
    · intro H2 s2 hL
      refine ⟨D, prs.map fun x => !decide (x.2.takes = []), rfl, SqL.of ?_, ?_⟩
      · rw [hL, filterMap_some, List.map_map]
        rfl
      have e1 : ((prs.map fun x => !decide (x.2.takes = [])).all id) = g.ts.all fun t => !t.takes.isEmpty := by
        rw [all_id, ← et, List.all_map]
        congr 1
        funext x
        show (!decide (x.2.takes = [])) = !x.2.takes.isEmpty
        cases x.2.takes <;> rfl
      refine ⟨_, _, rfl, fun c => ?_, fun c => ?_⟩
      · rw [e1] at c
        have n9 := gok.n9
        refine ⟨_, rfl, a, CN, dx, _, _, rfl, s2 _ _ hH, T.clN, T.nN, netF_n _ _, _, rfl, by omega, by omega, fun D2 hD2 => ?_⟩
        refine lc_turns (n := g.n) walk_range (fun i => some (.bl (g.ts.any fun t => t.takes.contains i || t.puts.contains i))) (by omega) hD2 (fun _ _ => trivial) ?_ ?_
        · rintro i x H3 H4 Kt Kf hi s3 ⟨rfl, rfl⟩ kt kf
          have s23 := s2.trans s3
          refine ⟨rfl, _, rfl, a, dx, _, rfl, s23 _ _ hH, netF_no _ _ (by decide +kernel) (by decide +kernel), _, rfl, a, g, i, ?_, net.same s23, fun H5 s5 => kt _ _ rfl s5⟩
          show [V.ref a, V.int (0 + (i : Int))] = _
          rw [Int.zero_add]
          rfl
        · intro H3 s3 hL3
          refine ⟨D2, (List.range g.n).map fun i => g.ts.any fun t => t.takes.contains i || t.puts.contains i, rfl, SqL.of ?_, ?_⟩
          · rw [hL3, filterMap_some, List.map_map]
            rfl
          refine ⟨_, _, rfl, fun d => ?_, fun d => ?_⟩
          · rw [all_id] at d
            refine kgood ?_ H3 (s2.trans s3)
            unfold Sq62.used
            rw [c, d]
            rfl
          · rw [all_id] at d
            refine Rf.same (kbad ?_) (s2.trans s3)
            unfold Sq62.used
            rw [d, Bool.false_and]
      · rw [e1] at c
        refine Rf.same (kbad ?_) s2
        unfold Sq62.used
        rw [c, Bool.and_false]
/-! ### meet -/
theorem sc_meet : FnScope ["one", "other", "number"] ["one", "other"] (defScope s_meet) := ⟨rfl, rfl, rfl, by decide +kernel, rfl, by decide +kernel, by decide +kernel⟩
theorem ok_meet {f : Addr} {fd : FuncData} (F : Fun K "meet" "meet" s_meet f fd) (T : Txt K mg R fR CN CH)  :
    FnOk P w K mg base CX0 1 f fd ["one", "other"] (spMeet) := by
  refine F.ok sc_meet (fun vs H Q E h => ?_) (fun cdv A outer s H vs Q E hr h => ?_)
  · obtain ⟨p, q, xs, ys, rfl, _⟩ := h
    rfl
  · obtain ⟨p, q, xs, ys, rfl, k⟩ := h
    refine ⟨_, (pss_one (ps_ret (pe_callB (r := rAny K) (cr_any rfl) (by rfl) T.zany (by decide +kernel) (pa_cons (pe_lc (own := [("number", 2)]) (g := (gName 2)) rfl sc_meet.nd (pi_list (pv 0)) (blkOk_by (own := [("number", 2)]) (N := ["one", "other", "number"]) (sc := defScope s_meet) (by decide +kernel)) (fun _ _ _ _ _ => (pg_name (i := 2) sc_meet.nd rfl (Or.inl rfl))) (fun _ _ _ _ _ => pts_nil) (fun _ _ _ _ _ => (pe_cmpR (r := rIn K false) op_in_seq (pv 2) (pv 1) (by rfl)))) pa_nil)))), ?_⟩
    obtain ⟨lp, lq, hn, k⟩ := k
    refine ⟨_, rfl, p, rfl, ⟨_, lp.seq⟩, fun D hD => ?_⟩
    refine lc_each (e := nv) (xs := xs) (fun n => some (.bl (ys.contains n))) (by omega) hD lp.seq ?_ ?_
    · intro n H2 Kt Kf hm s2 kt kf
      refine ⟨rfl, _, rfl, _, rfl, q, _, rfl, .inl (lq.same s2).seq, rfl, flat_nats _, ?_⟩
      rw [if_neg Bool.false_ne_true, inV_nat]
      exact kt _ _ rfl (Same.refl _)
    · intro H2 s2 hL
      refine ⟨D, xs.map fun n => ys.contains n, rfl, SqL.of ?_, ?_⟩
      · rw [hL, filterMap_some, List.map_map]
        rfl
      · rw [any_id]
        exact k H2 s2
/-! ### Net.pair_not_free -/
theorem sc_Net_pair_not_free : FnScope ["self", "one", "other", "left", "right"] ["self"] (defScope s_Net_pair_not_free) := ⟨rfl, rfl, rfl, by decide +kernel, rfl, by decide +kernel, by decide +kernel⟩
theorem ok_Net_pair_not_free {f : Addr} {fd : FuncData} (F : Fun K "pair_not_free" "Net.pair_not_free" s_Net_pair_not_free f fd) (T : Txt K mg R fR CN CH) (c_meet : OkF P w K mg base CX0 1 "meet" ["one", "other"] (spMeet)) :
    FnOk P w K mg base CX0 2 f fd ["self"] (spPairNotFree CN) := by
  refine F.ok sc_Net_pair_not_free (fun vs H Q E h => ?_) (fun cdv A outer s H vs Q E hr h => ?_)
  · obtain ⟨a, g, rfl, _⟩ := h
    rfl
  · obtain ⟨a, g, rfl, k⟩ := h
    refine ⟨_, (pss_cons (ps_for PassesOwn.never rfl (pi_range1 rfl T.zrange (pa_cons (pe_callB (r := rLen K) call_len_seq (by rfl) T.zlen PySem.boot_len (pa_cons (pf (K := K) rfl (pv 0) rfl) pa_nil)) pa_nil)) (pg_name (i := 1) sc_Net_pair_not_free.nd rfl (Or.inl rfl)) (pss_one (ps_for PassesOwn.never rfl (pi_range2 rfl T.zrange (pa_cons (pe_op op_add (pv 1) pe_int) (pa_cons (pe_callB (r := rLen K) call_len_seq (by rfl) T.zlen PySem.boot_len (pa_cons (pf (K := K) rfl (pv 0) rfl) pa_nil)) pa_nil))) (pg_name (i := 2) sc_Net_pair_not_free.nd rfl (Or.inl rfl)) (pss_cons (ps_set (i := 3) sc_Net_pair_not_free.nd rfl (Or.inl rfl) (pe_ix (r := rIxT K) ix_tup (pe_ix (r := rIxL K) ix_list (pf (K := K) rfl (pv 0) rfl) (pv 1) (fun _ _ => rfl)) pe_int (fun _ _ => rfl)))
      (pss_cons (ps_set (i := 4) sc_Net_pair_not_free.nd rfl (Or.inl rfl) (pe_ix (r := rIxT K) ix_tup (pe_ix (r := rIxL K) ix_list (pf (K := K) rfl (pv 0) rfl) (pv 2) (fun _ _ => rfl)) pe_int (fun _ _ => rfl)))
      (pss_one (ps_if (PW.pt (pw_and (pt_cmpR (r := rNeD K) (op_neD hr.units) (pv 3) (pv 4) (nomark _)) (pw_and1 (pt_val (pc c_meet hr (by decide) pass0 (pa_cons (pv 3) (pa_cons (pv 4) pa_nil))))))) (pss_one (ps_ret (pe_lst (pa_cons (pv 1) (pa_cons (pv 2) pa_nil))))) pss_nil)))))))
      (pss_one (ps_ret pe_non))), ?_⟩
    obtain ⟨net, kN, kS⟩ := k
    obtain ⟨gok, dx, q, hH, prs, hp, tr, et⟩ := id net
    have hlen : prs.length = g.ts.length := by rw [← et, List.length_map]
    have h10 := gok.ten
    have hl : (prs.map Prod.fst).length = g.ts.length := by rw [List.length_map, hlen]
    have item : ∀ i, i < g.ts.length → ∃ (t : Sq62.Transition) (t1 t2 t3 : Addr), g.ts[i]? = some t ∧ (prs.map Prod.fst)[i]? = some (.ref t1) ∧ H t1 = some (.tup [.ref t2, .ref t3]) ∧ LI H t2 t.takes := by
      intro i hi
      have hi' : i < prs.length := by omega
      obtain ⟨t1, t2, t3, e1, e2, l1, l2⟩ := tr prs[i] (List.getElem_mem hi')
      refine ⟨prs[i].2, t1, t2, t3, ?_, ?_, e2, l1⟩
      · rw [← et, List.getElem?_map, List.getElem?_eq_getElem hi']
        rfl
      · rw [List.getElem?_map, List.getElem?_eq_getElem hi', ← e1]
        rfl
    refine ⟨_, rfl, a, CN, dx, _, _, rfl, hH, T.clN, T.nT, netF_t _ _, q, _, rfl, .inl (SqL.of hp), _, rfl, by omega, by omega, ?_⟩
    have hz : (((prs.map Prod.fst).length : Nat) : Int).toNat = g.ts.length := by rw [hl]; exact Int.toNat_natCast _
    rw [hz]
    refine for_range (fun i σ H' => Same H H' ∧ (∃ v1 v2 v3 v4, σ = [some (.ref a), v1, v2, v3, v4]) ∧ ∀ x y, x < i → x < y → y < g.ts.length → bad g x y = false) ⟨Same.refl _, ⟨_, _, _, _, rfl⟩, fun x y h => absurd h (Nat.not_lt_zero _)⟩ ?_ ?_
    · rintro i σ H2 hi ⟨s2, ⟨v1, v2, v3, v4, rfl⟩, old⟩
      refine ⟨_, rfl, _, _, rfl, rfl, _, rfl, a, CN, dx, _, _, rfl, s2 _ _ hH, T.clN, T.nT, netF_t _ _, q, _, rfl, .inl (SqL.of (s2 _ _ hp)), _, _, rfl, ⟨by omega, by omega, by omega, by omega⟩, ?_⟩
      have hz2 : ((((prs.map Prod.fst).length : Nat) : Int) - (0 + (i : Int) + 1)).toNat = g.ts.length - (i + 1) := by rw [hl]; omega
      rw [hz2]
      refine for_range (fun j σ H' => Same H H' ∧ (∃ v2 v3 v4, σ = [some (.ref a), some (.int (0 + (i : Int))), v2, v3, v4]) ∧ ∀ y, i < y → y < i + 1 + j → bad g i y = false) ⟨s2, ⟨_, _, _, rfl⟩, fun y h h2 => by omega⟩ ?_ ?_
      · rintro j σ H3 hj ⟨s3, ⟨w2, w3, w4, rfl⟩, row⟩
        obtain ⟨t, t1, t2, t3, et1, ei1, eh1, lt1⟩ := item i hi
        obtain ⟨u, u1, u2, u3, et2, ei2, eh2, lt2⟩ := item (i + 1 + j) (by omega)
        have ht : t ∈ g.ts := List.mem_of_getElem? et1
        have t9 := gok.takes9 ht
        have eb : bad g i (i + 1 + j) = (Sq62.meets t.takes u.takes && t.takes != u.takes) := by
          unfold bad
          rw [et1, et2]
          show (decide (i < i + 1 + j) && _) = _
          rw [decide_eq_true (show i < i + 1 + j by omega), Bool.true_and]
        refine ⟨_, rfl, a, CN, dx, _, _, rfl, s3 _ _ hH, T.clN, T.nT, netF_t _ _, _, rfl, q, _, _, _, rfl, rfl, SqL.of (s3 _ _ hp), at_of (j := i) (by omega) ei1, t1, _, _, _, rfl, rfl, SqT.of (s3 _ _ eh1), at_of (j := 0) rfl rfl, ?_⟩
        refine ⟨_, rfl, a, CN, dx, _, _, rfl, s3 _ _ hH, T.clN, T.nT, netF_t _ _, _, rfl, q, _, _, _, rfl, rfl, SqL.of (s3 _ _ hp), at_of (j := i + 1 + j) (by omega) ei2, u1, _, _, _, rfl, rfl, SqT.of (s3 _ _ eh2), at_of (j := 0) rfl rfl, ?_⟩
        refine ⟨_, rfl, _, rfl, dR t.takes, dR u.takes, dp_row (lt1.same s3), dp_row (lt2.same s3), shaped_row _, shaped_row _, _, rfl, ?_⟩
        rw [eqv_row]
        have no : bad g i (i + 1 + j) = false → ∀ y, i < y → y < i + 1 + (j + 1) → bad g i y = false := fun e y h1 h2 => by
          by_cases c : y = i + 1 + j
          · rw [c]
            exact e
          · exact row y h1 (by omega)
        refine ite2 (fun c => ?_) (fun c => ?_)
        · refine ⟨_, rfl, _, rfl, t2, u2, _, _, rfl, lt1.same s3, lt2.same s3, by omega, fun H4 s4 => ⟨_, rfl, ?_⟩⟩
          have c' : (t.takes != u.takes) = true := by
            rw [bne_iff_ne]
            simpa using c
          refine ite2 (fun d => ?_) (fun d => ?_)
          · refine ⟨_, rfl, _, rfl, small_line (show 2 ≤ 1000000 by decide), fun r hr => ?_⟩
            have e : g.unfree = some (i, i + 1 + j) := unfree_some (by omega) (by omega) (by rw [eb, d, c']; rfl) old fun b h1 h2 => row b h1 h2
            refine kS _ _ e _ r ((s3.trans s4).trans (same_new hr)) ?_
            show _ = _
            rw [upd_same]
            have e1 : V.int (0 + (i : Int)) = nv i := by rw [Int.zero_add]; rfl
            have e2 : V.int (0 + (i : Int) + 1 + (j : Int)) = nv (i + 1 + j) := by rw [Int.zero_add]; rfl
            rw [e1, e2]
            rfl
          · refine ⟨s3.trans s4, ⟨_, _, _, rfl⟩, no ?_⟩
            have d : Sq62.meets t.takes u.takes = false := by simpa using d
            rw [eb, d, Bool.false_and]
        · refine iteF ⟨s3, ⟨_, _, _, rfl⟩, no ?_⟩
          have c' : (t.takes != u.takes) = false := by
            rw [bne_eq_false_iff_eq]
            simpa using c
          rw [eb, c', Bool.and_false]
      · rintro σ H3 ⟨s3, ⟨w2, w3, w4, rfl⟩, row⟩
        refine ⟨s3, ⟨_, _, _, _, rfl⟩, fun x y h1 h2 h3 => ?_⟩
        by_cases c : x = i
        · subst c
          exact row y h2 (by omega)
        · exact old x y (by omega) h2 h3
    · rintro σ H2 ⟨s2, ⟨v1, v2, v3, v4, rfl⟩, old⟩
      exact kN (unfree_none fun x y h1 h2 => old x y (by omega) h1 h2) H2 s2
/-! ### ask_few -/
theorem sc_ask_few : FnScope ["transitions"] ["transitions"] (defScope s_ask_few) := ⟨rfl, rfl, rfl, by decide +kernel, rfl, by decide +kernel, by decide +kernel⟩
theorem ok_ask_few {f : Addr} {fd : FuncData} (F : Fun K "ask_few" "ask_few" s_ask_few f fd) (T : Txt K mg R fR CN CH) (c_ask : OkF P w K mg base (L2.CX P w) 3 "ask" ["good", "told"] (spAsk R)) :
    FnOk P w K mg base (L2.CX P w) 4 f fd ["transitions"] (spAskFew R) := by
  refine F.okX sc_ask_few (fun vs H Q E h => ?_) (fun cdv A outer s H vs Q E hr h => ?_)
  · obtain ⟨p, ts, rfl, _⟩ := h
    rfl
  · obtain ⟨p, ts, rfl, k⟩ := h
    refine ⟨_, (pss_one (ps_expr (pc c_ask hr (by decide) (passes_call (takes_of rfl rfl rfl rfl) (fun _ _ _ _ h => h)) (pa_cons (pe_cmpR op_le (pe_callB (r := rLen K) call_len_seq (by rfl) T.zlen PySem.boot_len (pa_cons (pv 0) pa_nil)) (pgc T.gMOST_TRANSITIONS) (nomark _)) (pa_cons (pgc T.gWRONG) pa_nil))))), ?_⟩
    obtain ⟨⟨prs, hp, tr, rfl⟩, kt, kf⟩ := k
    rw [List.length_map] at kt kf
    refine ⟨_, rfl, p, _, rfl, .inl (SqL.of hp), _, _, rfl, rfl, _, _, rfl, fun c => ?_, fun c => ?_⟩
    · have c := of_decide_eq_true c
      rw [List.length_map] at c
      exact kt (by omega) H (Same.refl _)
    · have c := of_decide_eq_false c
      rw [List.length_map] at c
      exact kf (by omega)
/-! ### ask_places -/
theorem sc_ask_places : FnScope ["n"] ["n"] (defScope s_ask_places) := ⟨rfl, rfl, rfl, by decide +kernel, rfl, by decide +kernel, by decide +kernel⟩
theorem ok_ask_places {f : Addr} {fd : FuncData} (F : Fun K "ask_places" "ask_places" s_ask_places f fd) (T : Txt K mg R fR CN CH) (c_ask : OkF P w K mg base (L2.CX P w) 3 "ask" ["good", "told"] (spAsk R)) :
    FnOk P w K mg base (L2.CX P w) 4 f fd ["n"] (spAskPlaces R) := by
  refine F.okX sc_ask_places (fun vs H Q E h => ?_) (fun cdv A outer s H vs Q E hr h => ?_)
  · obtain ⟨n, rfl, _⟩ := h
    rfl
  · obtain ⟨n, rfl, k⟩ := h
    refine ⟨_, (pss_one (ps_expr (pc c_ask hr (by decide) (passes_call (takes_of rfl rfl rfl rfl) (fun _ _ _ _ h => h)) (pa_cons (pe_chain op_le op_le pe_int (pv 0) (pgc T.gMOST_PLACES)) (pa_cons (pgc T.gWRONG) pa_nil))))), ?_⟩
    obtain ⟨kt, kf⟩ := k
    refine ⟨_, rfl, _, _, rfl, rfl, _, rfl, ?_⟩
    refine ite2 (fun c => ?_) (fun c => ?_)
    · refine ⟨_, _, rfl, rfl, _, _, rfl, fun d => ?_, fun d => ?_⟩
      · have c := of_decide_eq_true c
        have d := of_decide_eq_true d
        exact kt (by omega) H (Same.refl _)
      · have d := of_decide_eq_false d
        exact kf (by omega)
    · refine ⟨_, _, rfl, fun d => Bool.noConfusion d, fun d => ?_⟩
      have c : ¬ (1 : Int) ≤ (n : Int) := fun z => c (decide_eq_true z)
      exact kf (by omega)
/-! ### is_siphon -/
theorem sc_is_siphon : FnScope ["net", "places", "takes", "puts"] ["net", "places"] (defScope s_is_siphon) := ⟨rfl, rfl, rfl, by decide +kernel, rfl, by decide +kernel, by decide +kernel⟩
theorem ok_is_siphon {f : Addr} {fd : FuncData} (F : Fun K "is_siphon" "is_siphon" s_is_siphon f fd) (T : Txt K mg R fR CN CH) (c_meet : OkF P w K mg base CX0 1 "meet" ["one", "other"] (spMeet)) :
    FnOk P w K mg base CX0 2 f fd ["net", "places"] (spIsSiphon CN) := by
  refine F.ok sc_is_siphon (fun vs H Q E h => ?_) (fun cdv A outer s H vs Q E hr h => ?_)
  · obtain ⟨a, p, g, s0, rfl, _⟩ := h
    rfl
  · obtain ⟨a, p, g, s0, rfl, k⟩ := h
    refine ⟨_, (pss_one (ps_ret (pe_callB (r := rAll K) (cr_all rfl) (by rfl) T.zall (by decide +kernel) (pa_cons (pe_lc (own := [("takes", 2), ("puts", 3)]) (g := (gTup K 2 (gCons (gName 2) (gCons (gName 3) gNil)))) rfl sc_is_siphon.nd (pi_list (pf (K := K) rfl (pv 0) rfl)) (blkOk_by (own := [("takes", 2), ("puts", 3)]) (N := ["net", "places", "takes", "puts"]) (sc := defScope s_is_siphon) (by decide +kernel)) (fun _ _ _ _ _ => (pg_tup rfl (pgs_cons (pg_name (i := 2) sc_is_siphon.nd rfl (Or.inl rfl)) (pgs_cons (pg_name (i := 3) sc_is_siphon.nd rfl (Or.inl rfl)) pgs_nil)))) (fun _ _ _ _ _ => (pts_one (pt_val (pc c_meet hr (by decide) pass0 (pa_cons (pv 3) (pa_cons (pv 1) pa_nil)))))) (fun _ _ _ _ _ => (pc c_meet hr (by decide) pass0 (pa_cons (pv 2) (pa_cons (pv 1) pa_nil))))) pa_nil)))), ?_⟩
    obtain ⟨⟨gok, dx, q, hH, prs, hp, tr, et⟩, lp, hn, k⟩ := k
    have hlen : prs.length ≤ 10 := by rw [← List.length_map (f := Prod.snd), et]; exact gok.ten
    refine ⟨_, rfl, a, CN, dx, _, _, rfl, hH, T.clN, T.nT, netF_t _ _, q, rfl, ⟨_, SqL.of hp⟩, fun D hD => ?_⟩
    refine lc_each (e := Prod.fst) (xs := prs) (fun x => if Sq62.meets x.2.puts s0 = true then some (.bl (Sq62.meets x.2.takes s0)) else none) (by omega) hD (SqL.of hp) ?_ ?_
    · intro x H2 Kt Kf hm s2 kt kf
      have hx : x.2 ∈ g.ts := by rw [← et]; exact List.mem_map.mpr ⟨x, hm, rfl⟩
      have p9 := gok.puts9 hx
      have t9 := gok.takes9 hx
      obtain ⟨t1, t2, t3, e1, e2, l1, l2⟩ := (tr x hm).same s2
      refine ⟨t1, _, e1, SqT.of e2, rfl, _, _, rfl, _, _, rfl, rfl, rfl, _, rfl, _, rfl, t3, p, _, _, rfl, l2, lp.same s2, by omega, fun H3 s3 => ⟨_, rfl, ?_⟩⟩
      refine ite2 (fun c => ?_) (fun c => ?_)
      · refine ⟨_, rfl, _, rfl, t2, p, _, _, rfl, l1.same s3, (lp.same s2).same s3, by omega, fun H4 s4 => ?_⟩
        exact kt _ _ (if_pos c) (s3.trans s4)
      · exact kf _ (if_neg c) s3
    · intro H2 s2 hL
      refine ⟨D, (prs.filter fun x => Sq62.meets x.2.puts s0).map fun x => Sq62.meets x.2.takes s0, rfl, SqL.of ?_, ?_⟩
      · rw [hL, filterMap_if, List.map_map]
        rfl
      · rw [all_filter]
        have e := k H2 s2
        unfold Sq62.Net.siphon at e
        rw [← et, List.all_map] at e
        exact e
/-! ### is_trap -/
theorem sc_is_trap : FnScope ["net", "places", "takes", "puts"] ["net", "places"] (defScope s_is_trap) := ⟨rfl, rfl, rfl, by decide +kernel, rfl, by decide +kernel, by decide +kernel⟩
theorem ok_is_trap {f : Addr} {fd : FuncData} (F : Fun K "is_trap" "is_trap" s_is_trap f fd) (T : Txt K mg R fR CN CH) (c_meet : OkF P w K mg base CX0 1 "meet" ["one", "other"] (spMeet)) :
    FnOk P w K mg base CX0 2 f fd ["net", "places"] (spIsTrap CN) := by
  refine F.ok sc_is_trap (fun vs H Q E h => ?_) (fun cdv A outer s H vs Q E hr h => ?_)
  · obtain ⟨a, p, g, s0, rfl, _⟩ := h
    rfl
  · obtain ⟨a, p, g, s0, rfl, k⟩ := h
    refine ⟨_, (pss_one (ps_ret (pe_callB (r := rAll K) (cr_all rfl) (by rfl) T.zall (by decide +kernel) (pa_cons (pe_lc (own := [("takes", 2), ("puts", 3)]) (g := (gTup K 2 (gCons (gName 2) (gCons (gName 3) gNil)))) rfl sc_is_trap.nd (pi_list (pf (K := K) rfl (pv 0) rfl)) (blkOk_by (own := [("takes", 2), ("puts", 3)]) (N := ["net", "places", "takes", "puts"]) (sc := defScope s_is_trap) (by decide +kernel)) (fun _ _ _ _ _ => (pg_tup rfl (pgs_cons (pg_name (i := 2) sc_is_trap.nd rfl (Or.inl rfl)) (pgs_cons (pg_name (i := 3) sc_is_trap.nd rfl (Or.inl rfl)) pgs_nil)))) (fun _ _ _ _ _ => (pts_one (pt_val (pc c_meet hr (by decide) pass0 (pa_cons (pv 2) (pa_cons (pv 1) pa_nil)))))) (fun _ _ _ _ _ => (pc c_meet hr (by decide) pass0 (pa_cons (pv 3) (pa_cons (pv 1) pa_nil))))) pa_nil)))), ?_⟩
    obtain ⟨⟨gok, dx, q, hH, prs, hp, tr, et⟩, lp, hn, k⟩ := k
    have hlen : prs.length ≤ 10 := by rw [← List.length_map (f := Prod.snd), et]; exact gok.ten
    refine ⟨_, rfl, a, CN, dx, _, _, rfl, hH, T.clN, T.nT, netF_t _ _, q, rfl, ⟨_, SqL.of hp⟩, fun D hD => ?_⟩
    refine lc_each (e := Prod.fst) (xs := prs) (fun x => if Sq62.meets x.2.takes s0 = true then some (.bl (Sq62.meets x.2.puts s0)) else none) (by omega) hD (SqL.of hp) ?_ ?_
    · intro x H2 Kt Kf hm s2 kt kf
      have hx : x.2 ∈ g.ts := by rw [← et]; exact List.mem_map.mpr ⟨x, hm, rfl⟩
      have p9 := gok.puts9 hx
      have t9 := gok.takes9 hx
      obtain ⟨t1, t2, t3, e1, e2, l1, l2⟩ := (tr x hm).same s2
      refine ⟨t1, _, e1, SqT.of e2, rfl, _, _, rfl, _, _, rfl, rfl, rfl, _, rfl, _, rfl, t2, p, _, _, rfl, l1, lp.same s2, by omega, fun H3 s3 => ⟨_, rfl, ?_⟩⟩
      refine ite2 (fun c => ?_) (fun c => ?_)
      · refine ⟨_, rfl, _, rfl, t3, p, _, _, rfl, l2.same s3, (lp.same s2).same s3, by omega, fun H4 s4 => ?_⟩
        exact kt _ _ (if_pos c) (s3.trans s4)
      · exact kf _ (if_neg c) s3
    · intro H2 s2 hL
      refine ⟨D, (prs.filter fun x => Sq62.meets x.2.takes s0).map fun x => Sq62.meets x.2.puts s0, rfl, SqL.of ?_, ?_⟩
      · rw [hL, filterMap_if, List.map_map]
        rfl
      · rw [all_filter]
        have e := k H2 s2
        unfold Sq62.Net.trap at e
        rw [← et, List.all_map] at e
        exact e
/-! ### emptied_by -/
theorem sc_emptied_by : FnScope ["net", "places", "found", "takes", "puts"] ["net", "places"] (defScope s_emptied_by) := ⟨rfl, rfl, rfl, by decide +kernel, rfl, by decide +kernel, by decide +kernel⟩
theorem ok_emptied_by {f : Addr} {fd : FuncData} (F : Fun K "emptied_by" "emptied_by" s_emptied_by f fd) (T : Txt K mg R fR CN CH) (c_meet : OkF P w K mg base CX0 1 "meet" ["one", "other"] (spMeet)) :
    FnOk P w K mg base CX0 2 f fd ["net", "places"] (spEmptiedBy CN) := by
  refine F.ok sc_emptied_by (fun vs H Q E h => ?_) (fun cdv A outer s H vs Q E hr h => ?_)
  · obtain ⟨a, p, g, s0, rfl, _⟩ := h
    rfl
  · obtain ⟨a, p, g, s0, rfl, k⟩ := h
    refine ⟨_, (pss_cons (ps_set (i := 2) sc_emptied_by.nd rfl (Or.inl rfl) (pe_lst pa_nil))
      (pss_cons (ps_for PassesOwn.never rfl (pi_list (pf (K := K) rfl (pv 0) rfl)) (pg_tup rfl (pgs_cons (pg_name (i := 3) sc_emptied_by.nd rfl (Or.inl rfl)) (pgs_cons (pg_name (i := 4) sc_emptied_by.nd rfl (Or.inl rfl)) pgs_nil))) (pss_one (ps_if (pt_not (pt_val (pc c_meet hr (by decide) pass0 (pa_cons (pv 3) (pa_cons (pv 1) pa_nil))))) (pss_one (ps_expr (pe_bm PySem.F.plainAttrs_list PySem.F.slot_list_extend PySem.F.type_list_extend mt_extend (pv 2) (pa_cons (pv 4) pa_nil)))) pss_nil)))
      (pss_one (ps_ret (pv 2))))), ?_⟩
    obtain ⟨⟨gok, dx, q, hH, prs, hp, tr, et⟩, lp, hn, k⟩ := k
    refine ⟨small_line (show 0 ≤ 1000000 by decide), fun r hr0 => ?_⟩
    refine ⟨_, rfl, a, CN, dx, _, _, rfl, same_new hr0 _ _ hH, T.clN, T.nT, netF_t _ _, q, rfl, ⟨_, SqL.of (same_new hr0 _ _ hp)⟩, ?_⟩
    refine for_each (e := Prod.fst) (xs := prs) (fun pre σ H' => Same H H' ∧ LI H' r (emptied ⟨g.n, pre.map Prod.snd⟩ s0) ∧ ∃ v3 v4, σ = [some (.ref a), some (.ref p), some (.ref r), v3, v4])
      ⟨same_new hr0, upd_same, none, none, rfl⟩ (fun pre σ H' z => SqL.of (z.1 _ _ hp)) ?_ ?_
    · rintro pre x post σ H2 ex ⟨s2, lr, v3, v4, rfl⟩
      have hm : x ∈ prs := by rw [ex]; simp
      have hx : x.2 ∈ g.ts := by rw [← et]; exact List.mem_map.mpr ⟨x, hm, rfl⟩
      have p9 := gok.puts9 hx
      have t9 := gok.takes9 hx
      have pre10 : (pre.map Prod.snd).length ≤ 10 := by
        have := gok.ten
        rw [← et, ex] at this
        simp only [List.length_map, List.length_append, List.length_cons] at this ⊢
        omega
      have e90 := emptied_len (gok.mono pre10 fun t m => by rw [← et, ex, List.map_append]; exact List.mem_append_left _ m) s0
      have em : emptied ⟨g.n, (pre ++ [x]).map Prod.snd⟩ s0 = emptied ⟨g.n, pre.map Prod.snd⟩ s0 ++ (if Sq62.meets x.2.takes s0 = true then [] else x.2.puts) := by
        rw [List.map_append]
        exact emptied_more _ _ _ _
      obtain ⟨t1, t2, t3, e1, e2, l1, l2⟩ := (tr x hm).same s2
      refine ⟨t1, _, e1, SqT.of e2, rfl, _, _, rfl, _, _, rfl, rfl, ?_⟩
      refine ⟨_, rfl, _, rfl, t2, p, _, _, rfl, l1, lp.same s2, by omega, fun H3 s3 => ⟨_, rfl, ?_⟩⟩
      cases c : Sq62.meets x.2.takes s0 with
      | true =>
        refine iteF ⟨s2.trans s3, ?_, _, _, rfl⟩
        rw [em, if_pos c, List.append_nil]
        exact lr.same s3
      | false =>
        refine iteT ⟨_, rfl, .inl ⟨rfl, _, SqL.of (s3 _ _ lr)⟩, _, rfl, r, t3, _, _, rfl, rfl, s3 _ _ lr, s3 _ _ l2, small_line (by rw [List.length_map, List.length_map]; omega), ?_⟩
        refine ⟨same_upd hr0 (s2.trans s3), ?_, _, _, rfl⟩
        rw [em, if_neg (by rw [c]; exact Bool.false_ne_true)]
        show _ = _
        rw [upd_same, List.map_append]
    · rintro σ H2 ⟨s2, lr, v3, v4, rfl⟩
      rw [et] at lr
      exact ⟨_, rfl, k H2 r s2 lr⟩
/-! ### drained_by -/
theorem sc_drained_by : FnScope ["net", "places", "found", "takes", "puts"] ["net", "places"] (defScope s_drained_by) := ⟨rfl, rfl, rfl, by decide +kernel, rfl, by decide +kernel, by decide +kernel⟩
theorem ok_drained_by {f : Addr} {fd : FuncData} (F : Fun K "drained_by" "drained_by" s_drained_by f fd) (T : Txt K mg R fR CN CH) (c_meet : OkF P w K mg base CX0 1 "meet" ["one", "other"] (spMeet)) :
    FnOk P w K mg base CX0 2 f fd ["net", "places"] (spDrainedBy CN) := by
  refine F.ok sc_drained_by (fun vs H Q E h => ?_) (fun cdv A outer s H vs Q E hr h => ?_)
  · obtain ⟨a, p, g, s0, rfl, _⟩ := h
    rfl
  · obtain ⟨a, p, g, s0, rfl, k⟩ := h
    refine ⟨_, (pss_cons (ps_set (i := 2) sc_drained_by.nd rfl (Or.inl rfl) (pe_lst pa_nil))
      (pss_cons (ps_for PassesOwn.never rfl (pi_list (pf (K := K) rfl (pv 0) rfl)) (pg_tup rfl (pgs_cons (pg_name (i := 3) sc_drained_by.nd rfl (Or.inl rfl)) (pgs_cons (pg_name (i := 4) sc_drained_by.nd rfl (Or.inl rfl)) pgs_nil))) (pss_one (ps_if (pt_not (pt_val (pc c_meet hr (by decide) pass0 (pa_cons (pv 4) (pa_cons (pv 1) pa_nil))))) (pss_one (ps_expr (pe_bm PySem.F.plainAttrs_list PySem.F.slot_list_extend PySem.F.type_list_extend mt_extend (pv 2) (pa_cons (pv 3) pa_nil)))) pss_nil)))
      (pss_one (ps_ret (pv 2))))), ?_⟩
    obtain ⟨⟨gok, dx, q, hH, prs, hp, tr, et⟩, lp, hn, k⟩ := k
    refine ⟨small_line (show 0 ≤ 1000000 by decide), fun r hr0 => ?_⟩
    refine ⟨_, rfl, a, CN, dx, _, _, rfl, same_new hr0 _ _ hH, T.clN, T.nT, netF_t _ _, q, rfl, ⟨_, SqL.of (same_new hr0 _ _ hp)⟩, ?_⟩
    refine for_each (e := Prod.fst) (xs := prs) (fun pre σ H' => Same H H' ∧ LI H' r (drained ⟨g.n, pre.map Prod.snd⟩ s0) ∧ ∃ v3 v4, σ = [some (.ref a), some (.ref p), some (.ref r), v3, v4])
      ⟨same_new hr0, upd_same, none, none, rfl⟩ (fun pre σ H' z => SqL.of (z.1 _ _ hp)) ?_ ?_
    · rintro pre x post σ H2 ex ⟨s2, lr, v3, v4, rfl⟩
      have hm : x ∈ prs := by rw [ex]; simp
      have hx : x.2 ∈ g.ts := by rw [← et]; exact List.mem_map.mpr ⟨x, hm, rfl⟩
      have p9 := gok.puts9 hx
      have t9 := gok.takes9 hx
      have pre10 : (pre.map Prod.snd).length ≤ 10 := by
        have := gok.ten
        rw [← et, ex] at this
        simp only [List.length_map, List.length_append, List.length_cons] at this ⊢
        omega
      have e90 := drained_len (gok.mono pre10 fun t m => by rw [← et, ex, List.map_append]; exact List.mem_append_left _ m) s0
      have em : drained ⟨g.n, (pre ++ [x]).map Prod.snd⟩ s0 = drained ⟨g.n, pre.map Prod.snd⟩ s0 ++ (if Sq62.meets x.2.puts s0 = true then [] else x.2.takes) := by
        rw [List.map_append]
        exact drained_more _ _ _ _
      obtain ⟨t1, t2, t3, e1, e2, l1, l2⟩ := (tr x hm).same s2
      refine ⟨t1, _, e1, SqT.of e2, rfl, _, _, rfl, _, _, rfl, rfl, ?_⟩
      refine ⟨_, rfl, _, rfl, t3, p, _, _, rfl, l2, lp.same s2, by omega, fun H3 s3 => ⟨_, rfl, ?_⟩⟩
      cases c : Sq62.meets x.2.puts s0 with
      | true =>
        refine iteF ⟨s2.trans s3, ?_, _, _, rfl⟩
        rw [em, if_pos c, List.append_nil]
        exact lr.same s3
      | false =>
        refine iteT ⟨_, rfl, .inl ⟨rfl, _, SqL.of (s3 _ _ lr)⟩, _, rfl, r, t2, _, _, rfl, rfl, s3 _ _ lr, s3 _ _ l1, small_line (by rw [List.length_map, List.length_map]; omega), ?_⟩
        refine ⟨same_upd hr0 (s2.trans s3), ?_, _, _, rfl⟩
        rw [em, if_neg (by rw [c]; exact Bool.false_ne_true)]
        show _ = _
        rw [upd_same, List.map_append]
    · rintro σ H2 ⟨s2, lr, v3, v4, rfl⟩
      rw [et] at lr
      exact ⟨_, rfl, k H2 r s2 lr⟩
/-! ### greatest_siphon -/
theorem sc_greatest_siphon : FnScope ["net", "places", "found", "out", "place"] ["net", "places"] (defScope s_greatest_siphon) := ⟨rfl, rfl, rfl, by decide +kernel, rfl, by decide +kernel, by decide +kernel⟩
theorem ok_greatest_siphon {f : Addr} {fd : FuncData} (F : Fun K "greatest_siphon" "greatest_siphon" s_greatest_siphon f fd) (T : Txt K mg R fR CN CH) (c_meet : OkF P w K mg base CX0 1 "meet" ["one", "other"] (spMeet)) (c_emptied_by : OkF P w K mg base CX0 2 "emptied_by" ["net", "places"] (spEmptiedBy CN)) :
    FnOk P w K mg base CX0 3 f fd ["net", "places"] (spGreatestSiphon CN) := by
  refine F.ok sc_greatest_siphon (fun vs H Q E h => ?_) (fun cdv A outer s H vs Q E hr h => ?_)
  · obtain ⟨a, p, g, s0, rfl, _⟩ := h
    rfl
  · obtain ⟨a, p, g, s0, rfl, k⟩ := h
    refine ⟨_, (pss_cons (ps_set (i := 2) sc_greatest_siphon.nd rfl (Or.inl rfl) (pv 1))
      (pss_cons (ps_set (i := 3) sc_greatest_siphon.nd rfl (Or.inr rfl) (pc c_emptied_by hr (by decide) pass0 (pa_cons (pv 0) (pa_cons (pv 2) pa_nil))))
      (pss_cons (ps_while PassesOwn.never (pt_val (pc c_meet hr (by decide) pass0 (pa_cons (pv 2) (pa_cons (pv 3) pa_nil)))) (pss_cons (ps_setLc (i := 2) (own := [("place", 4)]) (g := (gName 4)) rfl sc_greatest_siphon.nd rfl rfl (sw_true rfl rfl rfl (by decide +kernel)) (pi_list (pv 2)) (blkOk_by (own := [("place", 4)]) (N := ["net", "places", "found", "out", "place"]) (sc := defScope s_greatest_siphon) (by decide +kernel)) (fun _ _ _ _ _ => (pg_name (i := 4) sc_greatest_siphon.nd rfl (Or.inl rfl))) (fun _ _ _ _ _ => (pts_one (pt_cmpR (r := rIn K true) op_notIn_seq (pv 4) (pv 3) (by rfl)))) (fun _ _ _ _ _ => (pv 4)))
      (pss_one (ps_set (i := 3) sc_greatest_siphon.nd rfl (Or.inr rfl) (pc c_emptied_by hr (by decide) pass0 (pa_cons (pv 0) (pa_cons (pv 2) pa_nil)))))))
      (pss_one (ps_ret (pv 2)))))), ?_⟩
    obtain ⟨net, lp, hn, k⟩ := k
    have n9 := net.1.n9
    refine ⟨_, rfl, _, rfl, _, rfl, a, p, g, s0, rfl, net, lp, by omega, fun H1 po s1 lo => ?_⟩
    refine ⟨fun m σ H' => ∃ (pf po : Addr) (fs : List Nat) (f : Nat), σ = [some (.ref a), some (.ref p), some (.ref pf), some (.ref po), none] ∧ Same H H' ∧ LI H' pf fs ∧ LI H' po (emptied g fs) ∧ fs.length ≤ f ∧ g.greatestSiphon f fs = g.greatestSiphon g.n s0 ∧ m = fs.length ∧ fs.length ≤ g.n,
      ⟨_, p, po, s0, g.n, rfl, s1, lp.same s1, lo, hn, rfl, rfl, hn⟩, ?_⟩
    rintro m σ H2 ⟨pf, po, fs, f, rfl, s2, lf, lo, hf, eq, rfl, hfn⟩
    refine ⟨_, rfl, _, rfl, pf, po, _, _, rfl, lf, lo, by omega, fun H3 s3 => ⟨_, rfl, ?_⟩⟩
    refine ite2 (fun c => ?_) (fun c => ?_)
    · obtain ⟨f', e', hf'⟩ := gs_turn (f := f) c hf
      have lt := without_lt c
      refine ⟨fun σ' H' => ∃ (pf po : Addr) (f : Nat), σ' = [some (.ref a), some (.ref p), some (.ref pf), some (.ref po), none] ∧ Same H H' ∧ LI H' pf (without fs (emptied g fs)) ∧ LI H' po (emptied g (without fs (emptied g fs))) ∧ (without fs (emptied g fs)).length ≤ f ∧ g.greatestSiphon f (without fs (emptied g fs)) = g.greatestSiphon g.n s0,
        ?_, ?_⟩
      · rintro σ' H' ⟨pf', po', f2, rfl, h1, h2, h3, h4, h5⟩
        exact ⟨_, lt, pf', po', _, f2, rfl, h1, h2, h3, h4, h5, rfl, by omega⟩
      · refine ⟨_, rfl, pf, rfl, ⟨_, (lf.same s3).seq⟩, fun D hD => ?_⟩
        refine lc_each (e := nv) (xs := fs) (fun x => if (!(emptied g fs).contains x) = true then some (nv x) else none) (by omega) hD (lf.same s3).seq ?_ ?_
        · intro x H4 Kt Kf hm s4 kt kf
          refine ⟨rfl, _, rfl, _, rfl, po, _, rfl, .inl ((lo.same s3).same s4).seq, rfl, flat_nats _, ?_⟩
          rw [if_pos rfl, inV_nat]
          refine ⟨_, rfl, ?_⟩
          refine ite2 (fun c => ?_) (fun c => ?_)
          · exact ⟨_, rfl, kt _ _ (if_pos c) (Same.refl _)⟩
          · exact kf _ (if_neg c) (Same.refl _)
        · intro H4 s4 hL
          have lw : LI H4 D (without fs (emptied g fs)) := by
            show _ = _
            rw [hL, filterMap_if]
            rfl
          have s04 := (s2.trans s3).trans s4
          refine ⟨_, rfl, _, rfl, a, D, g, _, rfl, net.same s04, lw, by omega, fun H5 po5 s5 lo5 => ?_⟩
          exact ⟨D, po5, f', rfl, s04.trans s5, lw.same s5, lo5, hf', e'.symm.trans eq⟩
    · have c : Sq62.meets fs (emptied g fs) = false := by simpa using c
      have e := gs_end (f := f) c
      refine ⟨_, rfl, k H3 pf (s2.trans s3) ?_⟩
      rw [← eq, e]
      exact lf.same s3
/-! ### greatest_trap -/
theorem sc_greatest_trap : FnScope ["net", "places", "found", "out", "place"] ["net", "places"] (defScope s_greatest_trap) := ⟨rfl, rfl, rfl, by decide +kernel, rfl, by decide +kernel, by decide +kernel⟩
theorem ok_greatest_trap {f : Addr} {fd : FuncData} (F : Fun K "greatest_trap" "greatest_trap" s_greatest_trap f fd) (T : Txt K mg R fR CN CH) (c_meet : OkF P w K mg base CX0 1 "meet" ["one", "other"] (spMeet)) (c_drained_by : OkF P w K mg base CX0 2 "drained_by" ["net", "places"] (spDrainedBy CN)) :
    FnOk P w K mg base CX0 3 f fd ["net", "places"] (spGreatestTrap CN) := by
  refine F.ok sc_greatest_trap (fun vs H Q E h => ?_) (fun cdv A outer s H vs Q E hr h => ?_)
  · obtain ⟨a, p, g, s0, rfl, _⟩ := h
    rfl
  · obtain ⟨a, p, g, s0, rfl, k⟩ := h
    refine ⟨_, (pss_cons (ps_set (i := 2) sc_greatest_trap.nd rfl (Or.inl rfl) (pv 1))
      (pss_cons (ps_set (i := 3) sc_greatest_trap.nd rfl (Or.inr rfl) (pc c_drained_by hr (by decide) pass0 (pa_cons (pv 0) (pa_cons (pv 2) pa_nil))))
      (pss_cons (ps_while PassesOwn.never (pt_val (pc c_meet hr (by decide) pass0 (pa_cons (pv 2) (pa_cons (pv 3) pa_nil)))) (pss_cons (ps_setLc (i := 2) (own := [("place", 4)]) (g := (gName 4)) rfl sc_greatest_trap.nd rfl rfl (sw_true rfl rfl rfl (by decide +kernel)) (pi_list (pv 2)) (blkOk_by (own := [("place", 4)]) (N := ["net", "places", "found", "out", "place"]) (sc := defScope s_greatest_trap) (by decide +kernel)) (fun _ _ _ _ _ => (pg_name (i := 4) sc_greatest_trap.nd rfl (Or.inl rfl))) (fun _ _ _ _ _ => (pts_one (pt_cmpR (r := rIn K true) op_notIn_seq (pv 4) (pv 3) (by rfl)))) (fun _ _ _ _ _ => (pv 4)))
      (pss_one (ps_set (i := 3) sc_greatest_trap.nd rfl (Or.inr rfl) (pc c_drained_by hr (by decide) pass0 (pa_cons (pv 0) (pa_cons (pv 2) pa_nil)))))))
      (pss_one (ps_ret (pv 2)))))), ?_⟩
    obtain ⟨net, lp, hn, k⟩ := k
    have n9 := net.1.n9
    refine ⟨_, rfl, _, rfl, _, rfl, a, p, g, s0, rfl, net, lp, by omega, fun H1 po s1 lo => ?_⟩
    refine ⟨fun m σ H' => ∃ (pf po : Addr) (fs : List Nat) (f : Nat), σ = [some (.ref a), some (.ref p), some (.ref pf), some (.ref po), none] ∧ Same H H' ∧ LI H' pf fs ∧ LI H' po (drained g fs) ∧ fs.length ≤ f ∧ g.greatestTrap f fs = g.greatestTrap g.n s0 ∧ m = fs.length ∧ fs.length ≤ g.n,
      ⟨_, p, po, s0, g.n, rfl, s1, lp.same s1, lo, hn, rfl, rfl, hn⟩, ?_⟩
    rintro m σ H2 ⟨pf, po, fs, f, rfl, s2, lf, lo, hf, eq, rfl, hfn⟩
    refine ⟨_, rfl, _, rfl, pf, po, _, _, rfl, lf, lo, by omega, fun H3 s3 => ⟨_, rfl, ?_⟩⟩
    refine ite2 (fun c => ?_) (fun c => ?_)
    · obtain ⟨f', e', hf'⟩ := gt_turn (f := f) c hf
      have lt := without_lt c
      refine ⟨fun σ' H' => ∃ (pf po : Addr) (f : Nat), σ' = [some (.ref a), some (.ref p), some (.ref pf), some (.ref po), none] ∧ Same H H' ∧ LI H' pf (without fs (drained g fs)) ∧ LI H' po (drained g (without fs (drained g fs))) ∧ (without fs (drained g fs)).length ≤ f ∧ g.greatestTrap f (without fs (drained g fs)) = g.greatestTrap g.n s0,
        ?_, ?_⟩
      · rintro σ' H' ⟨pf', po', f2, rfl, h1, h2, h3, h4, h5⟩
        exact ⟨_, lt, pf', po', _, f2, rfl, h1, h2, h3, h4, h5, rfl, by omega⟩
      · refine ⟨_, rfl, pf, rfl, ⟨_, (lf.same s3).seq⟩, fun D hD => ?_⟩
        refine lc_each (e := nv) (xs := fs) (fun x => if (!(drained g fs).contains x) = true then some (nv x) else none) (by omega) hD (lf.same s3).seq ?_ ?_
        · intro x H4 Kt Kf hm s4 kt kf
          refine ⟨rfl, _, rfl, _, rfl, po, _, rfl, .inl ((lo.same s3).same s4).seq, rfl, flat_nats _, ?_⟩
          rw [if_pos rfl, inV_nat]
          refine ⟨_, rfl, ?_⟩
          refine ite2 (fun c => ?_) (fun c => ?_)
          · exact ⟨_, rfl, kt _ _ (if_pos c) (Same.refl _)⟩
          · exact kf _ (if_neg c) (Same.refl _)
        · intro H4 s4 hL
          have lw : LI H4 D (without fs (drained g fs)) := by
            show _ = _
            rw [hL, filterMap_if]
            rfl
          have s04 := (s2.trans s3).trans s4
          refine ⟨_, rfl, _, rfl, a, D, g, _, rfl, net.same s04, lw, by omega, fun H5 po5 s5 lo5 => ?_⟩
          exact ⟨D, po5, f', rfl, s04.trans s5, lw.same s5, lo5, hf', e'.symm.trans eq⟩
    · have c : Sq62.meets fs (drained g fs) = false := by simpa using c
      have e := gt_end (f := f) c
      refine ⟨_, rfl, k H3 pf (s2.trans s3) ?_⟩
      rw [← eq, e]
      exact lf.same s3
/-! ### all_choices -/
theorem sc_all_choices : FnScope ["n", "found", "place", "many", "row"] ["n"] (defScope s_all_choices) := ⟨rfl, rfl, rfl, by decide +kernel, rfl, by decide +kernel, by decide +kernel⟩
theorem ok_all_choices {f : Addr} {fd : FuncData} (F : Fun K "all_choices" "all_choices" s_all_choices f fd) (T : Txt K mg R fR CN CH)  :
    FnOk P w K mg base CX0 1 f fd ["n"] (spAllChoices) := by
  refine F.ok sc_all_choices (fun vs H Q E h => ?_) (fun cdv A outer s H vs Q E hr h => ?_)
  · obtain ⟨n, rfl, _⟩ := h
    rfl
  · obtain ⟨n, rfl, k⟩ := h
    refine ⟨_, (pss_cons (ps_set (i := 1) sc_all_choices.nd rfl (Or.inl rfl) (pe_lst (pa_cons (pe_lst pa_nil) pa_nil)))
      (pss_cons (ps_for PassesOwn.never rfl (pi_range1 rfl T.zrange (pa_cons (pv 0) pa_nil)) (pg_name (i := 2) sc_all_choices.nd rfl (Or.inr rfl)) (pss_one (ps_set (i := 1) sc_all_choices.nd rfl (Or.inl rfl) (pe_op op_cat (pv 1) (pe_lc (own := [("row", 4)]) (g := (gName 4)) rfl sc_all_choices.nd (pi_list (pv 1)) (blkOk_by (own := [("row", 4)]) (N := ["n", "found", "place", "many", "row"]) (sc := defScope s_all_choices) (by decide +kernel)) (fun _ _ _ _ _ => (pg_name (i := 4) sc_all_choices.nd rfl (Or.inl rfl))) (fun _ _ _ _ _ => pts_nil) (fun _ _ _ _ _ => (pe_op op_cat (pv 4) (pe_lst (pa_cons (pv 2) pa_nil)))))))))
      (pss_one (ps_ret (pe_lc (own := [("many", 3), ("row", 4)]) (g := (gTup K 2 (gCons (gName 3) (gCons (gName 4) gNil)))) rfl sc_all_choices.nd (pi_list (pe_callB (r := rSortedD K) (cr_sortedD hr) (by rfl) T.zsorted (by decide +kernel) (pa_cons (pe_lc (own := [("row", 4)]) (g := (gName 4)) rfl sc_all_choices.nd (pi_list (pv 1)) (blkOk_by (own := [("row", 4)]) (N := ["n", "found", "place", "many", "row"]) (sc := defScope s_all_choices) (by decide +kernel)) (fun _ _ _ _ _ => (pg_name (i := 4) sc_all_choices.nd rfl (Or.inl rfl))) (fun _ _ _ _ _ => pts_nil) (fun _ _ _ _ _ => (pe_tup (pa_cons (pe_callB (r := rLen K) call_len_seq (by rfl) T.zlen PySem.boot_len (pa_cons (pv 4) pa_nil)) (pa_cons (pv 4) pa_nil))))) pa_nil))) (blkOk_by (own := [("many", 3), ("row", 4)]) (N := ["n", "found", "place", "many", "row"]) (sc := defScope s_all_choices) (by decide +kernel)) (fun _ _ _ _ _ => (pg_tup rfl (pgs_cons (pg_name (i := 3) sc_all_choices.nd rfl (Or.inl rfl)) (pgs_cons (pg_name (i := 4) sc_all_choices.nd rfl (Or.inl rfl)) pgs_nil)))) (fun _ _ _ _ _ => (pts_one (pt_cmpR op_gt (pv 3) pe_int (nomark _)))) (fun _ _ _ _ _ => (pv 4))))))), ?_⟩
    obtain ⟨h9, k⟩ := k
    refine ⟨small_line (show 0 ≤ 1000000 by decide), fun e he => ⟨small_line (show 1 ≤ 1000000 by decide), fun q hq => ?_⟩⟩
    have ne : e ≠ q := fun z => by rw [z] at hq; rw [← z, upd_same] at hq; cases hq
    have hz : ((n : Nat) : Int).toNat = n := Int.toNat_natCast _
    refine ⟨_, rfl, _, rfl, by omega, by omega, ?_⟩
    rw [hz]
    refine for_range (fun i σ H' => ∃ (q : Addr) (v2 : Option V), σ = [some (nv n), some (.ref q), v2, none, none] ∧ Same H H' ∧ RowsAt H' q (choices i)) ⟨q, none, rfl, (same_new he).trans (same_new hq), [(.ref e, [])], upd_same, ?_, rfl⟩ ?_ ?_
    · intro x hx
      rw [List.mem_singleton] at hx
      subst hx
      exact ⟨e, rfl, (upd_ne ne).trans upd_same⟩
    · rintro i σ H2 hi ⟨q, v2, rfl, s2, prs, hp, rw_, eq⟩
      have p29 : 2 ^ i ≤ 512 := Nat.pow_le_pow_right (by decide) (by omega : i ≤ 9)
      have hlen : prs.length = 2 ^ i := by rw [← choices_len i, ← eq, List.length_map]
      refine ⟨_, rfl, _, rfl, q, rfl, ⟨_, SqL.of hp⟩, fun D hD => ?_⟩
      refine lc_objs (e := Prod.fst) (xs := prs) RowV (fun _ _ _ _ s r => r.same s) (fun x => x.2 ++ [i]) (by omega) hD (SqL.of hp) ?_ ?_
      · intro x H3 Kt Kf hx s3 ⟨o, ho⟩ kt
        obtain ⟨ra, er, lr⟩ := (rw_ x hx).same s3
        refine ⟨rfl, _, rfl, _, rfl, small_line (show 1 ≤ 1000000 by decide), fun u hu => ?_⟩
        have nr : ra ≠ u := ne_of_none lr hu
        have x9 : x.2.length ≤ 9 := by
          have m := mem_choices (n := i) (s := x.2) (by rw [← eq]; exact List.mem_map.mpr ⟨x, hx, rfl⟩)
          have := rising_len m.1 m.2
          omega
        refine ⟨ra, u, _, _, er, rfl, (upd_ne nr).trans lr, upd_same, small_line (by simp only [List.length_map, List.length_cons, List.length_nil]; omega), fun r hr0 => ?_⟩
        have hr1 : H3 r = none := (same_new hu).free hr0
        have nD : r ≠ D := fun z => by rw [z, ho] at hr1; cases hr1
        refine kt _ _ ((same_new hu).trans (same_new hr0)) ⟨r, rfl, at_hid ?_ nD⟩
        rw [upd_same, List.map_append]
        have e1 : V.int (0 + (i : Int)) = nv i := by rw [Int.zero_add]; rfl
        rw [e1]
        rfl
      · intro H3 ys s3 hL hr eqy
        have ylen : ys.length = prs.length := by
          have := congrArg List.length eqy
          rw [List.length_map, List.length_map] at this
          exact this
        refine ⟨q, D, _, _, rfl, rfl, s3 _ _ hp, hL, small_line (by rw [List.length_map, List.length_map]; omega), fun r hr0 => ?_⟩
        refine ⟨r, _, rfl, (s2.trans s3).trans (same_new hr0), prs ++ ys, ?_, ?_, ?_⟩
        · rw [upd_same, List.map_append]
        · intro x hx
          rcases List.mem_append.mp hx with z | z
          · exact ((rw_ x z).same s3).same (same_new hr0)
          · exact (hr x z).same (same_new hr0)
        · rw [List.map_append, eqy]
          show _ = choices i ++ (choices i).map fun row => row ++ [i]
          rw [← eq, List.map_map]
          rfl
    · rintro σ H2 ⟨q, v2, rfl, s2, prs, hp, rw_, eq⟩
      have p29 : 2 ^ n ≤ 512 := Nat.pow_le_pow_right (by decide) h9
      have hlen : prs.length = 2 ^ n := by rw [← choices_len n, ← eq, List.length_map]
      refine ⟨_, rfl, q, rfl, ⟨_, SqL.of hp⟩, fun D hD => ?_⟩
      refine lc_objs (e := Prod.fst) (xs := prs) (fun H y (b : V × List Nat) => ∃ t a, y = V.ref t ∧ b.1 = .ref a ∧ H t = some (.tup [nv b.2.length, .ref a]) ∧ LI H a b.2) (fun _ _ _ _ s ⟨t, a, e1, e2, e3, e4⟩ => ⟨t, a, e1, e2, s _ _ e3, e4.same s⟩) (fun x => x) (by omega) hD (SqL.of hp) ?_ ?_
      · intro x H3 Kt Kf hx s3 ⟨o, ho⟩ kt
        obtain ⟨ra, er, lr0⟩ := rw_ x hx
        have lr := (lr0.same s3)
        refine ⟨rfl, _, rfl, ra, _, er.symm ▸ rfl, .inl lr.seq, _, rfl, small_line (show 2 ≤ 1000000 by decide), fun u hu => ?_⟩
        have nD : u ≠ D := fun z => by rw [z, ho] at hu; cases hu
        have nR : ra ≠ D := ne_of_none lr0 hD
        refine kt _ _ (same_new hu) ⟨u, ra, rfl, er, at_hid ?_ nD, at_hid (same_new hu _ _ lr) nR⟩
        rw [upd_same, List.length_map, ← er]
        rfl
      · intro H3 ys s3 hL hr eqy
        have ylen : ys.length = prs.length := by
          have := congrArg List.length eqy
          rw [List.length_map, List.length_map] at this
          exact this
        let en : V × (V × List Nat) → V × PyData := fun y => (y.1, dL y.2.2)
        refine ⟨D, ys.map en, rfl, SqL.of (by rw [hL, List.map_map]; rfl), ?_, ?_, ?_, ?_, fun L hLn => ?_⟩
        · intro b hb
          obtain ⟨y, hy, rfl⟩ := List.mem_map.mp hb
          obtain ⟨t, ra, e1, e2, e3, e4⟩ := hr y hy
          show Dp K H3 y.1 _
          rw [e1]
          exact .tup (SqT.of e3) (.cons (.int _) (.cons (dp_row e4) .nil))
        · rw [List.map_map]
          exact PySem.W.AllAlike.of fun _ _ => alike_lr _ _
        · rw [List.map_map]
          exact PySem.W.Sortable.tuples fun _ => ⟨_, _, rfl⟩
        · intro b hb
          obtain ⟨y, hy, rfl⟩ := List.mem_map.mp hb
          exact depth_lr _
        have es : (ys.map en).mergeSort (PySem.W.dataLe false Prod.snd) = (ys.mergeSort (fun x y => PySem.W.dataLe false (fun z : V × (V × List Nat) => dL z.2.2) x y)).map en := (PySem.W.sort_maps en (fun _ _ _ _ => rfl)).symm
        have pz := List.mergeSort_perm ys (fun x y => PySem.W.dataLe false (fun z : V × (V × List Nat) => dL z.2.2) x y)
        have wz := PySem.W.sort_pairwise (dataLe_total fun z : V × (V × List Nat) => dL z.2.2) ys
        generalize hzs : ys.mergeSort (fun x y => PySem.W.dataLe false (fun z : V × (V × List Nat) => dL z.2.2) x y) = zs at es pz wz
        have zlen : zs.length = prs.length := pz.length_eq.trans ylen
        have hL4 : upd H3 L (.lst (((ys.map en).mergeSort (PySem.W.dataLe false Prod.snd)).map Prod.fst)) L = some (.lst (zs.map Prod.fst)) := by
          rw [upd_same, es, List.map_map]
          rfl
        have hrz : ∀ y ∈ zs, _ := fun y hy => hr y (pz.mem_iff.mp hy)
        generalize hH4 : upd H3 L (.lst (((ys.map en).mergeSort (PySem.W.dataLe false Prod.snd)).map Prod.fst)) = H4 at hL4 ⊢
        have s4 : Same H3 H4 := by rw [← hH4]; exact same_new hLn
        refine ⟨L, rfl, ⟨_, SqL.of hL4⟩, fun D2 hD2 => ?_⟩
        refine lc_each (e := Prod.fst) (xs := zs) (fun y => if decide (0 < y.2.2.length) = true then some y.2.1 else none) (by omega) hD2 (SqL.of hL4) ?_ ?_
        · intro y H5 Kt Kf hy s5 kt kf
          obtain ⟨t, ra, e1, e2, e3, e4⟩ := hrz y hy
          refine ⟨t, _, e1, SqT.of (s5 _ _ (s4 _ _ e3)), rfl, _, _, rfl, _, _, rfl, rfl, rfl, _, rfl, _, _, rfl, rfl, _, rfl, ?_⟩
          have ed : decide ((0 : Int) < ((y.2.2.length : Nat) : Int)) = decide (0 < y.2.2.length) := dlt 0 _
          rw [ed]
          refine ite2 (fun c => ?_) (fun c => ?_)
          · refine ⟨_, rfl, kt _ _ ?_ (Same.refl _)⟩
            rw [if_pos c, e2]
          · exact kf _ (if_neg c) (Same.refl _)
        · intro H5 s5 hL5
          refine k H5 D2 ((zs.filter fun y => decide (0 < y.2.2.length)).map fun y => y.2.2) (((s2.trans s3).trans s4).trans s5) ⟨(zs.filter fun y => decide (0 < y.2.2.length)).map fun y => y.2, ?_, ?_, ?_⟩ ⟨?_, ?_⟩
          · rw [hL5, filterMap_if, List.map_map]
            rfl
          · intro x hx
            obtain ⟨y, hy, rfl⟩ := List.mem_map.mp hx
            obtain ⟨t, ra, e1, e2, e3, e4⟩ := hrz y (List.mem_filter.mp hy).1
            exact ⟨ra, e2, (e4.same s4).same s5⟩
          · rw [List.map_map]
            rfl
          · rw [sets_is, ← eq]
            refine ((pz.filter _).map _).trans ?_
            have e1 : prs = ys.map Prod.snd := by rw [eqy, List.map_id']
            have e2 : (fun s : List Nat => !s.isEmpty) = fun s => decide (0 < s.length) := by
              funext s
              cases s <;> simp
            rw [e1, List.map_map, e2, List.filter_map]
            exact List.Perm.refl _
          · refine List.Pairwise.map _ (fun x y h => ?_) (wz.filter _)
            refine dataLt_lr (Bool.eq_false_iff.mpr fun z => ?_)
            have h : (!PySem.W.dataLt (dL y.2.2) (dL x.2.2)) = true := h
            rw [z] at h
            cases h
/-! ### is_within -/
theorem sc_is_within : FnScope ["one", "other", "place"] ["one", "other"] (defScope s_is_within) := ⟨rfl, rfl, rfl, by decide +kernel, rfl, by decide +kernel, by decide +kernel⟩
theorem ok_is_within {f : Addr} {fd : FuncData} (F : Fun K "is_within" "is_within" s_is_within f fd) (T : Txt K mg R fR CN CH)  :
    FnOk P w K mg base CX0 1 f fd ["one", "other"] (spIsWithin) := by
  refine F.ok sc_is_within (fun vs H Q E h => ?_) (fun cdv A outer s H vs Q E hr h => ?_)
  · obtain ⟨p, q, xs, ys, rfl, _⟩ := h
    rfl
  · obtain ⟨p, q, xs, ys, rfl, k⟩ := h
    refine ⟨_, (pss_one (ps_ret (pe_callB (r := rAll K) (cr_all rfl) (by rfl) T.zall (by decide +kernel) (pa_cons (pe_lc (own := [("place", 2)]) (g := (gName 2)) rfl sc_is_within.nd (pi_list (pv 0)) (blkOk_by (own := [("place", 2)]) (N := ["one", "other", "place"]) (sc := defScope s_is_within) (by decide +kernel)) (fun _ _ _ _ _ => (pg_name (i := 2) sc_is_within.nd rfl (Or.inl rfl))) (fun _ _ _ _ _ => pts_nil) (fun _ _ _ _ _ => (pe_cmpR (r := rIn K false) op_in_seq (pv 2) (pv 1) (by rfl)))) pa_nil)))), ?_⟩
    obtain ⟨lp, lq, hn, k⟩ := k
    refine ⟨_, rfl, p, rfl, ⟨_, lp.seq⟩, fun D hD => ?_⟩
    refine lc_each (e := nv) (xs := xs) (fun n => some (.bl (ys.contains n))) (by omega) hD lp.seq ?_ ?_
    · intro n H2 Kt Kf hm s2 kt kf
      refine ⟨rfl, _, rfl, _, rfl, q, _, rfl, .inl (lq.same s2).seq, rfl, flat_nats _, ?_⟩
      rw [if_neg Bool.false_ne_true, inV_nat]
      exact kt _ _ rfl (Same.refl _)
    · intro H2 s2 hL
      refine ⟨D, xs.map fun n => ys.contains n, rfl, SqL.of ?_, ?_⟩
      · rw [hL, filterMap_some, List.map_map]
        rfl
      · rw [all_id]
        exact k H2 s2
/-! ### least_ones -/
theorem sc_least_ones : FnScope ["rows", "found", "row", "other"] ["rows"] (defScope s_least_ones) := ⟨rfl, rfl, rfl, by decide +kernel, rfl, by decide +kernel, by decide +kernel⟩
theorem ok_least_ones {f : Addr} {fd : FuncData} (F : Fun K "least_ones" "least_ones" s_least_ones f fd) (T : Txt K mg R fR CN CH) (c_is_within : OkF P w K mg base CX0 1 "is_within" ["one", "other"] (spIsWithin)) :
    FnOk P w K mg base CX0 2 f fd ["rows"] (spLeastOnes) := by
  refine F.ok sc_least_ones (fun vs H Q E h => ?_) (fun cdv A outer s H vs Q E hr h => ?_)
  · obtain ⟨p, l, rfl, _⟩ := h
    rfl
  · obtain ⟨p, l, rfl, k⟩ := h
    refine ⟨_, (pss_cons (ps_set (i := 1) sc_least_ones.nd rfl (Or.inl rfl) (pe_lst pa_nil))
      (pss_cons (ps_for PassesOwn.never rfl (pi_list (pv 0)) (pg_name (i := 2) sc_least_ones.nd rfl (Or.inr rfl)) (pss_one (ps_if (pt_not (pt_val (pe_callB (r := rAny K) (cr_any rfl) (by rfl) T.zany (by decide +kernel) (pa_cons (pe_lc (own := [("other", 3)]) (g := (gName 3)) rfl sc_least_ones.nd (pi_list (pv 1)) (blkOk_by (own := [("other", 3)]) (N := ["rows", "found", "row", "other"]) (sc := defScope s_least_ones) (by decide +kernel)) (fun _ _ _ _ _ => (pg_name (i := 3) sc_least_ones.nd rfl (Or.inl rfl))) (fun _ _ _ _ _ => pts_nil) (fun _ _ _ _ _ => (pc c_is_within hr (by decide) pass0 (pa_cons (pv 3) (pa_cons (pv 2) pa_nil))))) pa_nil)))) (pss_one (ps_expr (pe_bm PySem.F.plainAttrs_list PySem.F.slot_list_append PySem.F.type_list_append mt_append (pv 1) (pa_cons (pv 2) pa_nil)))) pss_nil)))
      (pss_one (ps_ret (pe_callB (r := rSortedD K) (cr_sortedD hr) (by rfl) T.zsorted (by decide +kernel) (pa_cons (pv 1) pa_nil)))))), ?_⟩
    obtain ⟨⟨prs, hp, rw_, rfl⟩, hn, hm, k⟩ := k
    rw [List.length_map] at hn
    refine ⟨small_line (show 0 ≤ 1000000 by decide), fun q hq => ?_⟩
    refine ⟨_, rfl, p, rfl, ⟨_, SqL.of (same_new hq _ _ hp)⟩, ?_⟩
    refine for_each (e := Prod.fst) (xs := prs) (fun pre σ H' => Same H H' ∧ ∃ (fs : List (V × List Nat)) (v2 : Option V), H' q = some (.lst (fs.map Prod.fst)) ∧ fs.map Prod.snd = (pre.map Prod.snd).foldl keep [] ∧ (∀ x ∈ fs, x ∈ prs) ∧ fs.length ≤ pre.length ∧ σ = [some (.ref p), some (.ref q), v2, none])
      ⟨same_new hq, [], none, upd_same, rfl, fun _ h => (by cases h), Nat.le_refl _, rfl⟩ (fun pre σ H' z => SqL.of (z.1 _ _ hp)) ?_ ?_
    · rintro pre x post σ H2 ex ⟨s2, fs, v2, hL, ef, mf, lf, rfl⟩
      have hx : x ∈ prs := by rw [ex]; simp
      have plen : pre.length ≤ 20000 := by
        have := congrArg List.length ex
        rw [List.length_append, List.length_cons] at this
        omega
      obtain ⟨xa, ea, lx⟩ := rw_ x hx
      refine ⟨_, rfl, q, rfl, ⟨_, SqL.of hL⟩, fun D hD => ?_⟩
      refine lc_each (e := Prod.fst) (xs := fs) (fun o => some (.bl (Sq62.within o.2 x.2))) (by omega) hD (SqL.of hL) ?_ ?_
      · intro o H3 Kt Kf ho s3 kt kf
        obtain ⟨oa, eo, lo⟩ := rw_ o (mf o ho)
        refine ⟨rfl, _, rfl, _, rfl, oa, xa, o.2, x.2, ?_, lo.same (s2.trans s3), lx.same (s2.trans s3), hm _ (List.mem_map.mpr ⟨o, mf o ho, rfl⟩), fun H4 s4 => kt _ _ rfl s4⟩
        show [o.1, x.1] = _
        rw [eo, ea]
      · intro H3 s3 hL3
        refine ⟨D, fs.map fun o => Sq62.within o.2 x.2, rfl, SqL.of ?_, _, rfl, ?_⟩
        · rw [hL3, filterMap_some, List.map_map]
          rfl
        have eany : ((fs.map fun o => Sq62.within o.2 x.2).any id) = (fs.map Prod.snd).any fun o => Sq62.within o x.2 := by
          rw [any_id, List.any_map]
          rfl
        rw [eany]
        have em : ((pre ++ [x]).map Prod.snd).foldl keep [] = keep (fs.map Prod.snd) x.2 := by
          rw [List.map_append, List.foldl_append, ← ef]
          rfl
        cases c : (fs.map Prod.snd).any fun o => Sq62.within o x.2 with
        | true =>
          refine iteF ⟨s2.trans s3, fs, _, s3 _ _ hL, ?_, mf, by rw [List.length_append]; omega, rfl⟩
          rw [em]
          unfold keep
          rw [if_pos c]
        | false =>
          refine iteT ⟨_, rfl, .inl ⟨rfl, _, SqL.of (s3 _ _ hL)⟩, _, rfl, q, _, _, rfl, rfl, s3 _ _ hL, ?_, ?_⟩
          · rw [List.length_map, sizeLine_eq]
            omega
          refine ⟨same_upd hq (s2.trans s3), fs ++ [x], _, ?_, ?_, ?_, ?_, rfl⟩
          · rw [upd_same, List.map_append]
            rfl
          · rw [em, List.map_append]
            unfold keep
            rw [if_neg (by rw [c]; exact Bool.false_ne_true)]
            rfl
          · intro y hy
            rcases List.mem_append.mp hy with z | z
            · exact mf y z
            · rw [List.mem_singleton] at z
              rw [z]
              exact hx
          · simp only [List.length_append, List.length_singleton]
            omega
    · rintro σ H2 ⟨s2, fs, v2, hL, ef, mf, lf, rfl⟩
      let en : V × List Nat → V × PyData := fun y => (y.1, dR y.2)
      refine ⟨_, rfl, q, fs.map en, rfl, SqL.of (by rw [hL, List.map_map]; rfl), ?_, ?_, ?_, ?_, fun L hLn => ?_⟩
      · intro b hb
        obtain ⟨y, hy, rfl⟩ := List.mem_map.mp hb
        obtain ⟨ya, ey, ly⟩ := rw_ y (mf y hy)
        show Dp K H2 y.1 _
        rw [ey]
        exact dp_row (ly.same s2)
      · rw [List.map_map]
        exact PySem.W.AllAlike.of fun _ _ => alike_row _ _
      · rw [List.map_map]
        exact PySem.W.Sortable.others fun _ => ⟨(fun z => nomatch z), (fun _ z => nomatch z)⟩
      · intro b hb
        obtain ⟨y, hy, rfl⟩ := List.mem_map.mp hb
        show (dR y.2).depth ≤ 60
        rw [depth_row]
        decide
      have es : (fs.map en).mergeSort (PySem.W.dataLe false Prod.snd) = (fs.mergeSort (fun x y => PySem.W.dataLe false (fun z : V × List Nat => dR z.2) x y)).map en := (PySem.W.sort_maps en (fun _ _ _ _ => rfl)).symm
      have pz := List.mergeSort_perm fs (fun x y => PySem.W.dataLe false (fun z : V × List Nat => dR z.2) x y)
      have wz := PySem.W.sort_pairwise (dataLe_total fun z : V × List Nat => dR z.2) fs
      generalize hzs : fs.mergeSort (fun x y => PySem.W.dataLe false (fun z : V × List Nat => dR z.2) x y) = zs at es pz wz
      rw [es]
      refine k _ L (zs.map Prod.snd) (s2.trans (same_new hLn)) ⟨zs, ?_, ?_, rfl⟩ ?_ ?_
      · rw [upd_same, List.map_map]
        rfl
      · intro x hx
        exact ((rw_ x (mf x (pz.mem_iff.mp hx))).same s2).same (same_new hLn)
      · rw [← ef]
        exact pz.map _
      · refine List.Pairwise.map _ (fun x y h => ?_) wz
        have h : (!PySem.W.dataLt (dR y.2) (dR x.2)) = true := h
        rw [dataLt_row] at h
        unfold leP
        simpa using h
/-! ### least_siphons -/
theorem sc_least_siphons : FnScope ["net", "row"] ["net"] (defScope s_least_siphons) := ⟨rfl, rfl, rfl, by decide +kernel, rfl, by decide +kernel, by decide +kernel⟩
theorem ok_least_siphons {f : Addr} {fd : FuncData} (F : Fun K "least_siphons" "least_siphons" s_least_siphons f fd) (T : Txt K mg R fR CN CH) (c_least_ones : OkF P w K mg base CX0 2 "least_ones" ["rows"] (spLeastOnes)) (c_is_siphon : OkF P w K mg base CX0 2 "is_siphon" ["net", "places"] (spIsSiphon CN)) (c_all_choices : OkF P w K mg base CX0 1 "all_choices" ["n"] (spAllChoices)) :
    FnOk P w K mg base CX0 3 f fd ["net"] (spLeastSiphons CN) := by
  refine F.ok sc_least_siphons (fun vs H Q E h => ?_) (fun cdv A outer s H vs Q E hr h => ?_)
  · obtain ⟨a, g, rfl, _⟩ := h
    rfl
  · obtain ⟨a, g, rfl, k⟩ := h
    refine ⟨_, (pss_one (ps_ret (pc c_least_ones hr (by decide) pass0 (pa_cons (pe_lc (own := [("row", 1)]) (g := (gName 1)) rfl sc_least_siphons.nd (pi_list (pc c_all_choices hr (by decide) pass0 (pa_cons (pf (K := K) rfl (pv 0) rfl) pa_nil))) (blkOk_by (own := [("row", 1)]) (N := ["net", "row"]) (sc := defScope s_least_siphons) (by decide +kernel)) (fun _ _ _ _ _ => (pg_name (i := 1) sc_least_siphons.nd rfl (Or.inl rfl))) (fun _ _ _ _ _ => (pts_one (pt_val (pc c_is_siphon hr (by decide) pass0 (pa_cons (pv 0) (pa_cons (pv 1) pa_nil)))))) (fun _ _ _ _ _ => (pv 1))) pa_nil)))), ?_⟩
    obtain ⟨net, k⟩ := k
    obtain ⟨gok, dx, q, hH, trs⟩ := id net
    refine ⟨_, rfl, a, CN, dx, _, _, rfl, hH, T.clN, T.nN, netF_n _ _, g.n, rfl, gok.n9, fun H1 p1 l s1 rows ch => ?_⟩
    obtain ⟨prs, hp, rw_, rfl⟩ := rows
    have hlen : prs.length ≤ 512 := by
      have := ch.length
      have p29 : 2 ^ g.n ≤ 512 := Nat.pow_le_pow_right (by decide) gok.n9
      rw [List.length_map] at this
      omega
    have r9 : ∀ r ∈ prs.map Prod.snd, r.length ≤ 9 := fun r hr => Nat.le_trans (rising_len (ch.rising r hr) (ch.bound r hr)) gok.n9
    refine ⟨p1, rfl, ⟨_, SqL.of hp⟩, fun D hD => ?_⟩
    refine lc_each (e := Prod.fst) (xs := prs) (fun x => if g.siphon x.2 = true then some x.1 else none) (by omega) hD (SqL.of hp) ?_ ?_
    · intro x H2 Kt Kf hx s2 kt kf
      obtain ⟨xa, ex, lx⟩ := rw_ x hx
      have x9 := r9 x.2 (List.mem_map.mpr ⟨x, hx, rfl⟩)
      refine ⟨rfl, _, rfl, _, rfl, a, xa, g, x.2, ?_, net.same (s1.trans s2), lx.same s2, by omega, fun H3 s3 => ⟨_, rfl, ?_⟩⟩
      · show [V.ref a, x.1] = _
        rw [ex]
      · refine ite2 (fun c => ?_) (fun c => ?_)
        · exact ⟨_, rfl, kt _ _ (if_pos c) s3⟩
        · exact kf _ (if_neg c) s3
    · intro H2 s2 hL
      have efil : (prs.filter fun x => g.siphon x.2).map Prod.snd = (prs.map Prod.snd).filter g.siphon := by
        rw [List.filter_map]
        rfl
      refine ⟨D, (prs.map Prod.snd).filter g.siphon, rfl, ⟨prs.filter fun x => g.siphon x.2, ?_, ?_, efil⟩, ?_, ?_, fun H3 q3 out s3 rows perm pw => ?_⟩
      · rw [hL, filterMap_if]
      · intro x hx
        exact (rw_ x (List.mem_filter.mp hx).1).same s2
      · have := List.length_filter_le g.siphon (prs.map Prod.snd)
        rw [List.length_map] at this
        omega
      · intro r hr
        have := r9 r (List.mem_filter.mp hr).1
        omega
      · rw [siphons_is ch perm pw] at rows
        exact k H3 q3 ((s1.trans s2).trans s3) rows
/-! ### least_traps -/
theorem sc_least_traps : FnScope ["net", "row"] ["net"] (defScope s_least_traps) := ⟨rfl, rfl, rfl, by decide +kernel, rfl, by decide +kernel, by decide +kernel⟩
theorem ok_least_traps {f : Addr} {fd : FuncData} (F : Fun K "least_traps" "least_traps" s_least_traps f fd) (T : Txt K mg R fR CN CH) (c_least_ones : OkF P w K mg base CX0 2 "least_ones" ["rows"] (spLeastOnes)) (c_is_trap : OkF P w K mg base CX0 2 "is_trap" ["net", "places"] (spIsTrap CN)) (c_all_choices : OkF P w K mg base CX0 1 "all_choices" ["n"] (spAllChoices)) :
    FnOk P w K mg base CX0 3 f fd ["net"] (spLeastTraps CN) := by
  refine F.ok sc_least_traps (fun vs H Q E h => ?_) (fun cdv A outer s H vs Q E hr h => ?_)
  · obtain ⟨a, g, rfl, _⟩ := h
    rfl
  · obtain ⟨a, g, rfl, k⟩ := h
    refine ⟨_, (pss_one (ps_ret (pc c_least_ones hr (by decide) pass0 (pa_cons (pe_lc (own := [("row", 1)]) (g := (gName 1)) rfl sc_least_traps.nd (pi_list (pc c_all_choices hr (by decide) pass0 (pa_cons (pf (K := K) rfl (pv 0) rfl) pa_nil))) (blkOk_by (own := [("row", 1)]) (N := ["net", "row"]) (sc := defScope s_least_traps) (by decide +kernel)) (fun _ _ _ _ _ => (pg_name (i := 1) sc_least_traps.nd rfl (Or.inl rfl))) (fun _ _ _ _ _ => (pts_one (pt_val (pc c_is_trap hr (by decide) pass0 (pa_cons (pv 0) (pa_cons (pv 1) pa_nil)))))) (fun _ _ _ _ _ => (pv 1))) pa_nil)))), ?_⟩
    obtain ⟨net, k⟩ := k
    obtain ⟨gok, dx, q, hH, trs⟩ := id net
    refine ⟨_, rfl, a, CN, dx, _, _, rfl, hH, T.clN, T.nN, netF_n _ _, g.n, rfl, gok.n9, fun H1 p1 l s1 rows ch => ?_⟩
    obtain ⟨prs, hp, rw_, rfl⟩ := rows
    have hlen : prs.length ≤ 512 := by
      have := ch.length
      have p29 : 2 ^ g.n ≤ 512 := Nat.pow_le_pow_right (by decide) gok.n9
      rw [List.length_map] at this
      omega
    have r9 : ∀ r ∈ prs.map Prod.snd, r.length ≤ 9 := fun r hr => Nat.le_trans (rising_len (ch.rising r hr) (ch.bound r hr)) gok.n9
    refine ⟨p1, rfl, ⟨_, SqL.of hp⟩, fun D hD => ?_⟩
    refine lc_each (e := Prod.fst) (xs := prs) (fun x => if g.trap x.2 = true then some x.1 else none) (by omega) hD (SqL.of hp) ?_ ?_
    · intro x H2 Kt Kf hx s2 kt kf
      obtain ⟨xa, ex, lx⟩ := rw_ x hx
      have x9 := r9 x.2 (List.mem_map.mpr ⟨x, hx, rfl⟩)
      refine ⟨rfl, _, rfl, _, rfl, a, xa, g, x.2, ?_, net.same (s1.trans s2), lx.same s2, by omega, fun H3 s3 => ⟨_, rfl, ?_⟩⟩
      · show [V.ref a, x.1] = _
        rw [ex]
      · refine ite2 (fun c => ?_) (fun c => ?_)
        · exact ⟨_, rfl, kt _ _ (if_pos c) s3⟩
        · exact kf _ (if_neg c) s3
    · intro H2 s2 hL
      have efil : (prs.filter fun x => g.trap x.2).map Prod.snd = (prs.map Prod.snd).filter g.trap := by
        rw [List.filter_map]
        rfl
      refine ⟨D, (prs.map Prod.snd).filter g.trap, rfl, ⟨prs.filter fun x => g.trap x.2, ?_, ?_, efil⟩, ?_, ?_, fun H3 q3 out s3 rows perm pw => ?_⟩
      · rw [hL, filterMap_if]
      · intro x hx
        exact (rw_ x (List.mem_filter.mp hx).1).same s2
      · have := List.length_filter_le g.trap (prs.map Prod.snd)
        rw [List.length_map] at this
        omega
      · intro r hr
        have := r9 r (List.mem_filter.mp hr).1
        omega
      · rw [traps_is ch perm pw] at rows
        exact k H3 q3 ((s1.trans s2).trans s3) rows
/-! ### are_few -/
theorem sc_are_few : FnScope ["marking", "tokens"] ["marking"] (defScope s_are_few) := ⟨rfl, rfl, rfl, by decide +kernel, rfl, by decide +kernel, by decide +kernel⟩
theorem ok_are_few {f : Addr} {fd : FuncData} (F : Fun K "are_few" "are_few" s_are_few f fd) (T : Txt K mg R fR CN CH)  :
    FnOk P w K mg base CX0 1 f fd ["marking"] (spAreFew) := by
  refine F.ok sc_are_few (fun vs H Q E h => ?_) (fun cdv A outer s H vs Q E hr h => ?_)
  · obtain ⟨p, m, rfl, _⟩ := h
    rfl
  · obtain ⟨p, m, rfl, k⟩ := h
    refine ⟨_, (pss_one (ps_ret (pe_callB (r := rAll K) (cr_all rfl) (by rfl) T.zall (by decide +kernel) (pa_cons (pe_lc (own := [("tokens", 1)]) (g := (gName 1)) rfl sc_are_few.nd (pi_list (pv 0)) (blkOk_by (own := [("tokens", 1)]) (N := ["marking", "tokens"]) (sc := defScope s_are_few) (by decide +kernel)) (fun _ _ _ _ _ => (pg_name (i := 1) sc_are_few.nd rfl (Or.inl rfl))) (fun _ _ _ _ _ => pts_nil) (fun _ _ _ _ _ => (pe_cmpR op_le (pv 1) (pgc T.gMOST_TOKENS) (nomark _)))) pa_nil)))), ?_⟩
    obtain ⟨lp, hn, k⟩ := k
    refine ⟨_, rfl, p, rfl, ⟨_, lp.seq⟩, fun D hD => ?_⟩
    refine lc_each (e := nv) (xs := m) (fun x => some (.bl (decide (x ≤ 1000)))) (by omega) hD lp.seq ?_ ?_
    · intro x H2 Kt Kf hm s2 kt kf
      refine ⟨rfl, _, rfl, _, _, rfl, rfl, ?_⟩
      have e := dle x 1000
      exact kt _ _ (congrArg some (congrArg V.bl e.symm)) (Same.refl _)
    · intro H2 s2 hL
      refine ⟨D, m.map fun x => decide (x ≤ 1000), rfl, SqL.of ?_, ?_⟩
      · rw [hL, filterMap_some, List.map_map]
        rfl
      · rw [all_id]
        exact k H2 s2
/-! ### rows_told -/
theorem sc_rows_told : FnScope ["rows", "told", "row"] ["rows"] (defScope s_rows_told) := ⟨rfl, rfl, rfl, by decide +kernel, rfl, by decide +kernel, by decide +kernel⟩
theorem ok_rows_told {f : Addr} {fd : FuncData} (F : Fun K "rows_told" "rows_told" s_rows_told f fd) (T : Txt K mg R fR CN CH) (c_counted : OkF P w K mg base CX0 1 "counted" ["row"] (spCounted)) :
    FnOk P w K mg base CX0 2 f fd ["rows"] (spRowsTold) := by
  refine F.ok sc_rows_told (fun vs H Q E h => ?_) (fun cdv A outer s H vs Q E hr h => ?_)
  · obtain ⟨p, l, rfl, _⟩ := h
    rfl
  · obtain ⟨p, l, rfl, k⟩ := h
    refine ⟨_, (pss_cons (ps_set (i := 1) sc_rows_told.nd rfl (Or.inl rfl) (pe_lst (pa_cons (pe_callB (r := rLen K) call_len_seq (by rfl) T.zlen PySem.boot_len (pa_cons (pv 0) pa_nil)) pa_nil)))
      (pss_cons (ps_for PassesOwn.never rfl (pi_list (pv 0)) (pg_name (i := 2) sc_rows_told.nd rfl (Or.inl rfl)) (pss_one (ps_expr (pe_bm PySem.F.plainAttrs_list PySem.F.slot_list_extend PySem.F.type_list_extend mt_extend (pv 1) (pa_cons (pc c_counted hr (by decide) pass0 (pa_cons (pv 2) pa_nil)) pa_nil)))))
      (pss_one (ps_ret (pv 1))))), ?_⟩
    obtain ⟨⟨prs, hp, rw_, rfl⟩, hn, hm, k⟩ := k
    have hl : (prs.map Prod.snd).length = (prs.map Prod.fst).length := by rw [List.length_map, List.length_map]
    refine ⟨_, rfl, p, _, rfl, .inl (SqL.of hp), small_line (show 1 ≤ 1000000 by decide), fun q hq => ?_⟩
    refine ⟨_, rfl, p, rfl, ⟨_, SqL.of (same_new hq _ _ hp)⟩, ?_⟩
    refine for_each (e := Prod.fst) (xs := prs) (fun pre σ H' => Same H H' ∧ LI H' q ((prs.map Prod.snd).length :: (pre.map Prod.snd).flatMap fun s => s.length :: s) ∧ ∃ v2, σ = [some (.ref p), some (.ref q), v2])
      ⟨same_new hq, by rw [hl]; exact upd_same, none, rfl⟩ (fun pre σ H' z => SqL.of (z.1 _ _ hp)) ?_ ?_
    · rintro pre x post σ H2 ex ⟨s2, lq, v2, rfl⟩
      have hx : x ∈ prs := by rw [ex]; simp
      have xm := hm x.2 (List.mem_map.mpr ⟨x, hx, rfl⟩)
      obtain ⟨xa, ea, lx⟩ := rw_ x hx
      have plen : pre.length + 1 ≤ 1000 := by
        have := congrArg List.length ex
        rw [List.length_append, List.length_cons] at this
        rw [List.length_map] at hn
        omega
      have fl := rows_len (l := pre.map Prod.snd) (k := 1000) fun r hr => hm r (by
        obtain ⟨y, hy, rfl⟩ := List.mem_map.mp hr
        exact List.mem_map.mpr ⟨y, by rw [ex]; exact List.mem_append_left _ hy, rfl⟩)
      rw [List.length_map] at fl
      refine ⟨_, rfl, .inl ⟨rfl, _, SqL.of lq⟩, _, rfl, xa, x.2, ?_, lx.same s2, by omega, fun H3 r _ s3 lr => ?_⟩
      · show [x.1] = _
        rw [ea]
      refine ⟨q, r, _, _, rfl, rfl, s3 _ _ lq, lr, ?_, ?_⟩
      · simp only [List.length_map, List.length_cons, sizeLine_eq]
        omega
      refine ⟨same_upd hq (s2.trans s3), ?_, _, rfl⟩
      show _ = _
      rw [upd_same, ← List.map_append, List.map_append (f := Prod.snd), List.flatMap_append]
      simp
    · rintro σ H2 ⟨s2, lq, v2, rfl⟩
      exact ⟨_, rfl, k H2 q hq s2 lq⟩
/-! ### House.__init__ -/
theorem sc_House_init : FnScope ["self"] ["self"] (defScope s_House_init) := ⟨rfl, rfl, rfl, by decide +kernel, rfl, by decide +kernel, by decide +kernel⟩
theorem ok_House_init {f : Addr} {fd : FuncData} (F : Fun K "__init__" "House.__init__" s_House_init f fd) (T : Txt K mg R fR CN CH) (c_Net_init : OkI P w K mg base CN CX0 1 "Net" ["self", "n", "transitions"] (spNetInit CN)) :
    FnOk P w K mg base CX0 3 f fd ["self"] (spHouseInit CN CH) := by
  refine F.ok sc_House_init (fun vs H Q E h => ?_) (fun cdv A outer s H vs Q E hr h => ?_)
  · obtain ⟨a, dx, rfl, _⟩ := h
    rfl
  · obtain ⟨a, dx, rfl, k⟩ := h
    refine ⟨_, (pss_cons (ps_fld (pv 0) (pk c_Net_init hr (by decide) pass0 (pa_cons pe_int (pa_cons (pe_lst (pa_cons (pe_tup (pa_cons (pe_lst (pa_cons pe_int pa_nil)) (pa_cons (pe_lst (pa_cons pe_int pa_nil)) pa_nil))) pa_nil)) pa_nil))) rfl)
      (pss_one (ps_fld (pv 0) (pe_lst (pa_cons pe_int pa_nil)) rfl))), ?_⟩
    obtain ⟨hp, k⟩ := k
    refine ⟨small_line (show 1 ≤ 1000000 by decide), fun r1 h1 => ⟨small_line (show 1 ≤ 1000000 by decide), fun r2 h2 => ⟨small_line (show 2 ≤ 1000000 by decide), fun t ht => ⟨small_line (show 1 ≤ 1000000 by decide), fun q hq => fun x dxn nx nd ne => ?_⟩⟩⟩⟩
    refine ⟨x, dxn, 1, q, rfl, upd_same, fun H5 hx but => ⟨rfl, ?_⟩⟩
    have s5 := Same.made nx nd but
    have s1 := same_new (o := .lst [V.int 0]) h1
    have s2 := same_new (o := .lst [V.int 0]) h2
    have s3 := same_new (o := .tup [.ref r1, .ref r2]) ht
    have s4 := same_new (o := .lst [.ref t]) hq
    have s05 := (s1.trans (s2.trans (s3.trans s4))).trans s5
    have ha := s05 _ _ hp
    have nxa : x ≠ a := fun z => by
      have e := (s1.trans (s2.trans (s3.trans s4))) _ _ hp
      rw [← z, nx] at e
      cases e
    have net : NetAt CN H5 x ⟨1, [⟨[0], [0]⟩]⟩ := by
      refine ⟨⟨Nat.le_refl _, by decide, by decide, ?_, ?_⟩, dxn, q, hx, [(.ref t, ⟨[0], [0]⟩)], s5 _ _ upd_same, ?_, rfl⟩
      · intro t ht
        rw [List.mem_singleton] at ht
        subst ht
        exact ⟨rfl, fun p hp => by rw [List.mem_singleton] at hp; subst hp; decide⟩
      · intro t ht
        rw [List.mem_singleton] at ht
        subst ht
        exact ⟨rfl, fun p hp => by rw [List.mem_singleton] at hp; subst hp; decide⟩
      · intro y hy
        rw [List.mem_singleton] at hy
        subst hy
        exact ⟨t, r1, r2, rfl, s5 _ _ (s4 _ _ upd_same), s5 _ _ (s4 _ _ (s3 _ _ (s2 _ _ upd_same))), s5 _ _ (s4 _ _ (s3 _ _ upd_same))⟩
    refine ⟨_, rfl, a, CH, dx, [], rfl, ha, T.clH, T.nE, (by show 0 < 1000; decide), ?_⟩
    have i5 : IsIns H5 a := ⟨_, _, _, ha⟩
    refine ⟨small_line (show 1 ≤ 1000000 by decide), fun m hm => ?_⟩
    have nma : a ≠ m := fun z => by rw [← z, upd_same] at hm; cases hm
    refine ⟨_, rfl, a, CH, dx, _, rfl, (upd_ne nma).trans upd_same, T.clH, T.nM, (by show 1 < 1000; decide), ?_⟩
    refine k _ ?_ ?_
    · rw [houF_new]
      refine house_put rfl ⟨_, _, _, (upd_ne nma).trans upd_same⟩ ?_ nxa upd_same
      exact (net.keep nxa i5 but_upd).same (same_new hm)
    · intro b o e n
      rw [upd_ne n]
      refine same_new hm _ _ ?_
      rw [upd_ne n]
      exact s05 _ _ e
/-! ### House.begin -/
theorem sc_House_begin : FnScope ["self", "n", "row", "marking", "transitions", "net"] ["self", "n", "row", "marking"] (defScope s_House_begin) := ⟨rfl, rfl, rfl, by decide +kernel, rfl, by decide +kernel, by decide +kernel⟩
theorem ok_House_begin {f : Addr} {fd : FuncData} (F : Fun K "begin" "House.begin" s_House_begin f fd) (T : Txt K mg R fR CN CH) (c_Net_ask_good : OkM P w K mg base CN (L2.CX P w) 4 "ask_good" ["self"] (spAskGood R CN)) (c_Net_init : OkI P w K mg base CN CX0 1 "Net" ["self", "n", "transitions"] (spNetInit CN)) (c_ask : OkF P w K mg base (L2.CX P w) 3 "ask" ["good", "told"] (spAsk R)) (c_are_few : OkF P w K mg base CX0 1 "are_few" ["marking"] (spAreFew)) (c_ask_few : OkF P w K mg base (L2.CX P w) 4 "ask_few" ["transitions"] (spAskFew R)) (c_read_transitions : OkF P w K mg base (L2.CX P w) 5 "read_transitions" ["n", "row"] (spReadTransitions R)) (c_ask_places : OkF P w K mg base (L2.CX P w) 4 "ask_places" ["n"] (spAskPlaces R)) :
    FnOk P w K mg base (L2.CX P w) 6 f fd ["self", "n", "row", "marking"] (spBegin R CN CH) := by
  refine F.okX sc_House_begin (fun vs H Q E h => ?_) (fun cdv A outer s H vs Q E hr h => ?_)
  · obtain ⟨a, n, p, q, h, l, m, rfl, _⟩ := h
    rfl
  · obtain ⟨a, n, p, q, h, l, m, rfl, k⟩ := h
    refine ⟨_, (pss_cons (ps_expr (pc c_ask_places hr (by decide) (passes_call (takes_of rfl rfl rfl rfl) (fun _ _ _ _ h => h)) (pa_cons (pv 1) pa_nil)))
      (pss_cons (ps_set (i := 4) sc_House_begin.nd rfl (Or.inl rfl) (pc c_read_transitions hr (by decide) (passes_call (takes_of rfl rfl rfl rfl) (fun _ _ _ _ h => h)) (pa_cons (pv 1) (pa_cons (pv 2) pa_nil))))
      (pss_cons (ps_expr (pc c_ask hr (by decide) (passes_call (takes_of rfl rfl rfl rfl) (fun _ _ _ _ h => h)) (pa_cons (pe_cmpR op_eq (pe_callB (r := rLen K) call_len_seq (by rfl) T.zlen PySem.boot_len (pa_cons (pv 3) pa_nil)) (pv 1) (nomark _)) (pa_cons (pgc T.gNOT_TOLD) pa_nil))))
      (pss_cons (ps_expr (pc c_ask_few hr (by decide) (passes_call (takes_of rfl rfl rfl rfl) (fun _ _ _ _ h => h)) (pa_cons (pv 4) pa_nil)))
      (pss_cons (ps_expr (pc c_ask hr (by decide) (passes_call (takes_of rfl rfl rfl rfl) (fun _ _ _ _ h => h)) (pa_cons (pc c_are_few hr (by decide) pass0 (pa_cons (pv 3) pa_nil)) (pa_cons (pgc T.gWRONG) pa_nil))))
      (pss_cons (ps_set (i := 5) sc_House_begin.nd rfl (Or.inl rfl) (pk c_Net_init hr (by decide) pass0 (pa_cons (pv 1) (pa_cons (pv 4) pa_nil))))
      (pss_cons (ps_expr (pm0 (pv 5) T.clN c_Net_ask_good hr (by decide) (passes_call (takes_of rfl rfl rfl rfl) (fun _ _ _ _ h => h))))
      (pss_cons (ps_fld (pv 0) (pv 5) rfl)
      (pss_cons (ps_fld (pv 0) (pe_callTy (r := rListOf K) call_list_of (by rfl) T.zlist (by decide +kernel) (pa_cons (pv 3) pa_nil)) rfl)
      (pss_one (ps_ret (pe_lst (pa_cons (pe_callB (r := rLen K) call_len_seq (by rfl) T.zlen PySem.boot_len (pa_cons (pv 4) pa_nil)) pa_nil))))))))))))), ?_⟩
    obtain ⟨hh, lp, lq, hn, hm, k⟩ := k
    obtain ⟨ml, dx, b, mp, hH, net, lm⟩ := id hh
    obtain ⟨gok, dxn, tq0, hN, trs0⟩ := id net
    have hl : (m.map nv).length = m.length := List.length_map ..
    have st : h.step (.begin_ n l m) = (if n = 0 ∨ Sq62.PLACES < n then (h, Sq62.says (-1)) else match Sq62.transitions n l.length l with
      | none => (h, Sq62.says (-3))
      | some ts => if m.length ≠ n then (h, Sq62.says (-3)) else if Sq62.TRANSITIONS < ts.length ∨ Sq62.small m = false then (h, Sq62.says (-1)) else if Sq62.used n ts = false then (h, Sq62.says (-4)) else (⟨⟨n, ts⟩, m⟩, Sq62.says ts.length)) := rfl
    refine ⟨_, rfl, n, rfl, fun c H1 s1 => ?_, fun c => ?_⟩
    · have nn : ¬ (n = 0 ∨ Sq62.PLACES < n) := by
        show ¬ (n = 0 ∨ 9 < n)
        omega
      rw [if_neg nn] at st
      refine ⟨_, rfl, _, rfl, n, p, l, rfl, lp.same s1, by omega, fun z => ?_, fun ts ets okt tlen H2 tq s2 trs => ?_⟩
      · rw [z] at st
        exact Rf.same (k.bad st (by decide)) s1
      rw [ets] at st
      have s02 := s1.trans s2
      refine ⟨_, rfl, q, _, rfl, .inl (lq.same s02).seq, _, rfl, rfl, _, _, rfl, fun c2 => ?_, fun c2 => ?_⟩
      · have c2 : (((m.map nv).length : Nat) : Int) = (n : Int) := V.int.inj (of_decide_eq_true c2)
        rw [hl] at c2
        have c2 : m.length = n := by omega
        have st : h.step (.begin_ n l m) = (if Sq62.TRANSITIONS < ts.length ∨ Sq62.small m = false then (h, Sq62.says (-1)) else if Sq62.used n ts = false then (h, Sq62.says (-4)) else (⟨⟨n, ts⟩, m⟩, Sq62.says ts.length)) := st.trans (if_neg fun z => z c2)
        refine ⟨_, rfl, tq, ts, rfl, trs.same nw_same, fun c3 H3 s3 => ?_, fun c3 => ?_⟩
        · have s03 := s02.trans s3
          refine ⟨_, rfl, q, m, rfl, lq.same s03, by omega, fun H4 s4 => ⟨_, _, rfl, fun c4 => ?_, fun c4 => ?_⟩⟩
          · have no : ¬ (Sq62.TRANSITIONS < ts.length ∨ Sq62.small m = false) := by
              rintro (z | z)
              · have z : 10 < ts.length := z
                omega
              · rw [c4] at z
                cases z
            rw [if_neg no] at st
            have s04 := s03.trans s4
            have s24 := s3.trans s4
            refine ⟨_, rfl, _, rfl, fun x dxx nx nd ne => ?_⟩
            refine ⟨x, dxx, n, tq, rfl, upd_same, fun H5 hx but => ⟨rfl, ?_⟩⟩
            have s5 := Same.made nx nd but
            have s05 := s04.trans s5
            have nok : NetOk ⟨n, ts⟩ := ⟨by show 1 ≤ n; omega, by show n ≤ 9; omega, c3, fun t ht => (okt t ht).1, fun t ht => (okt t ht).2⟩
            have nat : NetAt CN H5 x ⟨n, ts⟩ := ⟨nok, dxx, tq, hx, ((trs.same nw_same).same s24).same s5⟩
            refine ⟨_, rfl, x, dxx, _, rfl, hx, netF_no _ _ (by decide +kernel) (by decide +kernel), x, ⟨n, ts⟩, rfl, nat, fun c5 H6 s6 => ?_, fun c5 => ?_⟩
            · have st : h.step (.begin_ n l m) = (⟨⟨n, ts⟩, m⟩, Sq62.says ts.length) := st.trans (if_neg (by rw [show Sq62.used n ts = true from c5]; exact Bool.noConfusion))
              have s06 := s05.trans s6
              have hH6 := s06 _ _ hH
              have nxa : x ≠ a := fun z => by
                have e := s04 _ _ hH
                rw [← z, nx] at e
                cases e
              refine ⟨_, rfl, _, rfl, a, CH, dx, _, rfl, hH6, T.clH, T.nE, (by show 2 < 1000; decide), ?_⟩
              rw [houF_putn]
              have i6 : IsIns H6 a := ⟨_, _, _, hH6⟩
              have lq7 : LI (upd H6 a (.ins CH dx (houF x mp))) q m := (lq.same s06).keep i6 but_upd
              have nat7 : NetAt CN (upd H6 a (.ins CH dx (houF x mp))) x ⟨n, ts⟩ := (nat.same s6).keep nxa i6 but_upd
              have trs7 : TrsAt (upd H6 a (.ins CH dx (houF x mp))) tq ts := ((((trs.same nw_same).same s24).same s5).same s6).keep i6 but_upd
              refine ⟨_, rfl, q, _, rfl, .inl lq7.seq, fun r hr => ?_⟩
              refine ⟨_, rfl, a, CH, dx, _, rfl, same_new hr _ _ upd_same, T.clH, T.nM, (by show 2 < 1000; decide), ?_⟩
              rw [houF_putm]
              have i8 : IsIns (upd (upd H6 a (.ins CH dx (houF x mp))) r (.lst (m.map nv))) a := ⟨_, _, _, same_new hr _ _ upd_same⟩
              have k68 : But a H (upd (upd H6 a (.ins CH dx (houF x mp))) r (.lst (m.map nv))) := But.same (But.trans (Same.but s06) but_upd) (same_new hr)
              have hho : Next CH CN a H h (upd (upd (upd H6 a (.ins CH dx (houF x mp))) r (.lst (m.map nv))) a (.ins CH dx (houF x r))) ⟨⟨n, ts⟩, m⟩ := by
                refine next_put k68 i8 ⟨_, _, _, hH⟩ c2 (nat7.same (same_new hr)) nxa upd_same fun z o e hz => ?_
                have za : a ≠ z := fun w => by
                  obtain ⟨_, _, _, _, e1, _⟩ := hz
                  unfold hid at e1
                  rw [if_pos w] at e1
                  cases e1
                have e7 : (upd H6 a (.ins CH dx (houF x mp))) z = some o := (upd_ne za.symm).trans (s06 _ _ e)
                have nz : r ≠ z := hid_free hr e7
                have nxz : x ≠ z := hid_free nx (s04 _ _ e)
                refine ⟨?_, at_hid upd_same nz⟩
                have hz6 : NetAt CN (hid z H6) x ⟨n, ts⟩ := by
                  refine ⟨nok, dxx, tq, at_hid (s6 _ _ hx) nxz, (trs.same (nw_hid (s1 _ _ e))).same (same_hid ((s24.trans s5).trans s6))⟩
                have hz7 : NetAt CN (hid z (upd H6 a (.ins CH dx (houF x mp)))) x ⟨n, ts⟩ := by
                  refine hz6.keep nxa ⟨_, _, _, at_hid hH6 za⟩ fun b2 o2 e2 n2 => ?_
                  by_cases w : b2 = z
                  · unfold hid at e2
                    rw [if_pos w] at e2
                    cases e2
                  · rw [hid_ne w] at e2 ⊢
                    rw [upd_ne n2]
                    exact e2
                exact hz7.same (same_hid (same_new hr))
              obtain ⟨prs, hpr, tr, et⟩ := (trs7.same (same_new hr)).keep i8 (but_upd (o := .ins CH dx (houF x r)))
              refine ⟨_, rfl, tq, _, rfl, .inl (SqL.of hpr), small_line (show 1 ≤ 1000000 by decide), fun u hu => ?_⟩
              refine k.good st (by show (0 : Int) ≤ (ts.length : Int); omega) _ u (hho.free hu) (hho.more (same_new hu)) ?_
              · show _ = _
                rw [upd_same, List.length_map, ← et, List.length_map]
                rfl
            · have st : h.step (.begin_ n l m) = (h, Sq62.says (-4)) := st.trans (if_pos c5)
              exact Rf.same (k.bad st (by decide)) s05
          · rw [if_pos (.inr c4)] at st
            exact Rf.same (k.bad st (by decide)) (s03.trans s4)
        · rw [if_pos (.inl c3)] at st
          exact Rf.same (k.bad st (by decide)) s02
      · have c2 := of_decide_eq_false c2
        have st : h.step (.begin_ n l m) = (h, Sq62.says (-3)) := st.trans (if_pos fun z => c2 (by rw [hl, z]; rfl))
        exact Rf.same (k.bad st (by decide)) s02
    · rw [if_pos (show n = 0 ∨ Sq62.PLACES < n from c)] at st
      exact k.bad st (by decide)
/-! ### House.set_marking -/
theorem sc_House_set_marking : FnScope ["self", "marking"] ["self", "marking"] (defScope s_House_set_marking) := ⟨rfl, rfl, rfl, by decide +kernel, rfl, by decide +kernel, by decide +kernel⟩
theorem ok_House_set_marking {f : Addr} {fd : FuncData} (F : Fun K "set_marking" "House.set_marking" s_House_set_marking f fd) (T : Txt K mg R fR CN CH) (c_ask : OkF P w K mg base (L2.CX P w) 3 "ask" ["good", "told"] (spAsk R)) (c_are_few : OkF P w K mg base CX0 1 "are_few" ["marking"] (spAreFew)) :
    FnOk P w K mg base (L2.CX P w) 4 f fd ["self", "marking"] (spSetMarking R CN CH) := by
  refine F.okX sc_House_set_marking (fun vs H Q E h => ?_) (fun cdv A outer s H vs Q E hr h => ?_)
  · obtain ⟨a, p, h, m, rfl, _⟩ := h
    rfl
  · obtain ⟨a, p, h, m, rfl, k⟩ := h
    refine ⟨_, (pss_cons (ps_expr (pc c_ask hr (by decide) (passes_call (takes_of rfl rfl rfl rfl) (fun _ _ _ _ h => h)) (pa_cons (pe_cmpR op_eq (pe_callB (r := rLen K) call_len_seq (by rfl) T.zlen PySem.boot_len (pa_cons (pv 1) pa_nil)) (pf (K := K) rfl (pf (K := K) rfl (pv 0) rfl) rfl) (nomark _)) (pa_cons (pgc T.gNOT_TOLD) pa_nil))))
      (pss_cons (ps_expr (pc c_ask hr (by decide) (passes_call (takes_of rfl rfl rfl rfl) (fun _ _ _ _ h => h)) (pa_cons (pc c_are_few hr (by decide) pass0 (pa_cons (pv 1) pa_nil)) (pa_cons (pgc T.gWRONG) pa_nil))))
      (pss_cons (ps_fld (pv 0) (pe_callTy (r := rListOf K) call_list_of (by rfl) T.zlist (by decide +kernel) (pa_cons (pv 1) pa_nil)) rfl)
      (pss_one (ps_ret (pe_lst (pa_cons pe_int pa_nil))))))), ?_⟩
    obtain ⟨hh, lp, hn, k⟩ := k
    obtain ⟨ml, dx, b, mp, hH, net, lm⟩ := id hh
    obtain ⟨gok, dxn, tq, hN, trs⟩ := id net
    have n9 := gok.n9
    have hl : (m.map nv).length = m.length := List.length_map ..
    have st : h.step (.set m) = (if m.length ≠ h.g.n then (h, Sq62.says (-3)) else if Sq62.small m = false then (h, Sq62.says (-1)) else ({ h with m := m }, Sq62.says 0)) := rfl
    refine ⟨_, rfl, p, _, rfl, .inl lp.seq, _, rfl, a, CH, dx, _, _, rfl, hH, T.clH, T.nE, houF_n _ _, b, CN, dxn, _, _, rfl, hN, T.clN, T.nN, netF_n _ _, rfl, _, _, rfl, fun c => ?_, fun c => ?_⟩
    · have c : (((m.map nv).length : Nat) : Int) = (h.g.n : Int) := V.int.inj (of_decide_eq_true c)
      rw [hl] at c
      have c : m.length = h.g.n := by omega
      rw [if_neg (fun z => z c)] at st
      refine ⟨_, rfl, p, m, rfl, lp, by omega, fun H1 s1 => ⟨_, _, rfl, fun d => ?_, fun d => ?_⟩⟩
      · rw [if_neg (by rw [d]; exact Bool.noConfusion)] at st
        have hH1 := s1 _ _ hH
        refine ⟨_, rfl, p, _, rfl, .inl (lp.same s1).seq, fun r hr => ?_⟩
        refine ⟨_, rfl, a, CH, dx, _, rfl, same_new hr _ _ hH1, T.clH, T.nM, (by show 2 < 1000; decide), ?_⟩
        refine ⟨small_line (show 1 ≤ 1000000 by decide), fun u hu => ?_⟩
        have hho : Next CH CN a H h (upd (upd H1 r (.lst (m.map nv))) a (.ins CH dx (houF b r))) { h with m := m } := by
          refine next_put (Same.but (s1.trans (same_new hr))) ⟨_, _, _, same_new hr _ _ hH1⟩ ⟨_, _, _, hH⟩ c ((net.same s1).same (same_new hr)) (net_ne hH hN) upd_same fun z o e hz => ?_
          have nz : r ≠ z := hid_free hr (s1 _ _ e)
          exact ⟨(house_net hz hH).same (same_hid (s1.trans (same_new hr))), at_hid upd_same nz⟩
        rw [houF_putm] at hu ⊢
        exact k.good st (by decide) _ u (hho.free hu) (hho.more (same_new hu)) upd_same
      · rw [if_pos d] at st
        exact Rf.same (k.bad st (by decide)) s1
    · have c := of_decide_eq_false c
      rw [if_pos (fun z => c (by rw [hl, z]; rfl))] at st
      exact k.bad st (by decide)
/-! ### House.fired -/
theorem sc_House_fired : FnScope ["self", "marking", "number", "takes", "puts", "place", "tokens"] ["self", "marking", "number"] (defScope s_House_fired) := ⟨rfl, rfl, rfl, by decide +kernel, rfl, by decide +kernel, by decide +kernel⟩
theorem ok_House_fired {f : Addr} {fd : FuncData} (F : Fun K "fired" "House.fired" s_House_fired f fd) (T : Txt K mg R fR CN CH) (c_ask : OkF P w K mg base (L2.CX P w) 3 "ask" ["good", "told"] (spAsk R)) :
    FnOk P w K mg base (L2.CX P w) 4 f fd ["self", "marking", "number"] (spFired R CN CH) := by
  refine F.okX sc_House_fired (fun vs H Q E h => ?_) (fun cdv A outer s H vs Q E hr h => ?_)
  · obtain ⟨a, p, i, h, m, rfl, _⟩ := h
    rfl
  · obtain ⟨a, p, i, h, m, rfl, k⟩ := h
    refine ⟨_, (pss_cons (ps_expr (pc c_ask hr (by decide) (passes_call (takes_of rfl rfl rfl rfl) (fun _ _ _ _ h => h)) (pa_cons (pe_cmpR op_lt (pv 2) (pe_callB (r := rLen K) call_len_seq (by rfl) T.zlen PySem.boot_len (pa_cons (pf (K := K) rfl (pf (K := K) rfl (pv 0) rfl) rfl) pa_nil)) (nomark _)) (pa_cons (pgc T.gNOT_TOLD) pa_nil))))
      (pss_cons (ps_asg (pe_ix (r := rIxL K) ix_list (pf (K := K) rfl (pf (K := K) rfl (pv 0) rfl) rfl) (pv 2) (fun _ _ => rfl)) (pg_tup rfl (pgs_cons (pg_name (i := 3) sc_House_fired.nd rfl (Or.inr rfl)) (pgs_cons (pg_name (i := 4) sc_House_fired.nd rfl (Or.inr rfl)) pgs_nil))))
      (pss_cons (ps_expr (pc c_ask hr (by decide) (passes_call (takes_of rfl rfl rfl rfl) (fun _ _ _ _ h => h)) (pa_cons (pe_callB (r := rAll K) (cr_all rfl) (by rfl) T.zall (by decide +kernel) (pa_cons (pe_lc (own := [("place", 5)]) (g := (gName 5)) rfl sc_House_fired.nd (pi_list (pv 3)) (blkOk_by (own := [("place", 5)]) (N := ["self", "marking", "number", "takes", "puts", "place", "tokens"]) (sc := defScope s_House_fired) (by decide +kernel)) (fun _ _ _ _ _ => (pg_name (i := 5) sc_House_fired.nd rfl (Or.inl rfl))) (fun _ _ _ _ _ => pts_nil) (fun _ _ _ _ _ => (pe_cmpR op_gt (pe_ix (r := rIxL K) ix_list (pv 1) (pv 5) (fun _ _ => rfl)) pe_int (nomark _)))) pa_nil)) (pa_cons (pgc T.gNOT_TOLD) pa_nil))))
      (pss_one (ps_ret (pe_lc (own := [("place", 5), ("tokens", 6)]) (g := (gTup K 2 (gCons (gName 5) (gCons (gName 6) gNil)))) rfl sc_House_fired.nd (pi_enum (by rfl) T.zenumerate (pa_cons (pv 1) pa_nil)) (blkOk_by (own := [("place", 5), ("tokens", 6)]) (N := ["self", "marking", "number", "takes", "puts", "place", "tokens"]) (sc := defScope s_House_fired) (by decide +kernel)) (fun _ _ _ _ _ => (pg_tup rfl (pgs_cons (pg_name (i := 5) sc_House_fired.nd rfl (Or.inl rfl)) (pgs_cons (pg_name (i := 6) sc_House_fired.nd rfl (Or.inl rfl)) pgs_nil)))) (fun _ _ _ _ _ => pts_nil) (fun _ _ _ _ _ => (pe_op op_add (pe_op op_sub (pv 6) (pe_callTy call_int1 (by rfl) T.zint (by decide +kernel) (pa_cons (pe_cmpR (r := rIn K false) op_in_seq (pv 5) (pv 3) (by rfl)) pa_nil))) (pe_callTy call_int1 (by rfl) T.zint (by decide +kernel) (pa_cons (pe_cmpR (r := rIn K false) op_in_seq (pv 5) (pv 4) (by rfl)) pa_nil)))))))))), ?_⟩
    obtain ⟨hh, lp, hm, k1, k2, k3⟩ := k
    obtain ⟨ml, dx, b, mp, hH, net, lm⟩ := id hh
    obtain ⟨gok, dxn, tq, hN, prs, hp, tr, et⟩ := id net
    have n9 := gok.n9
    have hl : (prs.map Prod.fst).length = h.g.ts.length := by rw [List.length_map, ← et, List.length_map]
    have hml : (m.map nv).length = m.length := List.length_map ..
    refine ⟨_, rfl, _, rfl, a, CH, dx, _, _, rfl, hH, T.clH, T.nE, houF_n _ _, b, CN, dxn, _, _, rfl, hN, T.clN, T.nT, netF_t _ _, tq, _, rfl, .inl (SqL.of hp), _, _, rfl, rfl, _, _, rfl, fun c => ?_, fun c => ?_⟩
    · have c : (i : Int) < (((prs.map Prod.fst).length : Nat) : Int) := of_decide_eq_true c
      rw [hl] at c
      have c : i < h.g.ts.length := by omega
      have hi' : i < prs.length := by rw [List.length_map] at hl; omega
      have eit : h.g.ts[i]? = some prs[i].2 := by
        rw [← et, List.getElem?_map, List.getElem?_eq_getElem hi']
        rfl
      have hmem : prs[i].2 ∈ h.g.ts := List.mem_of_getElem? eit
      obtain ⟨t1, t2, t3, e1, e2, l1, l2⟩ := tr prs[i] (List.getElem_mem hi')
      have eiv : (prs.map Prod.fst)[i]? = some (.ref t1) := by
        rw [List.getElem?_map, List.getElem?_eq_getElem hi', ← e1]
        rfl
      have tok := gok.takes _ hmem
      have t9 := gok.takes9 hmem
      generalize prs[i].2 = t at eit hmem l1 l2 tok t9
      refine ⟨_, rfl, a, CH, dx, _, _, rfl, hH, T.clH, T.nE, houF_n _ _, b, CN, dxn, _, _, rfl, hN, T.clN, T.nT, netF_t _ _, _, rfl, tq, _, _, _, rfl, rfl, SqL.of hp, at_of (j := i) rfl eiv, t1, _, rfl, SqT.of e2, rfl, _, _, rfl, _, _, rfl, rfl, ?_⟩
      refine ⟨_, rfl, t2, rfl, ⟨_, l1.seq⟩, fun D hD => ?_⟩
      refine lc_each (e := nv) (xs := t.takes) (fun x => some (.bl (decide (0 < Sq62.at_ m x)))) (by omega) hD l1.seq ?_ ?_
      · intro x H2 Kt Kf hx s2 kt kf
        have xn := tok.lt x hx
        refine ⟨rfl, _, rfl, _, rfl, p, _, _, _, rfl, rfl, (lp.same s2).seq, at_of (j := x) rfl (nv_at (by omega)), _, _, rfl, rfl, ?_⟩
        rw [at_get (by omega)] at kt
        exact kt _ _ (congrArg some (congrArg V.bl (dlt 0 _).symm)) (Same.refl _)
      · intro H2 s2 hL
        refine ⟨D, t.takes.map fun x => decide (0 < Sq62.at_ m x), rfl, SqL.of ?_, _, _, rfl, fun d => ?_, fun d => ?_⟩
        · rw [hL, filterMap_some, List.map_map]
          rfl
        · rw [all_id] at d
          have d : Sq62.may t m = true := d
          refine ⟨_, rfl, p, _, rfl, (lp.same s2).seq, fun D2 hD2 => ?_⟩
          refine lc_turns (walk_enum (xs := m.map nv)) (fun j => some (nv ((Sq62.fired t m).getD j 0))) (by rw [hml]; omega) hD2 (fun H3 s3 => ((lp.same s2).same s3).seq) ?_ ?_
          · rintro j x H3 H4 Kt Kf hj s3 ⟨T1, x1, y1, rfl, hT, rfl, hx, hy⟩ kt kf
            rw [hml] at hj
            have hx : V.int (j : Int) = x1 := Option.some.inj hx
            subst hx
            have hy : some (nv (m.getD j 0)) = some y1 := (nv_at hj).symm.trans hy
            have hy := Option.some.inj hy
            subst hy
            have s23 := (s2.trans s3).trans (same_new (o := .tup [.int (j : Int), nv (m.getD j 0)]) hT)
            have in1 : inV (V.int (j : Int)) (t.takes.map nv) = t.takes.contains j := inV_nat j _
            have in2 : inV (V.int (j : Int)) (t.puts.map nv) = t.puts.contains j := inV_nat j _
            refine ⟨T1, _, rfl, SqT.of upd_same, rfl, _, _, rfl, _, _, rfl, rfl, rfl, _, rfl, _, rfl, _, rfl, t2, _, rfl, .inl (l1.same s23).seq, rfl, flat_nats _, ?_⟩
            rw [if_neg Bool.false_ne_true, in1]
            refine .inr ⟨_, rfl, _, _, rfl, rfl, _, rfl, _, rfl, t3, _, rfl, .inl (l2.same s23).seq, rfl, flat_nats _, ?_⟩
            rw [if_neg Bool.false_ne_true, in2]
            refine .inr ⟨_, rfl, _, _, rfl, rfl, kt _ _ ?_ (same_new hT)⟩
            have hg : m[j]? = some (m.getD j 0) := by
              rw [List.getD_eq_getElem?_getD, List.getElem?_eq_getElem hj]
              rfl
            have ef : (Sq62.fired t m).getD j 0 = m.getD j 0 - (if t.takes.contains j = true then 1 else 0) + (if t.puts.contains j = true then 1 else 0) := by
              rw [List.getD_eq_getElem?_getD, fired_get hg]
              rfl
            rw [ef]
            exact congrArg some (congrArg V.int (fired_int d hg _ _ rfl rfl))
          · intro H3 s3 hL3
            refine k3 t eit d H3 D2 (s2.trans s3) ⟨s2.free hD2, ?_⟩
            show _ = _
            rw [hL3, hml, filterMap_some, range_nv (fired_len t m)]
        · rw [all_id] at d
          exact Rf.same (k2 t eit d) s2
    · have c := of_decide_eq_false c
      rw [hl] at c
      refine k1 (List.getElem?_eq_none ?_)
      have c : ¬ (i : Int) < ((h.g.ts.length : Nat) : Int) := c
      omega
/-! ### House.fire -/
theorem sc_House_fire : FnScope ["self", "numbers", "marking", "number"] ["self", "numbers"] (defScope s_House_fire) := ⟨rfl, rfl, rfl, by decide +kernel, rfl, by decide +kernel, by decide +kernel⟩
theorem ok_House_fire {f : Addr} {fd : FuncData} (F : Fun K "fire" "House.fire" s_House_fire f fd) (T : Txt K mg R fR CN CH) (c_ask : OkF P w K mg base (L2.CX P w) 3 "ask" ["good", "told"] (spAsk R)) (c_are_few : OkF P w K mg base CX0 1 "are_few" ["marking"] (spAreFew)) (c_House_fired : OkM P w K mg base CH (L2.CX P w) 4 "fired" ["self", "marking", "number"] (spFired R CN CH)) :
    FnOk P w K mg base (L2.CX P w) 5 f fd ["self", "numbers"] (spFire R CN CH) := by
  refine F.okX sc_House_fire (fun vs H Q E h => ?_) (fun cdv A outer s H vs Q E hr h => ?_)
  · obtain ⟨a, p, h, l, rfl, _⟩ := h
    rfl
  · obtain ⟨a, p, h, l, rfl, k⟩ := h
    refine ⟨_, (pss_cons (ps_set (i := 2) sc_House_fire.nd rfl (Or.inl rfl) (pf (K := K) rfl (pv 0) rfl))
      (pss_cons (ps_for (passes_of rfl) rfl (pi_list (pv 1)) (pg_name (i := 3) sc_House_fire.nd rfl (Or.inl rfl)) (pss_one (ps_set (i := 2) sc_House_fire.nd rfl (Or.inl rfl) (pm (pv 0) T.clH c_House_fired hr (by decide) (passes_call (takes_of rfl rfl rfl rfl) (fun _ _ _ _ h => h)) (pa_cons (pv 2) (pa_cons (pv 3) pa_nil))))))
      (pss_cons (ps_expr (pc c_ask hr (by decide) (passes_call (takes_of rfl rfl rfl rfl) (fun _ _ _ _ h => h)) (pa_cons (pc c_are_few hr (by decide) pass0 (pa_cons (pv 2) pa_nil)) (pa_cons (pgc T.gTOO_FULL) pa_nil))))
      (pss_cons (ps_fld (pv 0) (pv 2) rfl)
      (pss_one (ps_ret (pe_op op_cat (pe_lst (pa_cons (pe_callB (r := rLen K) call_len_seq (by rfl) T.zlen PySem.boot_len (pa_cons (pv 1) pa_nil)) pa_nil)) (pv 2)))))))), ?_⟩
    obtain ⟨hh, lp, hn, k⟩ := k
    obtain ⟨ml, dx, b, mp, hH, net, lm⟩ := id hh
    have n9 := net.1.n9
    obtain ⟨gok, dxn, tq, hN, trs⟩ := id net
    have st : h.step (.fire l) = (match h.g.fires h.m l with
      | none => (h, Sq62.says (-3))
      | some k => if Sq62.small k = false then (h, Sq62.says (-5)) else ({ h with m := k }, ⟨l.length, Sq62.ints k⟩)) := rfl
    refine ⟨_, rfl, a, CH, dx, _, _, rfl, hH, T.clH, T.nM, houF_m _ _, ?_⟩
    refine ⟨_, rfl, p, rfl, ⟨_, lp.seq⟩, ?_⟩
    refine for_each (e := nv) (xs := l) (fun pre σ H' => Same H H' ∧ ∃ (pm : Addr) (m : List Nat) (v3 : Option V), σ = [some (.ref a), some (.ref p), some (.ref pm), v3] ∧ LI H' pm m ∧ m.length = h.g.n ∧ (∀ post, h.g.fires h.m (pre ++ post) = h.g.fires m post) ∧
        (∀ z o, H z = some o → HouseAt CH CN (hid z H) a h → LI (hid z H') pm m))
      ⟨Same.refl _, mp, h.m, none, rfl, lm, ml, fun _ => rfl, fun z o e q => house_mark q hH⟩ (fun pre σ H' z => (lp.same z.1).seq) ?_ ?_
    · rintro pre x post σ H2 ex ⟨s2, pm, m, v3, rfl, lpm, mlen, inv, fr⟩
      have fx := inv (x :: post)
      rw [← ex] at fx
      refine ⟨_, rfl, a, dx, _, rfl, s2 _ _ hH, houF_no _ _ (by decide +kernel) (by decide +kernel), _, rfl, _, rfl, a, pm, x, h, m, rfl, hh.same s2, lpm, mlen, fun e1 => ?_, fun t e1 e2 => ?_, fun t e1 e2 H3 q3 s3 l3 => ?_⟩
      · have e : h.g.fires m (x :: post) = none := by
          show (match h.g.ts[x]? with | none => none | some t => if Sq62.may t m = true then h.g.fires (Sq62.fired t m) post else none) = none
          rw [e1]
        rw [fx, e] at st
        exact Rf.same (k.bad st (by decide)) s2
      · have e : h.g.fires m (x :: post) = none := by
          show (match h.g.ts[x]? with | none => none | some t => if Sq62.may t m = true then h.g.fires (Sq62.fired t m) post else none) = none
          rw [e1]
          show (if Sq62.may t m = true then h.g.fires (Sq62.fired t m) post else none) = none
          rw [e2]
          rfl
        rw [fx, e] at st
        exact Rf.same (k.bad st (by decide)) s2
      · refine ⟨s2.trans s3, q3, Sq62.fired t m, _, rfl, l3.2, by rw [fired_len]; exact mlen, fun post => ?_, fun z o e q => ?_⟩
        · rw [List.append_assoc, inv]
          show (match h.g.ts[x]? with | none => none | some t => if Sq62.may t m = true then h.g.fires (Sq62.fired t m) post else none) = _
          rw [e1]
          show (if Sq62.may t m = true then h.g.fires (Sq62.fired t m) post else none) = _
          rw [e2]
          rfl
        · exact at_hid l3.2 (hid_free l3.1 (s2 _ _ e))
    · rintro σ H2 ⟨s2, pm, m, v3, rfl, lpm, mlen, inv, fr⟩
      have fx := inv []
      rw [List.append_nil] at fx
      have fx : h.g.fires h.m l = some m := fx
      rw [fx] at st
      refine ⟨_, rfl, pm, m, rfl, lpm, by omega, fun H3 s3 => ⟨_, _, rfl, fun d => ?_, fun d => ?_⟩⟩
      · have st : h.step (.fire l) = ({ h with m := m }, ⟨l.length, Sq62.ints m⟩) := st.trans (if_neg (by rw [d]; exact Bool.noConfusion))
        have s03 := s2.trans s3
        have hH3 := s03 _ _ hH
        have i3 : IsIns H3 a := ⟨_, _, _, hH3⟩
        refine ⟨_, rfl, _, rfl, a, CH, dx, _, rfl, hH3, T.clH, T.nM, (by show 2 < 1000; decide), ?_⟩
        rw [houF_putm]
        have hho : Next CH CN a H h (upd H3 a (.ins CH dx (houF b pm))) { h with m := m } := by
          refine next_put (Same.but s03) i3 ⟨_, _, _, hH⟩ mlen (net.same s03) (net_ne hH hN) (lpm.same s3) fun z o e q => ?_
          exact ⟨(house_net q hH).same (same_hid s03), (fr z o e q).same (same_hid s3)⟩
        have lp4 : LI (upd H3 a (.ins CH dx (houF b pm))) p l := (lp.same s03).keep i3 but_upd
        have lm4 : LI (upd H3 a (.ins CH dx (houF b pm))) pm m := (lpm.same s3).keep i3 but_upd
        refine ⟨_, rfl, p, _, rfl, .inl lp4.seq, small_line (show 1 ≤ 1000000 by decide), fun r hr => ?_⟩
        refine ⟨_, rfl, r, pm, _, _, rfl, rfl, upd_same, same_new hr _ _ lm4, small_line (by simp only [List.length_map, List.length_cons, List.length_nil]; omega), fun u hu => ?_⟩
        refine k.good st (by show (0 : Int) ≤ (l.length : Int); omega) _ u ((hho.more (same_new hr)).free hu) (hho.more ((same_new hr).trans (same_new hu))) ?_
        show _ = _
        rw [upd_same, List.length_map]
        show some (HO.lst (V.int (l.length : Int) :: m.map nv)) = some (HO.lst (V.int (l.length : Int) :: (m.map Int.ofNat).map V.int))
        rw [List.map_map]
        rfl
      · have st : h.step (.fire l) = (h, Sq62.says (-5)) := st.trans (if_pos d)
        exact Rf.same (k.bad st (by decide)) (s2.trans s3)
/-! ### House.siphons -/
theorem sc_House_siphons : FnScope ["self"] ["self"] (defScope s_House_siphons) := ⟨rfl, rfl, rfl, by decide +kernel, rfl, by decide +kernel, by decide +kernel⟩
theorem ok_House_siphons {f : Addr} {fd : FuncData} (F : Fun K "siphons" "House.siphons" s_House_siphons f fd) (T : Txt K mg R fR CN CH) (c_rows_told : OkF P w K mg base CX0 2 "rows_told" ["rows"] (spRowsTold)) (c_least_siphons : OkF P w K mg base CX0 3 "least_siphons" ["net"] (spLeastSiphons CN)) :
    FnOk P w K mg base (L2.CX P w) 4 f fd ["self"] (spM R CN CH .siphons) := by
  refine F.okX sc_House_siphons (fun vs H Q E h => ?_) (fun cdv A outer s H vs Q E hr h => ?_)
  · obtain ⟨a, h, rfl, _⟩ := h
    rfl
  · obtain ⟨a, h, rfl, k⟩ := h
    refine ⟨_, (pss_one (ps_ret (pc c_rows_told hr (by decide) pass0 (pa_cons (pc c_least_siphons hr (by decide) pass0 (pa_cons (pf (K := K) rfl (pv 0) rfl) pa_nil)) pa_nil)))), ?_⟩
    obtain ⟨hh, k⟩ := k
    obtain ⟨ml, dx, b, mp, hH, net, lm⟩ := id hh
    have n9 := net.1.n9
    refine ⟨_, rfl, a, CH, dx, _, _, rfl, hH, T.clH, T.nE, houF_n _ _, b, h.g, rfl, net, fun H1 q1 s1 rows => ?_⟩
    have len := siphons_len n9
    refine ⟨q1, _, rfl, rows, by omega, fun r hr => ?_, fun H2 q2 n2 s2 lq => ?_⟩
    · have := (siphons_ok r hr).len
      omega
    · have s12 := s1.trans s2
      exact k.good (v := (h.g.siphons.length : Nat)) rfl (by omega) H2 q2 (s1.free n2) (Next.same hh s12) (lz_of lq)
/-! ### House.traps -/
theorem sc_House_traps : FnScope ["self"] ["self"] (defScope s_House_traps) := ⟨rfl, rfl, rfl, by decide +kernel, rfl, by decide +kernel, by decide +kernel⟩
theorem ok_House_traps {f : Addr} {fd : FuncData} (F : Fun K "traps" "House.traps" s_House_traps f fd) (T : Txt K mg R fR CN CH) (c_rows_told : OkF P w K mg base CX0 2 "rows_told" ["rows"] (spRowsTold)) (c_least_traps : OkF P w K mg base CX0 3 "least_traps" ["net"] (spLeastTraps CN)) :
    FnOk P w K mg base (L2.CX P w) 4 f fd ["self"] (spM R CN CH .traps) := by
  refine F.okX sc_House_traps (fun vs H Q E h => ?_) (fun cdv A outer s H vs Q E hr h => ?_)
  · obtain ⟨a, h, rfl, _⟩ := h
    rfl
  · obtain ⟨a, h, rfl, k⟩ := h
    refine ⟨_, (pss_one (ps_ret (pc c_rows_told hr (by decide) pass0 (pa_cons (pc c_least_traps hr (by decide) pass0 (pa_cons (pf (K := K) rfl (pv 0) rfl) pa_nil)) pa_nil)))), ?_⟩
    obtain ⟨hh, k⟩ := k
    obtain ⟨ml, dx, b, mp, hH, net, lm⟩ := id hh
    have n9 := net.1.n9
    refine ⟨_, rfl, a, CH, dx, _, _, rfl, hH, T.clH, T.nE, houF_n _ _, b, h.g, rfl, net, fun H1 q1 s1 rows => ?_⟩
    have len := traps_len n9
    refine ⟨q1, _, rfl, rows, by omega, fun r hr => ?_, fun H2 q2 n2 s2 lq => ?_⟩
    · have := (traps_ok r hr).len
      omega
    · have s12 := s1.trans s2
      exact k.good (v := (h.g.traps.length : Nat)) rfl (by omega) H2 q2 (s1.free n2) (Next.same hh s12) (lz_of lq)
/-! ### House.inside -/
theorem sc_House_inside : FnScope ["self", "places", "told"] ["self", "places"] (defScope s_House_inside) := ⟨rfl, rfl, rfl, by decide +kernel, rfl, by decide +kernel, by decide +kernel⟩
theorem ok_House_inside {f : Addr} {fd : FuncData} (F : Fun K "inside" "House.inside" s_House_inside f fd) (T : Txt K mg R fR CN CH) (c_counted : OkF P w K mg base CX0 1 "counted" ["row"] (spCounted)) (c_greatest_siphon : OkF P w K mg base CX0 3 "greatest_siphon" ["net", "places"] (spGreatestSiphon CN)) (c_greatest_trap : OkF P w K mg base CX0 3 "greatest_trap" ["net", "places"] (spGreatestTrap CN)) (c_is_siphon : OkF P w K mg base CX0 2 "is_siphon" ["net", "places"] (spIsSiphon CN)) (c_is_trap : OkF P w K mg base CX0 2 "is_trap" ["net", "places"] (spIsTrap CN)) (c_ask : OkF P w K mg base (L2.CX P w) 3 "ask" ["good", "told"] (spAsk R)) (c_are_places : OkF P w K mg base CX0 2 "are_places" ["n", "row"] (spArePlaces)) :
    FnOk P w K mg base (L2.CX P w) 4 f fd ["self", "places"] (spInside R CN CH) := by
  refine F.okX sc_House_inside (fun vs H Q E h => ?_) (fun cdv A outer s H vs Q E hr h => ?_)
  · obtain ⟨a, p, h, s0, rfl, _⟩ := h
    rfl
  · obtain ⟨a, p, h, s0, rfl, k⟩ := h
    refine ⟨_, (pss_cons (ps_expr (pc c_ask hr (by decide) (passes_call (takes_of rfl rfl rfl rfl) (fun _ _ _ _ h => h)) (pa_cons (pc c_are_places hr (by decide) pass0 (pa_cons (pf (K := K) rfl (pf (K := K) rfl (pv 0) rfl) rfl) (pa_cons (pv 1) pa_nil))) (pa_cons (pgc T.gNOT_TOLD) pa_nil))))
      (pss_cons (ps_set (i := 2) sc_House_inside.nd rfl (Or.inl rfl) (pe_lst (pa_cons (pe_op op_add (pe_callTy call_int1 (by rfl) T.zint (by decide +kernel) (pa_cons (pc c_is_siphon hr (by decide) pass0 (pa_cons (pf (K := K) rfl (pv 0) rfl) (pa_cons (pv 1) pa_nil))) pa_nil)) (pe_op op_mul pe_int (pe_callTy call_int1 (by rfl) T.zint (by decide +kernel) (pa_cons (pc c_is_trap hr (by decide) pass0 (pa_cons (pf (K := K) rfl (pv 0) rfl) (pa_cons (pv 1) pa_nil))) pa_nil)))) pa_nil)))
      (pss_one (ps_ret (pe_op op_cat (pe_op op_cat (pv 2) (pc c_counted hr (by decide) pass0 (pa_cons (pc c_greatest_siphon hr (by decide) pass0 (pa_cons (pf (K := K) rfl (pv 0) rfl) (pa_cons (pv 1) pa_nil))) pa_nil))) (pc c_counted hr (by decide) pass0 (pa_cons (pc c_greatest_trap hr (by decide) pass0 (pa_cons (pf (K := K) rfl (pv 0) rfl) (pa_cons (pv 1) pa_nil))) pa_nil))))))), ?_⟩
    obtain ⟨hh, lp, hn, k⟩ := k
    obtain ⟨ml, dx, b, mp, hH, net, lm⟩ := id hh
    obtain ⟨gok, dxn, tq, hN, trs⟩ := id net
    have n9 := gok.n9
    have st : h.step (.inside s0) = (if Sq62.rising s0 = false ∨ (s0.any fun p => decide (h.g.n ≤ p)) = true then (h, Sq62.says (-3)) else
      (h, ⟨(if h.g.siphon s0 = true then 1 else 0) + (if h.g.trap s0 = true then 2 else 0), Sq62.ints ((h.g.greatestSiphon h.g.n s0).length :: h.g.greatestSiphon h.g.n s0 ++ ((h.g.greatestTrap h.g.n s0).length :: h.g.greatestTrap h.g.n s0))⟩)) := rfl
    refine ⟨_, rfl, a, CH, dx, _, _, rfl, hH, T.clH, T.nE, houF_n _ _, b, CN, dxn, _, _, rfl, hN, T.clN, T.nN, netF_n _ _, _, rfl, h.g.n, p, s0, rfl, lp, by omega, fun H1 s1 => ⟨_, _, rfl, fun c => ?_, fun c => ?_⟩⟩
    · rw [Bool.and_eq_true] at c
      have pok : PlacesOk h.g.n s0 := ⟨c.1, fun p hp => of_decide_eq_true (List.all_eq_true.mp c.2 p hp)⟩
      have sn := pok.len
      have no : ¬ (Sq62.rising s0 = false ∨ (s0.any fun p => decide (h.g.n ≤ p)) = true) := by
        rintro (z | z)
        · rw [c.1] at z
          cases z
        · obtain ⟨y, hy, z⟩ := List.any_eq_true.mp z
          have := pok.lt y hy
          have := of_decide_eq_true z
          omega
      rw [if_neg no] at st
      have hH1 := s1 _ _ hH
      refine ⟨_, rfl, a, CH, dx, _, _, rfl, hH1, T.clH, T.nE, houF_n _ _, _, rfl, b, p, h.g, s0, rfl, net.same s1, lp.same s1, by omega, fun H2 s2 => .inr ⟨_, rfl, ?_⟩⟩
      have s02 := s1.trans s2
      refine ⟨_, rfl, a, CH, dx, _, _, rfl, s02 _ _ hH, T.clH, T.nE, houF_n _ _, _, rfl, b, p, h.g, s0, rfl, net.same s02, lp.same s02, by omega, fun H3 s3 => .inr ⟨_, rfl, _, _, rfl, rfl, .inl ⟨by decide, by decide⟩, ?_⟩⟩
      have s03 := s02.trans s3
      refine ⟨_, _, rfl, rfl, small_line (show 1 ≤ 1000000 by decide), fun r hr => ?_⟩
      obtain ⟨H4, e4⟩ : ∃ H4, H4 = upd H3 r (.lst [V.int ((if h.g.siphon s0 = true then 1 else 0) + 2 * (if h.g.trap s0 = true then 1 else 0))]) := ⟨_, rfl⟩
      have s34 : Same H3 H4 := by rw [e4]; exact same_new hr
      have hr4 : H4 r = some (.lst [V.int ((if h.g.siphon s0 = true then 1 else 0) + 2 * (if h.g.trap s0 = true then 1 else 0))]) := by rw [e4]; exact upd_same
      rw [← e4]
      have s04 := s03.trans s34
      have gl := gs_len h.g h.g.n s0
      have tl := gt_len h.g h.g.n s0
      refine ⟨_, rfl, _, rfl, a, CH, dx, _, _, rfl, s04 _ _ hH, T.clH, T.nE, houF_n _ _, _, rfl, b, p, h.g, s0, rfl, net.same s04, lp.same s04, sn, fun H5 q5 s5 l5 => ?_⟩
      refine ⟨q5, _, rfl, l5, by omega, fun H6 q6 _ s6 l6 => ?_⟩
      have s06 := (s04.trans s5).trans s6
      refine ⟨r, q6, _, _, rfl, rfl, s6 _ _ (s5 _ _ hr4), l6, small_line (by simp only [List.length_map, List.length_cons, List.length_nil]; omega), fun r2 hr2 => ?_⟩
      obtain ⟨H7, e7⟩ : ∃ H7, H7 = upd H6 r2 (.lst ([V.int ((if h.g.siphon s0 = true then 1 else 0) + 2 * (if h.g.trap s0 = true then 1 else 0))] ++ ((h.g.greatestSiphon h.g.n s0).length :: h.g.greatestSiphon h.g.n s0).map nv)) := ⟨_, rfl⟩
      have s67 : Same H6 H7 := by rw [e7]; exact same_new hr2
      have hr7 : H7 r2 = some (.lst ([V.int ((if h.g.siphon s0 = true then 1 else 0) + 2 * (if h.g.trap s0 = true then 1 else 0))] ++ ((h.g.greatestSiphon h.g.n s0).length :: h.g.greatestSiphon h.g.n s0).map nv)) := by rw [e7]; exact upd_same
      rw [← e7]
      have s07 := s06.trans s67
      refine ⟨_, rfl, a, CH, dx, _, _, rfl, s07 _ _ hH, T.clH, T.nE, houF_n _ _, _, rfl, b, p, h.g, s0, rfl, net.same s07, lp.same s07, sn, fun H8 q8 s8 l8 => ?_⟩
      refine ⟨q8, _, rfl, l8, by omega, fun H9 q9 _ s9 l9 => ?_⟩
      have s09 := (s07.trans s8).trans s9
      refine ⟨r2, q9, _, _, rfl, rfl, s9 _ _ (s8 _ _ hr7), l9, small_line (by simp only [List.length_map, List.length_cons, List.length_nil, List.length_append]; omega), fun r3 hr3 => ?_⟩
      refine k.good st (by split <;> split <;> decide) _ r3 (s09.free hr3) (Next.same hh (s09.trans (same_new hr3))) ?_
      show _ = _
      rw [upd_same]
      have ev : V.int ((if h.g.siphon s0 = true then 1 else 0) + 2 * (if h.g.trap s0 = true then 1 else 0)) = V.int ((if h.g.siphon s0 = true then 1 else 0) + (if h.g.trap s0 = true then 2 else 0)) := by
        cases h.g.siphon s0 <;> cases h.g.trap s0 <;> rfl
      rw [ev]
      show some (HO.lst (_ :: (((h.g.greatestSiphon h.g.n s0).length :: h.g.greatestSiphon h.g.n s0).map nv ++ ((h.g.greatestTrap h.g.n s0).length :: h.g.greatestTrap h.g.n s0).map nv))) = some (HO.lst (_ :: ((((h.g.greatestSiphon h.g.n s0).length :: h.g.greatestSiphon h.g.n s0 ++ ((h.g.greatestTrap h.g.n s0).length :: h.g.greatestTrap h.g.n s0)).map Int.ofNat).map V.int)))
      rw [List.map_map, ← List.map_append]
      rfl
    · have yes : Sq62.rising s0 = false ∨ (s0.any fun p => decide (h.g.n ≤ p)) = true := by
        rw [Bool.and_eq_false_iff] at c
        rcases c with z | z
        · exact .inl z
        · refine .inr ?_
          obtain ⟨y, hy, z⟩ := List.all_eq_false.mp z
          refine List.any_eq_true.mpr ⟨y, hy, decide_eq_true ?_⟩
          have z : ¬ y < h.g.n := fun q => z (decide_eq_true q)
          omega
      rw [if_pos yes] at st
      exact Rf.same (k.bad st (by decide)) s1
/-! ### House.empty -/
theorem sc_House_empty : FnScope ["self", "places", "numbers", "number", "pair", "place", "tokens"] ["self"] (defScope s_House_empty) := ⟨rfl, rfl, rfl, by decide +kernel, rfl, by decide +kernel, by decide +kernel⟩
theorem ok_House_empty {f : Addr} {fd : FuncData} (F : Fun K "empty" "House.empty" s_House_empty f fd) (T : Txt K mg R fR CN CH) (c_counted : OkF P w K mg base CX0 1 "counted" ["row"] (spCounted)) (c_meet : OkF P w K mg base CX0 1 "meet" ["one", "other"] (spMeet)) (c_greatest_siphon : OkF P w K mg base CX0 3 "greatest_siphon" ["net", "places"] (spGreatestSiphon CN)) :
    FnOk P w K mg base (L2.CX P w) 4 f fd ["self"] (spM R CN CH .empty) := by
  refine F.okX sc_House_empty (fun vs H Q E h => ?_) (fun cdv A outer s H vs Q E hr h => ?_)
  · obtain ⟨a, h, rfl, _⟩ := h
    rfl
  · obtain ⟨a, h, rfl, k⟩ := h
    refine ⟨_, (pss_cons (ps_set (i := 1) sc_House_empty.nd rfl (Or.inr rfl) (pc c_greatest_siphon hr (by decide) pass0 (pa_cons (pf (K := K) rfl (pv 0) rfl) (pa_cons (pe_lc (own := [("place", 5), ("tokens", 6)]) (g := (gTup K 2 (gCons (gName 5) (gCons (gName 6) gNil)))) rfl sc_House_empty.nd (pi_enum (by rfl) T.zenumerate (pa_cons (pf (K := K) rfl (pv 0) rfl) pa_nil)) (blkOk_by (own := [("place", 5), ("tokens", 6)]) (N := ["self", "places", "numbers", "number", "pair", "place", "tokens"]) (sc := defScope s_House_empty) (by decide +kernel)) (fun _ _ _ _ _ => (pg_tup rfl (pgs_cons (pg_name (i := 5) sc_House_empty.nd rfl (Or.inl rfl)) (pgs_cons (pg_name (i := 6) sc_House_empty.nd rfl (Or.inl rfl)) pgs_nil)))) (fun _ _ _ _ _ => (pts_one (pt_cmpR op_eq (pv 6) pe_int (nomark _)))) (fun _ _ _ _ _ => (pv 5))) pa_nil))))
      (pss_cons (ps_setLc (i := 2) (own := [("number", 3), ("pair", 4)]) (g := (gTup K 2 (gCons (gName 3) (gCons (gName 4) gNil)))) rfl sc_House_empty.nd rfl rfl (sw_true rfl rfl rfl (by decide +kernel)) (pi_enum (by rfl) T.zenumerate (pa_cons (pf (K := K) rfl (pf (K := K) rfl (pv 0) rfl) rfl) pa_nil)) (blkOk_by (own := [("number", 3), ("pair", 4)]) (N := ["self", "places", "numbers", "number", "pair", "place", "tokens"]) (sc := defScope s_House_empty) (by decide +kernel)) (fun _ _ _ _ _ => (pg_tup rfl (pgs_cons (pg_name (i := 3) sc_House_empty.nd rfl (Or.inl rfl)) (pgs_cons (pg_name (i := 4) sc_House_empty.nd rfl (Or.inl rfl)) pgs_nil)))) (fun _ _ _ _ _ => (pts_one (pt_val (pc c_meet hr (by decide) pass0 (pa_cons (pe_ix (r := rIxT K) ix_tup (pv 4) pe_int (fun _ _ => rfl)) (pa_cons (pv 1) pa_nil)))))) (fun _ _ _ _ _ => (pv 3)))
      (pss_one (ps_ret (pe_op op_cat (pc c_counted hr (by decide) pass0 (pa_cons (pv 1) pa_nil)) (pc c_counted hr (by decide) pass0 (pa_cons (pv 2) pa_nil))))))), ?_⟩
    obtain ⟨hh, k⟩ := k
    obtain ⟨ml, dx, b, mp, hH, net, lm⟩ := id hh
    obtain ⟨gok, dxn, tq, hN, prs, hp, tr, et⟩ := id net
    have n9 := gok.n9
    have hml : (h.m.map nv).length = h.m.length := List.length_map ..
    have hpl : (prs.map Prod.fst).length = h.g.ts.length := by rw [List.length_map, ← et, List.length_map]
    have ten := gok.ten
    refine ⟨_, rfl, a, CH, dx, _, _, rfl, hH, T.clH, T.nE, houF_n _ _, _, rfl, a, CH, dx, _, _, rfl, hH, T.clH, T.nM, houF_m _ _, mp, _, rfl, lm.seq, fun D hD => ?_⟩
    refine lc_turns (walk_enum (xs := h.m.map nv)) (fun j => if (Sq62.at_ h.m j == 0) = true then some (nv j) else none) (by rw [hml]; omega) hD (fun H2 s2 => (lm.same s2).seq) ?_ ?_
    · rintro j x H2 H3 Kt Kf hj s2 ⟨T1, x1, y1, rfl, hT, rfl, hx, hy⟩ kt kf
      rw [hml] at hj
      have hx : V.int (j : Int) = x1 := Option.some.inj hx
      subst hx
      have hy : some (nv (h.m.getD j 0)) = some y1 := (nv_at hj).symm.trans hy
      have hy := Option.some.inj hy
      subst hy
      refine ⟨T1, _, rfl, SqT.of upd_same, rfl, _, _, rfl, _, _, rfl, rfl, rfl, _, rfl, rfl, _, rfl, ?_⟩
      have ed : decide (nv (h.m.getD j 0) = V.int 0) = (Sq62.at_ h.m j == 0) := by
        rw [at_get hj, show (V.int 0) = V.int ((0 : Nat) : Int) from rfl]
        show decide (V.int ((h.m.getD j 0 : Nat) : Int) = V.int ((0 : Nat) : Int)) = _
        rw [deq, Bool.eq_iff_iff, decide_eq_true_eq, beq_iff_eq]
      rw [ed]
      refine ite2 (fun c => ?_) (fun c => ?_)
      · exact ⟨_, rfl, kt _ _ (if_pos c) (same_new hT)⟩
      · exact kf _ (if_neg c) (same_new hT)
    · intro H2 s2 hL
      have lD : LI H2 D ((List.range h.g.n).filter fun j => Sq62.at_ h.m j == 0) := by
        show _ = _
        rw [hL, hml, ml, filterMap_if]
      have dlen : ((List.range h.g.n).filter fun j => Sq62.at_ h.m j == 0).length ≤ h.g.n := Nat.le_trans (List.length_filter_le _ _) (Nat.le_of_eq List.length_range)
      generalize hs0 : ((List.range h.g.n).filter fun j => Sq62.at_ h.m j == 0) = s0 at lD dlen
      refine ⟨b, D, h.g, s0, rfl, net.same s2, lD, dlen, fun H3 q3 s3 l3 => ?_⟩
      have s03 := s2.trans s3
      have gl := gs_len h.g h.g.n s0
      generalize hgs : h.g.greatestSiphon h.g.n s0 = gs at l3 gl
      refine ⟨_, rfl, a, CH, dx, _, _, rfl, s03 _ _ hH, T.clH, T.nE, houF_n _ _, b, CN, dxn, _, _, rfl, s03 _ _ hN, T.clN, T.nT, netF_t _ _, tq, _, rfl, SqL.of (s03 _ _ hp), fun D2 hD2 => ?_⟩
      let cc : Nat → Bool := fun i => match h.g.ts[i]? with
        | some t => Sq62.meets t.takes gs
        | none => false
      refine lc_turns (walk_enum (xs := prs.map Prod.fst)) (fun i => if cc i = true then some (nv i) else none) (by rw [hpl]; omega) hD2 (fun H4 s4 => SqL.of (s4 _ _ (s03 _ _ hp))) ?_ ?_
      · rintro i x H4 H5 Kt Kf hi s4 ⟨T1, x1, y1, rfl, hT, rfl, hx, hy⟩ kt kf
        have hx : V.int (i : Int) = x1 := Option.some.inj hx
        subst hx
        rw [hpl] at hi
        have hi' : i < prs.length := by rw [List.length_map] at hpl; omega
        obtain ⟨t1, t2, t3, e1, e2, l1, l2⟩ := tr prs[i] (List.getElem_mem hi')
        have eit : h.g.ts[i]? = some prs[i].2 := by
          rw [← et, List.getElem?_map, List.getElem?_eq_getElem hi']
          rfl
        have t9 := gok.takes9 (List.mem_of_getElem? eit)
        have hy : (prs.map Prod.fst)[i]? = some y1 := hy
        have hy : some (V.ref t1) = some y1 := by
          rw [← hy, List.getElem?_map, List.getElem?_eq_getElem hi', ← e1]
          rfl
        have hy := Option.some.inj hy
        subst hy
        have ecc : cc i = Sq62.meets prs[i].2.takes gs := by
          show (match h.g.ts[i]? with | some t => Sq62.meets t.takes gs | none => false) = _
          rw [eit]
        have s34 := s4.trans (same_new (o := .tup [.int (i : Int), .ref t1]) hT)
        have s04 := s03.trans s34
        refine ⟨T1, _, rfl, SqT.of upd_same, rfl, _, _, rfl, _, _, rfl, rfl, rfl, _, rfl, t1, _, _, _, rfl, rfl, SqT.of (s04 _ _ e2), at_of (j := 0) rfl rfl, _, rfl, t2, q3, _, _, rfl, l1.same s04, l3.same s34, by omega, fun H6 s6 => ⟨_, rfl, ?_⟩⟩
        have s46 := (same_new (o := .tup [.int (i : Int), .ref t1]) hT).trans s6
        refine ite2 (fun c => ?_) (fun c => ?_)
        · exact ⟨_, rfl, kt _ _ (if_pos (ecc.trans c)) s46⟩
        · exact kf _ (if_neg fun z => c (ecc.symm.trans z)) s46
      · intro H4 s4 hL4
        have lD2 : LI H4 D2 ((List.range h.g.ts.length).filter cc) := by
          show _ = _
          rw [hL4, hpl, filterMap_if]
        have d2len : ((List.range h.g.ts.length).filter cc).length ≤ h.g.ts.length := Nat.le_trans (List.length_filter_le _ _) (Nat.le_of_eq List.length_range)
        have s04 := s03.trans s4
        refine ⟨_, rfl, q3, _, rfl, l3.same s4, by omega, fun H5 q5 _ s5 l5 => ?_⟩
        refine ⟨_, rfl, D2, _, rfl, lD2.same s5, by omega, fun H6 q6 _ s6 l6 => ?_⟩
        refine ⟨q5, q6, _, _, rfl, rfl, l5.same s6, l6, small_line (by simp only [List.length_map, List.length_cons]; omega), fun r hr => ?_⟩
        have st : h.step .empty = (h, ⟨gs.length, Sq62.ints (gs ++ ((List.range h.g.ts.length).filter cc).length :: (List.range h.g.ts.length).filter cc)⟩) := by
          subst hgs hs0
          rfl
        refine k.good st (by show (0 : Int) ≤ (gs.length : Int); omega) _ r (((s04.trans s5).trans s6).free hr) (Next.same hh (((s04.trans s5).trans s6).trans (same_new hr))) ?_
        show _ = _
        rw [upd_same, ← List.map_append]
        show _ = some (HO.lst (_ :: ((gs ++ ((List.range h.g.ts.length).filter cc).length :: (List.range h.g.ts.length).filter cc).map Int.ofNat).map V.int))
        rw [List.map_map]
        rfl
/-! ### House.is_held -/
theorem sc_House_is_held : FnScope ["self", "siphon", "place"] ["self", "siphon"] (defScope s_House_is_held) := ⟨rfl, rfl, rfl, by decide +kernel, rfl, by decide +kernel, by decide +kernel⟩
theorem ok_House_is_held {f : Addr} {fd : FuncData} (F : Fun K "is_held" "House.is_held" s_House_is_held f fd) (T : Txt K mg R fR CN CH) (c_greatest_trap : OkF P w K mg base CX0 3 "greatest_trap" ["net", "places"] (spGreatestTrap CN)) :
    FnOk P w K mg base CX0 4 f fd ["self", "siphon"] (spIsHeld CN CH) := by
  refine F.ok sc_House_is_held (fun vs H Q E h => ?_) (fun cdv A outer s H vs Q E hr h => ?_)
  · obtain ⟨a, p, h, s0, rfl, _⟩ := h
    rfl
  · obtain ⟨a, p, h, s0, rfl, k⟩ := h
    refine ⟨_, (pss_one (ps_ret (pe_callB (r := rAny K) (cr_any rfl) (by rfl) T.zany (by decide +kernel) (pa_cons (pe_lc (own := [("place", 2)]) (g := (gName 2)) rfl sc_House_is_held.nd (pi_list (pc c_greatest_trap hr (by decide) pass0 (pa_cons (pf (K := K) rfl (pv 0) rfl) (pa_cons (pv 1) pa_nil)))) (blkOk_by (own := [("place", 2)]) (N := ["self", "siphon", "place"]) (sc := defScope s_House_is_held) (by decide +kernel)) (fun _ _ _ _ _ => (pg_name (i := 2) sc_House_is_held.nd rfl (Or.inl rfl))) (fun _ _ _ _ _ => pts_nil) (fun _ _ _ _ _ => (pe_cmpR op_gt (pe_ix (r := rIxL K) ix_list (pf (K := K) rfl (pv 0) rfl) (pv 2) (fun _ _ => rfl)) pe_int (nomark _)))) pa_nil)))), ?_⟩
    obtain ⟨⟨ml, dx, b, mp, hH, net, lm⟩, lp, pok, k⟩ := k
    have n9 := net.1.n9
    have sn := pok.len
    refine ⟨_, rfl, a, CH, dx, _, _, rfl, hH, T.clH, T.nE, houF_n _ _, _, rfl, b, p, h.g, s0, rfl, net, lp, sn, fun H1 q s1 lq => ?_⟩
    have gl := gt_len h.g h.g.n s0
    refine ⟨q, rfl, ⟨_, lq.seq⟩, fun D hD => ?_⟩
    refine lc_each (e := nv) (xs := h.g.greatestTrap h.g.n s0) (fun x => some (.bl (decide (0 < Sq62.at_ h.m x)))) (by omega) hD lq.seq ?_ ?_
    · intro x H2 Kt Kf hx s2 kt kf
      have xn := pok.lt x (gt_mem _ _ _ hx)
      have s12 := s1.trans s2
      refine ⟨rfl, _, rfl, a, CH, dx, _, _, rfl, s12 _ _ hH, T.clH, T.nM, houF_m _ _, _, rfl, mp, _, _, _, rfl, rfl, (lm.same s12).seq, at_of (j := x) rfl (nv_at (by omega)), _, _, rfl, rfl, ?_⟩
      rw [at_get (by omega)] at kt
      exact kt _ _ (congrArg some (congrArg V.bl (dlt 0 _).symm)) (Same.refl _)
    · intro H2 s2 hL
      refine ⟨D, (h.g.greatestTrap h.g.n s0).map fun x => decide (0 < Sq62.at_ h.m x), rfl, SqL.of ?_, ?_⟩
      · rw [hL, filterMap_some, List.map_map]
        rfl
      · rw [any_id]
        exact k H2 (s1.trans s2)
/-! ### House.held -/
theorem sc_House_held : FnScope ["self", "siphon"] ["self"] (defScope s_House_held) := ⟨rfl, rfl, rfl, by decide +kernel, rfl, by decide +kernel, by decide +kernel⟩
theorem ok_House_held {f : Addr} {fd : FuncData} (F : Fun K "held" "House.held" s_House_held f fd) (T : Txt K mg R fR CN CH) (c_counted : OkF P w K mg base CX0 1 "counted" ["row"] (spCounted)) (c_least_siphons : OkF P w K mg base CX0 3 "least_siphons" ["net"] (spLeastSiphons CN)) (c_House_is_held : OkM P w K mg base CH CX0 4 "is_held" ["self", "siphon"] (spIsHeld CN CH)) :
    FnOk P w K mg base (L2.CX P w) 5 f fd ["self"] (spM R CN CH .held) := by
  refine F.okX sc_House_held (fun vs H Q E h => ?_) (fun cdv A outer s H vs Q E hr h => ?_)
  · obtain ⟨a, h, rfl, _⟩ := h
    rfl
  · obtain ⟨a, h, rfl, k⟩ := h
    refine ⟨_, (pss_one (ps_ret (pc c_counted hr (by decide) pass0 (pa_cons (pe_lc (own := [("siphon", 1)]) (g := (gName 1)) rfl sc_House_held.nd (pi_list (pc c_least_siphons hr (by decide) pass0 (pa_cons (pf (K := K) rfl (pv 0) rfl) pa_nil))) (blkOk_by (own := [("siphon", 1)]) (N := ["self", "siphon"]) (sc := defScope s_House_held) (by decide +kernel)) (fun _ _ _ _ _ => (pg_name (i := 1) sc_House_held.nd rfl (Or.inl rfl))) (fun _ _ _ _ _ => pts_nil) (fun _ _ _ _ _ => (pe_callTy call_int1 (by rfl) T.zint (by decide +kernel) (pa_cons (pm (pv 0) T.clH c_House_is_held hr (by decide) pass0 (pa_cons (pv 1) pa_nil)) pa_nil)))) pa_nil)))), ?_⟩
    obtain ⟨hh, k⟩ := k
    obtain ⟨ml, dx, b, mp, hH, net, lm⟩ := id hh
    have n9 := net.1.n9
    refine ⟨_, rfl, a, CH, dx, _, _, rfl, hH, T.clH, T.nE, houF_n _ _, b, h.g, rfl, net, fun H1 q1 s1 rows => ?_⟩
    have len := siphons_len n9
    have oks := siphons_ok (g := h.g)
    obtain ⟨prs, hp, rw_, eq⟩ := rows
    rw [← eq] at len oks
    rw [List.length_map] at len
    refine ⟨q1, rfl, ⟨_, SqL.of hp⟩, fun D hD => ?_⟩
    refine lc_each (e := Prod.fst) (xs := prs) (fun x => some (nv (if h.g.held h.m x.2 = true then 1 else 0))) (by omega) hD (SqL.of hp) ?_ ?_
    · intro x H2 Kt Kf hx s2 kt kf
      obtain ⟨xa, ex, lx⟩ := rw_ x hx
      have s12 := s1.trans s2
      refine ⟨rfl, _, rfl, a, dx, _, rfl, s12 _ _ hH, houF_no _ _ (by decide +kernel) (by decide +kernel), _, rfl, a, xa, h, x.2, ?_, hh.same s12, lx.same s2, oks _ (List.mem_map.mpr ⟨x, hx, rfl⟩), fun H3 s3 => .inr ⟨_, rfl, ?_⟩⟩
      · show [V.ref a, x.1] = _
        rw [ex]
      · refine kt _ _ ?_ s3
        rw [← ite_int]
    · intro H2 s2 hL
      have lD : LI H2 D (prs.map fun x => if h.g.held h.m x.2 = true then 1 else 0) := by
        show _ = _
        rw [hL, filterMap_some, List.map_map]
        rfl
      refine ⟨D, _, rfl, lD, by rw [List.length_map]; omega, fun H3 q3 n3 s3 l3 => ?_⟩
      have s13 := (s1.trans s2).trans s3
      refine k.good (v := (h.g.siphons.length : Nat)) rfl (by omega) H3 q3 ((s1.trans s2).free n3) (Next.same hh s13) ?_
      have l4 := lz_of l3
      rw [List.length_map] at l4
      rw [← eq, List.length_map, List.map_map]
      exact l4
/-! ### House.free -/
theorem sc_House_free : FnScope ["self", "pair"] ["self"] (defScope s_House_free) := ⟨rfl, rfl, rfl, by decide +kernel, rfl, by decide +kernel, by decide +kernel⟩
theorem ok_House_free {f : Addr} {fd : FuncData} (F : Fun K "free" "House.free" s_House_free f fd) (T : Txt K mg R fR CN CH) (c_Net_pair_not_free : OkM P w K mg base CN CX0 2 "pair_not_free" ["self"] (spPairNotFree CN)) :
    FnOk P w K mg base (L2.CX P w) 3 f fd ["self"] (spM R CN CH .free) := by
  refine F.okX sc_House_free (fun vs H Q E h => ?_) (fun cdv A outer s H vs Q E hr h => ?_)
  · obtain ⟨a, h, rfl, _⟩ := h
    rfl
  · obtain ⟨a, h, rfl, k⟩ := h
    refine ⟨_, (pss_cons (ps_set (i := 1) sc_House_free.nd rfl (Or.inl rfl) (pm0 (pf (K := K) rfl (pv 0) rfl) T.clN c_Net_pair_not_free hr (by decide) pass0))
      (pss_cons (ps_if (pt_cmp (pc_isN (pv 1)) rfl) (pss_one (ps_ret (pe_lst (pa_cons pe_int pa_nil)))) pss_nil)
      (pss_one (ps_ret (pe_op op_cat (pe_lst (pa_cons pe_int pa_nil)) (pv 1)))))), ?_⟩
    obtain ⟨hh, k⟩ := k
    obtain ⟨ml, dx, b, mp, hH, net, lm⟩ := id hh
    obtain ⟨gok, dxn, tq, hN, trs⟩ := id net
    refine ⟨_, rfl, a, CH, dx, _, _, rfl, hH, T.clH, T.nE, houF_n _ _, b, dxn, _, rfl, hN, netF_no _ _ (by decide +kernel) (by decide +kernel), b, h.g, rfl, net, fun e H1 s1 => ?_, fun i j e H1 q1 s1 lq => ?_⟩
    · refine ⟨_, rfl, _, rfl, ?_⟩
      refine iteT ⟨small_line (show 1 ≤ 1000000 by decide), fun r hr => ?_⟩
      have es : h.step .free = (h, ⟨1, []⟩) := by
        show (match h.g.unfree with | none => (h, Sq62.says 1) | some x => (h, ⟨0, Sq62.ints [x.1, x.2]⟩)) = _
        rw [e]
        rfl
      exact k.good es (by decide) _ r (s1.free hr) (Next.same hh (s1.trans (same_new hr))) upd_same
    · refine ⟨_, rfl, _, rfl, ?_⟩
      refine iteF ⟨small_line (show 1 ≤ 1000000 by decide), fun r hr => ?_⟩
      have ne : q1 ≠ r := ne_of_none lq hr
      refine ⟨_, rfl, r, q1, _, _, rfl, rfl, upd_same, (upd_ne ne).trans lq, small_line (show 3 ≤ 1000000 by decide), fun u hu => ?_⟩
      have es : h.step .free = (h, ⟨0, Sq62.ints [i, j]⟩) := by
        show (match h.g.unfree with | none => (h, Sq62.says 1) | some x => (h, ⟨0, Sq62.ints [x.1, x.2]⟩)) = _
        rw [e]
      exact k.good es (by decide) _ u ((s1.trans (same_new hr)).free hu) (Next.same hh (s1.trans ((same_new hr).trans (same_new hu)))) upd_same
/-! ### House.live -/
theorem sc_House_live : FnScope ["self", "siphon"] ["self"] (defScope s_House_live) := ⟨rfl, rfl, rfl, by decide +kernel, rfl, by decide +kernel, by decide +kernel⟩
theorem ok_House_live {f : Addr} {fd : FuncData} (F : Fun K "live" "House.live" s_House_live f fd) (T : Txt K mg R fR CN CH) (c_least_siphons : OkF P w K mg base CX0 3 "least_siphons" ["net"] (spLeastSiphons CN)) (c_House_is_held : OkM P w K mg base CH CX0 4 "is_held" ["self", "siphon"] (spIsHeld CN CH)) (c_ask : OkF P w K mg base (L2.CX P w) 3 "ask" ["good", "told"] (spAsk R)) (c_Net_pair_not_free : OkM P w K mg base CN CX0 2 "pair_not_free" ["self"] (spPairNotFree CN)) :
    FnOk P w K mg base (L2.CX P w) 5 f fd ["self"] (spM R CN CH .live) := by
  refine F.okX sc_House_live (fun vs H Q E h => ?_) (fun cdv A outer s H vs Q E hr h => ?_)
  · obtain ⟨a, h, rfl, _⟩ := h
    rfl
  · obtain ⟨a, h, rfl, k⟩ := h
    refine ⟨_, (pss_cons (ps_expr (pc c_ask hr (by decide) (passes_call (takes_of rfl rfl rfl rfl) (fun _ _ _ _ h => h)) (pa_cons (pe_cmp (pc_isN (pm0 (pf (K := K) rfl (pv 0) rfl) T.clN c_Net_pair_not_free hr (by decide) pass0)) rfl) (pa_cons (pgc T.gNOT_SO) pa_nil))))
      (pss_one (ps_ret (pe_lst (pa_cons (pe_callTy call_int1 (by rfl) T.zint (by decide +kernel) (pa_cons (pe_callB (r := rAll K) (cr_all rfl) (by rfl) T.zall (by decide +kernel) (pa_cons (pe_lc (own := [("siphon", 1)]) (g := (gName 1)) rfl sc_House_live.nd (pi_list (pc c_least_siphons hr (by decide) pass0 (pa_cons (pf (K := K) rfl (pv 0) rfl) pa_nil))) (blkOk_by (own := [("siphon", 1)]) (N := ["self", "siphon"]) (sc := defScope s_House_live) (by decide +kernel)) (fun _ _ _ _ _ => (pg_name (i := 1) sc_House_live.nd rfl (Or.inl rfl))) (fun _ _ _ _ _ => pts_nil) (fun _ _ _ _ _ => (pm (pv 0) T.clH c_House_is_held hr (by decide) pass0 (pa_cons (pv 1) pa_nil)))) pa_nil)) pa_nil)) pa_nil))))), ?_⟩
    obtain ⟨hh, k⟩ := k
    obtain ⟨ml, dx, b, mp, hH, net, lm⟩ := id hh
    obtain ⟨gok, dxn, tq, hN, trs⟩ := id net
    have n9 := gok.n9
    refine ⟨_, rfl, a, CH, dx, _, _, rfl, hH, T.clH, T.nE, houF_n _ _, b, dxn, _, rfl, hN, netF_no _ _ (by decide +kernel) (by decide +kernel), b, h.g, rfl, net, fun e H1 s1 => ?_, fun i j e H1 q1 s1 lq => ?_⟩
    · refine ⟨_, _, rfl, fun _ => ?_, fun c => Bool.noConfusion c⟩
      refine ⟨_, rfl, a, CH, dx, _, _, rfl, s1 _ _ hH, T.clH, T.nE, houF_n _ _, b, h.g, rfl, net.same s1, fun H2 q2 s2 rows => ?_⟩
      have len := siphons_len n9
      have oks := siphons_ok (g := h.g)
      obtain ⟨prs, hp, rw_, eq⟩ := rows
      rw [← eq] at len oks
      rw [List.length_map] at len
      refine ⟨q2, rfl, ⟨_, SqL.of hp⟩, fun D hD => ?_⟩
      refine lc_each (e := Prod.fst) (xs := prs) (fun x => some (.bl (h.g.held h.m x.2))) (by omega) hD (SqL.of hp) ?_ ?_
      · intro x H3 Kt Kf hx s3 kt kf
        obtain ⟨xa, ex, lx⟩ := rw_ x hx
        have s13 := (s1.trans s2).trans s3
        refine ⟨rfl, _, rfl, a, dx, _, rfl, s13 _ _ hH, houF_no _ _ (by decide +kernel) (by decide +kernel), _, rfl, a, xa, h, x.2, ?_, hh.same s13, lx.same s3, oks _ (List.mem_map.mpr ⟨x, hx, rfl⟩), fun H4 s4 => kt _ _ rfl s4⟩
        show [V.ref a, x.1] = _
        rw [ex]
      · intro H3 s3 hL
        have s13 := (s1.trans s2).trans s3
        refine ⟨D, prs.map fun x => h.g.held h.m x.2, rfl, SqL.of ?_, .inr ⟨_, rfl, small_line (show 1 ≤ 1000000 by decide), fun r hr => ?_⟩⟩
        · rw [hL, filterMap_some, List.map_map]
          rfl
        have es : h.step .live = (h, ⟨if h.g.live h.m = true then 1 else 0, []⟩) := by
          show (match h.g.unfree with | none => (h, Sq62.says (if h.g.live h.m = true then 1 else 0)) | some _ => (h, Sq62.says (-4))) = _
          rw [e]
          rfl
        have el : ((prs.map fun x => h.g.held h.m x.2).all id) = h.g.live h.m := by
          unfold Sq62.Net.live
          rw [all_id, ← eq, List.all_map]
          rfl
        refine k.good es (by split <;> decide) _ r (s13.free hr) (Next.same hh (s13.trans (same_new hr))) ?_
        show _ = _
        rw [upd_same, el]
        rfl
    · refine ⟨_, _, rfl, fun c => (by cases c), fun _ => ?_⟩
      have es : h.step .live = (h, Sq62.says (-4)) := by
        show (match h.g.unfree with | none => (h, Sq62.says (if h.g.live h.m = true then 1 else 0)) | some _ => (h, Sq62.says (-4))) = _
        rw [e]
      exact Rf.same (k.bad es (by decide)) s1
/-! ### read_calls -/
theorem sc_read_calls : FnScope ["row", "found", "at", "call", "behind", "numbers", "rows", "turn"] ["row"] (defScope s_read_calls) := ⟨rfl, rfl, rfl, by decide +kernel, rfl, by decide +kernel, by decide +kernel⟩
theorem ok_read_calls {f : Addr} {fd : FuncData} (F : Fun K "read_calls" "read_calls" s_read_calls f fd) (T : Txt K mg R fR CN CH)  :
    FnOk P w K mg base CX0 1 f fd ["row"] (spReadCalls K) := by
  refine F.ok sc_read_calls (fun vs H Q E h => ?_) (fun cdv A outer s H vs Q E hr h => ?_)
  · obtain ⟨p, ns, cs, rfl, _⟩ := h
    rfl
  · obtain ⟨hABELONG, hgBELONG, hSBELONG⟩ := T.gBELONG
    obtain ⟨hAROWS, hgROWS, hSROWS⟩ := T.gROWS
    obtain ⟨p, ns, cs, rfl, k⟩ := h
    refine ⟨_, (pss_cons (ps_set (i := 1) sc_read_calls.nd rfl (Or.inl rfl) (pe_lst pa_nil))
      (pss_cons (ps_set (i := 2) sc_read_calls.nd rfl (Or.inl rfl) pe_int)
      (pss_cons (ps_while PassesOwn.never (pt_cmpR op_lt (pv 2) (pe_callB (r := rLen K) call_len_seq (by rfl) T.zlen PySem.boot_len (pa_cons (pv 0) pa_nil)) (nomark _)) (pss_cons (ps_set (i := 3) sc_read_calls.nd rfl (Or.inl rfl) (pe_ix (r := rIxL K) ix_list (pv 0) (pv 2) (fun _ _ => rfl)))
      (pss_cons (ps_set (i := 4) sc_read_calls.nd rfl (Or.inl rfl) (pe_op op_add (pe_op op_add (pv 2) pe_int) (pe_ix (r := rIxT K) ix_tup (pe_glob (v := .ref hABELONG) rfl hgBELONG rfl) (pe_op op_sub (pv 3) pe_int) (fun _ _ => rfl))))
      (pss_cons (ps_set (i := 5) sc_read_calls.nd rfl (Or.inl rfl) (pe_slice (r := rSlL K) sl_list (pv 0) (po_some (pe_op op_add (pv 2) pe_int)) (po_some (pv 4))))
      (pss_cons (ps_set (i := 6) sc_read_calls.nd rfl (Or.inl rfl) (pe_lst pa_nil))
      (pss_cons (ps_for PassesOwn.never rfl (pi_range1 rfl T.zrange (pa_cons (pe_ix (r := rIxT K) ix_tup (pe_glob (v := .ref hAROWS) rfl hgROWS rfl) (pe_op op_sub (pv 3) pe_int) (fun _ _ => rfl)) pa_nil)) (pg_name (i := 7) sc_read_calls.nd rfl (Or.inl rfl)) (pss_cons (ps_expr (pe_bm PySem.F.plainAttrs_list PySem.F.slot_list_append PySem.F.type_list_append mt_append (pv 6) (pa_cons (pe_slice (r := rSlL K) sl_list (pv 0) (po_some (pe_op op_add (pv 4) pe_int)) (po_some (pe_op op_add (pe_op op_add (pv 4) pe_int) (pe_ix (r := rIxL K) ix_list (pv 0) (pv 4) (fun _ _ => rfl))))) pa_nil)))
      (pss_one (ps_set (i := 4) sc_read_calls.nd rfl (Or.inl rfl) (pe_op op_add (pe_op op_add (pv 4) pe_int) (pe_ix (r := rIxL K) ix_list (pv 0) (pv 4) (fun _ _ => rfl)))))))
      (pss_cons (ps_expr (pe_bm PySem.F.plainAttrs_list PySem.F.slot_list_append PySem.F.type_list_append mt_append (pv 1) (pa_cons (pe_tup (pa_cons (pv 3) (pa_cons (pv 5) (pa_cons (pv 6) pa_nil)))) pa_nil)))
      (pss_one (ps_set (i := 2) sc_read_calls.nd rfl (Or.inl rfl) (pv 4))))))))))
      (pss_one (ps_ret (pv 1)))))), ?_⟩
    obtain ⟨hS, hn, hcs, k⟩ := k
    have hl : (ns.map V.int).length = ns.length := List.length_map ..
    refine ⟨small_line (show 0 ≤ 1000000 by decide), fun q hq => ?_⟩
    refine ⟨WCalls p q ns cs H, ⟨_, 0, ns.length, [], cs, none, none, none, none, none, rfl, rfl, Nat.zero_le _, same_new hq, upd_same, hq, fun _ h => (by cases h), by rw [List.drop_zero]; exact hcs, rfl, Nat.zero_le _⟩, ?_⟩
    rintro m σ H2 ⟨i, f, prs, rest, v3, v4, v5, v6, v7, rfl, rfl, hi, s2, hL, hqn, cv, hc, ecs, hpi⟩
    refine ⟨_, rfl, _, rfl, p, _, rfl, .inl (s2.seq hS), _, _, rfl, rfl, _, rfl, ?_⟩
    refine ite2 (fun c => ?_) (fun c => ?_)
    · have c : (i : Int) < (((ns.map V.int).length : Nat) : Int) := of_decide_eq_true c
      rw [hl] at c
      have c : i < ns.length := by omega
      cases hd : ns.drop i with
      | nil =>
        have := congrArg List.length hd
        rw [List.length_drop, List.length_nil] at this
        omega
      | cons z r =>
      obtain ⟨_, hz, rfl, hzv⟩ := drop_cons hd
      rw [hd] at hc
      obtain ⟨f', n, kk, xs, t, rest', hsh, hnr, hrows, rfl, hc'⟩ := calls_step hc
      obtain ⟨j, hj10, hzj, hbel, hrow⟩ := shape_cases hsh
      rw [List.length_drop] at hnr
      have n1 : n ≤ 1 ∧ kk ≤ 2 := by
        have e1 := hbel
        have e2 := hrow
        match j, hj10 with
        | 0, _ => cases e1; cases e2; decide
        | 1, _ => cases e1; cases e2; decide
        | 2, _ => cases e1; cases e2; decide
        | 3, _ => cases e1; cases e2; decide
        | 4, _ => cases e1; cases e2; decide
        | 5, _ => cases e1; cases e2; decide
        | 6, _ => cases e1; cases e2; decide
        | 7, _ => cases e1; cases e2; decide
        | 8, _ => cases e1; cases e2; decide
        | 9, _ => cases e1; cases e2; decide
      have hbv : (([1, 0, 0, 0, 0, 0, 0, 0, 0, 0] : List Nat).map nv)[j]? = some (nv n) := by rw [List.getElem?_map, hbel]; rfl
      have hrv : (([2, 1, 1, 0, 0, 1, 0, 0, 0, 0] : List Nat).map nv)[j]? = some (nv kk) := by rw [List.getElem?_map, hrow]; rfl
      refine ⟨fun σ' H' => ∃ m', m' < ns.length - i ∧ WCalls p q ns cs H m' σ' H', fun _ _ z => z, ?_⟩
      refine ⟨_, rfl, _, rfl, p, _, _, _, rfl, rfl, s2.seq hS, at_of (j := i) rfl hzv, ?_⟩
      refine ⟨_, rfl, _, _, rfl, rfl, _, rfl, _, _, rfl, rfl, hABELONG, _, _, _, rfl, rfl, hSBELONG _, at_of (j := j) (by omega) hbv, _, _, rfl, rfl, ?_⟩
      refine ⟨_, rfl, _, rfl, _, _, rfl, rfl, _, rfl, _, rfl, _, rfl, p, _, rfl, s2.seq hS, fun pn hpn => ?_⟩
      have lN : LZ (upd H2 pn (.lst (cutV (ns.map V.int) (some ((i + 1 : Nat) : Int)) (some ((i + 1 + n : Nat) : Int))))) pn ((ns.drop (i + 1)).take n) := upd_same.trans (by rw [cut_ints _ _ _ (by omega)])
      obtain ⟨HN, eN⟩ : ∃ HN, HN = upd H2 pn (.lst (cutV (ns.map V.int) (some ((i + 1 : Nat) : Int)) (some ((i + 1 + n : Nat) : Int)))) := ⟨_, rfl⟩
      rw [← eN] at lN
      have s2N : Same H2 HN := by rw [eN]; exact same_new hpn
      have sN := s2.trans s2N
      refine ⟨small_line (show 0 ≤ 1000000 by decide), fun pr hpr => ?_⟩
      have hpr : HN pr = none := by rw [eN]; exact hpr
      have hqN : HN q = some (.lst (prs.map Prod.fst)) := s2N _ _ hL
      have npq : pr ≠ q := hid_free hpr hqN
      have nnq : pn ≠ q := hid_free hpn hL
      refine ⟨_, rfl, _, _, rfl, rfl, hAROWS, _, _, _, rfl, rfl, hSROWS _, at_of (j := j) (by omega) hrv, _, rfl, by omega, by omega, ?_⟩
      have hzk : ((kk : Nat) : Int).toNat = kk := Int.toNat_natCast _
      rw [hzk]
      refine for_range (fun j2 σ H' => ∃ (b : Nat) (rs : List (V × List Int)) (ys : List (List Int)) (v7 : Option V), σ = [some (.ref p), some (.ref q), some (nv i), some (.int z), some (nv b), some (.ref pn), some (.ref pr), v7] ∧ Same HN H' ∧ H' pr = some (.lst (rs.map Prod.fst)) ∧
          (∀ x ∈ rs, RowZ (hid pr (hid q (nw H H'))) x.1 x.2) ∧ PyFlat.rows (kk - j2) (ns.drop b) = some (ys, t) ∧ xs = rs.map Prod.snd ++ ys ∧ b ≤ ns.length ∧ i < b ∧ rs.length ≤ j2) ?_ ?_ ?_
      · refine ⟨i + 1 + n, [], xs, _, rfl, ?_, upd_same, fun _ h => (by cases h), ?_, rfl, by omega, by omega, Nat.zero_le _⟩
        · subst eN
          exact same_new hpr
        · rw [← List.drop_drop]
          exact hrows
      · rintro j2 σ H3 hj2 ⟨b, rs, ys, w7, rfl, s3, hR, rz, hrw, exs, hbn, hib, hrj⟩
        have ek : kk - j2 = (kk - (j2 + 1)) + 1 := by omega
        rw [ek] at hrw
        obtain ⟨wn, r', ys', hdb, hwn, rfl, hrw'⟩ := rows_step hrw
        obtain ⟨hb, _, rfl, hbv2⟩ := drop_cons hdb
        rw [List.length_drop] at hwn
        have s03 := sN.trans s3
        refine ⟨_, rfl, .inl ⟨rfl, _, SqL.of hR⟩, _, rfl, _, rfl, _, _, rfl, rfl, _, rfl, _, rfl, _, _, rfl, rfl, _, rfl, _, rfl, p, _, _, _, rfl, rfl, s03.seq hS, at_of (j := b) rfl hbv2, _, _, rfl, rfl, _, rfl, p, _, rfl, s03.seq hS, fun r hr => ?_⟩
        have lr : LZ (upd H3 r (.lst (cutV (ns.map V.int) (some ((b + 1 : Nat) : Int)) (some ((b + 1 + wn : Nat) : Int))))) r ((ns.drop (b + 1)).take wn) := upd_same.trans (by rw [cut_ints _ _ _ (by omega)])
        obtain ⟨H4, e4⟩ : ∃ H4, H4 = upd H3 r (.lst (cutV (ns.map V.int) (some ((b + 1 : Nat) : Int)) (some ((b + 1 + wn : Nat) : Int)))) := ⟨_, rfl⟩
        have s34 : Same H3 H4 := by rw [e4]; exact same_new hr
        rw [← e4] at lr
        have hR4 := s34 _ _ hR
        have nr : r ≠ pr := hid_free hr hR
        have nrq : r ≠ q := hid_free hr (s3 _ _ hqN)
        subst e4
        refine ⟨pr, _, _, rfl, rfl, hR4, ?_, ?_⟩
        · rw [List.length_map, sizeLine_eq]
          omega
        have s5 : Same HN (upd (upd H3 r (.lst (cutV (ns.map V.int) (some ((b + 1 : Nat) : Int)) (some ((b + 1 + wn : Nat) : Int))))) pr (.lst (rs.map Prod.fst ++ [.ref r]))) := same_upd hpr (s3.trans s34)
        have s05 := sN.trans s5
        refine ⟨_, rfl, _, _, rfl, rfl, _, rfl, _, rfl, p, _, _, _, rfl, rfl, s05.seq hS, at_of (j := b) rfl hbv2, _, _, rfl, rfl, ?_⟩
        refine ⟨b + 1 + wn, rs ++ [(.ref r, (ns.drop (b + 1)).take wn)], ys', _, rfl, s5, ?_, ?_, ?_, ?_, by omega, by omega, ?_⟩
        · rw [upd_same, List.map_append]
          rfl
        · intro x hx
          rw [hid_nw_upd2]
          rcases List.mem_append.mp hx with w | w
          · exact (rz x w).same (same_hid (same_hid (nw_mono s34)))
          · rw [List.mem_singleton] at w
            subst w
            exact ⟨r, rfl, at_hid (at_hid (at_nw lr (s03.free hr)) nrq) nr⟩
        · rw [← List.drop_drop]
          exact hrw'
        · rw [exs, List.map_append, List.append_assoc]
          rfl
        · rw [List.length_append, List.length_singleton]
          omega
      · rintro σ H3 ⟨b, rs, ys, w7, rfl, s3, hR, rz, hrw, exs, hbn, hib, hrj⟩
        rw [Nat.sub_self] at hrw
        obtain ⟨rfl, rfl⟩ := rows_nil hrw
        rw [List.append_nil] at exs
        subst exs
        have s03 := sN.trans s3
        have hq3 := s3 _ _ hqN
        refine ⟨_, rfl, .inl ⟨rfl, _, SqL.of hq3⟩, _, rfl, _, rfl, _, rfl, small_line (show 3 ≤ 1000000 by decide), fun t3 ht3 => ?_⟩
        have n3 : t3 ≠ q := hid_free ht3 hq3
        refine ⟨q, _, _, rfl, rfl, same_new ht3 _ _ hq3, ?_, ?_⟩
        · rw [List.length_map, sizeLine_eq]
          omega
        refine ⟨_, rfl, ns.length - b, by omega, b, f', prs ++ [(.ref t3, (z :: (ns.drop (i + 1)).take n) :: rs.map Prod.snd)], rest', _, _, _, _, _, rfl, rfl, hbn, same_upd hqn (s03.trans (same_new ht3)), ?_, hqn, ?_, hc', ?_, ?_⟩
        · rw [upd_same, List.map_append]
          rfl
        · intro x hx
          rw [hid_nw_upd]
          have s3t := (s2N.trans s3).trans (same_new (o := .tup [.int z, .ref pn, .ref pr]) ht3)
          rcases List.mem_append.mp hx with w | w
          · exact (cv x w).same (same_hid (nw_mono s3t))
          · rw [List.mem_singleton] at w
            subst w
            refine ⟨t3, pn, pr, z, _, _, rfl, rfl, at_hid (at_nw upd_same (s03.free ht3)) n3, at_hid (at_nw (same_new ht3 _ _ (s3 _ _ lN)) (s2.free hpn)) nnq, rs, at_hid (at_nw (same_new ht3 _ _ hR) (sN.free hpr)) npq, fun y hy => ?_, rfl⟩
            exact ((rz y hy).same hid_same).same (same_hid (nw_mono (same_new ht3)))
        · rw [ecs, List.map_append, List.append_assoc]
          rfl
        · rw [List.length_append, List.length_singleton]
          omega
    · have c : ¬ (i : Int) < (((ns.map V.int).length : Nat) : Int) := fun z => c (decide_eq_true z)
      rw [hl] at c
      have e : ns.drop i = [] := List.drop_eq_nil_of_le (by omega)
      rw [e] at hc
      have := calls_nil hc
      subst this
      rw [List.append_nil] at ecs
      exact ⟨_, rfl, k H2 q s2 ⟨prs, at_nw hL hqn, fun x hx => (cv x hx).same hid_same, ecs.symm⟩⟩
/-! ### told_with_rows -/
theorem sc_told_with_rows : FnScope ["house", "call", "numbers", "rows"] ["house", "call", "numbers", "rows"] (defScope s_told_with_rows) := ⟨rfl, rfl, rfl, by decide +kernel, rfl, by decide +kernel, by decide +kernel⟩
theorem ok_told_with_rows {f : Addr} {fd : FuncData} (F : Fun K "told_with_rows" "told_with_rows" s_told_with_rows f fd) (T : Txt K mg R fR CN CH) (c_House_inside : OkM P w K mg base CH (L2.CX P w) 4 "inside" ["self", "places"] (spInside R CN CH)) (c_House_fire : OkM P w K mg base CH (L2.CX P w) 5 "fire" ["self", "numbers"] (spFire R CN CH)) (c_House_set_marking : OkM P w K mg base CH (L2.CX P w) 4 "set_marking" ["self", "marking"] (spSetMarking R CN CH)) (c_House_begin : OkM P w K mg base CH (L2.CX P w) 6 "begin" ["self", "n", "row", "marking"] (spBegin R CN CH)) :
    FnOk P w K mg base (L2.CX P w) 7 f fd ["house", "call", "numbers", "rows"] (spToldRows R CN CH) := by
  refine F.okX sc_told_with_rows (fun vs H Q E h => ?_) (fun cdv A outer s H vs Q E hr h => ?_)
  · obtain ⟨a, p, pn, pr, h, nums, rows, c, rfl, _⟩ := h
    rfl
  · obtain ⟨a, p, pn, pr, h, nums, rows, c, rfl, k⟩ := h
    refine ⟨_, (pss_cons (ps_if (pt_cmpR op_eq (pv 1) (pgc T.gBEGIN) (nomark _)) (pss_one (ps_ret (pm (pv 0) T.clH c_House_begin hr (by decide) (passes_call (takes_of rfl rfl rfl rfl) (fun _ _ _ _ h => h)) (pa_cons (pe_ix (r := rIxL K) ix_list (pv 2) pe_int (fun _ _ => rfl)) (pa_cons (pe_ix (r := rIxL K) ix_list (pv 3) pe_int (fun _ _ => rfl)) (pa_cons (pe_ix (r := rIxL K) ix_list (pv 3) pe_int (fun _ _ => rfl)) pa_nil)))))) pss_nil)
      (pss_cons (ps_if (pt_cmpR op_eq (pv 1) pe_int (nomark _)) (pss_one (ps_ret (pm (pv 0) T.clH c_House_set_marking hr (by decide) (passes_call (takes_of rfl rfl rfl rfl) (fun _ _ _ _ h => h)) (pa_cons (pe_ix (r := rIxL K) ix_list (pv 3) pe_int (fun _ _ => rfl)) pa_nil)))) pss_nil)
      (pss_cons (ps_if (pt_cmpR op_eq (pv 1) pe_int (nomark _)) (pss_one (ps_ret (pm (pv 0) T.clH c_House_fire hr (by decide) (passes_call (takes_of rfl rfl rfl rfl) (fun _ _ _ _ h => h)) (pa_cons (pe_ix (r := rIxL K) ix_list (pv 3) pe_int (fun _ _ => rfl)) pa_nil)))) pss_nil)
      (pss_one (ps_ret (pm (pv 0) T.clH c_House_inside hr (by decide) (passes_call (takes_of rfl rfl rfl rfl) (fun _ _ _ _ h => h)) (pa_cons (pe_ix (r := rIxL K) ix_list (pv 3) pe_int (fun _ _ => rfl)) pa_nil))))))), ?_⟩
    obtain ⟨hh, ln, lr, hne, ci, D⟩ := k
    obtain ⟨ml, dx, b, mp, hH, net, lm⟩ := id hh
    cases ci with
    | begin_ n r s hr hs =>
      obtain ⟨p1, p2, e, l1, l2⟩ := rows2 lr
      refine ⟨_, rfl, rfl, _, rfl, ?_⟩
      refine if_true_of (show decide (V.int 1 = V.int 1) = true by decide) ?_
      refine ⟨_, rfl, a, dx, _, rfl, hH, houF_no _ _ (by decide +kernel) (by decide +kernel), _, rfl, pn, _, _, _, rfl, rfl, SqL.of ln, at_of (j := 0) rfl rfl, _, rfl, pr, _, _, _, rfl, rfl, SqL.of e, at_of (j := 0) rfl rfl, _, rfl, pr, _, _, _, rfl, rfl, SqL.of e, at_of (j := 1) rfl rfl, ?_⟩
      exact ⟨a, n, p1, p2, h, _, _, rfl, hh, lz_li l1 hr.2, lz_li l2 hs.2, by rw [List.length_map]; exact hr.1, by rw [List.length_map]; exact hs.1, D⟩
    | set r hr =>
      obtain ⟨p1, e, l1⟩ := rows1 lr
      refine ⟨_, rfl, rfl, _, rfl, ?_⟩
      refine if_false_of (show decide (V.int 2 = V.int 1) = false by decide) ?_
      refine ⟨_, rfl, rfl, _, rfl, ?_⟩
      refine if_true_of (show decide (V.int 2 = V.int 2) = true by decide) ?_
      refine ⟨_, rfl, a, dx, _, rfl, hH, houF_no _ _ (by decide +kernel) (by decide +kernel), _, rfl, pr, _, _, _, rfl, rfl, SqL.of e, at_of (j := 0) rfl rfl, ?_⟩
      exact ⟨a, p1, h, _, rfl, hh, lz_li l1 hr.2, by rw [List.length_map]; exact hr.1, D⟩
    | fire r hr =>
      obtain ⟨p1, e, l1⟩ := rows1 lr
      refine ⟨_, rfl, rfl, _, rfl, ?_⟩
      refine if_false_of (show decide (V.int 3 = V.int 1) = false by decide) ?_
      refine ⟨_, rfl, rfl, _, rfl, ?_⟩
      refine if_false_of (show decide (V.int 3 = V.int 2) = false by decide) ?_
      refine ⟨_, rfl, rfl, _, rfl, ?_⟩
      refine if_true_of (show decide (V.int 3 = V.int 3) = true by decide) ?_
      refine ⟨_, rfl, a, dx, _, rfl, hH, houF_no _ _ (by decide +kernel) (by decide +kernel), _, rfl, pr, _, _, _, rfl, rfl, SqL.of e, at_of (j := 0) rfl rfl, ?_⟩
      exact ⟨a, p1, h, _, rfl, hh, lz_li l1 hr.2, by rw [List.length_map]; exact hr.1, D⟩
    | inside r hr =>
      obtain ⟨p1, e, l1⟩ := rows1 lr
      refine ⟨_, rfl, rfl, _, rfl, ?_⟩
      refine if_false_of (show decide (V.int 6 = V.int 1) = false by decide) ?_
      refine ⟨_, rfl, rfl, _, rfl, ?_⟩
      refine if_false_of (show decide (V.int 6 = V.int 2) = false by decide) ?_
      refine ⟨_, rfl, rfl, _, rfl, ?_⟩
      refine if_false_of (show decide (V.int 6 = V.int 3) = false by decide) ?_
      refine ⟨_, rfl, a, dx, _, rfl, hH, houF_no _ _ (by decide +kernel) (by decide +kernel), _, rfl, pr, _, _, _, rfl, rfl, SqL.of e, at_of (j := 0) rfl rfl, ?_⟩
      exact ⟨a, p1, h, _, rfl, hh, lz_li l1 hr.2, by rw [List.length_map]; exact hr.1, D⟩
    | siphons => exact absurd rfl hne
    | traps => exact absurd rfl hne
    | empty => exact absurd rfl hne
    | held => exact absurd rfl hne
    | free => exact absurd rfl hne
    | live => exact absurd rfl hne
/-! ### told_by -/
theorem sc_told_by : FnScope ["house", "call", "numbers", "rows"] ["house", "call", "numbers", "rows"] (defScope s_told_by) := ⟨rfl, rfl, rfl, by decide +kernel, rfl, by decide +kernel, by decide +kernel⟩
theorem ok_told_by {f : Addr} {fd : FuncData} (F : Fun K "told_by" "told_by" s_told_by f fd) (T : Txt K mg R fR CN CH) (c_House_live : OkM P w K mg base CH (L2.CX P w) 5 "live" ["self"] (spM R CN CH .live)) (c_House_free : OkM P w K mg base CH (L2.CX P w) 3 "free" ["self"] (spM R CN CH .free)) (c_House_held : OkM P w K mg base CH (L2.CX P w) 5 "held" ["self"] (spM R CN CH .held)) (c_House_empty : OkM P w K mg base CH (L2.CX P w) 4 "empty" ["self"] (spM R CN CH .empty)) (c_House_traps : OkM P w K mg base CH (L2.CX P w) 4 "traps" ["self"] (spM R CN CH .traps)) (c_House_siphons : OkM P w K mg base CH (L2.CX P w) 4 "siphons" ["self"] (spM R CN CH .siphons)) (c_told_with_rows : OkF P w K mg base (L2.CX P w) 7 "told_with_rows" ["house", "call", "numbers", "rows"] (spToldRows R CN CH)) :
    FnOk P w K mg base (L2.CX P w) 8 f fd ["house", "call", "numbers", "rows"] (spTold R CN CH) := by
  refine F.okX sc_told_by (fun vs H Q E h => ?_) (fun cdv A outer s H vs Q E hr h => ?_)
  · obtain ⟨a, p, pn, pr, h, nums, rows, c, rfl, _⟩ := h
    rfl
  · obtain ⟨a, p, pn, pr, h, nums, rows, c, rfl, k⟩ := h
    refine ⟨_, (pss_cons (ps_if (pt_cmpR (r := rNeD K) (op_neD hr.units) (pv 3) (pe_lst pa_nil) (nomark _)) (pss_one (ps_ret (pc c_told_with_rows hr (by decide) (passes_call (takes_of rfl rfl rfl rfl) (fun _ _ _ _ h => h)) (pa_cons (pv 0) (pa_cons (pv 1) (pa_cons (pv 2) (pa_cons (pv 3) pa_nil))))))) pss_nil)
      (pss_cons (ps_if (pt_cmpR op_eq (pv 1) pe_int (nomark _)) (pss_one (ps_ret (pm0 (pv 0) T.clH c_House_siphons hr (by decide) (passes_call (takes_of rfl rfl rfl rfl) (fun _ _ _ _ h => h))))) pss_nil)
      (pss_cons (ps_if (pt_cmpR op_eq (pv 1) pe_int (nomark _)) (pss_one (ps_ret (pm0 (pv 0) T.clH c_House_traps hr (by decide) (passes_call (takes_of rfl rfl rfl rfl) (fun _ _ _ _ h => h))))) pss_nil)
      (pss_cons (ps_if (pt_cmpR op_eq (pv 1) pe_int (nomark _)) (pss_one (ps_ret (pm0 (pv 0) T.clH c_House_empty hr (by decide) (passes_call (takes_of rfl rfl rfl rfl) (fun _ _ _ _ h => h))))) pss_nil)
      (pss_cons (ps_if (pt_cmpR op_eq (pv 1) pe_int (nomark _)) (pss_one (ps_ret (pm0 (pv 0) T.clH c_House_held hr (by decide) (passes_call (takes_of rfl rfl rfl rfl) (fun _ _ _ _ h => h))))) pss_nil)
      (pss_cons (ps_if (pt_cmpR op_eq (pv 1) pe_int (nomark _)) (pss_one (ps_ret (pm0 (pv 0) T.clH c_House_free hr (by decide) (passes_call (takes_of rfl rfl rfl rfl) (fun _ _ _ _ h => h))))) pss_nil)
      (pss_one (ps_ret (pm0 (pv 0) T.clH c_House_live hr (by decide) (passes_call (takes_of rfl rfl rfl rfl) (fun _ _ _ _ h => h))))))))))), ?_⟩
    obtain ⟨hh0, ln0, lr0, ci, D0⟩ := k
    refine ⟨_, rfl, small_line (show 0 ≤ 1000000 by decide), fun e he => ?_⟩
    have s1 := same_new (o := .lst []) he
    obtain ⟨H1, e1⟩ : ∃ H1, H1 = upd H e (.lst []) := ⟨_, rfl⟩
    have le : RowsZ H1 e [] := ⟨[], by rw [e1]; exact upd_same, fun _ h => (by cases h), rfl⟩
    rw [← e1] at s1 ⊢
    have hh := hh0.same s1
    have ln := ln0.same s1
    have lr := lr0.same s1
    have D := D0.after s1
    obtain ⟨ml, dx, b, mp, hH, net, lm⟩ := id hh
    refine ⟨dRR rows, dRR [], dp_rr lr, dp_rr le, shaped_rr _, shaped_rr _, _, rfl, ?_⟩
    rw [eqv_rr]
    cases ci with
    | begin_ n r s hr hs =>
      refine if_true_of rfl ?_
      exact ⟨_, rfl, _, rfl, _, rfl, _, rfl, a, _, pn, pr, h, _, _, _, rfl, hh, ln, lr, List.cons_ne_nil _ _, .begin_ n r s hr hs, D⟩
    | set r hr =>
      refine if_true_of rfl ?_
      exact ⟨_, rfl, _, rfl, _, rfl, _, rfl, a, _, pn, pr, h, _, _, _, rfl, hh, ln, lr, List.cons_ne_nil _ _, .set r hr, D⟩
    | fire r hr =>
      refine if_true_of rfl ?_
      exact ⟨_, rfl, _, rfl, _, rfl, _, rfl, a, _, pn, pr, h, _, _, _, rfl, hh, ln, lr, List.cons_ne_nil _ _, .fire r hr, D⟩
    | inside r hr =>
      refine if_true_of rfl ?_
      exact ⟨_, rfl, _, rfl, _, rfl, _, rfl, a, _, pn, pr, h, _, _, _, rfl, hh, ln, lr, List.cons_ne_nil _ _, .inside r hr, D⟩
    | siphons =>
      refine if_false_of rfl ?_
      refine ⟨_, rfl, rfl, _, rfl, ?_⟩
      refine if_true_of (show decide (V.int 4 = V.int 4) = true by decide) ?_
      exact ⟨_, rfl, a, dx, _, rfl, hH, houF_no _ _ (by decide +kernel) (by decide +kernel), a, h, rfl, hh, D⟩
    | traps =>
      refine if_false_of rfl ?_
      refine ⟨_, rfl, rfl, _, rfl, ?_⟩
      refine if_false_of (show decide (V.int 5 = V.int 4) = false by decide) ?_
      refine ⟨_, rfl, rfl, _, rfl, ?_⟩
      refine if_true_of (show decide (V.int 5 = V.int 5) = true by decide) ?_
      exact ⟨_, rfl, a, dx, _, rfl, hH, houF_no _ _ (by decide +kernel) (by decide +kernel), a, h, rfl, hh, D⟩
    | empty =>
      refine if_false_of rfl ?_
      refine ⟨_, rfl, rfl, _, rfl, ?_⟩
      refine if_false_of (show decide (V.int 7 = V.int 4) = false by decide) ?_
      refine ⟨_, rfl, rfl, _, rfl, ?_⟩
      refine if_false_of (show decide (V.int 7 = V.int 5) = false by decide) ?_
      refine ⟨_, rfl, rfl, _, rfl, ?_⟩
      refine if_true_of (show decide (V.int 7 = V.int 7) = true by decide) ?_
      exact ⟨_, rfl, a, dx, _, rfl, hH, houF_no _ _ (by decide +kernel) (by decide +kernel), a, h, rfl, hh, D⟩
    | held =>
      refine if_false_of rfl ?_
      refine ⟨_, rfl, rfl, _, rfl, ?_⟩
      refine if_false_of (show decide (V.int 8 = V.int 4) = false by decide) ?_
      refine ⟨_, rfl, rfl, _, rfl, ?_⟩
      refine if_false_of (show decide (V.int 8 = V.int 5) = false by decide) ?_
      refine ⟨_, rfl, rfl, _, rfl, ?_⟩
      refine if_false_of (show decide (V.int 8 = V.int 7) = false by decide) ?_
      refine ⟨_, rfl, rfl, _, rfl, ?_⟩
      refine if_true_of (show decide (V.int 8 = V.int 8) = true by decide) ?_
      exact ⟨_, rfl, a, dx, _, rfl, hH, houF_no _ _ (by decide +kernel) (by decide +kernel), a, h, rfl, hh, D⟩
    | free =>
      refine if_false_of rfl ?_
      refine ⟨_, rfl, rfl, _, rfl, ?_⟩
      refine if_false_of (show decide (V.int 9 = V.int 4) = false by decide) ?_
      refine ⟨_, rfl, rfl, _, rfl, ?_⟩
      refine if_false_of (show decide (V.int 9 = V.int 5) = false by decide) ?_
      refine ⟨_, rfl, rfl, _, rfl, ?_⟩
      refine if_false_of (show decide (V.int 9 = V.int 7) = false by decide) ?_
      refine ⟨_, rfl, rfl, _, rfl, ?_⟩
      refine if_false_of (show decide (V.int 9 = V.int 8) = false by decide) ?_
      refine ⟨_, rfl, rfl, _, rfl, ?_⟩
      refine if_true_of (show decide (V.int 9 = V.int 9) = true by decide) ?_
      exact ⟨_, rfl, a, dx, _, rfl, hH, houF_no _ _ (by decide +kernel) (by decide +kernel), a, h, rfl, hh, D⟩
    | live =>
      refine if_false_of rfl ?_
      refine ⟨_, rfl, rfl, _, rfl, ?_⟩
      refine if_false_of (show decide (V.int 10 = V.int 4) = false by decide) ?_
      refine ⟨_, rfl, rfl, _, rfl, ?_⟩
      refine if_false_of (show decide (V.int 10 = V.int 5) = false by decide) ?_
      refine ⟨_, rfl, rfl, _, rfl, ?_⟩
      refine if_false_of (show decide (V.int 10 = V.int 7) = false by decide) ?_
      refine ⟨_, rfl, rfl, _, rfl, ?_⟩
      refine if_false_of (show decide (V.int 10 = V.int 8) = false by decide) ?_
      refine ⟨_, rfl, rfl, _, rfl, ?_⟩
      refine if_false_of (show decide (V.int 10 = V.int 9) = false by decide) ?_
      exact ⟨_, rfl, a, dx, _, rfl, hH, houF_no _ _ (by decide +kernel) (by decide +kernel), a, h, rfl, hh, D⟩
/-! ### answered -/
theorem sc_answered : FnScope ["house", "call", "numbers", "rows", "error"] ["house", "call", "numbers", "rows"] (defScope s_answered) := ⟨rfl, rfl, rfl, by decide +kernel, rfl, by decide +kernel, by decide +kernel⟩
theorem ok_answered {f : Addr} {fd : FuncData} (F : Fun K "answered" "answered" s_answered f fd) (T : Txt K mg R fR CN CH) (c_told_by : OkF P w K mg base (L2.CX P w) 8 "told_by" ["house", "call", "numbers", "rows"] (spTold R CN CH)) :
    FnOk P w K mg base CX0 9 f fd ["house", "call", "numbers", "rows"] (spAnswered CN CH) := by
  refine F.ok sc_answered (fun vs H Q E h => ?_) (fun cdv A outer s H vs Q E hr h => ?_)
  · obtain ⟨a, p, pn, pr, h, nums, rows, c, rfl, _⟩ := h
    rfl
  · obtain ⟨a, p, pn, pr, h, nums, rows, c, rfl, k⟩ := h
    refine ⟨_, (pss_one (ps_try_as (i := 4) (tb := fun W => tRet (tCallS (spTold R CN CH) (WE W) (tCons (tVar 0) (tCons (tVar 1) (tCons (tVar 2) (tCons (tVar 3) tNil)))))) (ts := fun a cls d => tRet (tLst (tCons (tByLow R a cls d (tVar 4)) tNil))) (Wout := fun _ _ _ _ => False) rfl rfl sc_answered.nd rfl rfl ⟨rfl, by decide, Or.inl T.low.gC⟩ takes0 (fun W pn xe tk _ => pss_one (ps_ret (by exact (pcS c_told_by hr (by decide) (fun σ => passAt tk σ) (by exact (pa_cons (pv 0) (pa_cons (pv 1) (pa_cons (pv 2) (pa_cons (pv 3) pa_nil))))))))) (fun a oe cls d pn hz hf => pss_one (ps_ret (by exact (pe_lst (pa_cons (pe_byLow T.low hz hf (pv 4)) pa_nil))))))), ?_⟩
    obtain ⟨hh, ln, lr, ci, k⟩ := k
    refine ⟨_, rfl, _, rfl, _, rfl, _, rfl, a, p, pn, pr, h, nums, rows, c, rfl, hh, ln, lr, ci, fun v => ?_, fun v H' q n nx lz => k H' q n nx lz⟩
    obtain ⟨e1, e2⟩ := step_refused v
    intro d H' s' hd
    refine ⟨true, T.low.te, fun _ a0 h0 => ?_, fun z => Bool.noConfusion z⟩
    refine ⟨_, rfl, rfl, rfl, d, _, rfl, hd, small_line (show 1 ≤ 1000000 by decide), fun r hr => ?_⟩
    refine k _ r (s'.free hr) ?_ ?_
    · rw [e1]
      exact Next.same hh (s'.trans (same_new hr))
    · rw [e2]
      exact upd_same
/-! ### answers -/
theorem sc_answers : FnScope ["calls", "house", "row", "call", "numbers", "rows", "told"] ["calls"] (defScope s_answers) := ⟨rfl, rfl, rfl, by decide +kernel, rfl, by decide +kernel, by decide +kernel⟩
theorem ok_answers {f : Addr} {fd : FuncData} (F : Fun K "answers" "answers" s_answers f fd) (T : Txt K mg R fR CN CH) (c_read_calls : OkF P w K mg base CX0 1 "read_calls" ["row"] (spReadCalls K)) (c_answered : OkF P w K mg base CX0 9 "answered" ["house", "call", "numbers", "rows"] (spAnswered CN CH)) (c_House_init : OkI P w K mg base CH CX0 3 "House" ["self"] (spHouseInit CN CH)) :
    FnOk P w K mg base CX0 10 f fd ["calls"] (spAnswers K) := by
  refine F.ok sc_answers (fun vs H Q E h => ?_) (fun cdv A outer s H vs Q E hr h => ?_)
  · obtain ⟨p, ns, rfl, _⟩ := h
    rfl
  · obtain ⟨p, ns, rfl, k⟩ := h
    refine ⟨_, (pss_cons (ps_set (i := 1) sc_answers.nd rfl (Or.inl rfl) (pk0 c_House_init hr (by decide) pass0))
      (pss_cons (ps_set (i := 2) sc_answers.nd rfl (Or.inl rfl) (pe_lst pa_nil))
      (pss_cons (ps_for PassesOwn.never rfl (pi_list (pc c_read_calls hr (by decide) pass0 (pa_cons (pv 0) pa_nil))) (pg_tup rfl (pgs_cons (pg_name (i := 3) sc_answers.nd rfl (Or.inl rfl)) (pgs_cons (pg_name (i := 4) sc_answers.nd rfl (Or.inl rfl)) (pgs_cons (pg_name (i := 5) sc_answers.nd rfl (Or.inl rfl)) pgs_nil)))) (pss_cons (ps_set (i := 6) sc_answers.nd rfl (Or.inl rfl) (pc c_answered hr (by decide) pass0 (pa_cons (pv 1) (pa_cons (pv 3) (pa_cons (pv 4) (pa_cons (pv 5) pa_nil))))))
      (pss_cons (ps_expr (pe_bm PySem.F.plainAttrs_list PySem.F.slot_list_append PySem.F.type_list_append mt_append (pv 2) (pa_cons (pe_callB (r := rLen K) call_len_seq (by rfl) T.zlen PySem.boot_len (pa_cons (pv 6) pa_nil)) pa_nil)))
      (pss_one (ps_expr (pe_bm PySem.F.plainAttrs_list PySem.F.slot_list_extend PySem.F.type_list_extend mt_extend (pv 2) (pa_cons (pv 6) pa_nil)))))))
      (pss_one (ps_ret (pv 2)))))), ?_⟩
    obtain ⟨hS, hn, has, k⟩ := k
    obtain ⟨cs, hcs, h1s, hans, hlen⟩ := asked_facts has
    intro x dx nx nd ne
    refine ⟨x, dx, rfl, upd_same, fun H1 hh but => ⟨rfl, ?_⟩⟩
    have s1 := Same.made nx nd but
    refine ⟨small_line (show 0 ≤ 1000000 by decide), fun q hq => ?_⟩
    have s2 := same_new (o := .lst []) hq
    obtain ⟨H2, e2⟩ : ∃ H2, H2 = upd H1 q (.lst []) := ⟨_, rfl⟩
    have hq2 : H2 q = some (.lst []) := by rw [e2]; exact upd_same
    rw [← e2] at s2 ⊢
    have s02 := s1.trans s2
    have hh2 : HouseAt CH CN (hid q H2) x Sq62.fresh := hh.same fun b o e => at_hid (s2 _ _ e) fun z => by rw [z, hq] at e; cases e
    refine ⟨_, rfl, p, ns, cs, rfl, s02.seq hS, hn, hcs, fun H3 cl s3 calls => ?_⟩
    obtain ⟨prs, hcl, cv, ecs⟩ := calls
    refine ⟨cl, rfl, ⟨_, SqL.of (nw_same _ _ hcl)⟩, ?_⟩
    refine for_each (e := Prod.fst) (xs := prs) (fun pre σ H' => ∃ (hs : Sq62.House) (zs : List Int) (v3 v4 v5 v6 : Option V), σ = [some (.ref p), some (.ref x), some (.ref q), v3, v4, v5, v6] ∧ Same (nw H2 H3) H' ∧ HouseAt CH CN (hid q H') x hs ∧ LZ H' q zs ∧
        ∀ post, PyFlat.told (PyFlat.played Sq62Neutral.step Sq62Neutral.start (pre.map Prod.snd ++ post)) = zs ++ PyFlat.told (PyFlat.played Sq62Neutral.step hs post))
      ⟨Sq62.fresh, [], none, none, none, none, rfl, nw_same, hh2.same (same_hid s3), s3 _ _ hq2, fun _ => rfl⟩ (fun pre σ H' ⟨_, _, _, _, _, _, _, sn, _⟩ => SqL.of (sn _ _ hcl)) ?_ ?_
    · rintro pre ⟨v, c⟩ post σ H4 ex ⟨hs, zs, v3, v4, v5, v6, rfl, sn, hh4, lq, inv⟩
      have hm : (v, c) ∈ prs := by rw [ex]; simp
      have hc1 := h1s c (by rw [← ecs]; exact List.mem_map.mpr ⟨_, hm, rfl⟩)
      obtain ⟨pp, nums, rows, cc, e0, hco, ci⟩ := call_is hc1
      obtain ⟨t, pn, pr, p', nums', rows', f1, f2, f3, f4, f5⟩ := (cv _ hm).same sn
      have f1 : c = (p' :: nums') :: rows' := f1
      rw [e0] at f1
      injection f1 with f1 f1r
      injection f1 with f1 f1n
      subst f1 f1n f1r
      refine ⟨t, _, f2, SqT.of f3, rfl, _, _, rfl, _, _, rfl, _, _, rfl, rfl, ?_⟩
      refine ⟨_, rfl, _, rfl, _, rfl, _, rfl, x, pp, pn, pr, hs, nums, rows, cc, rfl, hh4.same hid_same, f4, f5, ci, fun H5 r n5 nxt lz => ?_⟩
      have hh5 := nxt.fr q _ lq hh4
      have ix : IsIns H4 x := (hh4.same hid_same).ins
      have nqx : q ≠ x := ne_lst lq ix
      have lq5 : LZ H5 q zs := nxt.but _ _ lq nqx
      have hx2 : ∃ o, H2 x = some o := by
        obtain ⟨C, d, fs, e⟩ := (hh2.same hid_same).ins
        exact ⟨_, e⟩
      obtain ⟨ox, hx2⟩ := hx2
      have sn5 : Same (nw H2 H3) H5 := fun b o e => nxt.but b o (sn _ _ e) fun z => by
        have n := nw_none e
        rw [z, hx2] at n
        cases n
      have nrq : r ≠ q := hid_free n5 lq
      have tot := inv (c :: post.map Prod.snd)
      have etot : pre.map Prod.snd ++ c :: post.map Prod.snd = cs := by rw [← ecs, ex]; simp
      rw [etot, ← hans, told_played hco] at tot
      have lens := congrArg List.length tot
      rw [List.length_append, List.length_append, List.length_cons] at lens
      generalize eto : (hs.step cc).2.value :: (hs.step cc).2.out = to at lz lens tot
      refine ⟨_, rfl, .inl ⟨rfl, _, SqL.of lq5⟩, _, rfl, r, _, rfl, .inl (SqL.of lz), q, _, _, rfl, rfl, lq5, ?_, ?_⟩
      · rw [List.length_map, sizeLine_eq]
        omega
      refine ⟨_, rfl, .inl ⟨rfl, _, SqL.of upd_same⟩, _, rfl, q, r, _, _, rfl, rfl, upd_same, (upd_ne nrq).trans lz, ?_, ?_⟩
      · rw [List.length_append, List.length_map, List.length_map, List.length_singleton, sizeLine_eq]
        omega
      refine ⟨(hs.step cc).1, zs ++ ((to.length : Nat) : Int) :: to, _, _, _, _, rfl, ?_, ?_, ?_, fun rest => ?_⟩
      · intro b o e
        have nb : b ≠ q := fun z => by
          have n := nw_none e
          rw [z, hq2] at n
          cases n
        rw [upd_ne nb, upd_ne nb]
        exact sn5 _ _ e
      · rw [hid_upd, hid_upd]
        exact hh5
      · show _ = _
        rw [upd_same, List.length_map, List.map_append, List.append_assoc]
        rfl
      · rw [List.map_append, List.append_assoc]
        have i2 := inv (c :: rest)
        rw [told_played hco, eto] at i2
        rw [List.append_assoc]
        exact i2
    · rintro σ H4 ⟨hs, zs, v3, v4, v5, v6, rfl, sn, hh4, lq, inv⟩
      have i2 := inv []
      rw [List.append_nil, ecs, ← hans] at i2
      have i2 : PySq62.answers ns = zs ++ [] := i2
      rw [List.append_nil] at i2
      refine ⟨_, rfl, k H4 q ?_⟩
      rw [i2]
      exact lq
end
/-! ### the end: what the top has written -/
/-- an error of the class at S is what «except S» names -/
theorem exm_self {K : PySem.W.Frag} {S : Addr} (h1 : PySem.W.subIn K (.ref S) (.type "BaseException") = some true) (h2 : PySem.W.isClsIn K S = true) (h3 : PySem.W.typeIn K (.ref S) = some (.type "type")) (h4 : PySem.W.subIn K (.ref S) (.ref S) = some true) :
    PySem.W.exmOne K (.ref S) (.ref S) = some true := by
  have e1 : (PySem.W.subIn K (.ref S) (.type "BaseException") == some true) = true := by rw [h1] <;> rfl
  have e2 : ((PySem.W.clsIn K S).isSome && PySem.W.typeIn K (.ref S) == some (.type "type")) = true := by
    have h2' : (PySem.W.clsIn K S).isSome = true := h2
    rw [h2', h3] <;> rfl
  show (if (PySem.W.subIn K (.ref S) (.type "BaseException") == some true) = true then (if ((PySem.W.clsIn K S).isSome && PySem.W.typeIn K (.ref S) == some (.type "type")) = true then PySem.W.subIn K (.ref S) (.ref S) else none) else none) = some true
  rw [if_pos e1, if_pos e2]
  exact h4
theorem all_mk {P : Program} {w : World} {K : PySem.W.Frag} {h : Heap} {mg : Str → Option Value} {fa R fR CN CH f_ask f_rises f_are_places f_counted f_places_at f_read_transitions f_Net_init f_Net_is_used f_Net_ask_good f_meet f_Net_pair_not_free f_ask_few f_ask_places f_is_siphon f_is_trap f_emptied_by f_drained_by f_greatest_siphon f_greatest_trap f_all_choices f_is_within f_least_ones f_least_siphons f_least_traps f_are_few f_rows_told f_House_init f_House_begin f_House_set_marking f_House_fired f_House_fire f_House_siphons f_House_traps f_House_inside f_House_empty f_House_is_held f_House_held f_House_free f_House_live f_read_calls f_told_with_rows f_told_by f_answered f_answers : Addr}
    {nmR qR : Str} {NR : Addr} {bsR : List Value} {snR : List Str} {subR : List Value} {abR : Bool} {colR : Option Bool} {ddR : Option Addr} {m0 m1 m2 m3 m5 : Option Value} {ocR dcR pmR cdR ctR : Value} {odR anR : Option Addr} {slR : Array (Option Value)}
    {tWRONG tNOT_TOLD tNOT_SO tTOO_FULL tMOST_PLACES tMOST_TRANSITIONS tMOST_TOKENS tBEGIN : Tok}
    {pBELONG pROWS : Addr} {odBELONG odROWS : Option Addr} {itsBELONG itsROWS : Array Value} {nBELONG nROWS : Nat} {slBELONG slROWS : Array (Option Value)}
    {oc_ask kV_ask dc_ask pm_ask cd_ask ct_ask oc_rises kV_rises dc_rises pm_rises cd_rises ct_rises oc_are_places kV_are_places dc_are_places pm_are_places cd_are_places ct_are_places oc_counted kV_counted dc_counted pm_counted cd_counted ct_counted oc_places_at kV_places_at dc_places_at pm_places_at cd_places_at ct_places_at oc_read_transitions kV_read_transitions dc_read_transitions pm_read_transitions cd_read_transitions ct_read_transitions oc_Net_init kV_Net_init dc_Net_init pm_Net_init cd_Net_init ct_Net_init oc_Net_is_used kV_Net_is_used dc_Net_is_used pm_Net_is_used cd_Net_is_used ct_Net_is_used oc_Net_ask_good kV_Net_ask_good dc_Net_ask_good pm_Net_ask_good cd_Net_ask_good ct_Net_ask_good oc_meet kV_meet dc_meet pm_meet cd_meet ct_meet oc_Net_pair_not_free kV_Net_pair_not_free dc_Net_pair_not_free pm_Net_pair_not_free cd_Net_pair_not_free ct_Net_pair_not_free oc_ask_few kV_ask_few dc_ask_few pm_ask_few cd_ask_few ct_ask_few oc_ask_places kV_ask_places dc_ask_places pm_ask_places cd_ask_places ct_ask_places oc_is_siphon kV_is_siphon dc_is_siphon pm_is_siphon cd_is_siphon ct_is_siphon oc_is_trap kV_is_trap dc_is_trap pm_is_trap cd_is_trap ct_is_trap oc_emptied_by kV_emptied_by dc_emptied_by pm_emptied_by cd_emptied_by ct_emptied_by oc_drained_by kV_drained_by dc_drained_by pm_drained_by cd_drained_by ct_drained_by oc_greatest_siphon kV_greatest_siphon dc_greatest_siphon pm_greatest_siphon cd_greatest_siphon ct_greatest_siphon oc_greatest_trap kV_greatest_trap dc_greatest_trap pm_greatest_trap cd_greatest_trap ct_greatest_trap oc_all_choices kV_all_choices dc_all_choices pm_all_choices cd_all_choices ct_all_choices oc_is_within kV_is_within dc_is_within pm_is_within cd_is_within ct_is_within oc_least_ones kV_least_ones dc_least_ones pm_least_ones cd_least_ones ct_least_ones oc_least_siphons kV_least_siphons dc_least_siphons pm_least_siphons cd_least_siphons ct_least_siphons oc_least_traps kV_least_traps dc_least_traps pm_least_traps cd_least_traps ct_least_traps oc_are_few kV_are_few dc_are_few pm_are_few cd_are_few ct_are_few oc_rows_told kV_rows_told dc_rows_told pm_rows_told cd_rows_told ct_rows_told oc_House_init kV_House_init dc_House_init pm_House_init cd_House_init ct_House_init oc_House_begin kV_House_begin dc_House_begin pm_House_begin cd_House_begin ct_House_begin oc_House_set_marking kV_House_set_marking dc_House_set_marking pm_House_set_marking cd_House_set_marking ct_House_set_marking oc_House_fired kV_House_fired dc_House_fired pm_House_fired cd_House_fired ct_House_fired oc_House_fire kV_House_fire dc_House_fire pm_House_fire cd_House_fire ct_House_fire oc_House_siphons kV_House_siphons dc_House_siphons pm_House_siphons cd_House_siphons ct_House_siphons oc_House_traps kV_House_traps dc_House_traps pm_House_traps cd_House_traps ct_House_traps oc_House_inside kV_House_inside dc_House_inside pm_House_inside cd_House_inside ct_House_inside oc_House_empty kV_House_empty dc_House_empty pm_House_empty cd_House_empty ct_House_empty oc_House_is_held kV_House_is_held dc_House_is_held pm_House_is_held cd_House_is_held ct_House_is_held oc_House_held kV_House_held dc_House_held pm_House_held cd_House_held ct_House_held oc_House_free kV_House_free dc_House_free pm_House_free cd_House_free ct_House_free oc_House_live kV_House_live dc_House_live pm_House_live cd_House_live ct_House_live oc_read_calls kV_read_calls dc_read_calls pm_read_calls cd_read_calls ct_read_calls oc_told_with_rows kV_told_with_rows dc_told_with_rows pm_told_with_rows cd_told_with_rows ct_told_with_rows oc_told_by kV_told_by dc_told_by pm_told_by cd_told_by ct_told_by oc_answered kV_answered dc_answered pm_answered cd_answered ct_answered oc_answers kV_answers dc_answers pm_answers cd_answers ct_answers : Value}
    {od_ask an_ask od_rises an_rises od_are_places an_are_places od_counted an_counted od_places_at an_places_at od_read_transitions an_read_transitions od_Net_init an_Net_init od_Net_is_used an_Net_is_used od_Net_ask_good an_Net_ask_good od_meet an_meet od_Net_pair_not_free an_Net_pair_not_free od_ask_few an_ask_few od_ask_places an_ask_places od_is_siphon an_is_siphon od_is_trap an_is_trap od_emptied_by an_emptied_by od_drained_by an_drained_by od_greatest_siphon an_greatest_siphon od_greatest_trap an_greatest_trap od_all_choices an_all_choices od_is_within an_is_within od_least_ones an_least_ones od_least_siphons an_least_siphons od_least_traps an_least_traps od_are_few an_are_few od_rows_told an_rows_told od_House_init an_House_init od_House_begin an_House_begin od_House_set_marking an_House_set_marking od_House_fired an_House_fired od_House_fire an_House_fire od_House_siphons an_House_siphons od_House_traps an_House_traps od_House_inside an_House_inside od_House_empty an_House_empty od_House_is_held an_House_is_held od_House_held an_House_held od_House_free an_House_free od_House_live an_House_live od_read_calls an_read_calls od_told_with_rows an_told_with_rows od_told_by an_told_by od_answered an_answered od_answers an_answers : Option Addr}
    {sl_ask sl_rises sl_are_places sl_counted sl_places_at sl_read_transitions sl_Net_init sl_Net_is_used sl_Net_ask_good sl_meet sl_Net_pair_not_free sl_ask_few sl_ask_places sl_is_siphon sl_is_trap sl_emptied_by sl_drained_by sl_greatest_siphon sl_greatest_trap sl_all_choices sl_is_within sl_least_ones sl_least_siphons sl_least_traps sl_are_few sl_rows_told sl_House_init sl_House_begin sl_House_set_marking sl_House_fired sl_House_fire sl_House_siphons sl_House_traps sl_House_inside sl_House_empty sl_House_is_held sl_House_held sl_House_free sl_House_live sl_read_calls sl_told_with_rows sl_told_by sl_answered sl_answers : Array (Option Value)}
    (X : K.In h) (G : h.Ns mainGlobals mg) (hfa : mg "answers" = some (.ref fa))
    (aR : PySem.W.nsIn K mainGlobals "Refused" = some (some (.ref R)))
    (xL : K.lookup R = some (excClassObj nmR qR R NR bsR [.type "ValueError", .type "Exception", .type "BaseException", .type "object"] true snR subR abR colR ddR m0 m1 m2 m3 m5 "ValueError.__new__"))
    (saR : PySem.W.findIn K (.ref R) "__setattr__" = some (some (.builtin "object.__setattr__")))
    (gaR : PySem.W.findIn K (.ref R) "__getattribute__" = some (some (.builtin "BaseException.__getattribute__")))
    (ggR : PySem.W.findIn K (.ref R) "__getattr__" = some none)
    (nbR : PySem.W.findIn K (.ref R) "told" = some none)
    (iR : PySem.W.findIn K (.ref R) "__init__" = some (some (.ref fR)))
    (tfR : PySem.W.typeIn K (.ref fR) = some (.type "function"))
    (lR : K.lookup fR = some ⟨ocR, odR, .func (PySem.W.fnOf "__init__" "Refused.__init__" (PySem.LowX.iA ⟨8, 17, 8, 21⟩ ⟨8, 23, 8, 27⟩) (PySem.LowX.iB ⟨9, 8, 9, 12⟩ ⟨9, 8, 9, 17⟩ ⟨9, 20, 9, 24⟩ ⟨9, 8, 9, 24⟩) PySem.LowX.iS .none .none dcR pmR anR cdR ctR), slR⟩)
    (cR : PySem.W.codeIn K cdR "Refused.__init__" = true)
    (kR : PySem.W.keepIn K (.ref R) = true)
    (eR : PySem.W.subIn K (.ref R) (.type "BaseException") = some true)
    (tR : PySem.W.typeIn K (.ref R) = some (.type "type"))
    (hdR : PySem.W.hasDictIn K R = true)
    (icR : PySem.W.isClsIn K R = true)
    (sR : PySem.W.subIn K (.ref R) (.ref R) = some true)
    (aWRONG : PySem.W.nsIn K mainGlobals "WRONG" = some (some (.int (-1) tWRONG)))
    (aNOT_TOLD : PySem.W.nsIn K mainGlobals "NOT_TOLD" = some (some (.int (-3) tNOT_TOLD)))
    (aNOT_SO : PySem.W.nsIn K mainGlobals "NOT_SO" = some (some (.int (-4) tNOT_SO)))
    (aTOO_FULL : PySem.W.nsIn K mainGlobals "TOO_FULL" = some (some (.int (-5) tTOO_FULL)))
    (aMOST_PLACES : PySem.W.nsIn K mainGlobals "MOST_PLACES" = some (some (.int (9) tMOST_PLACES)))
    (aMOST_TRANSITIONS : PySem.W.nsIn K mainGlobals "MOST_TRANSITIONS" = some (some (.int (10) tMOST_TRANSITIONS)))
    (aMOST_TOKENS : PySem.W.nsIn K mainGlobals "MOST_TOKENS" = some (some (.int (1000) tMOST_TOKENS)))
    (aBEGIN : PySem.W.nsIn K mainGlobals "BEGIN" = some (some (.int (1) tBEGIN)))
    (aBELONG : PySem.W.nsIn K mainGlobals "BELONG" = some (some (.ref pBELONG)))
    (lBELONG : K.lookup pBELONG = some ⟨.type "tuple", odBELONG, .seq itsBELONG nBELONG, slBELONG⟩)
    (vBELONG : L2.Vals (([1, 0, 0, 0, 0, 0, 0, 0, 0, 0] : List Nat).map nv) itsBELONG.toList)
    (aROWS : PySem.W.nsIn K mainGlobals "ROWS" = some (some (.ref pROWS)))
    (lROWS : K.lookup pROWS = some ⟨.type "tuple", odROWS, .seq itsROWS nROWS, slROWS⟩)
    (vROWS : L2.Vals (([2, 1, 1, 0, 0, 1, 0, 0, 0, 0] : List Nat).map nv) itsROWS.toList)
    (zall : PySem.W.nsIn K mainGlobals "all" = some none)
    (zany : PySem.W.nsIn K mainGlobals "any" = some none)
    (zlen : PySem.W.nsIn K mainGlobals "len" = some none)
    (zrange : PySem.W.nsIn K mainGlobals "range" = some none)
    (zsorted : PySem.W.nsIn K mainGlobals "sorted" = some none)
    (zenumerate : PySem.W.nsIn K mainGlobals "enumerate" = some none)
    (zlist : PySem.W.nsIn K mainGlobals "list" = some none)
    (zint : PySem.W.nsIn K mainGlobals "int" = some none)
    (aCN : PySem.W.nsIn K mainGlobals "Net" = some (some (.ref CN)))
    (pgCN : PySem.W.plainGet K CN Str.empty = true)
    (hdCN : PySem.W.hasDictIn K CN = true)
    (poCN : PySem.W.plainOver K CN = true)
    (saCN : PySem.W.findIn K (.ref CN) "__setattr__" = some (some (.builtin "object.__setattr__")))
    (mkCN : PySem.W.makesIn K CN = true)
    (kcCN : PySem.W.keepIn K (.ref CN) = true)
    (nN : PySem.W.findIn K (.ref CN) "n" = some none)
    (nT : PySem.W.findIn K (.ref CN) "transitions" = some none)
    (aCH : PySem.W.nsIn K mainGlobals "House" = some (some (.ref CH)))
    (pgCH : PySem.W.plainGet K CH Str.empty = true)
    (hdCH : PySem.W.hasDictIn K CH = true)
    (poCH : PySem.W.plainOver K CH = true)
    (saCH : PySem.W.findIn K (.ref CH) "__setattr__" = some (some (.builtin "object.__setattr__")))
    (mkCH : PySem.W.makesIn K CH = true)
    (kcCH : PySem.W.keepIn K (.ref CH) = true)
    (nE : PySem.W.findIn K (.ref CH) "net" = some none)
    (nM : PySem.W.findIn K (.ref CH) "marking" = some none)
    (a_ask : PySem.W.nsIn K mainGlobals "ask" = some (some (.ref f_ask)))
    (l_ask : K.lookup f_ask = some ⟨oc_ask, od_ask, .func (PySem.W.fnOf "ask" "ask" (defArgs s_ask) (defBody s_ask) (defScope s_ask) .none kV_ask dc_ask pm_ask an_ask cd_ask ct_ask), sl_ask⟩)
    (c_ask : PySem.W.codeIn K cd_ask "ask" = true)
    (k_ask : PySem.W.keepIn K (.ref f_ask) = true)
    (a_rises : PySem.W.nsIn K mainGlobals "rises" = some (some (.ref f_rises)))
    (l_rises : K.lookup f_rises = some ⟨oc_rises, od_rises, .func (PySem.W.fnOf "rises" "rises" (defArgs s_rises) (defBody s_rises) (defScope s_rises) .none kV_rises dc_rises pm_rises an_rises cd_rises ct_rises), sl_rises⟩)
    (c_rises : PySem.W.codeIn K cd_rises "rises" = true)
    (k_rises : PySem.W.keepIn K (.ref f_rises) = true)
    (a_are_places : PySem.W.nsIn K mainGlobals "are_places" = some (some (.ref f_are_places)))
    (l_are_places : K.lookup f_are_places = some ⟨oc_are_places, od_are_places, .func (PySem.W.fnOf "are_places" "are_places" (defArgs s_are_places) (defBody s_are_places) (defScope s_are_places) .none kV_are_places dc_are_places pm_are_places an_are_places cd_are_places ct_are_places), sl_are_places⟩)
    (c_are_places : PySem.W.codeIn K cd_are_places "are_places" = true)
    (k_are_places : PySem.W.keepIn K (.ref f_are_places) = true)
    (a_counted : PySem.W.nsIn K mainGlobals "counted" = some (some (.ref f_counted)))
    (l_counted : K.lookup f_counted = some ⟨oc_counted, od_counted, .func (PySem.W.fnOf "counted" "counted" (defArgs s_counted) (defBody s_counted) (defScope s_counted) .none kV_counted dc_counted pm_counted an_counted cd_counted ct_counted), sl_counted⟩)
    (c_counted : PySem.W.codeIn K cd_counted "counted" = true)
    (k_counted : PySem.W.keepIn K (.ref f_counted) = true)
    (a_places_at : PySem.W.nsIn K mainGlobals "places_at" = some (some (.ref f_places_at)))
    (l_places_at : K.lookup f_places_at = some ⟨oc_places_at, od_places_at, .func (PySem.W.fnOf "places_at" "places_at" (defArgs s_places_at) (defBody s_places_at) (defScope s_places_at) .none kV_places_at dc_places_at pm_places_at an_places_at cd_places_at ct_places_at), sl_places_at⟩)
    (c_places_at : PySem.W.codeIn K cd_places_at "places_at" = true)
    (k_places_at : PySem.W.keepIn K (.ref f_places_at) = true)
    (a_read_transitions : PySem.W.nsIn K mainGlobals "read_transitions" = some (some (.ref f_read_transitions)))
    (l_read_transitions : K.lookup f_read_transitions = some ⟨oc_read_transitions, od_read_transitions, .func (PySem.W.fnOf "read_transitions" "read_transitions" (defArgs s_read_transitions) (defBody s_read_transitions) (defScope s_read_transitions) .none kV_read_transitions dc_read_transitions pm_read_transitions an_read_transitions cd_read_transitions ct_read_transitions), sl_read_transitions⟩)
    (c_read_transitions : PySem.W.codeIn K cd_read_transitions "read_transitions" = true)
    (k_read_transitions : PySem.W.keepIn K (.ref f_read_transitions) = true)
    (a_Net_init : PySem.W.findIn K (.ref CN) "__init__" = some (some (.ref f_Net_init)))
    (i_Net_init : PySem.W.isFn K (.ref f_Net_init) = true)
    (l_Net_init : K.lookup f_Net_init = some ⟨oc_Net_init, od_Net_init, .func (PySem.W.fnOf "__init__" "Net.__init__" (defArgs s_Net_init) (defBody s_Net_init) (defScope s_Net_init) .none kV_Net_init dc_Net_init pm_Net_init an_Net_init cd_Net_init ct_Net_init), sl_Net_init⟩)
    (c_Net_init : PySem.W.codeIn K cd_Net_init "Net.__init__" = true)
    (k_Net_init : PySem.W.keepIn K (.ref f_Net_init) = true)
    (a_Net_is_used : PySem.W.findIn K (.ref CN) "is_used" = some (some (.ref f_Net_is_used)))
    (i_Net_is_used : PySem.W.isFn K (.ref f_Net_is_used) = true)
    (l_Net_is_used : K.lookup f_Net_is_used = some ⟨oc_Net_is_used, od_Net_is_used, .func (PySem.W.fnOf "is_used" "Net.is_used" (defArgs s_Net_is_used) (defBody s_Net_is_used) (defScope s_Net_is_used) .none kV_Net_is_used dc_Net_is_used pm_Net_is_used an_Net_is_used cd_Net_is_used ct_Net_is_used), sl_Net_is_used⟩)
    (c_Net_is_used : PySem.W.codeIn K cd_Net_is_used "Net.is_used" = true)
    (k_Net_is_used : PySem.W.keepIn K (.ref f_Net_is_used) = true)
    (a_Net_ask_good : PySem.W.findIn K (.ref CN) "ask_good" = some (some (.ref f_Net_ask_good)))
    (i_Net_ask_good : PySem.W.isFn K (.ref f_Net_ask_good) = true)
    (l_Net_ask_good : K.lookup f_Net_ask_good = some ⟨oc_Net_ask_good, od_Net_ask_good, .func (PySem.W.fnOf "ask_good" "Net.ask_good" (defArgs s_Net_ask_good) (defBody s_Net_ask_good) (defScope s_Net_ask_good) .none kV_Net_ask_good dc_Net_ask_good pm_Net_ask_good an_Net_ask_good cd_Net_ask_good ct_Net_ask_good), sl_Net_ask_good⟩)
    (c_Net_ask_good : PySem.W.codeIn K cd_Net_ask_good "Net.ask_good" = true)
    (k_Net_ask_good : PySem.W.keepIn K (.ref f_Net_ask_good) = true)
    (a_meet : PySem.W.nsIn K mainGlobals "meet" = some (some (.ref f_meet)))
    (l_meet : K.lookup f_meet = some ⟨oc_meet, od_meet, .func (PySem.W.fnOf "meet" "meet" (defArgs s_meet) (defBody s_meet) (defScope s_meet) .none kV_meet dc_meet pm_meet an_meet cd_meet ct_meet), sl_meet⟩)
    (c_meet : PySem.W.codeIn K cd_meet "meet" = true)
    (k_meet : PySem.W.keepIn K (.ref f_meet) = true)
    (a_Net_pair_not_free : PySem.W.findIn K (.ref CN) "pair_not_free" = some (some (.ref f_Net_pair_not_free)))
    (i_Net_pair_not_free : PySem.W.isFn K (.ref f_Net_pair_not_free) = true)
    (l_Net_pair_not_free : K.lookup f_Net_pair_not_free = some ⟨oc_Net_pair_not_free, od_Net_pair_not_free, .func (PySem.W.fnOf "pair_not_free" "Net.pair_not_free" (defArgs s_Net_pair_not_free) (defBody s_Net_pair_not_free) (defScope s_Net_pair_not_free) .none kV_Net_pair_not_free dc_Net_pair_not_free pm_Net_pair_not_free an_Net_pair_not_free cd_Net_pair_not_free ct_Net_pair_not_free), sl_Net_pair_not_free⟩)
    (c_Net_pair_not_free : PySem.W.codeIn K cd_Net_pair_not_free "Net.pair_not_free" = true)
    (k_Net_pair_not_free : PySem.W.keepIn K (.ref f_Net_pair_not_free) = true)
    (a_ask_few : PySem.W.nsIn K mainGlobals "ask_few" = some (some (.ref f_ask_few)))
    (l_ask_few : K.lookup f_ask_few = some ⟨oc_ask_few, od_ask_few, .func (PySem.W.fnOf "ask_few" "ask_few" (defArgs s_ask_few) (defBody s_ask_few) (defScope s_ask_few) .none kV_ask_few dc_ask_few pm_ask_few an_ask_few cd_ask_few ct_ask_few), sl_ask_few⟩)
    (c_ask_few : PySem.W.codeIn K cd_ask_few "ask_few" = true)
    (k_ask_few : PySem.W.keepIn K (.ref f_ask_few) = true)
    (a_ask_places : PySem.W.nsIn K mainGlobals "ask_places" = some (some (.ref f_ask_places)))
    (l_ask_places : K.lookup f_ask_places = some ⟨oc_ask_places, od_ask_places, .func (PySem.W.fnOf "ask_places" "ask_places" (defArgs s_ask_places) (defBody s_ask_places) (defScope s_ask_places) .none kV_ask_places dc_ask_places pm_ask_places an_ask_places cd_ask_places ct_ask_places), sl_ask_places⟩)
    (c_ask_places : PySem.W.codeIn K cd_ask_places "ask_places" = true)
    (k_ask_places : PySem.W.keepIn K (.ref f_ask_places) = true)
    (a_is_siphon : PySem.W.nsIn K mainGlobals "is_siphon" = some (some (.ref f_is_siphon)))
    (l_is_siphon : K.lookup f_is_siphon = some ⟨oc_is_siphon, od_is_siphon, .func (PySem.W.fnOf "is_siphon" "is_siphon" (defArgs s_is_siphon) (defBody s_is_siphon) (defScope s_is_siphon) .none kV_is_siphon dc_is_siphon pm_is_siphon an_is_siphon cd_is_siphon ct_is_siphon), sl_is_siphon⟩)
    (c_is_siphon : PySem.W.codeIn K cd_is_siphon "is_siphon" = true)
    (k_is_siphon : PySem.W.keepIn K (.ref f_is_siphon) = true)
    (a_is_trap : PySem.W.nsIn K mainGlobals "is_trap" = some (some (.ref f_is_trap)))
    (l_is_trap : K.lookup f_is_trap = some ⟨oc_is_trap, od_is_trap, .func (PySem.W.fnOf "is_trap" "is_trap" (defArgs s_is_trap) (defBody s_is_trap) (defScope s_is_trap) .none kV_is_trap dc_is_trap pm_is_trap an_is_trap cd_is_trap ct_is_trap), sl_is_trap⟩)
    (c_is_trap : PySem.W.codeIn K cd_is_trap "is_trap" = true)
    (k_is_trap : PySem.W.keepIn K (.ref f_is_trap) = true)
    (a_emptied_by : PySem.W.nsIn K mainGlobals "emptied_by" = some (some (.ref f_emptied_by)))
    (l_emptied_by : K.lookup f_emptied_by = some ⟨oc_emptied_by, od_emptied_by, .func (PySem.W.fnOf "emptied_by" "emptied_by" (defArgs s_emptied_by) (defBody s_emptied_by) (defScope s_emptied_by) .none kV_emptied_by dc_emptied_by pm_emptied_by an_emptied_by cd_emptied_by ct_emptied_by), sl_emptied_by⟩)
    (c_emptied_by : PySem.W.codeIn K cd_emptied_by "emptied_by" = true)
    (k_emptied_by : PySem.W.keepIn K (.ref f_emptied_by) = true)
    (a_drained_by : PySem.W.nsIn K mainGlobals "drained_by" = some (some (.ref f_drained_by)))
    (l_drained_by : K.lookup f_drained_by = some ⟨oc_drained_by, od_drained_by, .func (PySem.W.fnOf "drained_by" "drained_by" (defArgs s_drained_by) (defBody s_drained_by) (defScope s_drained_by) .none kV_drained_by dc_drained_by pm_drained_by an_drained_by cd_drained_by ct_drained_by), sl_drained_by⟩)
    (c_drained_by : PySem.W.codeIn K cd_drained_by "drained_by" = true)
    (k_drained_by : PySem.W.keepIn K (.ref f_drained_by) = true)
    (a_greatest_siphon : PySem.W.nsIn K mainGlobals "greatest_siphon" = some (some (.ref f_greatest_siphon)))
    (l_greatest_siphon : K.lookup f_greatest_siphon = some ⟨oc_greatest_siphon, od_greatest_siphon, .func (PySem.W.fnOf "greatest_siphon" "greatest_siphon" (defArgs s_greatest_siphon) (defBody s_greatest_siphon) (defScope s_greatest_siphon) .none kV_greatest_siphon dc_greatest_siphon pm_greatest_siphon an_greatest_siphon cd_greatest_siphon ct_greatest_siphon), sl_greatest_siphon⟩)
    (c_greatest_siphon : PySem.W.codeIn K cd_greatest_siphon "greatest_siphon" = true)
    (k_greatest_siphon : PySem.W.keepIn K (.ref f_greatest_siphon) = true)
    (a_greatest_trap : PySem.W.nsIn K mainGlobals "greatest_trap" = some (some (.ref f_greatest_trap)))
    (l_greatest_trap : K.lookup f_greatest_trap = some ⟨oc_greatest_trap, od_greatest_trap, .func (PySem.W.fnOf "greatest_trap" "greatest_trap" (defArgs s_greatest_trap) (defBody s_greatest_trap) (defScope s_greatest_trap) .none kV_greatest_trap dc_greatest_trap pm_greatest_trap an_greatest_trap cd_greatest_trap ct_greatest_trap), sl_greatest_trap⟩)
    (c_greatest_trap : PySem.W.codeIn K cd_greatest_trap "greatest_trap" = true)
    (k_greatest_trap : PySem.W.keepIn K (.ref f_greatest_trap) = true)
    (a_all_choices : PySem.W.nsIn K mainGlobals "all_choices" = some (some (.ref f_all_choices)))
    (l_all_choices : K.lookup f_all_choices = some ⟨oc_all_choices, od_all_choices, .func (PySem.W.fnOf "all_choices" "all_choices" (defArgs s_all_choices) (defBody s_all_choices) (defScope s_all_choices) .none kV_all_choices dc_all_choices pm_all_choices an_all_choices cd_all_choices ct_all_choices), sl_all_choices⟩)
    (c_all_choices : PySem.W.codeIn K cd_all_choices "all_choices" = true)
    (k_all_choices : PySem.W.keepIn K (.ref f_all_choices) = true)
    (a_is_within : PySem.W.nsIn K mainGlobals "is_within" = some (some (.ref f_is_within)))
    (l_is_within : K.lookup f_is_within = some ⟨oc_is_within, od_is_within, .func (PySem.W.fnOf "is_within" "is_within" (defArgs s_is_within) (defBody s_is_within) (defScope s_is_within) .none kV_is_within dc_is_within pm_is_within an_is_within cd_is_within ct_is_within), sl_is_within⟩)
    (c_is_within : PySem.W.codeIn K cd_is_within "is_within" = true)
    (k_is_within : PySem.W.keepIn K (.ref f_is_within) = true)
    (a_least_ones : PySem.W.nsIn K mainGlobals "least_ones" = some (some (.ref f_least_ones)))
    (l_least_ones : K.lookup f_least_ones = some ⟨oc_least_ones, od_least_ones, .func (PySem.W.fnOf "least_ones" "least_ones" (defArgs s_least_ones) (defBody s_least_ones) (defScope s_least_ones) .none kV_least_ones dc_least_ones pm_least_ones an_least_ones cd_least_ones ct_least_ones), sl_least_ones⟩)
    (c_least_ones : PySem.W.codeIn K cd_least_ones "least_ones" = true)
    (k_least_ones : PySem.W.keepIn K (.ref f_least_ones) = true)
    (a_least_siphons : PySem.W.nsIn K mainGlobals "least_siphons" = some (some (.ref f_least_siphons)))
    (l_least_siphons : K.lookup f_least_siphons = some ⟨oc_least_siphons, od_least_siphons, .func (PySem.W.fnOf "least_siphons" "least_siphons" (defArgs s_least_siphons) (defBody s_least_siphons) (defScope s_least_siphons) .none kV_least_siphons dc_least_siphons pm_least_siphons an_least_siphons cd_least_siphons ct_least_siphons), sl_least_siphons⟩)
    (c_least_siphons : PySem.W.codeIn K cd_least_siphons "least_siphons" = true)
    (k_least_siphons : PySem.W.keepIn K (.ref f_least_siphons) = true)
    (a_least_traps : PySem.W.nsIn K mainGlobals "least_traps" = some (some (.ref f_least_traps)))
    (l_least_traps : K.lookup f_least_traps = some ⟨oc_least_traps, od_least_traps, .func (PySem.W.fnOf "least_traps" "least_traps" (defArgs s_least_traps) (defBody s_least_traps) (defScope s_least_traps) .none kV_least_traps dc_least_traps pm_least_traps an_least_traps cd_least_traps ct_least_traps), sl_least_traps⟩)
    (c_least_traps : PySem.W.codeIn K cd_least_traps "least_traps" = true)
    (k_least_traps : PySem.W.keepIn K (.ref f_least_traps) = true)
    (a_are_few : PySem.W.nsIn K mainGlobals "are_few" = some (some (.ref f_are_few)))
    (l_are_few : K.lookup f_are_few = some ⟨oc_are_few, od_are_few, .func (PySem.W.fnOf "are_few" "are_few" (defArgs s_are_few) (defBody s_are_few) (defScope s_are_few) .none kV_are_few dc_are_few pm_are_few an_are_few cd_are_few ct_are_few), sl_are_few⟩)
    (c_are_few : PySem.W.codeIn K cd_are_few "are_few" = true)
    (k_are_few : PySem.W.keepIn K (.ref f_are_few) = true)
    (a_rows_told : PySem.W.nsIn K mainGlobals "rows_told" = some (some (.ref f_rows_told)))
    (l_rows_told : K.lookup f_rows_told = some ⟨oc_rows_told, od_rows_told, .func (PySem.W.fnOf "rows_told" "rows_told" (defArgs s_rows_told) (defBody s_rows_told) (defScope s_rows_told) .none kV_rows_told dc_rows_told pm_rows_told an_rows_told cd_rows_told ct_rows_told), sl_rows_told⟩)
    (c_rows_told : PySem.W.codeIn K cd_rows_told "rows_told" = true)
    (k_rows_told : PySem.W.keepIn K (.ref f_rows_told) = true)
    (a_House_init : PySem.W.findIn K (.ref CH) "__init__" = some (some (.ref f_House_init)))
    (i_House_init : PySem.W.isFn K (.ref f_House_init) = true)
    (l_House_init : K.lookup f_House_init = some ⟨oc_House_init, od_House_init, .func (PySem.W.fnOf "__init__" "House.__init__" (defArgs s_House_init) (defBody s_House_init) (defScope s_House_init) .none kV_House_init dc_House_init pm_House_init an_House_init cd_House_init ct_House_init), sl_House_init⟩)
    (c_House_init : PySem.W.codeIn K cd_House_init "House.__init__" = true)
    (k_House_init : PySem.W.keepIn K (.ref f_House_init) = true)
    (a_House_begin : PySem.W.findIn K (.ref CH) "begin" = some (some (.ref f_House_begin)))
    (i_House_begin : PySem.W.isFn K (.ref f_House_begin) = true)
    (l_House_begin : K.lookup f_House_begin = some ⟨oc_House_begin, od_House_begin, .func (PySem.W.fnOf "begin" "House.begin" (defArgs s_House_begin) (defBody s_House_begin) (defScope s_House_begin) .none kV_House_begin dc_House_begin pm_House_begin an_House_begin cd_House_begin ct_House_begin), sl_House_begin⟩)
    (c_House_begin : PySem.W.codeIn K cd_House_begin "House.begin" = true)
    (k_House_begin : PySem.W.keepIn K (.ref f_House_begin) = true)
    (a_House_set_marking : PySem.W.findIn K (.ref CH) "set_marking" = some (some (.ref f_House_set_marking)))
    (i_House_set_marking : PySem.W.isFn K (.ref f_House_set_marking) = true)
    (l_House_set_marking : K.lookup f_House_set_marking = some ⟨oc_House_set_marking, od_House_set_marking, .func (PySem.W.fnOf "set_marking" "House.set_marking" (defArgs s_House_set_marking) (defBody s_House_set_marking) (defScope s_House_set_marking) .none kV_House_set_marking dc_House_set_marking pm_House_set_marking an_House_set_marking cd_House_set_marking ct_House_set_marking), sl_House_set_marking⟩)
    (c_House_set_marking : PySem.W.codeIn K cd_House_set_marking "House.set_marking" = true)
    (k_House_set_marking : PySem.W.keepIn K (.ref f_House_set_marking) = true)
    (a_House_fired : PySem.W.findIn K (.ref CH) "fired" = some (some (.ref f_House_fired)))
    (i_House_fired : PySem.W.isFn K (.ref f_House_fired) = true)
    (l_House_fired : K.lookup f_House_fired = some ⟨oc_House_fired, od_House_fired, .func (PySem.W.fnOf "fired" "House.fired" (defArgs s_House_fired) (defBody s_House_fired) (defScope s_House_fired) .none kV_House_fired dc_House_fired pm_House_fired an_House_fired cd_House_fired ct_House_fired), sl_House_fired⟩)
    (c_House_fired : PySem.W.codeIn K cd_House_fired "House.fired" = true)
    (k_House_fired : PySem.W.keepIn K (.ref f_House_fired) = true)
    (a_House_fire : PySem.W.findIn K (.ref CH) "fire" = some (some (.ref f_House_fire)))
    (i_House_fire : PySem.W.isFn K (.ref f_House_fire) = true)
    (l_House_fire : K.lookup f_House_fire = some ⟨oc_House_fire, od_House_fire, .func (PySem.W.fnOf "fire" "House.fire" (defArgs s_House_fire) (defBody s_House_fire) (defScope s_House_fire) .none kV_House_fire dc_House_fire pm_House_fire an_House_fire cd_House_fire ct_House_fire), sl_House_fire⟩)
    (c_House_fire : PySem.W.codeIn K cd_House_fire "House.fire" = true)
    (k_House_fire : PySem.W.keepIn K (.ref f_House_fire) = true)
    (a_House_siphons : PySem.W.findIn K (.ref CH) "siphons" = some (some (.ref f_House_siphons)))
    (i_House_siphons : PySem.W.isFn K (.ref f_House_siphons) = true)
    (l_House_siphons : K.lookup f_House_siphons = some ⟨oc_House_siphons, od_House_siphons, .func (PySem.W.fnOf "siphons" "House.siphons" (defArgs s_House_siphons) (defBody s_House_siphons) (defScope s_House_siphons) .none kV_House_siphons dc_House_siphons pm_House_siphons an_House_siphons cd_House_siphons ct_House_siphons), sl_House_siphons⟩)
    (c_House_siphons : PySem.W.codeIn K cd_House_siphons "House.siphons" = true)
    (k_House_siphons : PySem.W.keepIn K (.ref f_House_siphons) = true)
    (a_House_traps : PySem.W.findIn K (.ref CH) "traps" = some (some (.ref f_House_traps)))
    (i_House_traps : PySem.W.isFn K (.ref f_House_traps) = true)
    (l_House_traps : K.lookup f_House_traps = some ⟨oc_House_traps, od_House_traps, .func (PySem.W.fnOf "traps" "House.traps" (defArgs s_House_traps) (defBody s_House_traps) (defScope s_House_traps) .none kV_House_traps dc_House_traps pm_House_traps an_House_traps cd_House_traps ct_House_traps), sl_House_traps⟩)
    (c_House_traps : PySem.W.codeIn K cd_House_traps "House.traps" = true)
    (k_House_traps : PySem.W.keepIn K (.ref f_House_traps) = true)
    (a_House_inside : PySem.W.findIn K (.ref CH) "inside" = some (some (.ref f_House_inside)))
    (i_House_inside : PySem.W.isFn K (.ref f_House_inside) = true)
    (l_House_inside : K.lookup f_House_inside = some ⟨oc_House_inside, od_House_inside, .func (PySem.W.fnOf "inside" "House.inside" (defArgs s_House_inside) (defBody s_House_inside) (defScope s_House_inside) .none kV_House_inside dc_House_inside pm_House_inside an_House_inside cd_House_inside ct_House_inside), sl_House_inside⟩)
    (c_House_inside : PySem.W.codeIn K cd_House_inside "House.inside" = true)
    (k_House_inside : PySem.W.keepIn K (.ref f_House_inside) = true)
    (a_House_empty : PySem.W.findIn K (.ref CH) "empty" = some (some (.ref f_House_empty)))
    (i_House_empty : PySem.W.isFn K (.ref f_House_empty) = true)
    (l_House_empty : K.lookup f_House_empty = some ⟨oc_House_empty, od_House_empty, .func (PySem.W.fnOf "empty" "House.empty" (defArgs s_House_empty) (defBody s_House_empty) (defScope s_House_empty) .none kV_House_empty dc_House_empty pm_House_empty an_House_empty cd_House_empty ct_House_empty), sl_House_empty⟩)
    (c_House_empty : PySem.W.codeIn K cd_House_empty "House.empty" = true)
    (k_House_empty : PySem.W.keepIn K (.ref f_House_empty) = true)
    (a_House_is_held : PySem.W.findIn K (.ref CH) "is_held" = some (some (.ref f_House_is_held)))
    (i_House_is_held : PySem.W.isFn K (.ref f_House_is_held) = true)
    (l_House_is_held : K.lookup f_House_is_held = some ⟨oc_House_is_held, od_House_is_held, .func (PySem.W.fnOf "is_held" "House.is_held" (defArgs s_House_is_held) (defBody s_House_is_held) (defScope s_House_is_held) .none kV_House_is_held dc_House_is_held pm_House_is_held an_House_is_held cd_House_is_held ct_House_is_held), sl_House_is_held⟩)
    (c_House_is_held : PySem.W.codeIn K cd_House_is_held "House.is_held" = true)
    (k_House_is_held : PySem.W.keepIn K (.ref f_House_is_held) = true)
    (a_House_held : PySem.W.findIn K (.ref CH) "held" = some (some (.ref f_House_held)))
    (i_House_held : PySem.W.isFn K (.ref f_House_held) = true)
    (l_House_held : K.lookup f_House_held = some ⟨oc_House_held, od_House_held, .func (PySem.W.fnOf "held" "House.held" (defArgs s_House_held) (defBody s_House_held) (defScope s_House_held) .none kV_House_held dc_House_held pm_House_held an_House_held cd_House_held ct_House_held), sl_House_held⟩)
    (c_House_held : PySem.W.codeIn K cd_House_held "House.held" = true)
    (k_House_held : PySem.W.keepIn K (.ref f_House_held) = true)
    (a_House_free : PySem.W.findIn K (.ref CH) "free" = some (some (.ref f_House_free)))
    (i_House_free : PySem.W.isFn K (.ref f_House_free) = true)
    (l_House_free : K.lookup f_House_free = some ⟨oc_House_free, od_House_free, .func (PySem.W.fnOf "free" "House.free" (defArgs s_House_free) (defBody s_House_free) (defScope s_House_free) .none kV_House_free dc_House_free pm_House_free an_House_free cd_House_free ct_House_free), sl_House_free⟩)
    (c_House_free : PySem.W.codeIn K cd_House_free "House.free" = true)
    (k_House_free : PySem.W.keepIn K (.ref f_House_free) = true)
    (a_House_live : PySem.W.findIn K (.ref CH) "live" = some (some (.ref f_House_live)))
    (i_House_live : PySem.W.isFn K (.ref f_House_live) = true)
    (l_House_live : K.lookup f_House_live = some ⟨oc_House_live, od_House_live, .func (PySem.W.fnOf "live" "House.live" (defArgs s_House_live) (defBody s_House_live) (defScope s_House_live) .none kV_House_live dc_House_live pm_House_live an_House_live cd_House_live ct_House_live), sl_House_live⟩)
    (c_House_live : PySem.W.codeIn K cd_House_live "House.live" = true)
    (k_House_live : PySem.W.keepIn K (.ref f_House_live) = true)
    (a_read_calls : PySem.W.nsIn K mainGlobals "read_calls" = some (some (.ref f_read_calls)))
    (l_read_calls : K.lookup f_read_calls = some ⟨oc_read_calls, od_read_calls, .func (PySem.W.fnOf "read_calls" "read_calls" (defArgs s_read_calls) (defBody s_read_calls) (defScope s_read_calls) .none kV_read_calls dc_read_calls pm_read_calls an_read_calls cd_read_calls ct_read_calls), sl_read_calls⟩)
    (c_read_calls : PySem.W.codeIn K cd_read_calls "read_calls" = true)
    (k_read_calls : PySem.W.keepIn K (.ref f_read_calls) = true)
    (a_told_with_rows : PySem.W.nsIn K mainGlobals "told_with_rows" = some (some (.ref f_told_with_rows)))
    (l_told_with_rows : K.lookup f_told_with_rows = some ⟨oc_told_with_rows, od_told_with_rows, .func (PySem.W.fnOf "told_with_rows" "told_with_rows" (defArgs s_told_with_rows) (defBody s_told_with_rows) (defScope s_told_with_rows) .none kV_told_with_rows dc_told_with_rows pm_told_with_rows an_told_with_rows cd_told_with_rows ct_told_with_rows), sl_told_with_rows⟩)
    (c_told_with_rows : PySem.W.codeIn K cd_told_with_rows "told_with_rows" = true)
    (k_told_with_rows : PySem.W.keepIn K (.ref f_told_with_rows) = true)
    (a_told_by : PySem.W.nsIn K mainGlobals "told_by" = some (some (.ref f_told_by)))
    (l_told_by : K.lookup f_told_by = some ⟨oc_told_by, od_told_by, .func (PySem.W.fnOf "told_by" "told_by" (defArgs s_told_by) (defBody s_told_by) (defScope s_told_by) .none kV_told_by dc_told_by pm_told_by an_told_by cd_told_by ct_told_by), sl_told_by⟩)
    (c_told_by : PySem.W.codeIn K cd_told_by "told_by" = true)
    (k_told_by : PySem.W.keepIn K (.ref f_told_by) = true)
    (a_answered : PySem.W.nsIn K mainGlobals "answered" = some (some (.ref f_answered)))
    (l_answered : K.lookup f_answered = some ⟨oc_answered, od_answered, .func (PySem.W.fnOf "answered" "answered" (defArgs s_answered) (defBody s_answered) (defScope s_answered) .none kV_answered dc_answered pm_answered an_answered cd_answered ct_answered), sl_answered⟩)
    (c_answered : PySem.W.codeIn K cd_answered "answered" = true)
    (k_answered : PySem.W.keepIn K (.ref f_answered) = true)
    (a_answers : PySem.W.nsIn K mainGlobals "answers" = some (some (.ref f_answers)))
    (l_answers : K.lookup f_answers = some ⟨oc_answers, od_answers, .func (PySem.W.fnOf "answers" "answers" (defArgs s_answers) (defBody s_answers) (defScope s_answers) .none kV_answers dc_answers pm_answers an_answers cd_answers ct_answers), sl_answers⟩)
    (c_answers : PySem.W.codeIn K cd_answers "answers" = true)
    (k_answers : PySem.W.keepIn K (.ref f_answers) = true)
    : ∃ fd : FuncData, (∀ (s : Shared) (us : List Value), us.length = (["calls"] : List Str).length → BindsTo s fd ⟨us, []⟩ ((["calls"] : List Str).zip us)) ∧ ∀ base : Heap, K.In base → base.Ns mainGlobals mg → FnOk P w K mg base CX0 10 fa fd ["calls"] (spAnswers K) := by
  have e := hfa.symm.trans (PySem.W.mg_of X G a_answers)
  cases e
  have low : PySem.LowX.LowTxt K mg R fR :=
    { gC := PySem.W.mg_of X G aR, cls := ⟨nmR, qR, NR, bsR, _, snR, subR, abR, colR, ddR, m0, m1, m2, m3, m5, xL, by decide +kernel⟩, sa := saR, ga := gaR, gg := ggR, noN := nbR, iC := iR, tC := tfR, kC := kR, exC := eR, tyC := tR, hdC := hdR, te := exm_self eR icR tR sR,
      fn := ⟨_, _, _, _, _, _, _, _, _, _, _, _, _, _, lR, cR⟩ }
  have qBELONG : ∀ H : Hp, SqT K H pBELONG (([1, 0, 0, 0, 0, 0, 0, 0, 0, 0] : List Nat).map nv) := fun H => .inr ⟨_, itsBELONG, nBELONG, lBELONG, rfl, rfl, (by have z : itsBELONG.toList.length = 10 := vBELONG.length.symm; rw [Array.length_toList] at z; rw [z]; exact small_line (show 10 ≤ 1000000 by decide)), vBELONG⟩
  have qROWS : ∀ H : Hp, SqT K H pROWS (([2, 1, 1, 0, 0, 1, 0, 0, 0, 0] : List Nat).map nv) := fun H => .inr ⟨_, itsROWS, nROWS, lROWS, rfl, rfl, (by have z : itsROWS.toList.length = 10 := vROWS.length.symm; rw [Array.length_toList] at z; rw [z]; exact small_line (show 10 ≤ 1000000 by decide)), vROWS⟩
  have T : Txt K mg R fR CN CH := ⟨low, ⟨_, PySem.W.mg_of X G aWRONG, _, rfl⟩, ⟨_, PySem.W.mg_of X G aNOT_TOLD, _, rfl⟩, ⟨_, PySem.W.mg_of X G aNOT_SO, _, rfl⟩, ⟨_, PySem.W.mg_of X G aTOO_FULL, _, rfl⟩, ⟨_, PySem.W.mg_of X G aMOST_PLACES, _, rfl⟩, ⟨_, PySem.W.mg_of X G aMOST_TRANSITIONS, _, rfl⟩, ⟨_, PySem.W.mg_of X G aMOST_TOKENS, _, rfl⟩, ⟨_, PySem.W.mg_of X G aBEGIN, _, rfl⟩, ⟨_, PySem.W.mg_of X G aBELONG, qBELONG⟩, ⟨_, PySem.W.mg_of X G aROWS, qROWS⟩, PySem.W.mg_none_of X G zall, PySem.W.mg_none_of X G zany, PySem.W.mg_none_of X G zlen, PySem.W.mg_none_of X G zrange, PySem.W.mg_none_of X G zsorted, PySem.W.mg_none_of X G zenumerate, PySem.W.mg_none_of X G zlist, PySem.W.mg_none_of X G zint, ⟨pgCN, hdCN, poCN, saCN⟩, nN, nT, ⟨pgCH, hdCH, poCH, saCH⟩, nE, nM⟩
  have F_ask := fun_mk (st := s_ask) l_ask c_ask k_ask
  have b_ask := F_ask.binds (ps := ["good", "told"]) fun _ _ _ _ _ _ us hl => match us, hl with | [_, _], _ => rfl
  have F_rises := fun_mk (st := s_rises) l_rises c_rises k_rises
  have b_rises := F_rises.binds (ps := ["row"]) fun _ _ _ _ _ _ us hl => match us, hl with | [_], _ => rfl
  have F_are_places := fun_mk (st := s_are_places) l_are_places c_are_places k_are_places
  have b_are_places := F_are_places.binds (ps := ["n", "row"]) fun _ _ _ _ _ _ us hl => match us, hl with | [_, _], _ => rfl
  have F_counted := fun_mk (st := s_counted) l_counted c_counted k_counted
  have b_counted := F_counted.binds (ps := ["row"]) fun _ _ _ _ _ _ us hl => match us, hl with | [_], _ => rfl
  have F_places_at := fun_mk (st := s_places_at) l_places_at c_places_at k_places_at
  have b_places_at := F_places_at.binds (ps := ["n", "row", "at"]) fun _ _ _ _ _ _ us hl => match us, hl with | [_, _, _], _ => rfl
  have F_read_transitions := fun_mk (st := s_read_transitions) l_read_transitions c_read_transitions k_read_transitions
  have b_read_transitions := F_read_transitions.binds (ps := ["n", "row"]) fun _ _ _ _ _ _ us hl => match us, hl with | [_, _], _ => rfl
  have F_Net_init := fun_mk (st := s_Net_init) l_Net_init c_Net_init k_Net_init
  have b_Net_init := F_Net_init.binds (ps := ["self", "n", "transitions"]) fun _ _ _ _ _ _ us hl => match us, hl with | [_, _, _], _ => rfl
  have F_Net_is_used := fun_mk (st := s_Net_is_used) l_Net_is_used c_Net_is_used k_Net_is_used
  have b_Net_is_used := F_Net_is_used.binds (ps := ["self", "place"]) fun _ _ _ _ _ _ us hl => match us, hl with | [_, _], _ => rfl
  have F_Net_ask_good := fun_mk (st := s_Net_ask_good) l_Net_ask_good c_Net_ask_good k_Net_ask_good
  have b_Net_ask_good := F_Net_ask_good.binds (ps := ["self"]) fun _ _ _ _ _ _ us hl => match us, hl with | [_], _ => rfl
  have F_meet := fun_mk (st := s_meet) l_meet c_meet k_meet
  have b_meet := F_meet.binds (ps := ["one", "other"]) fun _ _ _ _ _ _ us hl => match us, hl with | [_, _], _ => rfl
  have F_Net_pair_not_free := fun_mk (st := s_Net_pair_not_free) l_Net_pair_not_free c_Net_pair_not_free k_Net_pair_not_free
  have b_Net_pair_not_free := F_Net_pair_not_free.binds (ps := ["self"]) fun _ _ _ _ _ _ us hl => match us, hl with | [_], _ => rfl
  have F_ask_few := fun_mk (st := s_ask_few) l_ask_few c_ask_few k_ask_few
  have b_ask_few := F_ask_few.binds (ps := ["transitions"]) fun _ _ _ _ _ _ us hl => match us, hl with | [_], _ => rfl
  have F_ask_places := fun_mk (st := s_ask_places) l_ask_places c_ask_places k_ask_places
  have b_ask_places := F_ask_places.binds (ps := ["n"]) fun _ _ _ _ _ _ us hl => match us, hl with | [_], _ => rfl
  have F_is_siphon := fun_mk (st := s_is_siphon) l_is_siphon c_is_siphon k_is_siphon
  have b_is_siphon := F_is_siphon.binds (ps := ["net", "places"]) fun _ _ _ _ _ _ us hl => match us, hl with | [_, _], _ => rfl
  have F_is_trap := fun_mk (st := s_is_trap) l_is_trap c_is_trap k_is_trap
  have b_is_trap := F_is_trap.binds (ps := ["net", "places"]) fun _ _ _ _ _ _ us hl => match us, hl with | [_, _], _ => rfl
  have F_emptied_by := fun_mk (st := s_emptied_by) l_emptied_by c_emptied_by k_emptied_by
  have b_emptied_by := F_emptied_by.binds (ps := ["net", "places"]) fun _ _ _ _ _ _ us hl => match us, hl with | [_, _], _ => rfl
  have F_drained_by := fun_mk (st := s_drained_by) l_drained_by c_drained_by k_drained_by
  have b_drained_by := F_drained_by.binds (ps := ["net", "places"]) fun _ _ _ _ _ _ us hl => match us, hl with | [_, _], _ => rfl
  have F_greatest_siphon := fun_mk (st := s_greatest_siphon) l_greatest_siphon c_greatest_siphon k_greatest_siphon
  have b_greatest_siphon := F_greatest_siphon.binds (ps := ["net", "places"]) fun _ _ _ _ _ _ us hl => match us, hl with | [_, _], _ => rfl
  have F_greatest_trap := fun_mk (st := s_greatest_trap) l_greatest_trap c_greatest_trap k_greatest_trap
  have b_greatest_trap := F_greatest_trap.binds (ps := ["net", "places"]) fun _ _ _ _ _ _ us hl => match us, hl with | [_, _], _ => rfl
  have F_all_choices := fun_mk (st := s_all_choices) l_all_choices c_all_choices k_all_choices
  have b_all_choices := F_all_choices.binds (ps := ["n"]) fun _ _ _ _ _ _ us hl => match us, hl with | [_], _ => rfl
  have F_is_within := fun_mk (st := s_is_within) l_is_within c_is_within k_is_within
  have b_is_within := F_is_within.binds (ps := ["one", "other"]) fun _ _ _ _ _ _ us hl => match us, hl with | [_, _], _ => rfl
  have F_least_ones := fun_mk (st := s_least_ones) l_least_ones c_least_ones k_least_ones
  have b_least_ones := F_least_ones.binds (ps := ["rows"]) fun _ _ _ _ _ _ us hl => match us, hl with | [_], _ => rfl
  have F_least_siphons := fun_mk (st := s_least_siphons) l_least_siphons c_least_siphons k_least_siphons
  have b_least_siphons := F_least_siphons.binds (ps := ["net"]) fun _ _ _ _ _ _ us hl => match us, hl with | [_], _ => rfl
  have F_least_traps := fun_mk (st := s_least_traps) l_least_traps c_least_traps k_least_traps
  have b_least_traps := F_least_traps.binds (ps := ["net"]) fun _ _ _ _ _ _ us hl => match us, hl with | [_], _ => rfl
  have F_are_few := fun_mk (st := s_are_few) l_are_few c_are_few k_are_few
  have b_are_few := F_are_few.binds (ps := ["marking"]) fun _ _ _ _ _ _ us hl => match us, hl with | [_], _ => rfl
  have F_rows_told := fun_mk (st := s_rows_told) l_rows_told c_rows_told k_rows_told
  have b_rows_told := F_rows_told.binds (ps := ["rows"]) fun _ _ _ _ _ _ us hl => match us, hl with | [_], _ => rfl
  have F_House_init := fun_mk (st := s_House_init) l_House_init c_House_init k_House_init
  have b_House_init := F_House_init.binds (ps := ["self"]) fun _ _ _ _ _ _ us hl => match us, hl with | [_], _ => rfl
  have F_House_begin := fun_mk (st := s_House_begin) l_House_begin c_House_begin k_House_begin
  have b_House_begin := F_House_begin.binds (ps := ["self", "n", "row", "marking"]) fun _ _ _ _ _ _ us hl => match us, hl with | [_, _, _, _], _ => rfl
  have F_House_set_marking := fun_mk (st := s_House_set_marking) l_House_set_marking c_House_set_marking k_House_set_marking
  have b_House_set_marking := F_House_set_marking.binds (ps := ["self", "marking"]) fun _ _ _ _ _ _ us hl => match us, hl with | [_, _], _ => rfl
  have F_House_fired := fun_mk (st := s_House_fired) l_House_fired c_House_fired k_House_fired
  have b_House_fired := F_House_fired.binds (ps := ["self", "marking", "number"]) fun _ _ _ _ _ _ us hl => match us, hl with | [_, _, _], _ => rfl
  have F_House_fire := fun_mk (st := s_House_fire) l_House_fire c_House_fire k_House_fire
  have b_House_fire := F_House_fire.binds (ps := ["self", "numbers"]) fun _ _ _ _ _ _ us hl => match us, hl with | [_, _], _ => rfl
  have F_House_siphons := fun_mk (st := s_House_siphons) l_House_siphons c_House_siphons k_House_siphons
  have b_House_siphons := F_House_siphons.binds (ps := ["self"]) fun _ _ _ _ _ _ us hl => match us, hl with | [_], _ => rfl
  have F_House_traps := fun_mk (st := s_House_traps) l_House_traps c_House_traps k_House_traps
  have b_House_traps := F_House_traps.binds (ps := ["self"]) fun _ _ _ _ _ _ us hl => match us, hl with | [_], _ => rfl
  have F_House_inside := fun_mk (st := s_House_inside) l_House_inside c_House_inside k_House_inside
  have b_House_inside := F_House_inside.binds (ps := ["self", "places"]) fun _ _ _ _ _ _ us hl => match us, hl with | [_, _], _ => rfl
  have F_House_empty := fun_mk (st := s_House_empty) l_House_empty c_House_empty k_House_empty
  have b_House_empty := F_House_empty.binds (ps := ["self"]) fun _ _ _ _ _ _ us hl => match us, hl with | [_], _ => rfl
  have F_House_is_held := fun_mk (st := s_House_is_held) l_House_is_held c_House_is_held k_House_is_held
  have b_House_is_held := F_House_is_held.binds (ps := ["self", "siphon"]) fun _ _ _ _ _ _ us hl => match us, hl with | [_, _], _ => rfl
  have F_House_held := fun_mk (st := s_House_held) l_House_held c_House_held k_House_held
  have b_House_held := F_House_held.binds (ps := ["self"]) fun _ _ _ _ _ _ us hl => match us, hl with | [_], _ => rfl
  have F_House_free := fun_mk (st := s_House_free) l_House_free c_House_free k_House_free
  have b_House_free := F_House_free.binds (ps := ["self"]) fun _ _ _ _ _ _ us hl => match us, hl with | [_], _ => rfl
  have F_House_live := fun_mk (st := s_House_live) l_House_live c_House_live k_House_live
  have b_House_live := F_House_live.binds (ps := ["self"]) fun _ _ _ _ _ _ us hl => match us, hl with | [_], _ => rfl
  have F_read_calls := fun_mk (st := s_read_calls) l_read_calls c_read_calls k_read_calls
  have b_read_calls := F_read_calls.binds (ps := ["row"]) fun _ _ _ _ _ _ us hl => match us, hl with | [_], _ => rfl
  have F_told_with_rows := fun_mk (st := s_told_with_rows) l_told_with_rows c_told_with_rows k_told_with_rows
  have b_told_with_rows := F_told_with_rows.binds (ps := ["house", "call", "numbers", "rows"]) fun _ _ _ _ _ _ us hl => match us, hl with | [_, _, _, _], _ => rfl
  have F_told_by := fun_mk (st := s_told_by) l_told_by c_told_by k_told_by
  have b_told_by := F_told_by.binds (ps := ["house", "call", "numbers", "rows"]) fun _ _ _ _ _ _ us hl => match us, hl with | [_, _, _, _], _ => rfl
  have F_answered := fun_mk (st := s_answered) l_answered c_answered k_answered
  have b_answered := F_answered.binds (ps := ["house", "call", "numbers", "rows"]) fun _ _ _ _ _ _ us hl => match us, hl with | [_, _, _, _], _ => rfl
  have F_answers := fun_mk (st := s_answers) l_answers c_answers k_answers
  have b_answers := F_answers.binds (ps := ["calls"]) fun _ _ _ _ _ _ us hl => match us, hl with | [_], _ => rfl
  refine ⟨PySem.W.fnOf "answers" "answers" (defArgs s_answers) (defBody s_answers) (defScope s_answers) .none kV_answers dc_answers pm_answers an_answers cd_answers ct_answers, fun s us hu => match us, hu with | [_], _ => .of_eq rfl, fun base _ _ => ?_⟩
  have o_ask : OkF P w K mg base (L2.CX P w) 3 "ask" ["good", "told"] (spAsk R) := ⟨_, _, PySem.W.mg_of X G a_ask, k_ask, b_ask, ok_ask F_ask T⟩
  have o_rises : OkF P w K mg base CX0 1 "rises" ["row"] (spRises) := ⟨_, _, PySem.W.mg_of X G a_rises, k_rises, b_rises, ok_rises F_rises T⟩
  have o_are_places : OkF P w K mg base CX0 2 "are_places" ["n", "row"] (spArePlaces) := ⟨_, _, PySem.W.mg_of X G a_are_places, k_are_places, b_are_places, ok_are_places F_are_places T o_rises⟩
  have o_counted : OkF P w K mg base CX0 1 "counted" ["row"] (spCounted) := ⟨_, _, PySem.W.mg_of X G a_counted, k_counted, b_counted, ok_counted F_counted T⟩
  have o_places_at : OkF P w K mg base (L2.CX P w) 4 "places_at" ["n", "row", "at"] (spPlacesAt R) := ⟨_, _, PySem.W.mg_of X G a_places_at, k_places_at, b_places_at, ok_places_at F_places_at T o_ask o_are_places⟩
  have o_read_transitions : OkF P w K mg base (L2.CX P w) 5 "read_transitions" ["n", "row"] (spReadTransitions R) := ⟨_, _, PySem.W.mg_of X G a_read_transitions, k_read_transitions, b_read_transitions, ok_read_transitions F_read_transitions T o_places_at⟩
  have o_Net_init : OkI P w K mg base CN CX0 1 "Net" ["self", "n", "transitions"] (spNetInit CN) := ⟨_, _, PySem.W.mg_of X G aCN, ⟨mkCN, a_Net_init, i_Net_init, kcCN⟩, b_Net_init, ok_Net_init F_Net_init T⟩
  have o_Net_is_used : OkM P w K mg base CN CX0 1 "is_used" ["self", "place"] (spIsUsed CN) := ⟨_, _, ⟨a_Net_is_used, i_Net_is_used, k_Net_is_used⟩, b_Net_is_used, ok_Net_is_used F_Net_is_used T⟩
  have o_Net_ask_good : OkM P w K mg base CN (L2.CX P w) 4 "ask_good" ["self"] (spAskGood R CN) := ⟨_, _, ⟨a_Net_ask_good, i_Net_ask_good, k_Net_ask_good⟩, b_Net_ask_good, ok_Net_ask_good F_Net_ask_good T o_ask o_Net_is_used⟩
  have o_meet : OkF P w K mg base CX0 1 "meet" ["one", "other"] (spMeet) := ⟨_, _, PySem.W.mg_of X G a_meet, k_meet, b_meet, ok_meet F_meet T⟩
  have o_Net_pair_not_free : OkM P w K mg base CN CX0 2 "pair_not_free" ["self"] (spPairNotFree CN) := ⟨_, _, ⟨a_Net_pair_not_free, i_Net_pair_not_free, k_Net_pair_not_free⟩, b_Net_pair_not_free, ok_Net_pair_not_free F_Net_pair_not_free T o_meet⟩
  have o_ask_few : OkF P w K mg base (L2.CX P w) 4 "ask_few" ["transitions"] (spAskFew R) := ⟨_, _, PySem.W.mg_of X G a_ask_few, k_ask_few, b_ask_few, ok_ask_few F_ask_few T o_ask⟩
  have o_ask_places : OkF P w K mg base (L2.CX P w) 4 "ask_places" ["n"] (spAskPlaces R) := ⟨_, _, PySem.W.mg_of X G a_ask_places, k_ask_places, b_ask_places, ok_ask_places F_ask_places T o_ask⟩
  have o_is_siphon : OkF P w K mg base CX0 2 "is_siphon" ["net", "places"] (spIsSiphon CN) := ⟨_, _, PySem.W.mg_of X G a_is_siphon, k_is_siphon, b_is_siphon, ok_is_siphon F_is_siphon T o_meet⟩
  have o_is_trap : OkF P w K mg base CX0 2 "is_trap" ["net", "places"] (spIsTrap CN) := ⟨_, _, PySem.W.mg_of X G a_is_trap, k_is_trap, b_is_trap, ok_is_trap F_is_trap T o_meet⟩
  have o_emptied_by : OkF P w K mg base CX0 2 "emptied_by" ["net", "places"] (spEmptiedBy CN) := ⟨_, _, PySem.W.mg_of X G a_emptied_by, k_emptied_by, b_emptied_by, ok_emptied_by F_emptied_by T o_meet⟩
  have o_drained_by : OkF P w K mg base CX0 2 "drained_by" ["net", "places"] (spDrainedBy CN) := ⟨_, _, PySem.W.mg_of X G a_drained_by, k_drained_by, b_drained_by, ok_drained_by F_drained_by T o_meet⟩
  have o_greatest_siphon : OkF P w K mg base CX0 3 "greatest_siphon" ["net", "places"] (spGreatestSiphon CN) := ⟨_, _, PySem.W.mg_of X G a_greatest_siphon, k_greatest_siphon, b_greatest_siphon, ok_greatest_siphon F_greatest_siphon T o_meet o_emptied_by⟩
  have o_greatest_trap : OkF P w K mg base CX0 3 "greatest_trap" ["net", "places"] (spGreatestTrap CN) := ⟨_, _, PySem.W.mg_of X G a_greatest_trap, k_greatest_trap, b_greatest_trap, ok_greatest_trap F_greatest_trap T o_meet o_drained_by⟩
  have o_all_choices : OkF P w K mg base CX0 1 "all_choices" ["n"] (spAllChoices) := ⟨_, _, PySem.W.mg_of X G a_all_choices, k_all_choices, b_all_choices, ok_all_choices F_all_choices T⟩
  have o_is_within : OkF P w K mg base CX0 1 "is_within" ["one", "other"] (spIsWithin) := ⟨_, _, PySem.W.mg_of X G a_is_within, k_is_within, b_is_within, ok_is_within F_is_within T⟩
  have o_least_ones : OkF P w K mg base CX0 2 "least_ones" ["rows"] (spLeastOnes) := ⟨_, _, PySem.W.mg_of X G a_least_ones, k_least_ones, b_least_ones, ok_least_ones F_least_ones T o_is_within⟩
  have o_least_siphons : OkF P w K mg base CX0 3 "least_siphons" ["net"] (spLeastSiphons CN) := ⟨_, _, PySem.W.mg_of X G a_least_siphons, k_least_siphons, b_least_siphons, ok_least_siphons F_least_siphons T o_least_ones o_is_siphon o_all_choices⟩
  have o_least_traps : OkF P w K mg base CX0 3 "least_traps" ["net"] (spLeastTraps CN) := ⟨_, _, PySem.W.mg_of X G a_least_traps, k_least_traps, b_least_traps, ok_least_traps F_least_traps T o_least_ones o_is_trap o_all_choices⟩
  have o_are_few : OkF P w K mg base CX0 1 "are_few" ["marking"] (spAreFew) := ⟨_, _, PySem.W.mg_of X G a_are_few, k_are_few, b_are_few, ok_are_few F_are_few T⟩
  have o_rows_told : OkF P w K mg base CX0 2 "rows_told" ["rows"] (spRowsTold) := ⟨_, _, PySem.W.mg_of X G a_rows_told, k_rows_told, b_rows_told, ok_rows_told F_rows_told T o_counted⟩
  have o_House_init : OkI P w K mg base CH CX0 3 "House" ["self"] (spHouseInit CN CH) := ⟨_, _, PySem.W.mg_of X G aCH, ⟨mkCH, a_House_init, i_House_init, kcCH⟩, b_House_init, ok_House_init F_House_init T o_Net_init⟩
  have o_House_begin : OkM P w K mg base CH (L2.CX P w) 6 "begin" ["self", "n", "row", "marking"] (spBegin R CN CH) := ⟨_, _, ⟨a_House_begin, i_House_begin, k_House_begin⟩, b_House_begin, ok_House_begin F_House_begin T o_Net_ask_good o_Net_init o_ask o_are_few o_ask_few o_read_transitions o_ask_places⟩
  have o_House_set_marking : OkM P w K mg base CH (L2.CX P w) 4 "set_marking" ["self", "marking"] (spSetMarking R CN CH) := ⟨_, _, ⟨a_House_set_marking, i_House_set_marking, k_House_set_marking⟩, b_House_set_marking, ok_House_set_marking F_House_set_marking T o_ask o_are_few⟩
  have o_House_fired : OkM P w K mg base CH (L2.CX P w) 4 "fired" ["self", "marking", "number"] (spFired R CN CH) := ⟨_, _, ⟨a_House_fired, i_House_fired, k_House_fired⟩, b_House_fired, ok_House_fired F_House_fired T o_ask⟩
  have o_House_fire : OkM P w K mg base CH (L2.CX P w) 5 "fire" ["self", "numbers"] (spFire R CN CH) := ⟨_, _, ⟨a_House_fire, i_House_fire, k_House_fire⟩, b_House_fire, ok_House_fire F_House_fire T o_ask o_are_few o_House_fired⟩
  have o_House_siphons : OkM P w K mg base CH (L2.CX P w) 4 "siphons" ["self"] (spM R CN CH .siphons) := ⟨_, _, ⟨a_House_siphons, i_House_siphons, k_House_siphons⟩, b_House_siphons, ok_House_siphons F_House_siphons T o_rows_told o_least_siphons⟩
  have o_House_traps : OkM P w K mg base CH (L2.CX P w) 4 "traps" ["self"] (spM R CN CH .traps) := ⟨_, _, ⟨a_House_traps, i_House_traps, k_House_traps⟩, b_House_traps, ok_House_traps F_House_traps T o_rows_told o_least_traps⟩
  have o_House_inside : OkM P w K mg base CH (L2.CX P w) 4 "inside" ["self", "places"] (spInside R CN CH) := ⟨_, _, ⟨a_House_inside, i_House_inside, k_House_inside⟩, b_House_inside, ok_House_inside F_House_inside T o_counted o_greatest_siphon o_greatest_trap o_is_siphon o_is_trap o_ask o_are_places⟩
  have o_House_empty : OkM P w K mg base CH (L2.CX P w) 4 "empty" ["self"] (spM R CN CH .empty) := ⟨_, _, ⟨a_House_empty, i_House_empty, k_House_empty⟩, b_House_empty, ok_House_empty F_House_empty T o_counted o_meet o_greatest_siphon⟩
  have o_House_is_held : OkM P w K mg base CH CX0 4 "is_held" ["self", "siphon"] (spIsHeld CN CH) := ⟨_, _, ⟨a_House_is_held, i_House_is_held, k_House_is_held⟩, b_House_is_held, ok_House_is_held F_House_is_held T o_greatest_trap⟩
  have o_House_held : OkM P w K mg base CH (L2.CX P w) 5 "held" ["self"] (spM R CN CH .held) := ⟨_, _, ⟨a_House_held, i_House_held, k_House_held⟩, b_House_held, ok_House_held F_House_held T o_counted o_least_siphons o_House_is_held⟩
  have o_House_free : OkM P w K mg base CH (L2.CX P w) 3 "free" ["self"] (spM R CN CH .free) := ⟨_, _, ⟨a_House_free, i_House_free, k_House_free⟩, b_House_free, ok_House_free F_House_free T o_Net_pair_not_free⟩
  have o_House_live : OkM P w K mg base CH (L2.CX P w) 5 "live" ["self"] (spM R CN CH .live) := ⟨_, _, ⟨a_House_live, i_House_live, k_House_live⟩, b_House_live, ok_House_live F_House_live T o_least_siphons o_House_is_held o_ask o_Net_pair_not_free⟩
  have o_read_calls : OkF P w K mg base CX0 1 "read_calls" ["row"] (spReadCalls K) := ⟨_, _, PySem.W.mg_of X G a_read_calls, k_read_calls, b_read_calls, ok_read_calls F_read_calls T⟩
  have o_told_with_rows : OkF P w K mg base (L2.CX P w) 7 "told_with_rows" ["house", "call", "numbers", "rows"] (spToldRows R CN CH) := ⟨_, _, PySem.W.mg_of X G a_told_with_rows, k_told_with_rows, b_told_with_rows, ok_told_with_rows F_told_with_rows T o_House_inside o_House_fire o_House_set_marking o_House_begin⟩
  have o_told_by : OkF P w K mg base (L2.CX P w) 8 "told_by" ["house", "call", "numbers", "rows"] (spTold R CN CH) := ⟨_, _, PySem.W.mg_of X G a_told_by, k_told_by, b_told_by, ok_told_by F_told_by T o_House_live o_House_free o_House_held o_House_empty o_House_traps o_House_siphons o_told_with_rows⟩
  have o_answered : OkF P w K mg base CX0 9 "answered" ["house", "call", "numbers", "rows"] (spAnswered CN CH) := ⟨_, _, PySem.W.mg_of X G a_answered, k_answered, b_answered, ok_answered F_answered T o_told_by⟩
  exact ok_answers F_answers T o_read_calls o_answered o_House_init
end My
open PySem PySem.W PyProof.Rows
set_option maxRecDepth 100000 in
set_option maxHeartbeats 8000000 in
theorem PySem.Challenge.cw_freechoice_s01_answers_holds : PySem.Challenge.rw_freechoice_s01_answers.Holds := by
  w_on; k_headS; (case hw => exact ⟨[.list [.int 4]], by decide +kernel, by decide +kernel⟩)
  k_fillS
  refine L2.walk_specK (r := PySem.Challenge.rw_freechoice_s01_answers) (k := 10) (CX := L2.CX0) (ps := ["calls"]) (sp := My.spAnswers) (by decide +kernel) rfl rfl ⟨rfl, by decide, by decide⟩ (fun w h Y => PySem.W.kIn_of Y) ?F ?S (fun _ _ _ _ z => z)
  case F =>
    intro w mg fa h Y KX G hmg
    refine' My.all_mk KX G hmg ?aR ?xL ?saR ?gaR ?ggR ?nbR ?iR ?tfR ?lR ?cR ?kR ?eR ?tR ?hdR ?icR ?sR ?aWRONG ?aNOT_TOLD ?aNOT_SO ?aTOO_FULL ?aMOST_PLACES ?aMOST_TRANSITIONS ?aMOST_TOKENS ?aBEGIN ?aBELONG ?lBELONG ?vBELONG ?aROWS ?lROWS ?vROWS ?zall ?zany ?zlen ?zrange ?zsorted ?zenumerate ?zlist ?zint ?aCN ?pgCN ?hdCN ?poCN ?saCN ?mkCN ?kcCN ?nN ?nT ?aCH ?pgCH ?hdCH ?poCH ?saCH ?mkCH ?kcCH ?nE ?nM ?a_ask ?l_ask ?c_ask ?k_ask ?a_rises ?l_rises ?c_rises ?k_rises ?a_are_places ?l_are_places ?c_are_places ?k_are_places ?a_counted ?l_counted ?c_counted ?k_counted ?a_places_at ?l_places_at ?c_places_at ?k_places_at ?a_read_transitions ?l_read_transitions ?c_read_transitions ?k_read_transitions ?a_Net_init ?i_Net_init ?l_Net_init ?c_Net_init ?k_Net_init ?a_Net_is_used ?i_Net_is_used ?l_Net_is_used ?c_Net_is_used ?k_Net_is_used ?a_Net_ask_good ?i_Net_ask_good ?l_Net_ask_good ?c_Net_ask_good ?k_Net_ask_good ?a_meet ?l_meet ?c_meet ?k_meet ?a_Net_pair_not_free ?i_Net_pair_not_free ?l_Net_pair_not_free ?c_Net_pair_not_free ?k_Net_pair_not_free ?a_ask_few ?l_ask_few ?c_ask_few ?k_ask_few ?a_ask_places ?l_ask_places ?c_ask_places ?k_ask_places ?a_is_siphon ?l_is_siphon ?c_is_siphon ?k_is_siphon ?a_is_trap ?l_is_trap ?c_is_trap ?k_is_trap ?a_emptied_by ?l_emptied_by ?c_emptied_by ?k_emptied_by ?a_drained_by ?l_drained_by ?c_drained_by ?k_drained_by ?a_greatest_siphon ?l_greatest_siphon ?c_greatest_siphon ?k_greatest_siphon ?a_greatest_trap ?l_greatest_trap ?c_greatest_trap ?k_greatest_trap ?a_all_choices ?l_all_choices ?c_all_choices ?k_all_choices ?a_is_within ?l_is_within ?c_is_within ?k_is_within ?a_least_ones ?l_least_ones ?c_least_ones ?k_least_ones ?a_least_siphons ?l_least_siphons ?c_least_siphons ?k_least_siphons ?a_least_traps ?l_least_traps ?c_least_traps ?k_least_traps ?a_are_few ?l_are_few ?c_are_few ?k_are_few ?a_rows_told ?l_rows_told ?c_rows_told ?k_rows_told ?a_House_init ?i_House_init ?l_House_init ?c_House_init ?k_House_init ?a_House_begin ?i_House_begin ?l_House_begin ?c_House_begin ?k_House_begin ?a_House_set_marking ?i_House_set_marking ?l_House_set_marking ?c_House_set_marking ?k_House_set_marking ?a_House_fired ?i_House_fired ?l_House_fired ?c_House_fired ?k_House_fired ?a_House_fire ?i_House_fire ?l_House_fire ?c_House_fire ?k_House_fire ?a_House_siphons ?i_House_siphons ?l_House_siphons ?c_House_siphons ?k_House_siphons ?a_House_traps ?i_House_traps ?l_House_traps ?c_House_traps ?k_House_traps ?a_House_inside ?i_House_inside ?l_House_inside ?c_House_inside ?k_House_inside ?a_House_empty ?i_House_empty ?l_House_empty ?c_House_empty ?k_House_empty ?a_House_is_held ?i_House_is_held ?l_House_is_held ?c_House_is_held ?k_House_is_held ?a_House_held ?i_House_held ?l_House_held ?c_House_held ?k_House_held ?a_House_free ?i_House_free ?l_House_free ?c_House_free ?k_House_free ?a_House_live ?i_House_live ?l_House_live ?c_House_live ?k_House_live ?a_read_calls ?l_read_calls ?c_read_calls ?k_read_calls ?a_told_with_rows ?l_told_with_rows ?c_told_with_rows ?k_told_with_rows ?a_told_by ?l_told_by ?c_told_by ?k_told_by ?a_answered ?l_answered ?c_answered ?k_answered ?a_answers ?l_answers ?c_answers ?k_answers
    (case aR => k_is)
    (case xL => k_is)
    (case saR => k_is)
    (case gaR => k_is)
    (case ggR => k_is)
    (case nbR => k_is)
    (case iR => k_is)
    (case tfR => k_is)
    (case lR => k_is)
    (case cR => k_is)
    (case kR => k_is)
    (case eR => k_is)
    (case tR => k_is)
    (case hdR => k_is)
    (case icR => k_is)
    (case sR => first | rfl | k_is)
    (case aWRONG => k_is)
    (case aNOT_TOLD => k_is)
    (case aNOT_SO => k_is)
    (case aTOO_FULL => k_is)
    (case aMOST_PLACES => k_is)
    (case aMOST_TRANSITIONS => k_is)
    (case aMOST_TOKENS => k_is)
    (case aBEGIN => k_is)
    (case aBELONG => k_is)
    (case lBELONG => k_is)
    (case vBELONG => exact .cons ⟨_, rfl⟩ (.cons ⟨_, rfl⟩ (.cons ⟨_, rfl⟩ (.cons ⟨_, rfl⟩ (.cons ⟨_, rfl⟩ (.cons ⟨_, rfl⟩ (.cons ⟨_, rfl⟩ (.cons ⟨_, rfl⟩ (.cons ⟨_, rfl⟩ (.cons ⟨_, rfl⟩ .nil))))))))))
    (case aROWS => k_is)
    (case lROWS => k_is)
    (case vROWS => exact .cons ⟨_, rfl⟩ (.cons ⟨_, rfl⟩ (.cons ⟨_, rfl⟩ (.cons ⟨_, rfl⟩ (.cons ⟨_, rfl⟩ (.cons ⟨_, rfl⟩ (.cons ⟨_, rfl⟩ (.cons ⟨_, rfl⟩ (.cons ⟨_, rfl⟩ (.cons ⟨_, rfl⟩ .nil))))))))))
    (case zall => k_is)
    (case zany => k_is)
    (case zlen => k_is)
    (case zrange => k_is)
    (case zsorted => k_is)
    (case zenumerate => k_is)
    (case zlist => k_is)
    (case zint => k_is)
    (case aCN => k_is)
    (case pgCN => k_is)
    (case hdCN => k_is)
    (case poCN => k_is)
    (case saCN => k_is)
    (case mkCN => k_is)
    (case kcCN => k_is)
    (case nN => k_is)
    (case nT => k_is)
    (case aCH => k_is)
    (case pgCH => k_is)
    (case hdCH => k_is)
    (case poCH => k_is)
    (case saCH => k_is)
    (case mkCH => k_is)
    (case kcCH => k_is)
    (case nE => k_is)
    (case nM => k_is)
    (case a_ask => k_is)
    (case l_ask => k_is)
    (case c_ask => k_is)
    (case k_ask => k_is)
    (case a_rises => k_is)
    (case l_rises => k_is)
    (case c_rises => k_is)
    (case k_rises => k_is)
    (case a_are_places => k_is)
    (case l_are_places => k_is)
    (case c_are_places => k_is)
    (case k_are_places => k_is)
    (case a_counted => k_is)
    (case l_counted => k_is)
    (case c_counted => k_is)
    (case k_counted => k_is)
    (case a_places_at => k_is)
    (case l_places_at => k_is)
    (case c_places_at => k_is)
    (case k_places_at => k_is)
    (case a_read_transitions => k_is)
    (case l_read_transitions => k_is)
    (case c_read_transitions => k_is)
    (case k_read_transitions => k_is)
    (case a_Net_init => k_is)
    (case i_Net_init => k_is)
    (case l_Net_init => k_is)
    (case c_Net_init => k_is)
    (case k_Net_init => k_is)
    (case a_Net_is_used => k_is)
    (case i_Net_is_used => k_is)
    (case l_Net_is_used => k_is)
    (case c_Net_is_used => k_is)
    (case k_Net_is_used => k_is)
    (case a_Net_ask_good => k_is)
    (case i_Net_ask_good => k_is)
    (case l_Net_ask_good => k_is)
    (case c_Net_ask_good => k_is)
    (case k_Net_ask_good => k_is)
    (case a_meet => k_is)
    (case l_meet => k_is)
    (case c_meet => k_is)
    (case k_meet => k_is)
    (case a_Net_pair_not_free => k_is)
    (case i_Net_pair_not_free => k_is)
    (case l_Net_pair_not_free => k_is)
    (case c_Net_pair_not_free => k_is)
    (case k_Net_pair_not_free => k_is)
    (case a_ask_few => k_is)
    (case l_ask_few => k_is)
    (case c_ask_few => k_is)
    (case k_ask_few => k_is)
    (case a_ask_places => k_is)
    (case l_ask_places => k_is)
    (case c_ask_places => k_is)
    (case k_ask_places => k_is)
    (case a_is_siphon => k_is)
    (case l_is_siphon => k_is)
    (case c_is_siphon => k_is)
    (case k_is_siphon => k_is)
    (case a_is_trap => k_is)
    (case l_is_trap => k_is)
    (case c_is_trap => k_is)
    (case k_is_trap => k_is)
    (case a_emptied_by => k_is)
    (case l_emptied_by => k_is)
    (case c_emptied_by => k_is)
    (case k_emptied_by => k_is)
    (case a_drained_by => k_is)
    (case l_drained_by => k_is)
    (case c_drained_by => k_is)
    (case k_drained_by => k_is)
    (case a_greatest_siphon => k_is)
    (case l_greatest_siphon => k_is)
    (case c_greatest_siphon => k_is)
    (case k_greatest_siphon => k_is)
    (case a_greatest_trap => k_is)
    (case l_greatest_trap => k_is)
    (case c_greatest_trap => k_is)
    (case k_greatest_trap => k_is)
    (case a_all_choices => k_is)
    (case l_all_choices => k_is)
    (case c_all_choices => k_is)
    (case k_all_choices => k_is)
    (case a_is_within => k_is)
    (case l_is_within => k_is)
    (case c_is_within => k_is)
    (case k_is_within => k_is)
    (case a_least_ones => k_is)
    (case l_least_ones => k_is)
    (case c_least_ones => k_is)
    (case k_least_ones => k_is)
    (case a_least_siphons => k_is)
    (case l_least_siphons => k_is)
    (case c_least_siphons => k_is)
    (case k_least_siphons => k_is)
    (case a_least_traps => k_is)
    (case l_least_traps => k_is)
    (case c_least_traps => k_is)
    (case k_least_traps => k_is)
    (case a_are_few => k_is)
    (case l_are_few => k_is)
    (case c_are_few => k_is)
    (case k_are_few => k_is)
    (case a_rows_told => k_is)
    (case l_rows_told => k_is)
    (case c_rows_told => k_is)
    (case k_rows_told => k_is)
    (case a_House_init => k_is)
    (case i_House_init => k_is)
    (case l_House_init => k_is)
    (case c_House_init => k_is)
    (case k_House_init => k_is)
    (case a_House_begin => k_is)
    (case i_House_begin => k_is)
    (case l_House_begin => k_is)
    (case c_House_begin => k_is)
    (case k_House_begin => k_is)
    (case a_House_set_marking => k_is)
    (case i_House_set_marking => k_is)
    (case l_House_set_marking => k_is)
    (case c_House_set_marking => k_is)
    (case k_House_set_marking => k_is)
    (case a_House_fired => k_is)
    (case i_House_fired => k_is)
    (case l_House_fired => k_is)
    (case c_House_fired => k_is)
    (case k_House_fired => k_is)
    (case a_House_fire => k_is)
    (case i_House_fire => k_is)
    (case l_House_fire => k_is)
    (case c_House_fire => k_is)
    (case k_House_fire => k_is)
    (case a_House_siphons => k_is)
    (case i_House_siphons => k_is)
    (case l_House_siphons => k_is)
    (case c_House_siphons => k_is)
    (case k_House_siphons => k_is)
    (case a_House_traps => k_is)
    (case i_House_traps => k_is)
    (case l_House_traps => k_is)
    (case c_House_traps => k_is)
    (case k_House_traps => k_is)
    (case a_House_inside => k_is)
    (case i_House_inside => k_is)
    (case l_House_inside => k_is)
    (case c_House_inside => k_is)
    (case k_House_inside => k_is)
    (case a_House_empty => k_is)
    (case i_House_empty => k_is)
    (case l_House_empty => k_is)
    (case c_House_empty => k_is)
    (case k_House_empty => k_is)
    (case a_House_is_held => k_is)
    (case i_House_is_held => k_is)
    (case l_House_is_held => k_is)
    (case c_House_is_held => k_is)
    (case k_House_is_held => k_is)
    (case a_House_held => k_is)
    (case i_House_held => k_is)
    (case l_House_held => k_is)
    (case c_House_held => k_is)
    (case k_House_held => k_is)
    (case a_House_free => k_is)
    (case i_House_free => k_is)
    (case l_House_free => k_is)
    (case c_House_free => k_is)
    (case k_House_free => k_is)
    (case a_House_live => k_is)
    (case i_House_live => k_is)
    (case l_House_live => k_is)
    (case c_House_live => k_is)
    (case k_House_live => k_is)
    (case a_read_calls => k_is)
    (case l_read_calls => k_is)
    (case c_read_calls => k_is)
    (case k_read_calls => k_is)
    (case a_told_with_rows => k_is)
    (case l_told_with_rows => k_is)
    (case c_told_with_rows => k_is)
    (case k_told_with_rows => k_is)
    (case a_told_by => k_is)
    (case l_told_by => k_is)
    (case c_told_by => k_is)
    (case k_told_by => k_is)
    (case a_answered => k_is)
    (case l_answered => k_is)
    (case c_answered => k_is)
    (case k_answered => k_is)
    (case a_answers => k_is)
    (case l_answers => k_is)
    (case c_answers => k_is)
    (case k_answers => k_is)
  case S =>
    intro K H xs a hO hwi hask hx
    cases hx with
    | cons h1 h2 =>
      cases h2
      cases h1 with
      | lst hs ha =>
        have e := L2.ints_dw a.1 _ ha
        subst e
        have q : ((Codec.inLen 0 16000 a.1 && a.1.all (Codec.inInt 0 18446744073709551615)) && true) = true := hwi
        rw [Bool.and_eq_true, Bool.and_eq_true] at q
        exact ⟨_, a.1, rfl, hs, (Codec.inNat_iff.mp q.1.1).2, hask, fun H' p hp => .lst (L2.SqL.of hp) (L2.dw_ints _)⟩
#print axioms PySem.Challenge.cw_freechoice_s01_answers_holds
