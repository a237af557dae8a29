import PyProof.Rows.All
import Wide.All
import OpenK.AllK
import Wide.FinOn
import Open.SpecLaws
import KE.OsGo
import HandS.ForSpec
import HandS.ForMost
import HandS.Evl
import HandS.Conv
import HandS.CallLocal
import HandS.TupSets
import HandS.SetFor
import HandS.SortRule
import HandS.Walk
import PyFlatLaws
import PySem.Challenge.RW_turnvotes_s01_answers
set_option Elab.async false
set_option linter.all false
set_option maxRecDepth 100000
set_option maxHeartbeats 4000000
/-! part TvA -/
/-! Plain mathematics, part A: sets by bits, who comes first, groups, covers. -/
namespace TV
abbrev WF := Nat → Nat → Nat
def bt (w : WF) (i j : Nat) : Bool := decide (w j i < w i j)
theorem bt_wins (b : List Rc61.Ballot) : bt (Rc61.wins b) = Rc61.beats b := rfl
theorem bt_irr (w : WF) (i : Nat) : bt w i i = false := by simp [bt]
theorem bt_asym {w : WF} {i j : Nat} (h : bt w i j = true) : bt w j i = false := by
  simp only [bt, decide_eq_true_eq, decide_eq_false_iff_not] at *
  omega
def mem (n m : Nat) : List Nat := (List.range n).filter fun i => m.testBit i
def oth (n m : Nat) : List Nat := (List.range n).filter fun i => !m.testBit i
def ball (w : WF) (i : Nat) (l : List Nat) : Bool := l.all (bt w i)
theorem mem_mem {n m i : Nat} : i ∈ mem n m ↔ i < n ∧ m.testBit i = true := by simp [mem]
theorem mem_oth {n m i : Nat} : i ∈ oth n m ↔ i < n ∧ m.testBit i = false := by simp [oth]
theorem ball_iff {w : WF} {i : Nat} {l : List Nat} : ball w i l = true ↔ ∀ j ∈ l, bt w i j = true := by simp [ball]
theorem mem_nodup (n m : Nat) : (mem n m).Nodup := List.Nodup.sublist List.filter_sublist List.nodup_range
theorem oth_nodup (n m : Nat) : (oth n m).Nodup := List.Nodup.sublist List.filter_sublist List.nodup_range

/-! first -/
def firstW (n : Nat) (w : WF) : Option Nat := (List.range n).find? fun i => ball w i (oth n (2 ^ i))
theorem find_congr {α : Type} {p q : α → Bool} : ∀ {l : List α}, (∀ x ∈ l, p x = q x) → l.find? p = l.find? q
  | [], _ => rfl
  | a :: r, h => by
    rw [List.find?_cons, List.find?_cons, h a List.mem_cons_self, find_congr fun x hx => h x (List.mem_cons_of_mem _ hx)]
theorem first_eq (n : Nat) (b : List Rc61.Ballot) : firstW n (Rc61.wins b) = Rc61.first n b := by
  unfold firstW Rc61.first
  refine find_congr fun i _ => ?_
  rw [Bool.eq_iff_iff, ball_iff, List.all_eq_true]
  constructor
  · intro h j hj
    by_cases e : i = j
    · simp [e]
    · have : (i == j) = false := by simpa using e
      rw [this, Bool.false_or]
      exact h j (mem_oth.mpr ⟨List.mem_range.mp hj, by rw [Nat.testBit_two_pow]; simpa using e⟩)
  · intro h j hj
    obtain ⟨h1, h2⟩ := mem_oth.mp hj
    rw [Nat.testBit_two_pow] at h2
    have e : ¬ i = j := by simpa using h2
    have q := h j (List.mem_range.mpr h1)
    have : (i == j) = false := by simpa using e
    rw [this, Bool.false_or] at q
    exact q

/-! groups -/
def isGrp (n : Nat) (w : WF) (m : Nat) : Bool := (mem n m).all fun i => ball w i (oth n m)
theorem isGrp_iff {n : Nat} {w : WF} {m : Nat} : isGrp n w m = true ↔ ∀ i j, i < n → j < n → m.testBit i = true → m.testBit j = false → bt w i j = true := by
  unfold isGrp
  rw [List.all_eq_true]
  constructor
  · intro h i j hi hj a b
    exact ball_iff.mp (h i (mem_mem.mpr ⟨hi, a⟩)) j (mem_oth.mpr ⟨hj, b⟩)
  · intro h i hi
    obtain ⟨h1, h2⟩ := mem_mem.mp hi
    exact ball_iff.mpr fun j hj => h i j h1 (mem_oth.mp hj).1 h2 (mem_oth.mp hj).2
theorem isOver_iff {n : Nat} {b : List Rc61.Ballot} {t : Nat} : Rc61.isOver n b t = true ↔ t ≠ 0 ∧ isGrp n (Rc61.wins b) t = true := by
  rw [isGrp_iff]
  simp only [Rc61.isOver, Bool.and_eq_true, bne_iff_ne, ne_eq, List.all_eq_true, List.mem_range, Bool.or_eq_true, Bool.not_eq_true', Bool.and_eq_false_iff, Bool.not_eq_false', Rc61.has]
  constructor
  · rintro ⟨h0, h⟩
    refine ⟨h0, fun i j hi hj a c => ?_⟩
    rcases h i hi j hj with (q | q) | q
    · rw [a] at q; cases q
    · rw [c] at q; cases q
    · exact q
  · rintro ⟨h0, h⟩
    refine ⟨h0, fun i hi j hj => ?_⟩
    cases e1 : t.testBit i with
    | false => exact .inl (.inl rfl)
    | true =>
      cases e2 : t.testBit j with
      | true => exact .inl (.inr rfl)
      | false => exact .inr (h i j hi hj e1 e2)
/-- one turn of the loop over all sets -/
def bestStep (n : Nat) (w : WF) (best mask : Nat) : Nat := if (decide ((mem n mask).length < (mem n best).length) && isGrp n w mask) = true then mask else best
def bestAt (n : Nat) (w : WF) : Nat → Nat
  | 0 => 2 ^ n - 1
  | i + 1 => bestStep n w (bestAt n w i) (i + 1)
def smallestW (n : Nat) (w : WF) : Nat := bestAt n w (2 ^ n - 1)
theorem full_grp (n : Nat) (w : WF) : isGrp n w (2 ^ n - 1) = true := by
  rw [isGrp_iff]
  intro i j _ hj _ b
  rw [Nat.testBit_two_pow_sub_one] at b
  simp [hj] at b
theorem bestAt_inv (n : Nat) (w : WF) (hn : 0 < n) : ∀ i, i ≤ 2 ^ n - 1 → isGrp n w (bestAt n w i) = true ∧ bestAt n w i < 2 ^ n ∧ bestAt n w i ≠ 0 ∧ ∀ t, t ≠ 0 → t ≤ i → isGrp n w t = true → (mem n (bestAt n w i)).length ≤ (mem n t).length
  | 0, _ => by
    have hp : 2 ≤ 2 ^ n := by
      have := Nat.pow_le_pow_right (n := 2) (by omega) hn
      simpa using this
    refine ⟨full_grp n w, ?_, ?_, fun t h0 h1 _ => absurd (Nat.le_zero.mp h1) h0⟩
    · show 2 ^ n - 1 < 2 ^ n
      omega
    · show 2 ^ n - 1 ≠ 0
      omega
  | i + 1, hi => by
    obtain ⟨a, b, c, d⟩ := bestAt_inv n w hn i (by omega)
    show isGrp n w (bestStep n w (bestAt n w i) (i + 1)) = true ∧ bestStep n w (bestAt n w i) (i + 1) < 2 ^ n ∧ bestStep n w (bestAt n w i) (i + 1) ≠ 0 ∧ ∀ t, t ≠ 0 → t ≤ i + 1 → isGrp n w t = true → (mem n (bestStep n w (bestAt n w i) (i + 1))).length ≤ (mem n t).length
    unfold bestStep
    by_cases hc : (decide ((mem n (i + 1)).length < (mem n (bestAt n w i)).length) && isGrp n w (i + 1)) = true
    · rw [if_pos hc]
      rw [Bool.and_eq_true, decide_eq_true_eq] at hc
      refine ⟨hc.2, by omega, by omega, fun t h0 h1 h2 => ?_⟩
      by_cases e : t = i + 1
      · rw [e]; exact Nat.le_refl _
      · exact Nat.le_trans (Nat.le_of_lt hc.1) (d t h0 (by omega) h2)
    · rw [if_neg hc]
      refine ⟨a, b, c, fun t h0 h1 h2 => ?_⟩
      by_cases e : t = i + 1
      · subst e
        rw [h2, Bool.and_true, decide_eq_true_eq] at hc
        omega
      · exact d t h0 (by omega) h2
theorem grp_nest {n : Nat} {w : WF} {s t : Nat} (hs : isGrp n w s = true) (ht : isGrp n w t = true) :
    (∀ i, i < n → s.testBit i = true → t.testBit i = true) ∨ (∀ i, i < n → t.testBit i = true → s.testBit i = true) := by
  by_cases h : ∀ i, i < n → s.testBit i = true → t.testBit i = true
  · exact .inl h
  · refine .inr fun j hj hjt => ?_
    cases e : s.testBit j with
    | true => rfl
    | false =>
      exfalso
      apply h
      intro i hi his
      cases e2 : t.testBit i with
      | true => rfl
      | false =>
        have h1 := isGrp_iff.mp hs i j hi hj his e
        have h2 := isGrp_iff.mp ht j i hj hi hjt e2
        rw [bt_asym h1] at h2
        cases h2
theorem filter_len_lt {α : Type} {p q : α → Bool} : ∀ {l : List α}, (∀ x ∈ l, p x = true → q x = true) → (∃ x ∈ l, q x = true ∧ p x = false) → (l.filter p).length < (l.filter q).length
  | [], _, ⟨x, h, _⟩ => by cases h
  | a :: r, h, ⟨x, hx, h1, h2⟩ => by
    have le : ∀ {l : List α}, (∀ x ∈ l, p x = true → q x = true) → (l.filter p).length ≤ (l.filter q).length := by
      intro l hl
      rw [← List.countP_eq_length_filter, ← List.countP_eq_length_filter]
      exact List.countP_mono_left hl
    have hr := fun y hy => h y (List.mem_cons_of_mem a hy)
    rw [List.filter_cons, List.filter_cons]
    rcases List.mem_cons.mp hx with e | hx
    · subst e
      rw [h1, h2]
      have := le hr
      simp only [if_true, List.length_cons]
      simp only [Bool.false_eq_true, if_false]
      omega
    · have ih := filter_len_lt hr ⟨x, hx, h1, h2⟩
      cases hp : p a with
      | true =>
        rw [h a List.mem_cons_self hp]
        simp only [if_true, List.length_cons]
        omega
      | false =>
        cases hq : q a with
        | true =>
          simp only [if_true, List.length_cons, Bool.false_eq_true, if_false]
          omega
        | false =>
          simp only [Bool.false_eq_true, if_false]
          exact ih
theorem bits_ext {n s t : Nat} (hs : s < 2 ^ n) (ht : t < 2 ^ n) (h : ∀ i, i < n → s.testBit i = t.testBit i) : s = t := by
  apply Nat.eq_of_testBit_eq
  intro i
  by_cases hi : i < n
  · exact h i hi
  · rw [Nat.testBit_lt_two_pow (Nat.lt_of_lt_of_le hs (Nat.pow_le_pow_right (by omega) (by omega))), Nat.testBit_lt_two_pow (Nat.lt_of_lt_of_le ht (Nat.pow_le_pow_right (by omega) (by omega)))]
theorem find_the {α : Type} {p : α → Bool} : ∀ {l : List α} {x : α}, x ∈ l → p x = true → (∀ y ∈ l, p y = true → y = x) → l.find? p = some x
  | [], x, h, _, _ => by cases h
  | a :: r, x, h, hp, hu => by
    rw [List.find?_cons]
    cases e : p a with
    | true =>
      rw [hu a List.mem_cons_self e]
    | false =>
      rcases List.mem_cons.mp h with q | q
      · subst q; rw [hp] at e; cases e
      · exact find_the q hp fun y hy => hu y (List.mem_cons_of_mem _ hy)
theorem smallest_eq (n : Nat) (b : List Rc61.Ballot) (hn : 0 < n) : smallestW n (Rc61.wins b) = Rc61.smallestOf n b := by
  obtain ⟨h1, h2, h3, h4⟩ := bestAt_inv n (Rc61.wins b) hn (2 ^ n - 1) (Nat.le_refl _)
  have e : smallestW n (Rc61.wins b) = bestAt n (Rc61.wins b) (2 ^ n - 1) := rfl
  rw [← e] at h1 h2 h3 h4
  generalize smallestW n (Rc61.wins b) = m at h1 h2 h3 h4
  have inL : ∀ t, t ∈ (List.range (2 ^ n)).filter (Rc61.isOver n b) ↔ t < 2 ^ n ∧ t ≠ 0 ∧ isGrp n (Rc61.wins b) t = true := by
    intro t
    rw [List.mem_filter, List.mem_range, isOver_iff]
  have sub : ∀ t, t ∈ (List.range (2 ^ n)).filter (Rc61.isOver n b) → ∀ i, i < n → m.testBit i = true → t.testBit i = true := by
    intro t ht
    obtain ⟨t1, t2, t3⟩ := (inL t).mp ht
    rcases grp_nest h1 t3 with q | q
    · exact q
    · intro i hi hmi
      cases et : t.testBit i with
      | true => rfl
      | false =>
        have l1 := h4 t t2 (by omega) t3
        have l2 : (mem n t).length < (mem n m).length := filter_len_lt (fun x hx hp => q x (List.mem_range.mp hx) hp) ⟨i, List.mem_range.mpr hi, hmi, et⟩
        omega
  have goal : ((List.range (2 ^ n)).filter (Rc61.isOver n b)).find? (fun (s : Nat) => ((List.range (2 ^ n)).filter (Rc61.isOver n b)).all fun (t : Nat) => (List.range n).all fun (i : Nat) => !Rc61.has s i || Rc61.has t i) = some m := by
    refine find_the ((inL m).mpr ⟨h2, h3, h1⟩) ?_ ?_
    · rw [List.all_eq_true]
      intro t ht
      rw [List.all_eq_true]
      intro i hi
      show (!m.testBit i || t.testBit i) = true
      cases em : m.testBit i with
      | false => rfl
      | true =>
        rw [sub t ht i (List.mem_range.mp hi) em]
        rfl
    · intro y hy hp
      have ym := (inL y).mp hy
      refine bits_ext ym.1 h2 fun i hi => ?_
      have a1 := sub y hy i hi
      have a2 : y.testBit i = true → m.testBit i = true := by
        intro q
        have := List.all_eq_true.mp (List.all_eq_true.mp hp m ((inL m).mpr ⟨h2, h3, h1⟩)) i (List.mem_range.mpr hi)
        have this : (!y.testBit i || m.testBit i) = true := this
        rw [q] at this
        simpa using this
      cases e1 : m.testBit i with
      | true => exact a1 e1
      | false =>
        cases e2 : y.testBit i with
        | false => rfl
        | true => rw [a2 e2] at e1; cases e1
  show m = (List.find? _ _).getD 0
  rw [goal]
  rfl

/-! covers -/
def cov (n : Nat) (w : WF) (i j : Nat) : Bool := bt w i j && ball w i ((List.range n).filter fun k => bt w j k)
theorem cov_eq (n : Nat) (b : List Rc61.Ballot) (i j : Nat) : cov n (Rc61.wins b) i j = Rc61.covers n b i j := by
  unfold cov Rc61.covers ball
  rw [bt_wins, List.all_filter]
def uncovW (n : Nat) (w : WF) : List Nat := (List.range n).filter fun o => !((List.range n).any fun i => cov n w i o)
def told (l : List Nat) : Nat := (l.map fun i => 2 ^ i).sum
theorem told_filter (f : Nat → Bool) : ∀ l : List Nat, told (l.filter f) = (l.map fun i => if f i = true then 2 ^ i else 0).sum
  | [] => rfl
  | a :: r => by
    have ih := told_filter f r
    unfold told at *
    rw [List.filter_cons, List.map_cons, List.sum_cons, ← ih]
    cases f a with
    | true => simp
    | false => simp
theorem uncov_eq (n : Nat) (b : List Rc61.Ballot) : told (uncovW n (Rc61.wins b)) = Rc61.uncovered n b := by
  unfold uncovW Rc61.uncovered Rc61.setOf
  rw [told_filter]
  refine congrArg List.sum (List.map_congr_left fun o _ => ?_)
  have e : (fun i => cov n (Rc61.wins b) i o) = fun j => Rc61.covers n b j o := by
    funext i
    exact cov_eq n b i o
  show (if (!((List.range n).any fun i => cov n (Rc61.wins b) i o)) = true then 2 ^ o else 0) = if (!((List.range n).any fun j => Rc61.covers n b j o)) = true then 2 ^ o else 0
  rw [e]
theorem told_fold : ∀ (l : List Nat) (s : Nat), l.foldl (fun (s i : Nat) => s + 2 ^ i) s = s + told l
  | [], s => by simp [told]
  | a :: r, s => by
    rw [List.foldl_cons, told_fold r]
    unfold told
    rw [List.map_cons, List.sum_cons]
    omega

/-! votes in turn -/
def turnsW (w : WF) : List Nat → Nat
  | [] => 0
  | i :: r => r.foldl (fun (x : Nat) y => if bt w y x = true then y else x) i
theorem turns_eq (b : List Rc61.Ballot) (l : List Nat) : turnsW (Rc61.wins b) l = Rc61.turns b l := by
  cases l <;> rfl
end TV
/-! part TvB -/
/-! Plain mathematics, part B: chains and their heads. -/
namespace TV
theorem nodup_sub_len {α : Type} [BEq α] [LawfulBEq α] : ∀ {l k : List α}, l.Nodup → (∀ x ∈ l, x ∈ k) → l.length ≤ k.length
  | [], _, _, _ => Nat.zero_le _
  | a :: r, k, hn, hs => by
    have ha := hs a List.mem_cons_self
    obtain ⟨h1, h2⟩ := List.nodup_cons.mp hn
    have ih : r.length ≤ (k.erase a).length := nodup_sub_len h2 fun x hx => by
      refine (List.mem_erase_of_ne ?_).mpr (hs x (List.mem_cons_of_mem _ hx))
      intro e
      subst e
      exact h1 hx
    rw [List.length_erase_of_mem ha] at ih
    have : 0 < k.length := List.length_pos_of_mem ha
    rw [List.length_cons]
    omega
theorem nodup_lt_len {l : List Nat} {N : Nat} (hn : l.Nodup) (h : ∀ x ∈ l, x < N) : l.length ≤ N := by
  have := nodup_sub_len (k := List.range N) hn fun x hx => List.mem_range.mpr (h x hx)
  rwa [List.length_range] at this
theorem rows_mem : ∀ {k : Nat} {l r : List Nat}, l.Nodup → (r ∈ Rc61.rows k l ↔ r.Nodup ∧ (∀ x ∈ r, x ∈ l) ∧ r.length ≤ k)
  | 0, l, r, _ => by
    show r ∈ [[]] ↔ _
    rw [List.mem_singleton]
    constructor
    · rintro rfl
      exact ⟨List.nodup_nil, fun x h => (by cases h), Nat.le_refl _⟩
    · rintro ⟨_, _, h⟩
      exact List.eq_nil_of_length_eq_zero (Nat.le_zero.mp h)
  | k + 1, l, r, hl => by
    show r ∈ [] :: l.flatMap (fun (x : Nat) => (Rc61.rows k (l.erase x)).map fun (r : List Nat) => x :: r) ↔ _
    rw [List.mem_cons, List.mem_flatMap]
    constructor
    · rintro (rfl | ⟨x, hx, hr⟩)
      · exact ⟨List.nodup_nil, fun x h => (by cases h), Nat.zero_le _⟩
      · obtain ⟨t, ht, rfl⟩ := List.mem_map.mp hr
        obtain ⟨a, b, c⟩ := (rows_mem (hl.erase x)).mp ht
        refine ⟨List.nodup_cons.mpr ⟨fun hxt => ?_, a⟩, fun y hy => ?_, ?_⟩
        · have := b x hxt
          rw [List.Nodup.mem_erase_iff hl] at this
          exact this.1 rfl
        · rcases List.mem_cons.mp hy with e | hy
          · rw [e]; exact hx
          · exact List.mem_of_mem_erase (b y hy)
        · rw [List.length_cons]; omega
    · rintro ⟨a, b, c⟩
      cases r with
      | nil => exact .inl rfl
      | cons x t =>
        obtain ⟨a1, a2⟩ := List.nodup_cons.mp a
        refine .inr ⟨x, b x List.mem_cons_self, List.mem_map.mpr ⟨t, (rows_mem (hl.erase x)).mpr ⟨a2, fun y hy => ?_, ?_⟩, rfl⟩⟩
        · rw [List.Nodup.mem_erase_iff hl]
          exact ⟨fun e => a1 (e ▸ hy), b y (List.mem_cons_of_mem _ hy)⟩
        · rw [List.length_cons] at c; omega
def chainW (w : WF) : List Nat → Bool
  | [] => true
  | i :: r => r.all (bt w i) && chainW w r
theorem chain_eq (b : List Rc61.Ballot) : ∀ l, chainW (Rc61.wins b) l = Rc61.chain b l
  | [] => rfl
  | i :: r => by
    show (_ && chainW _ r) = (_ && Rc61.chain b r)
    rw [chain_eq b r]
    rfl
theorem chain_snoc (w : WF) (i : Nat) : ∀ l : List Nat, chainW w (l ++ [i]) = (chainW w l && l.all fun j => bt w j i)
  | [] => rfl
  | a :: r => by
    show ((r ++ [i]).all (bt w a) && chainW w (r ++ [i])) = (((r.all (bt w a)) && chainW w r) && (bt w a i && r.all fun j => bt w j i))
    rw [chain_snoc w i r, List.all_append]
    show ((r.all (bt w a) && (bt w a i && true)) && _) = _
    cases r.all (bt w a) <;> cases bt w a i <;> cases chainW w r <;> cases (r.all fun j => bt w j i) <;> rfl
/-- who is in it beats i -/
def allBeat (n : Nat) (w : WF) (m i : Nat) : Bool := (mem n m).all fun j => bt w j i
inductive Rch (n : Nat) (w : WF) (c : Nat) : Nat → Prop where
  | one : Rch n w c (2 ^ c)
  | more {m i : Nat} (h : Rch n w c m) (hi : i < n) (hb : m.testBit i = false) (ha : allBeat n w m i = true) : Rch n w c (m ||| 2 ^ i)
theorem Rch.lt {n : Nat} {w : WF} {c m : Nat} (hc : c < n) (h : Rch n w c m) : m < 2 ^ n := by
  induction h with
  | one => exact Nat.pow_lt_pow_right (by omega) hc
  | more h hi hb ha ih => exact Nat.or_lt_two_pow ih (Nat.pow_lt_pow_right (by omega) hi)
def hdd (n : Nat) (w : WF) (m : Nat) : Bool := !((List.range n).any fun k => ball w k (mem n m))
def Bits (m : Nat) (l : List Nat) : Prop := ∀ i, m.testBit i = true ↔ i ∈ l
theorem bits_or {m i : Nat} {l : List Nat} (h : Bits m l) : Bits (m ||| 2 ^ i) (l ++ [i]) := by
  intro j
  rw [Nat.testBit_or, Nat.testBit_two_pow, Bool.or_eq_true, h j, List.mem_append, List.mem_singleton, decide_eq_true_eq]
  constructor
  · rintro (h | h)
    · exact .inl h
    · exact .inr h.symm
  · rintro (h | h)
    · exact .inl h
    · exact .inr h.symm
theorem bits_one (c : Nat) : Bits (2 ^ c) [c] := by
  intro i
  rw [Nat.testBit_two_pow, List.mem_singleton, decide_eq_true_eq]
  exact ⟨Eq.symm, Eq.symm⟩
theorem allBeat_bits {n : Nat} {w : WF} {m i : Nat} {l : List Nat} (h : Bits m l) (hl : ∀ x ∈ l, x < n) : allBeat n w m i = l.all fun j => bt w j i := by
  unfold allBeat
  rw [Bool.eq_iff_iff, List.all_eq_true, List.all_eq_true]
  constructor
  · intro q x hx
    exact q x (mem_mem.mpr ⟨hl x hx, (h x).mpr hx⟩)
  · intro q x hx
    exact q x ((h x).mp (mem_mem.mp hx).2)
theorem Rch.chain {n : Nat} {w : WF} {c m : Nat} (hc : c < n) (h : Rch n w c m) : ∃ r, (c :: r).Nodup ∧ (∀ x ∈ c :: r, x < n) ∧ chainW w (c :: r) = true ∧ Bits m (c :: r) := by
  induction h with
  | one => exact ⟨[], List.nodup_cons.mpr ⟨by simp, List.nodup_nil⟩, fun x hx => (by rw [List.mem_singleton.mp hx]; exact hc), rfl, bits_one c⟩
  | @more m i h hi hb ha ih =>
    obtain ⟨r, h1, h2, h3, h4⟩ := ih
    have hi' : ¬ i ∈ c :: r := fun q => by
      rw [(h4 i).mpr q] at hb
      cases hb
    have e : c :: (r ++ [i]) = (c :: r) ++ [i] := rfl
    refine ⟨r ++ [i], ?_, ?_, ?_, ?_⟩
    · rw [e, List.nodup_append]
      refine ⟨h1, List.nodup_cons.mpr ⟨by simp, List.nodup_nil⟩, fun a hm2 b hb2 => ?_⟩
      rw [List.mem_singleton.mp hb2]
      rintro rfl
      exact hi' hm2
    · intro x hx
      rw [e] at hx
      rcases List.mem_append.mp hx with q | q
      · exact h2 x q
      · rw [List.mem_singleton.mp q]; exact hi
    · rw [e, chain_snoc, h3, ← allBeat_bits h4 h2, ha] <;> rfl
    · rw [e]
      exact bits_or h4
theorem rch_of_chain {n : Nat} {w : WF} {c : Nat} : ∀ (r p : List Nat) (m : Nat), Rch n w c m → Bits m p → chainW w (p ++ r) = true → (p ++ r).Nodup → (∀ x ∈ p ++ r, x < n) → ∃ m', Rch n w c m' ∧ Bits m' (p ++ r)
  | [], p, m, h, hb, _, _, _ => ⟨m, h, by rw [List.append_nil]; exact hb⟩
  | i :: r, p, m, h, hb, hc, hn, hl => by
    have e : p ++ i :: r = (p ++ [i]) ++ r := by rw [List.append_assoc]; rfl
    rw [e] at hc hn hl ⊢
    have hp : chainW w (p ++ [i]) = true := by
      have pre : ∀ (r l : List Nat), chainW w (l ++ r) = true → chainW w l = true := by
        intro r l
        induction l with
        | nil => intro _; rfl
        | cons a t ih =>
          intro q
          have q : ((t ++ r).all (bt w a) && chainW w (t ++ r)) = true := q
          rw [Bool.and_eq_true, List.all_append, Bool.and_eq_true] at q
          show (t.all (bt w a) && chainW w t) = true
          rw [q.1.1, ih q.2] <;> rfl
      exact pre r _ hc
    rw [chain_snoc, Bool.and_eq_true] at hp
    have hpn : ∀ x ∈ p, x < n := fun x hx => hl x (List.mem_append_left _ (List.mem_append_left _ hx))
    have hin : i < n := hl i (List.mem_append_left _ (List.mem_append_right _ List.mem_cons_self))
    have hnp : ¬ i ∈ p := by
      have := (List.nodup_append.mp (List.nodup_append.mp hn).1).2.2
      intro q
      exact this i q i List.mem_cons_self rfl
    refine rch_of_chain r (p ++ [i]) (m ||| 2 ^ i) (.more h hin ?_ ?_) (bits_or hb) hc hn hl
    · cases e2 : m.testBit i with
      | false => rfl
      | true => exact absurd ((hb i).mp e2) hnp
    · rw [allBeat_bits hb hpn]
      exact hp.2
def headB (n : Nat) (w : WF) (c : Nat) : Bool := (Rc61.rows n ((List.range n).erase c)).any fun r => chainW w (c :: r) && (List.range n).all fun k => !((c :: r).all (bt w k))
theorem hdd_bits {n : Nat} {w : WF} {m : Nat} {l : List Nat} (h : Bits m l) (hl : ∀ x ∈ l, x < n) : hdd n w m = (List.range n).all fun k => !(l.all (bt w k)) := by
  unfold hdd
  rw [List.not_any_eq_all_not]
  congr 1
  funext k
  congr 1
  unfold ball
  rw [Bool.eq_iff_iff, List.all_eq_true, List.all_eq_true]
  constructor
  · intro q x hx
    exact q x (mem_mem.mpr ⟨hl x hx, (h x).mpr hx⟩)
  · intro q x hx
    exact q x ((h x).mp (mem_mem.mp hx).2)
theorem headB_of {n : Nat} {w : WF} {c m : Nat} (hc : c < n) (h : Rch n w c m) (hh : hdd n w m = true) : headB n w c = true := by
  obtain ⟨r, h1, h2, h3, h4⟩ := h.chain hc
  unfold headB
  rw [List.any_eq_true]
  obtain ⟨n1, n2⟩ := List.nodup_cons.mp h1
  refine ⟨r, (rows_mem (List.nodup_range.erase c)).mpr ⟨n2, fun x hx => ?_, nodup_lt_len n2 fun x hx => h2 x (List.mem_cons_of_mem _ hx)⟩, ?_⟩
  · rw [List.Nodup.mem_erase_iff List.nodup_range]
    exact ⟨fun e => n1 (e ▸ hx), List.mem_range.mpr (h2 x (List.mem_cons_of_mem _ hx))⟩
  · rw [h3, ← hdd_bits h4 h2, hh] <;> rfl
theorem headB_not {n : Nat} {w : WF} {c : Nat} (hc : c < n) (h : ∀ m, Rch n w c m → hdd n w m = false) : headB n w c = false := by
  cases e : headB n w c with
  | false => rfl
  | true =>
    unfold headB at e
    rw [List.any_eq_true] at e
    obtain ⟨r, hr, q⟩ := e
    obtain ⟨a, b, _⟩ := (rows_mem (List.nodup_range.erase c)).mp hr
    rw [Bool.and_eq_true] at q
    have hl : ∀ x ∈ [c] ++ r, x < n := fun x hx => by
      rcases List.mem_append.mp hx with z | z
      · rw [List.mem_singleton.mp z]; exact hc
      · exact List.mem_range.mp (List.mem_of_mem_erase (b x z))
    have hn : ([c] ++ r).Nodup := List.nodup_cons.mpr ⟨fun z => by
      have := b c z
      rw [List.Nodup.mem_erase_iff List.nodup_range] at this
      exact this.1 rfl, a⟩
    obtain ⟨m, hm, hb⟩ := rch_of_chain r [c] (2 ^ c) .one (bits_one c) q.1 hn hl
    have := h m hm
    rw [hdd_bits hb hl] at this
    rw [show (c :: r) = [c] ++ r from rfl, this] at q
    cases q.2
/-- one turn of the inner loop -/
def addExt (n : Nat) (w : WF) (m : Nat) (L : List Nat) (i : Nat) : List Nat := if (!L.contains (m ||| 2 ^ i) && allBeat n w m i) = true then L ++ [m ||| 2 ^ i] else L
/-- what holds of the line -/
structure Line (n : Nat) (w : WF) (c : Nat) (L : List Nat) : Prop where
  nd : L.Nodup
  rc : ∀ m ∈ L, Rch n w c m
  st : 2 ^ c ∈ L
theorem Line.len {n : Nat} {w : WF} {c : Nat} {L : List Nat} (h : Line n w c L) (hc : c < n) : L.length ≤ 2 ^ n := nodup_lt_len h.nd fun m hm => (h.rc m hm).lt hc
theorem Line.one (n : Nat) (w : WF) (c : Nat) : Line n w c [2 ^ c] := ⟨List.nodup_cons.mpr ⟨by simp, List.nodup_nil⟩, fun m hm => (by rw [List.mem_singleton.mp hm]; exact .one), List.mem_cons_self⟩
theorem Line.add {n : Nat} {w : WF} {c m i : Nat} {L : List Nat} (h : Line n w c L) (hm : m ∈ L) (hi : i < n) (hb : m.testBit i = false) :
    Line n w c (addExt n w m L i) ∧ (∃ e, addExt n w m L i = L ++ e) ∧ (allBeat n w m i = true → m ||| 2 ^ i ∈ addExt n w m L i) := by
  unfold addExt
  by_cases q : (!L.contains (m ||| 2 ^ i) && allBeat n w m i) = true
  · rw [if_pos q]
    rw [Bool.and_eq_true, Bool.not_eq_true'] at q
    have nin : ¬ (m ||| 2 ^ i) ∈ L := fun z => by
      rw [List.contains_iff_mem.mpr z] at q
      cases q.1
    refine ⟨⟨?_, ?_, List.mem_append_left _ h.st⟩, ⟨_, rfl⟩, fun _ => List.mem_append_right _ List.mem_cons_self⟩
    · rw [List.nodup_append]
      refine ⟨h.nd, List.nodup_cons.mpr ⟨by simp, List.nodup_nil⟩, fun a ha b hb => ?_⟩
      rw [List.mem_singleton.mp hb]
      rintro rfl
      exact nin ha
    · intro x hx
      rcases List.mem_append.mp hx with z | z
      · exact h.rc x z
      · rw [List.mem_singleton.mp z]
        exact .more (h.rc m hm) hi hb q.2
  · rw [if_neg q]
    refine ⟨h, ⟨[], (List.append_nil L).symm⟩, fun ha => ?_⟩
    rw [ha, Bool.and_true, Bool.not_eq_true', Bool.not_eq_false] at q
    exact List.contains_iff_mem.mp q
theorem Line.fold {n : Nat} {w : WF} {c m : Nat} : ∀ {l : List Nat} {L : List Nat}, Line n w c L → m ∈ L → (∀ i ∈ l, i < n ∧ m.testBit i = false) →
    Line n w c (l.foldl (addExt n w m) L) ∧ (∃ e, l.foldl (addExt n w m) L = L ++ e) ∧ (∀ i ∈ l, allBeat n w m i = true → m ||| 2 ^ i ∈ l.foldl (addExt n w m) L)
  | [], L, h, _, _ => ⟨h, ⟨[], (List.append_nil L).symm⟩, fun i hi => (by cases hi)⟩
  | a :: r, L, h, hm, hl => by
    obtain ⟨h1, ⟨e, h2⟩, h3⟩ := h.add (i := a) hm (hl a List.mem_cons_self).1 (hl a List.mem_cons_self).2
    obtain ⟨g1, ⟨e', g2⟩, g3⟩ := Line.fold (l := r) h1 (by rw [h2]; exact List.mem_append_left _ hm) fun i hi => hl i (List.mem_cons_of_mem _ hi)
    rw [List.foldl_cons]
    refine ⟨g1, ⟨e ++ e', by rw [g2, h2, List.append_assoc]⟩, fun i hi hb => ?_⟩
    rcases List.mem_cons.mp hi with q | q
    · subst q
      rw [g2]
      exact List.mem_append_left _ (h3 hb)
    · exact g3 i q hb
/-- the sets ahead of the place at are done with -/
def Done (n : Nat) (w : WF) (L : List Nat) (at_ : Nat) : Prop := ∀ k m, k < at_ → L[k]? = some m → hdd n w m = false ∧ ∀ i, i < n → m.testBit i = false → allBeat n w m i = true → m ||| 2 ^ i ∈ L
theorem Done.more {n : Nat} {w : WF} {c : Nat} {L : List Nat} {a m : Nat} (h : Done n w L a) (l : Line n w c L) (hm : L[a]? = some m) (hh : hdd n w m = false) : Done n w ((oth n m).foldl (addExt n w m) L) (a + 1) := by
  have mL : m ∈ L := List.mem_of_getElem? hm
  obtain ⟨h1, ⟨e, h2⟩, h3⟩ := l.fold (l := oth n m) mL fun i hi => mem_oth.mp hi
  have ha : a < L.length := (List.getElem?_eq_some_iff.mp hm).1
  intro k m' hk hm'
  rw [h2, List.getElem?_append_left (by omega)] at hm'
  by_cases q : k = a
  · subst q
    rw [hm] at hm'
    cases hm'
    exact ⟨hh, fun i hi hb hab => h3 i (mem_oth.mpr ⟨hi, hb⟩) hab⟩
  · obtain ⟨g1, g2⟩ := h k m' (by omega) hm'
    refine ⟨g1, fun i hi hb hab => ?_⟩
    rw [h2]
    exact List.mem_append_left _ (g2 i hi hb hab)
theorem Done.all {n : Nat} {w : WF} {c : Nat} {L : List Nat} (hc : c < n) (h : Done n w L L.length) (l : Line n w c L) : headB n w c = false := by
  have cl : ∀ m, Rch n w c m → m ∈ L := by
    intro m hm
    induction hm with
    | one => exact l.st
    | @more m i hm hi hb ha ih =>
      obtain ⟨k, hk, e⟩ := List.mem_iff_getElem.mp ih
      exact (h k m hk (by rw [List.getElem?_eq_getElem hk, e])).2 i hi hb ha
  refine headB_not hc fun m hm => ?_
  obtain ⟨k, hk, e⟩ := List.mem_iff_getElem.mp (cl m hm)
  exact (h k m hk (by rw [List.getElem?_eq_getElem hk, e])).1
def headsW (n : Nat) (w : WF) : List Nat := (List.range n).filter (headB n w)
theorem heads_eq (n : Nat) (b : List Rc61.Ballot) : told (headsW n (Rc61.wins b)) = Rc61.headsOf n b := by
  unfold Rc61.headsOf headsW
  rw [told_fold, Nat.zero_add]
  congr 1
  refine List.filter_congr fun i _ => ?_
  unfold headB
  congr 1
  funext r
  rw [chain_eq]
  rfl
end TV
/-! part TvC -/
/-! Plain mathematics, part C: the order of least quarrel. -/
namespace TV
def quarW (w : WF) : List Nat → Nat
  | [] => 0
  | i :: r => (r.map fun j => w j i).sum + quarW w r
theorem quar_eq (b : List Rc61.Ballot) : ∀ l, quarW (Rc61.wins b) l = Rc61.quarrel b l
  | [] => rfl
  | i :: r => by
    show _ + quarW _ r = _ + Rc61.quarrel b r
    rw [quar_eq b r]
def quarOf (n : Nat) (w : WF) (c m : Nat) : Nat := ((mem n m).map fun j => w j c).sum
/-- the least quarrel of the orders of a set -/
def LeastOf (n : Nat) (w : WF) (m v : Nat) : Prop := (∃ r, r.Perm (mem n m) ∧ quarW w r = v) ∧ ∀ r, r.Perm (mem n m) → v ≤ quarW w r
theorem mem_zero (n : Nat) : mem n 0 = [] := by
  unfold mem
  rw [List.filter_eq_nil_iff]
  intro a _
  simp
theorem least_zero (n : Nat) (w : WF) : LeastOf n w 0 0 := by
  refine ⟨⟨[], ?_, rfl⟩, fun r _ => Nat.zero_le _⟩
  rw [mem_zero]
theorem bit_sub : ∀ m, m < 64 → ∀ c, c < 6 → m.testBit c = true → 2 ^ c ≤ m ∧ ∀ i, i < 6 → (m - 2 ^ c).testBit i = (m.testBit i && i != c) := by decide +kernel
theorem mem_rest {n m c : Nat} (hn : n ≤ 6) (hm : m < 2 ^ n) (hc : c ∈ mem n m) : mem n (m - 2 ^ c) = (mem n m).erase c := by
  obtain ⟨h1, h2⟩ := mem_mem.mp hc
  have h64 : m < 64 := Nat.lt_of_lt_of_le hm (Nat.pow_le_pow_right (by omega) hn : 2 ^ n ≤ 2 ^ 6)
  have q := (bit_sub m h64 c (by omega) h2).2
  rw [(mem_nodup n m).erase_eq_filter]
  unfold mem
  rw [List.filter_filter]
  refine List.filter_congr fun i hi => ?_
  rw [q i (by have := List.mem_range.mp hi; omega), Bool.and_comm]
theorem rest_lt {n m c : Nat} (hn : n ≤ 6) (hm : m < 2 ^ n) (hc : c ∈ mem n m) : 2 ^ c ≤ m ∧ m - 2 ^ c < m := by
  obtain ⟨h1, h2⟩ := mem_mem.mp hc
  have h64 : m < 64 := Nat.lt_of_lt_of_le hm (Nat.pow_le_pow_right (by omega) hn : 2 ^ n ≤ 2 ^ 6)
  have q := (bit_sub m h64 c (by omega) h2).1
  have : 0 < 2 ^ c := Nat.two_pow_pos c
  omega
theorem mem_ne {n m : Nat} (hm : m < 2 ^ n) (h0 : m ≠ 0) : mem n m ≠ [] := by
  intro e
  apply h0
  refine bits_ext (n := n) hm (Nat.two_pow_pos n) fun i hi => ?_
  rw [Nat.zero_testBit]
  cases q : m.testBit i with
  | false => rfl
  | true =>
    have := mem_mem.mpr ⟨hi, q⟩
    rw [e] at this
    cases this
/-- an order of a set: its first, and an order of the rest -/
theorem ord_cons {n m c : Nat} {t : List Nat} (hn : n ≤ 6) (hm : m < 2 ^ n) : (c :: t).Perm (mem n m) ↔ c ∈ mem n m ∧ t.Perm (mem n (m - 2 ^ c)) := by
  rw [List.cons_perm_iff_perm_erase]
  constructor
  · rintro ⟨a, b⟩
    exact ⟨a, by rw [mem_rest hn hm a]; exact b⟩
  · rintro ⟨a, b⟩
    exact ⟨a, by rw [← mem_rest hn hm a]; exact b⟩
theorem quar_cons {n m c : Nat} {w : WF} {t : List Nat} (h : t.Perm (mem n m)) : quarW w (c :: t) = quarOf n w c m + quarW w t := by
  show (t.map fun j => w j c).sum + _ = ((mem n m).map fun j => w j c).sum + _
  rw [(h.map fun j => w j c).sum_nat]
/-- one set's least from those of the sets that lack one -/
theorem least_step {n m v : Nat} {w : WF} {f : Nat → Nat} (hn : n ≤ 6) (hm : m < 2 ^ n) (hf : ∀ c ∈ mem n m, LeastOf n w (m - 2 ^ c) (f (m - 2 ^ c)))
    (h1 : ∃ c ∈ mem n m, v = quarOf n w c (m - 2 ^ c) + f (m - 2 ^ c)) (h2 : ∀ c ∈ mem n m, v ≤ quarOf n w c (m - 2 ^ c) + f (m - 2 ^ c)) : LeastOf n w m v := by
  refine ⟨?_, ?_⟩
  · obtain ⟨c, hc, e⟩ := h1
    obtain ⟨⟨t, ht, hv⟩, _⟩ := hf c hc
    refine ⟨c :: t, (ord_cons hn hm).mpr ⟨hc, ht⟩, ?_⟩
    rw [quar_cons ht, hv, e]
  · intro r hr
    cases r with
    | nil =>
      obtain ⟨c, hc, _⟩ := h1
      rw [List.nil_perm.mp hr] at hc
      cases hc
    | cons c t =>
      obtain ⟨hc, ht⟩ := (ord_cons hn hm).mp hr
      have a := h2 c hc
      have b := (hf c hc).2 t ht
      rw [quar_cons ht]
      omega
theorem LeastOf.uniq {n m u v : Nat} {w : WF} (a : LeastOf n w m u) (b : LeastOf n w m v) : u = v := by
  obtain ⟨⟨r, hr, e⟩, h⟩ := a
  obtain ⟨⟨r', hr', e'⟩, h'⟩ := b
  have := h r' hr'
  have := h' r hr
  omega
def full (n : Nat) : Nat := 2 ^ n - 1
theorem mem_full (n : Nat) : mem n (full n) = List.range n := by
  unfold mem full
  rw [List.filter_eq_self]
  intro a ha
  rw [Nat.testBit_two_pow_sub_one]
  simpa using ha
/-- pre is ahead of another order wherever they differ first -/
def Bef (p r : List Nat) : Prop := ∀ t, Rc61.before (p ++ t) r = true
/-- what holds between two turns of the loop that tells the order; f: the least of each set -/
structure Calm (n : Nat) (w : WF) (f : Nat → Nat) (pre : List Nat) (m : Nat) : Prop where
  lt : m < 2 ^ n
  go : ∀ t, t.Perm (mem n m) → quarW w t = f m → (pre ++ t).Perm (List.range n) ∧ quarW w (pre ++ t) = f (full n)
  un : ∀ r, r.Perm (List.range n) → quarW w r = f (full n) → (∃ t, r = pre ++ t ∧ t.Perm (mem n m) ∧ quarW w t = f m) ∨ Bef pre r
theorem Calm.start (n : Nat) (w : WF) (f : Nat → Nat) : Calm n w f [] (full n) := by
  have := Nat.two_pow_pos n
  refine ⟨by unfold full; omega, fun t ht e => ⟨by rw [mem_full] at ht; exact ht, e⟩, fun r hr e => .inl ⟨r, rfl, by rw [mem_full]; exact hr, e⟩⟩
def isFirst (n : Nat) (w : WF) (f : Nat → Nat) (m c : Nat) : Bool := decide (quarOf n w c (m - 2 ^ c) + f (m - 2 ^ c) = f m)
def firsts (n : Nat) (w : WF) (f : Nat → Nat) (m : Nat) : List Nat := (mem n m).filter (isFirst n w f m)
theorem before_diff {a c : Nat} {s t : List Nat} (h : a < c) : ∀ p : List Nat, Rc61.before (p ++ a :: s) (p ++ c :: t) = true
  | [] => by
    show (decide (a < c) || (a == c && Rc61.before s t)) = true
    rw [decide_eq_true h] <;> rfl
  | x :: p => by
    show (decide (x < x) || (x == x && Rc61.before (p ++ a :: s) (p ++ c :: t))) = true
    rw [before_diff h p, beq_self_eq_true]
    simp
theorem firsts_ne {n m : Nat} {w : WF} {f : Nat → Nat} (hn : n ≤ 6) (hm : m < 2 ^ n) (h0 : m ≠ 0) (hf : ∀ k, k < 2 ^ n → LeastOf n w k (f k)) : firsts n w f m ≠ [] := by
  obtain ⟨⟨r, hr, e⟩, _⟩ := hf m hm
  cases r with
  | nil => exact absurd (List.nil_perm.mp hr) (mem_ne hm h0)
  | cons c t =>
    obtain ⟨hc, ht⟩ := (ord_cons hn hm).mp hr
    have hl := rest_lt hn hm hc
    have b := (hf (m - 2 ^ c) (by omega)).2 t ht
    obtain ⟨⟨t', ht', e'⟩, _⟩ := hf (m - 2 ^ c) (by omega)
    have g := (hf m hm).2 (c :: t') ((ord_cons hn hm).mpr ⟨hc, ht'⟩)
    rw [quar_cons ht', e'] at g
    rw [quar_cons ht] at e
    intro z
    have : c ∈ firsts n w f m := List.mem_filter.mpr ⟨hc, decide_eq_true (by omega)⟩
    rw [z] at this
    cases this
theorem Calm.step {n m c : Nat} {w : WF} {f : Nat → Nat} {pre tl : List Nat} (h : Calm n w f pre m) (hn : n ≤ 6) (hf : ∀ k, k < 2 ^ n → LeastOf n w k (f k)) (e : firsts n w f m = c :: tl) :
    Calm n w f (pre ++ [c]) (m - 2 ^ c) ∧ c ∈ mem n m := by
  have cin : c ∈ firsts n w f m := by rw [e]; exact List.mem_cons_self
  obtain ⟨hc, hq⟩ := List.mem_filter.mp cin
  have hq : quarOf n w c (m - 2 ^ c) + f (m - 2 ^ c) = f m := of_decide_eq_true hq
  have hl := rest_lt hn h.lt hc
  have hlt := h.lt
  refine ⟨⟨by omega, fun t ht q => ?_, fun r hr q => ?_⟩, hc⟩
  · rw [List.append_assoc]
    refine h.go (c :: t) ((ord_cons hn h.lt).mpr ⟨hc, ht⟩) ?_
    rw [quar_cons ht, q]
    exact hq
  · rcases h.un r hr q with ⟨t, rfl, ht, qt⟩ | hb
    · cases t with
      | nil =>
        rw [List.nil_perm.mp ht] at hc
        cases hc
      | cons d s =>
        obtain ⟨hd, hs⟩ := (ord_cons hn h.lt).mp ht
        have hl' := rest_lt hn h.lt hd
        rw [quar_cons hs] at qt
        have b := (hf (m - 2 ^ d) (by omega)).2 s hs
        obtain ⟨⟨t', ht', e'⟩, _⟩ := hf (m - 2 ^ d) (by omega)
        have g := (hf m hlt).2 (d :: t') ((ord_cons hn hlt).mpr ⟨hd, ht'⟩)
        rw [quar_cons ht', e'] at g
        by_cases z : d = c
        · subst z
          exact .inl ⟨s, by rw [List.append_assoc]; rfl, hs, by omega⟩
        · refine .inr fun u => ?_
          have din : d ∈ firsts n w f m := List.mem_filter.mpr ⟨hd, decide_eq_true (by omega)⟩
          have srt : (firsts n w f m).Pairwise (· < ·) := List.Pairwise.sublist ((List.filter_sublist).trans List.filter_sublist) List.pairwise_lt_range
          rw [e] at srt din
          have lt : c < d := by
            rcases List.mem_cons.mp din with y | y
            · exact absurd y z
            · exact (List.pairwise_cons.mp srt).1 d y
          rw [List.append_assoc]
          exact before_diff lt pre
    · refine .inr fun t => ?_
      rw [List.append_assoc]
      exact hb _
/-- the first of the orders of least quarrel -/
structure IsCalm (n : Nat) (w : WF) (r : List Nat) : Prop where
  pm : r.Perm (List.range n)
  le : ∀ s, s.Perm (List.range n) → quarW w r ≤ quarW w s
  fs : ∀ s, s.Perm (List.range n) → quarW w s = quarW w r → s = r ∨ Rc61.before r s = true
theorem Calm.done {n : Nat} {w : WF} {f : Nat → Nat} {pre : List Nat} (h : Calm n w f pre 0) (hf : ∀ k, k < 2 ^ n → LeastOf n w k (f k)) : IsCalm n w pre := by
  have f0 : f 0 = 0 := (hf 0 (Nat.two_pow_pos n)).uniq (least_zero n w)
  have hfu : full n < 2 ^ n := by
    have := Nat.two_pow_pos n
    unfold full; omega
  obtain ⟨a, b⟩ := h.go [] (by rw [mem_zero]) (by rw [f0]; rfl)
  rw [List.append_nil] at a b
  refine ⟨a, fun s hs => ?_, fun s hs q => ?_⟩
  · rw [b]
    exact (hf (full n) hfu).2 s (by rw [mem_full]; exact hs)
  · rcases h.un s hs (q.trans b) with ⟨t, rfl, ht, _⟩ | hb
    · rw [mem_zero] at ht
      rw [List.perm_nil.mp ht, List.append_nil]
      exact .inl rfl
    · have := hb []
      rw [List.append_nil] at this
      exact .inr this
/-! the specification's own choice -/
theorem perm_range {n : Nat} {r : List Nat} : r ∈ (Rc61.rows n (List.range n)).filter (fun (r : List Nat) => r.length == n) ↔ r.Perm (List.range n) := by
  rw [List.mem_filter, rows_mem List.nodup_range, beq_iff_eq]
  constructor
  · rintro ⟨⟨a, b, _⟩, d⟩
    refine (List.perm_ext_iff_of_nodup a List.nodup_range).mpr fun x => ⟨b x, fun hx => ?_⟩
    by_cases q : x ∈ r
    · exact q
    · have := nodup_sub_len (l := x :: r) (k := List.range n) (List.nodup_cons.mpr ⟨q, a⟩) fun y hy => by
        rcases List.mem_cons.mp hy with z | z
        · rw [z]; exact hx
        · exact b y z
      rw [List.length_cons, List.length_range] at this
      omega
  · intro h
    have hl := h.length_eq
    rw [List.length_range] at hl
    exact ⟨⟨h.nodup_iff.mpr List.nodup_range, fun x hx => h.mem_iff.mp hx, by omega⟩, hl⟩
theorem fold_min {α : Type} {q : α → Nat} : ∀ (l : List α) (i : Nat) (v : Nat), (i = v ∨ ∃ x ∈ l, q x = v) → v ≤ i → (∀ x ∈ l, v ≤ q x) → l.foldl (fun (a : Nat) x => min a (q x)) i = v
  | [], i, v, h, _, _ => by
    rcases h with h | ⟨x, hx, _⟩
    · exact h
    · cases hx
  | a :: r, i, v, h, hi, hl => by
    rw [List.foldl_cons]
    have ha := hl a List.mem_cons_self
    refine fold_min r (min i (q a)) v ?_ (by omega) fun x hx => hl x (List.mem_cons_of_mem _ hx)
    rcases h with h | ⟨x, hx, e⟩
    · exact .inl (by omega)
    · rcases List.mem_cons.mp hx with z | z
      · subst z
        exact .inl (by omega)
      · exact .inr ⟨x, z, e⟩
theorem before_irr : ∀ l : List Nat, Rc61.before l l = false
  | [] => rfl
  | a :: r => by
    show (decide (a < a) || (a == a && Rc61.before r r)) = false
    rw [before_irr r]
    simp
theorem before_asym : ∀ {l k : List Nat}, Rc61.before l k = true → Rc61.before k l = false
  | [], [], h => by cases h
  | [], _ :: _, h => by cases h
  | _ :: _, [], _ => rfl
  | a :: r, b :: s, h => by
    have h : (decide (a < b) || (a == b && Rc61.before r s)) = true := h
    show (decide (b < a) || (b == a && Rc61.before s r)) = false
    rw [Bool.or_eq_true, Bool.and_eq_true, decide_eq_true_eq, beq_iff_eq] at h
    rcases h with h | ⟨h1, h2⟩
    · have e : ¬ b < a := by omega
      have e2 : ¬ b = a := by omega
      simp [e, e2]
    · subst h1
      rw [before_asym h2]
      simp
theorem fold_first {r : List Nat} : ∀ (l : List (List Nat)) (x : List Nat), r ≠ [] → (x = r ∨ (r ∈ l ∧ (x = [] ∨ Rc61.before r x = true))) → (∀ y ∈ l, y = r ∨ Rc61.before r y = true) →
    l.foldl (fun (x r : List Nat) => if x.isEmpty = true ∨ Rc61.before r x = true then r else x) x = r
  | [], x, _, h, _ => by
    rcases h with h | ⟨h, _⟩
    · exact h
    · cases h
  | y :: l, x, hr, h, hl => by
    rw [List.foldl_cons]
    refine fold_first l _ hr ?_ fun z hz => hl z (List.mem_cons_of_mem _ hz)
    have hy := hl y List.mem_cons_self
    rcases h with h | ⟨h, h'⟩
    · subst h
      refine .inl ?_
      rw [if_neg]
      rintro (q | q)
      · exact hr (List.isEmpty_iff.mp q)
      · rcases hy with z | z
        · rw [z, before_irr] at q
          cases q
        · rw [before_asym z] at q
          cases q
    · rcases List.mem_cons.mp h with z | z
      · subst z
        refine .inl ?_
        rw [if_pos]
        rcases h' with q | q
        · exact .inl (List.isEmpty_iff.mpr q)
        · exact .inr q
      · by_cases c : x.isEmpty = true ∨ Rc61.before y x = true
        · rw [if_pos c]
          rcases hy with e | e
          · exact .inl e
          · exact .inr ⟨z, .inr e⟩
        · rw [if_neg c]
          rcases h' with q | q
          · exact absurd (.inl (List.isEmpty_iff.mpr q)) c
          · exact .inr ⟨z, .inr q⟩
theorem calm_eq {n : Nat} {b : List Rc61.Ballot} {r : List Nat} (h : IsCalm n (Rc61.wins b) r) (hn : 0 < n) (hb : quarW (Rc61.wins b) r ≤ 1000000000000000000000) : r = Rc61.calmestOf n b := by
  have hr : r ≠ [] := fun e => by
    have := h.pm.length_eq
    rw [e, List.length_range] at this
    simp at this
    omega
  have em : ((Rc61.rows n (List.range n)).filter fun (r : List Nat) => r.length == n).foldl (fun (x : Nat) (r : List Nat) => min x (Rc61.quarrel b r)) 1000000000000000000000 = quarW (Rc61.wins b) r := by
    refine fold_min _ _ _ (.inr ⟨r, perm_range.mpr h.pm, (quar_eq b r).symm⟩) hb fun x hx => ?_
    rw [← quar_eq]
    exact h.le x (perm_range.mp hx)
  symm
  show ((((Rc61.rows n (List.range n)).filter fun (r : List Nat) => r.length == n).filter fun (r : List Nat) => Rc61.quarrel b r == ((Rc61.rows n (List.range n)).filter fun (r : List Nat) => r.length == n).foldl (fun (x : Nat) (r : List Nat) => min x (Rc61.quarrel b r)) 1000000000000000000000).foldl
    (fun (x r : List Nat) => if x.isEmpty = true ∨ Rc61.before r x = true then r else x) []) = r
  rw [em]
  refine fold_first _ _ hr (.inr ⟨List.mem_filter.mpr ⟨perm_range.mpr h.pm, ?_⟩, .inl rfl⟩) fun y hy => ?_
  · rw [← quar_eq]
    exact beq_self_eq_true _
  · obtain ⟨y1, y2⟩ := List.mem_filter.mp hy
    rw [← quar_eq, beq_iff_eq] at y2
    exact h.fs y (perm_range.mp y1) y2
theorem quar_le {w : WF} {B : Nat} (h : ∀ i j, w i j ≤ B) : ∀ l : List Nat, quarW w l ≤ l.length * l.length * B
  | [] => Nat.zero_le _
  | i :: r => by
    have ih := quar_le h r
    have s : ∀ r : List Nat, (r.map fun j => w j i).sum ≤ r.length * B := by
      intro r
      induction r with
      | nil => exact Nat.zero_le _
      | cons a t iht =>
        rw [List.map_cons, List.sum_cons, List.length_cons, Nat.add_mul]
        have := h a i
        omega
    have := s r
    show (r.map fun j => w j i).sum + quarW w r ≤ (r.length + 1) * (r.length + 1) * B
    have e : (r.length + 1) * (r.length + 1) * B = r.length * r.length * B + r.length * B + r.length * B + B := by
      rw [Nat.mul_add, Nat.add_mul, Nat.add_mul, Nat.add_mul, Nat.mul_one, Nat.one_mul, Nat.add_mul, Nat.one_mul]
      omega
    omega
end TV
/-! part TvD -/
/-! Plain mathematics, part D: pairs one by one, the order by pairs. -/
namespace TV
def leW (w : WF) (p q : Nat × Nat) : Bool := decide (w q.1 q.2 < w p.1 p.2) || (w q.1 q.2 == w p.1 p.2 && (decide (p.1 < q.1) || (p.1 == q.1 && decide (p.2 ≤ q.2))))
def rawPairs (n : Nat) (w : WF) : List (Nat × Nat) := (List.range n).flatMap fun i => ((List.range n).filter fun j => bt w i j).map fun j => (i, j)
def pairsW (n : Nat) (w : WF) : List (Nat × Nat) := (rawPairs n w).mergeSort (leW w)
theorem pairs_eq (n : Nat) (b : List Rc61.Ballot) : pairsW n (Rc61.wins b) = Rc61.pairs n b := rfl
theorem leW_iff {w : WF} {p q : Nat × Nat} : leW w p q = true ↔ w q.1 q.2 < w p.1 p.2 ∨ (w q.1 q.2 = w p.1 p.2 ∧ (p.1 < q.1 ∨ (p.1 = q.1 ∧ p.2 ≤ q.2))) := by
  simp [leW]
theorem leW_trans (w : WF) (a b c : Nat × Nat) (h : leW w a b = true) (k : leW w b c = true) : leW w a c = true := by
  rw [leW_iff] at *
  omega
theorem leW_total (w : WF) (a b : Nat × Nat) : (leW w a b || leW w b a) = true := by
  rw [Bool.or_eq_true, leW_iff, leW_iff]
  omega
theorem leW_anti {w : WF} {a b : Nat × Nat} (h : leW w a b = true) (k : leW w b a = true) : a = b := by
  rw [leW_iff] at h k
  refine Prod.ext ?_ ?_ <;> omega
theorem pairs_uniq {n : Nat} {w : WF} {l : List (Nat × Nat)} (h : l.Perm (rawPairs n w)) (hs : l.Pairwise fun p q => leW w p q = true) : l = pairsW n w := by
  refine List.Perm.eq_of_pairwise (le := fun p q => leW w p q = true) (fun a b _ _ => leW_anti) hs (List.pairwise_mergeSort (leW_trans w) (leW_total w) _) ?_
  exact h.trans (List.mergeSort_perm _ _).symm
theorem raw_mem {n : Nat} {w : WF} {p : Nat × Nat} : p ∈ rawPairs n w ↔ p.1 < n ∧ p.2 < n ∧ bt w p.1 p.2 = true := by
  unfold rawPairs
  rw [List.mem_flatMap]
  constructor
  · rintro ⟨i, hi, h⟩
    obtain ⟨j, hj, rfl⟩ := List.mem_map.mp h
    obtain ⟨a, b⟩ := List.mem_filter.mp hj
    exact ⟨List.mem_range.mp hi, List.mem_range.mp a, b⟩
  · rintro ⟨a, b, c⟩
    exact ⟨p.1, List.mem_range.mpr a, List.mem_map.mpr ⟨p.2, List.mem_filter.mpr ⟨List.mem_range.mpr b, c⟩, rfl⟩⟩
theorem raw_len (n : Nat) (w : WF) : (rawPairs n w).length ≤ n * n := by
  unfold rawPairs
  have g : ∀ l : List Nat, (l.flatMap fun i => ((List.range n).filter fun j => bt w i j).map fun j => (i, j)).length ≤ l.length * n := by
    intro l
    induction l with
    | nil => exact Nat.zero_le _
    | cons a t ih =>
      rw [List.flatMap_cons, List.length_append, List.length_map, List.length_cons, Nat.add_mul]
      have := List.length_filter_le (fun j => bt w a j) (List.range n)
      rw [List.length_range] at this
      omega
  have := g (List.range n)
  rwa [List.length_range] at this
theorem pairsW_mem {n : Nat} {w : WF} {p : Nat × Nat} : p ∈ pairsW n w ↔ p.1 < n ∧ p.2 < n ∧ bt w p.1 p.2 = true := (List.mergeSort_perm _ _).mem_iff.trans raw_mem

/-! ways along pairs -/
inductive Path (l : List (Nat × Nat)) (a : Nat) : Nat → Prop where
  | here : Path l a a
  | on {x y : Nat} (h : Path l a x) (e : (x, y) ∈ l) : Path l a y
theorem Path.trans {l : List (Nat × Nat)} {a b c : Nat} (h : Path l a b) (k : Path l b c) : Path l a c := by
  induction k with
  | here => exact h
  | on _ e ih => exact .on ih e
theorem reach_sound {l : List (Nat × Nat)} : ∀ (k : Nat) (s : List Nat) (x : Nat), x ∈ Rc61.reach l k s → ∃ a ∈ s, Path l a x
  | 0, s, x, h => ⟨x, h, .here⟩
  | k + 1, s, x, h => by
    obtain ⟨a, ha, p⟩ := reach_sound k _ x h
    rw [List.mem_eraseDups, List.mem_append] at ha
    rcases ha with ha | ha
    · exact ⟨a, ha, p⟩
    · obtain ⟨q, hq, rfl⟩ := List.mem_map.mp ha
      obtain ⟨h1, h2⟩ := List.mem_filter.mp hq
      refine ⟨q.1, List.contains_iff_mem.mp h2, Path.trans (.on .here ?_) p⟩
      exact h1
theorem reach_sub {l : List (Nat × Nat)} : ∀ (k : Nat) (s : List Nat) (x : Nat), x ∈ s → x ∈ Rc61.reach l k s
  | 0, s, x, h => h
  | k + 1, s, x, h => reach_sub k _ x (by
    rw [List.mem_eraseDups, List.mem_append]
    exact .inl h)
def Closed (l : List (Nat × Nat)) (s : List Nat) : Prop := ∀ p ∈ l, p.1 ∈ s → p.2 ∈ s
theorem closed_path {l : List (Nat × Nat)} {s : List Nat} {a x : Nat} (h : Closed l s) (ha : a ∈ s) (p : Path l a x) : x ∈ s := by
  induction p with
  | here => exact ha
  | on _ e ih => exact h _ e ih
def heads2 (l : List (Nat × Nat)) (s : List Nat) : Nat := (l.filter fun p => s.contains p.2).length
theorem filter_len_all {α : Type} {p : α → Bool} : ∀ {l : List α}, l.length ≤ (l.filter p).length → ∀ x ∈ l, p x = true
  | [], _, x, h => by cases h
  | a :: r, h, x, hx => by
    rw [List.filter_cons] at h
    have le := List.length_filter_le p r
    cases e : p a with
    | false =>
      rw [e] at h
      simp only [Bool.false_eq_true, if_false, List.length_cons] at h
      omega
    | true =>
      rw [e] at h
      simp only [if_true, List.length_cons] at h
      rcases List.mem_cons.mp hx with q | q
      · rw [q]; exact e
      · exact filter_len_all (by omega) x q
theorem reach_closed {l : List (Nat × Nat)} : ∀ (k : Nat) (s : List Nat), (Closed l s ∨ l.length ≤ k + heads2 l s) → Closed l (Rc61.reach l k s)
  | 0, s, h => by
    rcases h with h | h
    · exact h
    · intro p hp _
      have := filter_len_all (p := fun p : Nat × Nat => s.contains p.2) (l := l) (by unfold heads2 at h; omega) p hp
      exact List.contains_iff_mem.mp this
  | k + 1, s, h => by
    show Closed l (Rc61.reach l k (s ++ (l.filter fun p => s.contains p.1).map fun p => p.2).eraseDups)
    apply reach_closed k
    have mm : ∀ x, x ∈ (s ++ (l.filter fun p => s.contains p.1).map fun p => p.2).eraseDups ↔ x ∈ s ∨ ∃ p ∈ l, p.1 ∈ s ∧ p.2 = x := by
      intro x
      rw [List.mem_eraseDups, List.mem_append, List.mem_map]
      constructor
      · rintro (q | ⟨p, hp, e⟩)
        · exact .inl q
        · obtain ⟨h1, h2⟩ := List.mem_filter.mp hp
          exact .inr ⟨p, h1, List.contains_iff_mem.mp h2, e⟩
      · rintro (q | ⟨p, hp, h1, e⟩)
        · exact .inl q
        · exact .inr ⟨p, List.mem_filter.mpr ⟨hp, List.contains_iff_mem.mpr h1⟩, e⟩
    generalize hs' : (s ++ (l.filter fun p => s.contains p.1).map fun p => p.2).eraseDups = s' at mm ⊢
    by_cases c : Closed l s
    · refine .inl fun p hp h1 => ?_
      have h1' : p.1 ∈ s := by
        rcases (mm p.1).mp h1 with q | ⟨p', hp', q, e⟩
        · exact q
        · rw [← e]
          exact c p' hp' q
      exact (mm p.2).mpr (.inl (c p hp h1'))
    · rcases h with h | h
      · exact absurd h c
      · refine .inr ?_
        have ⟨p, hp, h1, h2⟩ : ∃ p, p ∈ l ∧ p.1 ∈ s ∧ ¬ p.2 ∈ s := by
          refine Classical.byContradiction fun z => c fun p hp h1 => Classical.byContradiction fun h2 => z ⟨p, hp, h1, h2⟩
        have lt : heads2 l s < heads2 l s' := by
          refine filter_len_lt (fun x hx hx2 => ?_) ⟨p, hp, ?_, ?_⟩
          · exact List.contains_iff_mem.mpr ((mm _).mpr (.inl (List.contains_iff_mem.mp hx2)))
          · exact List.contains_iff_mem.mpr ((mm _).mpr (.inr ⟨p, hp, h1, rfl⟩))
          · cases e : s.contains p.2 with
            | false => rfl
            | true => exact absurd (List.contains_iff_mem.mp e) h2
        omega
theorem reach_path {l : List (Nat × Nat)} {a x : Nat} : (Rc61.reach l l.length [a]).contains x = true ↔ Path l a x := by
  rw [List.contains_iff_mem]
  constructor
  · intro h
    obtain ⟨b, hb, p⟩ := reach_sound _ _ _ h
    rw [List.mem_singleton.mp hb] at p
    exact p
  · intro p
    exact closed_path (reach_closed _ _ (.inr (by omega))) (reach_sub _ _ _ List.mem_cons_self) p

/-! the losers of one winner, as the program keeps them -/
def outs (l : List (Nat × Nat)) (i : Nat) : List Nat := (l.filter fun p => p.1 == i).map fun p => p.2
theorem mem_outs {l : List (Nat × Nat)} {i j : Nat} : j ∈ outs l i ↔ (i, j) ∈ l := by
  unfold outs
  rw [List.mem_map]
  constructor
  · rintro ⟨p, hp, rfl⟩
    obtain ⟨h1, h2⟩ := List.mem_filter.mp hp
    rw [← beq_iff_eq.mp h2]
    exact h1
  · intro h
    exact ⟨(i, j), List.mem_filter.mpr ⟨h, beq_self_eq_true _⟩, rfl⟩
theorem outs_snoc (l : List (Nat × Nat)) (p : Nat × Nat) (i : Nat) : outs (l ++ [p]) i = if i = p.1 then outs l i ++ [p.2] else outs l i := by
  unfold outs
  rw [List.filter_append, List.map_append]
  by_cases e : i = p.1
  · subst e
    rw [if_pos rfl]
    simp
  · rw [if_neg e]
    have : (p.1 == i) = false := by
      simp only [beq_eq_false_iff_ne]
      exact fun z => e z.symm
    simp [this]
/-- one turn of the inner loop of reached -/
def addNew (L : List Nat) (y : Nat) : List Nat := if (!L.contains y) = true then L ++ [y] else L
structure Reg (l : List (Nat × Nat)) (a n : Nat) (L : List Nat) : Prop where
  nd : L.Nodup
  pa : ∀ x ∈ L, Path l a x
  st : a ∈ L
  lt : ∀ x ∈ L, x < n
theorem Reg.one {l : List (Nat × Nat)} {a n : Nat} (h : a < n) : Reg l a n [a] :=
  ⟨List.nodup_cons.mpr ⟨by simp, List.nodup_nil⟩, fun x hx => (by rw [List.mem_singleton.mp hx]; exact .here), List.mem_cons_self, fun x hx => (by rw [List.mem_singleton.mp hx]; exact h)⟩
theorem Reg.len {l : List (Nat × Nat)} {a n : Nat} {L : List Nat} (h : Reg l a n L) : L.length ≤ n := nodup_lt_len h.nd h.lt
theorem Reg.add {l : List (Nat × Nat)} {a n x y : Nat} {L : List Nat} (h : Reg l a n L) (hx : x ∈ L) (hy : (x, y) ∈ l) (hn : y < n) : Reg l a n (addNew L y) ∧ (∃ e, addNew L y = L ++ e) ∧ y ∈ addNew L y := by
  unfold addNew
  cases q : L.contains y with
  | true => exact ⟨h, ⟨[], (List.append_nil L).symm⟩, List.contains_iff_mem.mp q⟩
  | false =>
    have nin : ¬ y ∈ L := fun z => by
      rw [List.contains_iff_mem.mpr z] at q
      cases q
    show Reg l a n (L ++ [y]) ∧ (∃ e, L ++ [y] = L ++ e) ∧ y ∈ L ++ [y]
    refine ⟨⟨?_, ?_, List.mem_append_left _ h.st, ?_⟩, ⟨_, rfl⟩, List.mem_append_right _ List.mem_cons_self⟩
    · rw [List.nodup_append]
      refine ⟨h.nd, List.nodup_cons.mpr ⟨by simp, List.nodup_nil⟩, fun u hu v hv => ?_⟩
      rw [List.mem_singleton.mp hv]
      rintro rfl
      exact nin hu
    · intro u hu
      rcases List.mem_append.mp hu with z | z
      · exact h.pa u z
      · rw [List.mem_singleton.mp z]
        exact .on (h.pa x hx) hy
    · intro u hu
      rcases List.mem_append.mp hu with z | z
      · exact h.lt u z
      · rw [List.mem_singleton.mp z]
        exact hn
theorem Reg.fold {l : List (Nat × Nat)} {a n x : Nat} : ∀ {ys L : List Nat}, Reg l a n L → x ∈ L → (∀ y ∈ ys, (x, y) ∈ l ∧ y < n) →
    Reg l a n (ys.foldl addNew L) ∧ (∃ e, ys.foldl addNew L = L ++ e) ∧ ∀ y ∈ ys, y ∈ ys.foldl addNew L
  | [], L, h, _, _ => ⟨h, ⟨[], (List.append_nil L).symm⟩, fun y hy => (by cases hy)⟩
  | y :: r, L, h, hx, hy => by
    obtain ⟨h1, ⟨e, h2⟩, h3⟩ := h.add hx (hy y List.mem_cons_self).1 (hy y List.mem_cons_self).2
    obtain ⟨g1, ⟨e', g2⟩, g3⟩ := Reg.fold (ys := r) h1 (by rw [h2]; exact List.mem_append_left _ hx) fun z hz => hy z (List.mem_cons_of_mem _ hz)
    rw [List.foldl_cons]
    refine ⟨g1, ⟨e ++ e', by rw [g2, h2, List.append_assoc]⟩, fun z hz => ?_⟩
    rcases List.mem_cons.mp hz with q | q
    · subst q
      rw [g2]
      exact List.mem_append_left _ h3
    · exact g3 z q
def RDone (l : List (Nat × Nat)) (L : List Nat) (at_ : Nat) : Prop := ∀ k x, k < at_ → L[k]? = some x → ∀ y, (x, y) ∈ l → y ∈ L
theorem RDone.more {l : List (Nat × Nat)} {a n k x : Nat} {L : List Nat} (h : RDone l L k) (r : Reg l a n L) (hl : ∀ p ∈ l, p.2 < n) (hx : L[k]? = some x) : RDone l ((outs l x).foldl addNew L) (k + 1) := by
  have xL : x ∈ L := List.mem_of_getElem? hx
  obtain ⟨_, ⟨e, h2⟩, h3⟩ := r.fold (ys := outs l x) xL fun y hy => ⟨mem_outs.mp hy, hl _ (mem_outs.mp hy)⟩
  have hk : k < L.length := (List.getElem?_eq_some_iff.mp hx).1
  intro j z hj hz y hy
  rw [h2, List.getElem?_append_left (by omega)] at hz
  by_cases q : j = k
  · subst q
    rw [hx] at hz
    cases hz
    exact h3 y (mem_outs.mpr hy)
  · rw [h2]
    exact List.mem_append_left _ (h j z (by omega) hz y hy)
theorem RDone.all {l : List (Nat × Nat)} {a n : Nat} {L : List Nat} (h : RDone l L L.length) (r : Reg l a n L) (x : Nat) : x ∈ L ↔ Path l a x := by
  refine ⟨r.pa x, fun p => closed_path (fun q hq h1 => ?_) r.st p⟩
  obtain ⟨k, hk, e⟩ := List.mem_iff_getElem.mp h1
  exact h k q.1 hk (by rw [List.getElem?_eq_getElem hk, e]) q.2 hq
theorem RDone.contains {l : List (Nat × Nat)} {a n : Nat} {L : List Nat} (h : RDone l L L.length) (r : Reg l a n L) (x : Nat) : L.contains x = (Rc61.reach l l.length [a]).contains x := by
  rw [Bool.eq_iff_iff, reach_path, List.contains_iff_mem]
  exact h.all r x

/-! no way comes back -/
def AC (l : List (Nat × Nat)) : Prop := ∀ p ∈ l, ¬ Path l p.2 p.1
theorem path_snoc {l : List (Nat × Nat)} {p : Nat × Nat} {x y : Nat} (h : Path (l ++ [p]) x y) : Path l x y ∨ (Path l x p.1 ∧ Path l p.2 y) := by
  induction h with
  | here => exact .inl .here
  | @on u v _ e ih =>
    rcases List.mem_append.mp e with q | q
    · rcases ih with ih | ⟨i1, i2⟩
      · exact .inl (.on ih q)
      · exact .inr ⟨i1, .on i2 q⟩
    · have q := List.mem_singleton.mp q
      subst q
      rcases ih with ih | ⟨i1, _⟩
      · exact .inr ⟨ih, .here⟩
      · exact .inr ⟨i1, .here⟩
theorem AC.snoc {l : List (Nat × Nat)} {p : Nat × Nat} (h : AC l) (hp : ¬ Path l p.2 p.1) : AC (l ++ [p]) := by
  intro q hq z
  rcases List.mem_append.mp hq with m | m
  · rcases path_snoc z with z | ⟨z1, z2⟩
    · exact h q m z
    · exact hp ((Path.on z2 m).trans z1)
  · rw [List.mem_singleton.mp m] at z
    rcases path_snoc z with z | ⟨z1, _⟩
    · exact hp z
    · exact hp z1
theorem AC.stand {l : List (Nat × Nat)} (h : AC l) (p : Nat × Nat) : AC (Rc61.stand l p) := by
  unfold Rc61.stand
  by_cases c : (Rc61.reach l l.length [p.2]).contains p.1 = true
  · rw [if_pos c]
    exact h
  · rw [if_neg c]
    exact h.snoc fun z => c (reach_path.mpr z)
theorem stand_sub {l : List (Nat × Nat)} {p q : Nat × Nat} (h : q ∈ Rc61.stand l p) : q ∈ l ∨ q = p := by
  unfold Rc61.stand at h
  split at h
  · exact .inl h
  · rcases List.mem_append.mp h with m | m
    · exact .inl m
    · exact .inr (List.mem_singleton.mp m)
theorem fold_stand : ∀ (ps l : List (Nat × Nat)), AC l → AC (ps.foldl Rc61.stand l) ∧ ∀ q ∈ ps.foldl Rc61.stand l, q ∈ l ∨ q ∈ ps
  | [], l, h => ⟨h, fun q hq => .inl hq⟩
  | p :: r, l, h => by
    obtain ⟨a, b⟩ := fold_stand r (Rc61.stand l p) (h.stand p)
    rw [List.foldl_cons]
    refine ⟨a, fun q hq => ?_⟩
    rcases b q hq with z | z
    · rcases stand_sub z with y | y
      · exact .inl y
      · exact .inr (by rw [y]; exact List.mem_cons_self)
    · exact .inr (List.mem_cons_of_mem _ z)
theorem AC.nil : AC [] := fun p h => by cases h
def standW (n : Nat) (w : WF) : List (Nat × Nat) := (pairsW n w).foldl Rc61.stand []
theorem standW_lt {n : Nat} {w : WF} {k : Nat} : ∀ q ∈ ((pairsW n w).take k).foldl Rc61.stand [], q.1 < n ∧ q.2 < n := by
  intro q hq
  rcases (fold_stand _ _ AC.nil).2 q hq with z | z
  · cases z
  · have := pairsW_mem.mp (List.mem_of_mem_take z)
    exact ⟨this.1, this.2.1⟩

/-! one after another -/
def isFree (l : List (Nat × Nat)) (left : List Nat) (c : Nat) : Bool := !(left.any fun x => (outs l x).contains c)
theorem free_eq (l : List (Nat × Nat)) (left : List Nat) (i : Nat) : isFree l left i = !(l.any fun p => p.2 == i && left.contains p.1) := by
  unfold isFree
  congr 1
  rw [Bool.eq_iff_iff, List.any_eq_true, List.any_eq_true]
  constructor
  · rintro ⟨x, hx, h⟩
    exact ⟨(x, i), mem_outs.mp (List.contains_iff_mem.mp h), by rw [List.contains_iff_mem.mpr hx, beq_self_eq_true] <;> rfl⟩
  · rintro ⟨p, hp, h⟩
    rw [Bool.and_eq_true, beq_iff_eq] at h
    refine ⟨p.1, List.contains_iff_mem.mp h.2, List.contains_iff_mem.mpr (mem_outs.mpr ?_)⟩
    rw [← h.1]
    exact hp
theorem free_some {l : List (Nat × Nat)} {left : List Nat} {n : Nat} (h : AC l) (hl : ∀ x ∈ left, x < n) : ∀ (k i : Nat), i ∈ left → n - ((List.range n).filter fun x => (Rc61.reach l l.length [i]).contains x).length ≤ k → ∃ c ∈ left, isFree l left c = true
  | k, i, hi, hk => by
    cases e : isFree l left i with
    | true => exact ⟨i, hi, e⟩
    | false =>
      unfold isFree at e
      rw [Bool.not_eq_false', List.any_eq_true] at e
      obtain ⟨x, hx, hc⟩ := e
      have ed := mem_outs.mp (List.contains_iff_mem.mp hc)
      have lt : ((List.range n).filter fun y => (Rc61.reach l l.length [i]).contains y).length < ((List.range n).filter fun y => (Rc61.reach l l.length [x]).contains y).length := by
        refine filter_len_lt (fun y _ hy => ?_) ⟨x, List.mem_range.mpr (hl x hx), ?_, ?_⟩
        · exact reach_path.mpr (Path.trans (.on .here ed) (reach_path.mp hy))
        · exact reach_path.mpr .here
        · cases q : (Rc61.reach l l.length [i]).contains x with
          | false => rfl
          | true => exact absurd (reach_path.mp q) (h (x, i) ed)
      have le := List.length_filter_le (fun y => (Rc61.reach l l.length [x]).contains y) (List.range n)
      rw [List.length_range] at le
      cases k with
      | zero => omega
      | succ k => exact free_some h hl k x hx (by omega)
def frees (l : List (Nat × Nat)) (left : List Nat) : List Nat := left.filter (isFree l left)
theorem frees_ne {l : List (Nat × Nat)} {left : List Nat} {n : Nat} (h : AC l) (hl : ∀ x ∈ left, x < n) (h0 : left ≠ []) : frees l left ≠ [] := by
  cases left with
  | nil => exact absurd rfl h0
  | cons a t =>
    obtain ⟨c, hc, hf⟩ := free_some h hl _ a List.mem_cons_self (Nat.le_refl _)
    intro z
    have : c ∈ frees l (a :: t) := List.mem_filter.mpr ⟨hc, hf⟩
    rw [z] at this
    cases this
theorem row_step {l : List (Nat × Nat)} {left tl : List Nat} {c k : Nat} (h : frees l left = c :: tl) : Rc61.row l (k + 1) left = c :: Rc61.row l k (left.filter fun j => j != c) := by
  have e : left.find? (fun i => !(l.any fun p => p.2 == i && left.contains p.1)) = some c := by
    have e1 : (fun i => !(l.any fun p => p.2 == i && left.contains p.1)) = isFree l left := funext fun i => (free_eq l left i).symm
    rw [e1, ← List.head?_filter]
    show (frees l left).head? = some c
    rw [h] <;> rfl
  show (match left.find? (fun i => !(l.any fun p => p.2 == i && left.contains p.1)) with
    | none => []
    | some i => i :: Rc61.row l k (left.filter fun j => j != i)) = _
  rw [e]
theorem erase_at {c : Nat} : ∀ {left : List Nat} {j : Nat}, left.Nodup → left[j]? = some c → left.eraseIdx j = left.filter fun y => y != c
  | [], j, _, h => by simp at h
  | a :: r, 0, hn, h => by
    have h : a = c := by simpa using h
    subst h
    obtain ⟨h1, h2⟩ := List.nodup_cons.mp hn
    rw [List.eraseIdx_cons_zero, List.filter_cons]
    have : (a != a) = false := by simp
    rw [this]
    show r = r.filter fun y => y != a
    symm
    rw [List.filter_eq_self]
    intro x hx
    have : x ≠ a := fun e => h1 (e ▸ hx)
    simpa using this
  | a :: r, j + 1, hn, h => by
    have h : r[j]? = some c := by simpa using h
    obtain ⟨h1, h2⟩ := List.nodup_cons.mp hn
    rw [List.eraseIdx_cons_succ, List.filter_cons, erase_at h2 h]
    have : (a != c) = true := by
      have : a ≠ c := fun e => h1 (e ▸ List.mem_of_getElem? h)
      simpa using this
    rw [this] <;> rfl
theorem filter_ne_len {c : Nat} {left : List Nat} (hn : left.Nodup) (hc : c ∈ left) : (left.filter fun y => y != c).length + 1 = left.length := by
  rw [← hn.erase_eq_filter, List.length_erase_of_mem hc]
  have := List.length_pos_of_mem hc
  omega
def rankedW (n : Nat) (w : WF) : List Nat := Rc61.row (standW n w) n (List.range n)
theorem ranked_eq (n : Nat) (b : List Rc61.Ballot) : rankedW n (Rc61.wins b) = Rc61.ranked n b := rfl
theorem row_zero (l : List (Nat × Nat)) (left : List Nat) : Rc61.row l 0 left = [] := rfl
theorem row_len : ∀ (k : Nat) (l : List (Nat × Nat)) (left : List Nat), (Rc61.row l k left).length ≤ k
  | 0, _, _ => Nat.le_refl _
  | k + 1, l, left => by
    show (match left.find? (fun i => !(l.any fun p => p.2 == i && left.contains p.1)) with
      | none => []
      | some i => i :: Rc61.row l k (left.filter fun j => j != i)).length ≤ k + 1
    split
    · exact Nat.zero_le _
    · rename_i i _
      rw [List.length_cons]
      have := row_len k l (left.filter fun j => j != i)
      omega
end TV
/-! part TvE -/
/-! Plain mathematics, part E: orders, how often one wins with a ballot more. -/
namespace TV
theorem perm_of_sub {α : Type} [BEq α] [LawfulBEq α] : ∀ {k l : List α}, k.Nodup → (∀ x ∈ k, x ∈ l) → l.length ≤ k.length → k.Perm l
  | [], l, _, _, h => by
    have : l = [] := List.eq_nil_of_length_eq_zero (Nat.le_zero.mp h)
    rw [this]
  | a :: r, l, hn, hs, h => by
    have ha := hs a List.mem_cons_self
    obtain ⟨h1, h2⟩ := List.nodup_cons.mp hn
    have ih : r.Perm (l.erase a) := perm_of_sub h2 (fun x hx => (List.mem_erase_of_ne (fun e => h1 (by rw [← e]; exact hx))).mpr (hs x (List.mem_cons_of_mem _ hx))) (by
      rw [List.length_erase_of_mem ha]
      rw [List.length_cons] at h
      omega)
    exact (ih.cons a).trans (List.perm_cons_erase ha).symm
theorem each_perm {n : Nat} {l : List Nat} : Rc61.each n l = true ↔ l.Perm (List.range n) := by
  unfold Rc61.each
  rw [Bool.and_eq_true, beq_iff_eq, List.all_eq_true]
  constructor
  · rintro ⟨a, b⟩
    exact (perm_of_sub List.nodup_range (fun x hx => List.contains_iff_mem.mp (b x hx)) (by rw [List.length_range]; omega)).symm
  · intro h
    refine ⟨by rw [h.length_eq, List.length_range], fun x hx => List.contains_iff_mem.mpr (h.mem_iff.mpr hx)⟩
def srt (l : List Nat) : List Nat := l.mergeSort fun a b => decide (a ≤ b)
theorem srt_perm (l : List Nat) : (srt l).Perm l := List.mergeSort_perm _ _
theorem srt_le (l : List Nat) : (srt l).Pairwise (· ≤ ·) := by
  have h := List.pairwise_mergeSort (le := fun a b : Nat => decide (a ≤ b)) (fun a b c h1 h2 => by
    rw [decide_eq_true_eq] at *
    omega) (fun a b => by
    rw [Bool.or_eq_true, decide_eq_true_eq, decide_eq_true_eq]
    omega) l
  exact h.imp fun h => of_decide_eq_true h
theorem srt_uniq {l k : List Nat} (h : k.Perm l) (hs : k.Pairwise (· ≤ ·)) : k = srt l :=
  List.Perm.eq_of_pairwise (le := (· ≤ ·)) (fun a b _ _ => Nat.le_antisymm) hs (srt_le l) (h.trans (srt_perm l).symm)
theorem each_eq (n : Nat) (l : List Nat) : Rc61.each n l = decide (srt l = List.range n) := by
  rw [Bool.eq_iff_iff, each_perm, decide_eq_true_eq]
  constructor
  · intro h
    refine (srt_uniq h.symm ?_).symm
    exact List.pairwise_lt_range.imp fun h => Nat.le_of_lt h
  · intro h
    rw [← h]
    exact (srt_perm l).symm
/-- a ballot more -/
theorem wins_snoc (b : List Rc61.Ballot) (x : Rc61.Ballot) (i j : Nat) : Rc61.wins (b ++ [x]) i j = Rc61.wins b i j + if Rc61.place x.1 i < Rc61.place x.1 j then x.2 else 0 := by
  unfold Rc61.wins
  rw [List.filter_append, List.map_append, List.sum_append]
  by_cases h : Rc61.place x.1 i < Rc61.place x.1 j
  · rw [if_pos h, List.filter_cons, if_pos (decide_eq_true h)]
    simp
  · rw [if_neg h, List.filter_cons, if_neg (by rw [decide_eq_true_eq]; exact h)]
    simp
theorem wins_le (b : List Rc61.Ballot) (B : Nat) (h : ∀ x ∈ b, x.2 ≤ B) (i j : Nat) : Rc61.wins b i j ≤ b.length * B := by
  unfold Rc61.wins
  induction b with
  | nil => exact Nat.zero_le _
  | cons a r ih =>
    have := ih fun x hx => h x (List.mem_cons_of_mem _ hx)
    have ha := h a List.mem_cons_self
    rw [List.filter_cons, List.length_cons, Nat.add_mul]
    by_cases c : decide (Rc61.place a.1 i < Rc61.place a.1 j) = true
    · rw [if_pos c, List.map_cons, List.sum_cons]
      omega
    · rw [if_neg c]
      omega
/-- the table behind p turns of the outer loop and q of the inner one -/
def addW (w : WF) (l : List Nat) (t p q : Nat) : WF := fun i j =>
  w i j + if (Rc61.place l i < p ∧ Rc61.place l i < Rc61.place l j) ∨ (Rc61.place l i = p ∧ p < Rc61.place l j ∧ Rc61.place l j < p + 1 + q) then t else 0
theorem place_lt {l : List Nat} {i : Nat} (h : i ∈ l) : Rc61.place l i < l.length := by
  unfold Rc61.place
  exact List.findIdx_lt_length_of_exists ⟨i, h, beq_self_eq_true i⟩
theorem place_get {l : List Nat} {i : Nat} (h : i ∈ l) : l[Rc61.place l i]? = some i := by
  have q := place_lt h
  rw [List.getElem?_eq_getElem q]
  have := List.findIdx_getElem (xs := l) (p := fun x => x == i) (w := q)
  exact congrArg some (beq_iff_eq.mp this)
theorem place_of {l : List Nat} (hn : l.Nodup) {k x : Nat} (h : l[k]? = some x) : Rc61.place l x = k := by
  have hx : x ∈ l := List.mem_of_getElem? h
  have a := place_get hx
  have lt := place_lt hx
  have lt2 := (List.getElem?_eq_some_iff.mp h).1
  exact (List.getElem?_inj lt hn).mp (a.trans h.symm)
theorem addW_start (w : WF) (l : List Nat) (t : Nat) : addW w l t 0 0 = w := by
  funext i j
  unfold addW
  rw [if_neg (by omega)]
  rfl
theorem addW_outer (w : WF) (l : List Nat) (t p : Nat) {n : Nat} (hl : l.length ≤ n) {i j : Nat} (hj : j ∈ l) : addW w l t p (n - (p + 1)) i j = addW w l t (p + 1) 0 i j := by
  have := place_lt hj
  unfold addW
  by_cases h : (Rc61.place l i < p ∧ Rc61.place l i < Rc61.place l j) ∨ (Rc61.place l i = p ∧ p < Rc61.place l j ∧ Rc61.place l j < p + 1 + (n - (p + 1)))
  · rw [if_pos h, if_pos (by omega)]
  · rw [if_neg h, if_neg (by omega)]
theorem addW_end (w : WF) (l : List Nat) (t : Nat) {i j : Nat} (hi : i ∈ l) : addW w l t l.length 0 i j = w i j + if Rc61.place l i < Rc61.place l j then t else 0 := by
  have := place_lt hi
  unfold addW
  by_cases h : Rc61.place l i < Rc61.place l j
  · rw [if_pos h, if_pos (by omega)]
  · rw [if_neg h, if_neg (by omega)]
theorem addW_inner (w : WF) (l : List Nat) (t p q : Nat) (hn : l.Nodup) {a b : Nat} (ha : l[p]? = some a) (hb : l[p + 1 + q]? = some b) (i j : Nat) (hj : j ∈ l) (hi : i ∈ l) :
    addW w l t p (q + 1) i j = if i = a ∧ j = b then addW w l t p q i j + t else addW w l t p q i j := by
  have pa := place_of hn ha
  have pb := place_of hn hb
  have ei : i = a ↔ Rc61.place l i = p := by
    constructor
    · rintro rfl; exact pa
    · intro h
      have := place_get hi
      rw [h, ha] at this
      exact (Option.some.inj this).symm
  have ej : j = b ↔ Rc61.place l j = p + 1 + q := by
    constructor
    · rintro rfl; exact pb
    · intro h
      have := place_get hj
      rw [h, hb] at this
      exact (Option.some.inj this).symm
  unfold addW
  by_cases h : i = a ∧ j = b
  · rw [if_pos h]
    have h' := ei.mp h.1
    have h'' := ej.mp h.2
    rw [if_pos (by omega), if_neg (by omega)]
    omega
  · rw [if_neg h]
    have h' : ¬ (Rc61.place l i = p ∧ Rc61.place l j = p + 1 + q) := fun z => h ⟨ei.mpr z.1, ej.mpr z.2⟩
    by_cases h2 : (Rc61.place l i < p ∧ Rc61.place l i < Rc61.place l j) ∨ (Rc61.place l i = p ∧ p < Rc61.place l j ∧ Rc61.place l j < p + 1 + q)
    · rw [if_pos h2, if_pos (by omega)]
    · rw [if_neg h2, if_neg (by omega)]
end TV
/-! part TvG -/
/-! Plain mathematics, part G: there is a calmest order. -/
namespace TV
theorem nat_least {P : Nat → Prop} : ∀ (k v : Nat), v ≤ k → P v → ∃ u, P u ∧ ∀ x, P x → u ≤ x
  | k, v, hk, hv => by
    by_cases h : ∃ x, P x ∧ x < v
    · obtain ⟨x, hx, lt⟩ := h
      cases k with
      | zero => omega
      | succ k => exact nat_least k x (by omega) hx
    · exact ⟨v, hv, fun x hx => Nat.le_of_not_lt fun lt => h ⟨x, hx, lt⟩⟩
theorem least_some (n : Nat) (w : WF) (m : Nat) : ∃ v, LeastOf n w m v := by
  obtain ⟨u, ⟨r, hr, e⟩, h⟩ := nat_least (P := fun v => ∃ r, r.Perm (mem n m) ∧ quarW w r = v) _ _ (Nat.le_refl _) ⟨mem n m, List.Perm.refl _, rfl⟩
  exact ⟨u, ⟨r, hr, e⟩, fun s hs => h _ ⟨s, hs, rfl⟩⟩
theorem calm_go {n : Nat} {w : WF} {f : Nat → Nat} (hn : n ≤ 6) (hf : ∀ k, k < 2 ^ n → LeastOf n w k (f k)) : ∀ (k m : Nat) (pre : List Nat), m ≤ k → Calm n w f pre m → ∃ r, IsCalm n w r
  | k, 0, pre, _, h => ⟨pre, h.done hf⟩
  | 0, m + 1, pre, hk, h => by omega
  | k + 1, m + 1, pre, hk, h => by
    cases e : firsts n w f (m + 1) with
    | nil => exact absurd e (firsts_ne hn h.lt (by omega) hf)
    | cons c tl =>
      obtain ⟨h2, hc⟩ := h.step hn hf e
      have := rest_lt hn h.lt hc
      exact calm_go hn hf k _ _ (by omega) h2
theorem calm_some {n : Nat} (hn : n ≤ 6) (w : WF) : ∃ r, IsCalm n w r := by
  have hf : ∀ k, k < 2 ^ n → LeastOf n w k (Classical.choose (least_some n w k)) := fun k _ => Classical.choose_spec (least_some n w k)
  exact calm_go (f := fun k => Classical.choose (least_some n w k)) hn hf _ _ _ (Nat.le_refl _) (Calm.start n w _)
theorem IsCalm.uniq {n : Nat} {w : WF} {r s : List Nat} (h : IsCalm n w r) (k : IsCalm n w s) : s = r := by
  have e : quarW w s = quarW w r := Nat.le_antisymm (k.le r h.pm) (h.le s k.pm)
  rcases h.fs s k.pm e with q | q
  · exact q
  · rcases k.fs r h.pm e.symm with z | z
    · exact z.symm
    · rw [before_asym z] at q
      cases q
def perms (n : Nat) : List (List Nat) := (Rc61.rows n (List.range n)).filter fun (r : List Nat) => r.length == n
def calmB (n : Nat) (w : WF) (r : List Nat) : Bool := (perms n).all fun s => decide (quarW w r ≤ quarW w s) && (quarW w s != quarW w r || (s == r || Rc61.before r s))
def calmW (n : Nat) (w : WF) : List Nat := ((perms n).find? (calmB n w)).getD []
theorem calmB_iff {n : Nat} {w : WF} {r : List Nat} (hr : r ∈ perms n) : calmB n w r = true ↔ IsCalm n w r := by
  unfold calmB
  rw [List.all_eq_true]
  constructor
  · intro h
    refine ⟨perm_range.mp hr, fun s hs => ?_, fun s hs e => ?_⟩
    · have := h s (perm_range.mpr hs)
      rw [Bool.and_eq_true, decide_eq_true_eq] at this
      exact this.1
    · have := h s (perm_range.mpr hs)
      rw [Bool.and_eq_true, Bool.or_eq_true, bne_iff_ne, Bool.or_eq_true, beq_iff_eq] at this
      rcases this.2 with q | q
      · exact absurd e q
      · exact q
  · intro h s hs
    have pm := perm_range.mp hs
    rw [Bool.and_eq_true, decide_eq_true_eq, Bool.or_eq_true, bne_iff_ne, Bool.or_eq_true, beq_iff_eq]
    refine ⟨h.le s pm, ?_⟩
    by_cases e : quarW w s = quarW w r
    · exact .inr (h.fs s pm e)
    · exact .inl e
theorem calmW_is {n : Nat} {w : WF} {r : List Nat} (h : IsCalm n w r) : calmW n w = r := by
  have e : (perms n).find? (calmB n w) = some r := find_the (perm_range.mpr h.pm) ((calmB_iff (perm_range.mpr h.pm)).mpr h) fun y hy hp => h.uniq ((calmB_iff hy).mp hp)
  unfold calmW
  rw [e] <;> rfl
theorem calmW_eq {n : Nat} {b : List Rc61.Ballot} (hn : n ≤ 6) (h0 : 0 < n) {B : Nat} (hB : ∀ i j, Rc61.wins b i j ≤ B) (hb : 36 * B ≤ 1000000000000000000000) : calmW n (Rc61.wins b) = Rc61.calmestOf n b ∧ (calmW n (Rc61.wins b)).length = n := by
  obtain ⟨r, hr⟩ := calm_some hn (Rc61.wins b)
  rw [calmW_is hr]
  have hl : r.length = n := by rw [hr.pm.length_eq, List.length_range]
  refine ⟨calm_eq hr h0 (Nat.le_trans (quar_le hB r) (Nat.le_trans (Nat.mul_le_mul_right B ?_) hb)), hl⟩
  rw [hl]
  exact (Nat.mul_le_mul hn hn : n * n ≤ 6 * 6)
theorem exists_min : ∀ (l : List Nat), l ≠ [] → ∃ v ∈ l, ∀ y ∈ l, v ≤ y
  | [], h => absurd rfl h
  | [a], _ => ⟨a, List.mem_cons_self, fun y hy => (by rw [List.mem_singleton.mp hy]; exact Nat.le_refl _)⟩
  | a :: b :: r, _ => by
    obtain ⟨v, hv, h⟩ := exists_min (b :: r) (by simp)
    by_cases c : a ≤ v
    · refine ⟨a, List.mem_cons_self, fun y hy => ?_⟩
      rcases List.mem_cons.mp hy with e | hy
      · rw [e]; exact Nat.le_refl _
      · exact Nat.le_trans c (h y hy)
    · refine ⟨v, List.mem_cons_of_mem _ hv, fun y hy => ?_⟩
      rcases List.mem_cons.mp hy with e | hy
      · rw [e]; omega
      · exact h y hy
end TV
/-! part TvP -/
/-! Plain mathematics, part P: the calls in one list. -/
namespace TV
open PyFlat
/-- how a raw call lies: its number, its numbers, its row if it has one -/
def rowOf (c : List (List Int)) : List (List Int) := c.drop 1
theorem natural_lt (z : Int) (b : Nat) (h : Rc61Neutral.natural z b = true) : 0 ≤ z ∧ z < 2 ^ b := by
  unfold Rc61Neutral.natural at h
  rw [Bool.and_eq_true, decide_eq_true_eq, decide_eq_true_eq] at h
  exact h
theorem nats_back {r : List Int} (h : ∀ z ∈ r, 0 ≤ z) : (Rc61Neutral.natsOf r).map (fun x : Nat => (x : Int)) = r := by
  unfold Rc61Neutral.natsOf
  rw [List.map_map]
  conv => rhs; rw [← List.map_id r]
  refine List.map_congr_left fun z hz => ?_
  exact Int.toNat_of_nonneg (h z hz)
theorem len0 {α : Type} {l : List α} (h : 0 = l.length) : l = [] := List.eq_nil_of_length_eq_zero h.symm
theorem len1 {α : Type} {l : List α} (h : 1 = l.length) : ∃ a, l = [a] := by
  match l, h with
  | [a], _ => exact ⟨a, rfl⟩
theorem len2 {α : Type} {l : List α} (h : 2 = l.length) : ∃ a b, l = [a, b] := by
  match l, h with
  | [a, b], _ => exact ⟨a, b, rfl⟩
theorem shape_cases {p : Int} {x y : Nat} (h : PyRc61.shape p = some (x, y)) :
    (p = 0 ∧ x = 0 ∧ y = 0) ∨ (p = 1 ∧ x = 1 ∧ y = 0) ∨ (p = 2 ∧ x = 1 ∧ y = 1) ∨ (p = 3 ∧ x = 2 ∧ y = 0) ∨ (p = 4 ∧ x = 0 ∧ y = 0) ∨ (p = 5 ∧ x = 0 ∧ y = 0) ∨ (p = 6 ∧ x = 0 ∧ y = 0) ∨ (p = 7 ∧ x = 0 ∧ y = 0) ∨ (p = 8 ∧ x = 0 ∧ y = 1) ∨ (p = 9 ∧ x = 0 ∧ y = 0) ∨ (p = 10 ∧ x = 0 ∧ y = 0) := by
  unfold PyRc61.shape at h
  by_cases e : p = 0
  · rw [if_pos e] at h
    obtain ⟨rfl, rfl⟩ := Prod.mk.inj (Option.some.inj h)
    exact .inl ⟨e, rfl, rfl⟩
  rw [if_neg e] at h

  by_cases e : p = 1
  · rw [if_pos e] at h
    obtain ⟨rfl, rfl⟩ := Prod.mk.inj (Option.some.inj h)
    exact .inr (.inl ⟨e, rfl, rfl⟩)
  rw [if_neg e] at h

  by_cases e : p = 2
  · rw [if_pos e] at h
    obtain ⟨rfl, rfl⟩ := Prod.mk.inj (Option.some.inj h)
    exact .inr (.inr (.inl ⟨e, rfl, rfl⟩))
  rw [if_neg e] at h

  by_cases e : p = 3
  · rw [if_pos e] at h
    obtain ⟨rfl, rfl⟩ := Prod.mk.inj (Option.some.inj h)
    exact .inr (.inr (.inr (.inl ⟨e, rfl, rfl⟩)))
  rw [if_neg e] at h

  by_cases e : p = 4
  · rw [if_pos e] at h
    obtain ⟨rfl, rfl⟩ := Prod.mk.inj (Option.some.inj h)
    exact .inr (.inr (.inr (.inr (.inl ⟨e, rfl, rfl⟩))))
  rw [if_neg e] at h

  by_cases e : p = 5
  · rw [if_pos e] at h
    obtain ⟨rfl, rfl⟩ := Prod.mk.inj (Option.some.inj h)
    exact .inr (.inr (.inr (.inr (.inr (.inl ⟨e, rfl, rfl⟩)))))
  rw [if_neg e] at h

  by_cases e : p = 6
  · rw [if_pos e] at h
    obtain ⟨rfl, rfl⟩ := Prod.mk.inj (Option.some.inj h)
    exact .inr (.inr (.inr (.inr (.inr (.inr (.inl ⟨e, rfl, rfl⟩))))))
  rw [if_neg e] at h

  by_cases e : p = 7
  · rw [if_pos e] at h
    obtain ⟨rfl, rfl⟩ := Prod.mk.inj (Option.some.inj h)
    exact .inr (.inr (.inr (.inr (.inr (.inr (.inr (.inl ⟨e, rfl, rfl⟩)))))))
  rw [if_neg e] at h

  by_cases e : p = 8
  · rw [if_pos e] at h
    obtain ⟨rfl, rfl⟩ := Prod.mk.inj (Option.some.inj h)
    exact .inr (.inr (.inr (.inr (.inr (.inr (.inr (.inr (.inl ⟨e, rfl, rfl⟩))))))))
  rw [if_neg e] at h

  by_cases e : p = 9
  · rw [if_pos e] at h
    obtain ⟨rfl, rfl⟩ := Prod.mk.inj (Option.some.inj h)
    exact .inr (.inr (.inr (.inr (.inr (.inr (.inr (.inr (.inr (.inl ⟨e, rfl, rfl⟩)))))))))
  rw [if_neg e] at h

  by_cases e : p = 10
  · rw [if_pos e] at h
    obtain ⟨rfl, rfl⟩ := Prod.mk.inj (Option.some.inj h)
    exact .inr (.inr (.inr (.inr (.inr (.inr (.inr (.inr (.inr (.inr (⟨e, rfl, rfl⟩))))))))))
  rw [if_neg e] at h

  cases h
/-- the place in a list made of three parts -/
theorem drop_take_mid {α : Type} (p m q : List α) : ((p ++ (m ++ q)).drop p.length).take m.length = m := by
  rw [List.drop_left, List.take_left]
theorem get_mid {α : Type} (p : List α) (x : α) (q : List α) : (p ++ x :: q)[p.length]? = some x := by
  rw [List.getElem?_append_right (Nat.le_refl _), Nat.sub_self]
  rfl
theorem put_app : ∀ a b : List (List (List Int)), put (a ++ b) = put a ++ put b
  | [], b => rfl
  | c :: a, b => by
    show put1 c ++ put (a ++ b) = (put1 c ++ put a) ++ put b
    rw [put_app a b, List.append_assoc]
end TV
/-! part TvBase -/
namespace TV
open PySem PySem.Spec PyProof.Rows L2 Evl
/-! ### the text by places -/
def top (i : Nat) : Stmt := PySem.Challenge.pw_turnvotes_s01_answers.main.body.getD i (.Pass ⟨0, 0, 0, 0⟩)
abbrev vN (x : Nat) : V := V.int (x : Int)

/-! ### rules that the layer lacks -/
section
variable {X : Cx}
/-- the read of xs[i] in xs[i] op= e -/
theorem get_list : PGet X (rIxL X.K) := by
  intro pins s σ H x y v u Q I rx ry h
  obtain ⟨p, xs, i, z, rfl, rfl, hq, he, q⟩ := h
  cases rx
  obtain ⟨t, rfl⟩ := ry
  obtain ⟨its, r, pl, hz⟩ := I.list hq
  obtain ⟨j, h1, h2, h3, h4, h5⟩ := atI_get he
  obtain ⟨w, ew, rw'⟩ := r.get h2
  have hl := r.length
  have hn := line63
  have fin : EP X pins σ Q w s := ⟨z, H, I, rw', q⟩
  by_cases h0 : 0 ≤ i
  · have hj : i.toNat = j := by
      rw [seqIndex_of h0 h5] at h1
      exact Option.some.inj h1
    exact wpAny_getItem_list pl.isList h0 (by omega) (by rw [hj]; simpa using ew) fin
  · have hj : (i + (its.toArray.size : Int)).toNat = j := by
      rw [seqIndex_neg (by omega) h4] at h1
      rw [List.size_toArray, ← hl]
      exact Option.some.inj h1
    exact wpAny_getItem_list_neg pl.isList (by omega) (by rw [List.size_toArray] <;> omega) (by omega) (by rw [hj]; simpa using ew) fin
/-- a dict of the module, int keys -/
def KDI (K : PySem.W.Frag) (a : Addr) (i : Int) (v : V) : Prop :=
  ∃ es n u, K.lookup a = some ⟨.type "dict", none, .dict es n, #[]⟩ ∧ (∀ e ∈ es, ∃ k t, e.key = .int k t ∧ e.hash = hashInt k) ∧ findBy Value.isInt es i = some u ∧ RelV v u
def rIxDI (K : PySem.W.Frag) : R2 := fun x y H Q => ∃ p i v, x = .ref p ∧ y = .int i ∧ KDI K p i v ∧ Q v H
theorem mapOf_KI {prog : Program} {w : World} {h : Heap} {K : PySem.W.Frag} {a : Addr} {es : Array DictEntry} {n : Nat} (Xk : K.In h) (hl : K.lookup a = some ⟨.type "dict", none, .dict es n, #[]⟩) (hk : ∀ e ∈ es, ∃ k t, e.key = .int k t ∧ e.hash = hashInt k) :
    h.MapOf (PySem.intKind prog w) a (fun k => findBy Value.isInt es k) :=
  ⟨_, es, n, Xk _ _ hl, ⟨rfl, rfl, rfl⟩, rfl, fun e he => by
    obtain ⟨k, t, e1, e2⟩ := hk e he
    exact ⟨k, by rw [e1]; exact PySem.intKind_is prog w k t, e2⟩, fun _ => rfl⟩
theorem ix_kdictI : IxR X (rIxDI X.K) := by
  intro value slice pins s σ H x y v u Q I rx ry h hs
  obtain ⟨p, i, r, rfl, rfl, ⟨es, n, u0, hl, hk, e, ru⟩, q⟩ := h
  obtain rfl : v = Value.ref p := rx
  obtain ⟨t, rfl⟩ := ry
  have hm := mapOf_KI (prog := X.prog) (w := X.w) I.kIn hl hk
  exact tail_any hm.typeIs slot_dict_getitem.lookup (wpAny_getItem_of (PySem.intKind_is X.prog X.w i t) hm e ⟨r, H, I.tok _, ru, q⟩) hs
end

/-! ### a def that stands at its name, with its promise -/
structure Fn (P : Program) (w : World) (K : PySem.W.Frag) (mg : Str → Option Value) (base : Heap) (x : Str) (k : Nat) (sp : Sp) : Prop where
  ex : ∃ (f : Addr) (fd : FuncData) (ps : List Str), FnOk P w K mg base CX0 k f fd ps sp ∧ mg x = some (.ref f) ∧ PySem.W.keepIn K (.ref f) = true ∧ Binds K fd ps []
section
variable {X : Cx} {x : Str} {k j : Nat} {sp : Sp} {e : Expr} {es : List Expr} {t : TA} {p pos : Pos}
theorem pe_fn (c : Fn X.prog X.w X.K X.mg X.base x k sp) (hr : Room j X.A) (hk : k ≤ j) (ha : PA X (e :: es) t) (hg : Gl X x := by rfl)
    (hdb : (x == ("__debug__" : Str)) = false := by decide) (he : starEach (e :: es) X.env = (false, eval e X.env) :: starEach es X.env := by rfl) (hpl : (backTo pos (starEach es X.env)).any (·.1) = false := by rfl) :
    PE X (.Call (.Name x p) (e :: es) [] pos) (tCall sp [] E0 t) := by
  obtain ⟨f, fd, ps, F, hm, kp, b⟩ := c.ex
  exact pe_call F (hr.mono hk) hg hm kp b .nil pass0 ha hdb he hpl
end

/-! ### readings that evaluate -/
section
variable {K : PySem.W.Frag} {σ : L2.St} {H H' : Hp} {ta tb te tl : TE} {t u : TT} {x y z v : V} {r : R2}
theorem ev_fld {f : Str} {a C dx : Addr} {fs : List (Str × V)} (h : Ev te σ H (.ref a)) (ha : H a = some (.ins C dx fs)) (c : Cls K C) (na : NoAttr K C f) (l : fs.lookup f = some v) : Ev (tFld K te f) σ H v := fun H1 e Q q =>
  h H1 e _ fun H2 e2 => ⟨a, C, dx, fs, v, rfl, e2 a _ (e a _ ha), c, na, l, q H2 e2⟩
/-- xs[i], xs a list of ints -/
theorem ev_ix {p : Addr} {xs : List V} {i : Nat} (ha : Ev ta σ H (.ref p)) (hb : Ev tb σ H (vN i)) (h : SqL K H p xs) (hi : xs[i]? = some v) : Ev (tOp (rIxL K) ta tb) σ H v := ev_op ha hb (rv_ixL h (atI_nat hi))
theorem ev_all {bs : List Bool} (h : EvL te σ H (bs.map V.bl)) : Ev (tCB (rAll K) (tCons te tNil)) σ H (.bl (bs.all id)) := fun H1 e Q q =>
  h H1 e _ fun p H2 _ e2 h2 => ⟨p, bs, rfl, sq_of h2, q H2 e2⟩
theorem ev_any {bs : List Bool} (h : EvL te σ H (bs.map V.bl)) : Ev (tCB (rAny K) (tCons te tNil)) σ H (.bl (bs.any id)) := fun H1 e Q q =>
  h H1 e _ fun p H2 _ e2 h2 => ⟨p, bs, rfl, sq_of h2, q H2 e2⟩
theorem cast_sum : ∀ l : List Nat, (l.map fun x => ((x : Nat) : Int)).sum = ((l.sum : Nat) : Int)
  | [] => rfl
  | a :: r => by
    rw [List.map_cons, List.sum_cons, List.sum_cons, cast_sum r, Int.natCast_add]
theorem map_vN (l : List Nat) : l.map vN = (l.map fun x => ((x : Nat) : Int)).map V.int := by rw [List.map_map]; rfl
theorem ev_sum {ns : List Nat} (h : EvL te σ H (ns.map vN)) : Ev (tCB (rSum K) (tCons te tNil)) σ H (vN ns.sum) := fun H1 e Q q =>
  h H1 e _ fun p H2 _ e2 h2 => ⟨p, ns.map fun x => ((x : Nat) : Int), rfl, (by rw [← map_vN]; exact sq_of h2), (by rw [cast_sum]; exact q H2 e2)⟩
/-- list(range(n)) -/
theorem el_range {n : Nat} (h : Ev te σ H (vN n)) (hn : n ≤ 100000) : EvL (tLstRg (tRg1 te)) σ H ((List.range n).map vN) := fun H1 e Q q =>
  h H1 e _ fun H2 e2 => ⟨(n : Int), rfl, RgOk.of_le (by omega) (by omega) (by omega) (by omega), fun p hp => q p _ (fresh_back e2 hp) (e2.trans (Ex.new hp)) (by
    rw [upd_same]
    refine congrArg (fun l => some (HO.lst l)) ?_
    unfold rgV
    rw [show ((n : Int) - 0).toNat = n by omega]
    refine List.map_congr_left fun i _ => ?_
    rw [Int.zero_add])⟩
theorem given_list {α : Type} (p : α → Bool) (g : α → V) (d : α) : ∀ ns : List α, given ns.length (fun i => p (ns.getD i d)) (fun i => g (ns.getD i d)) = (ns.filter p).map g := by
  intro ns
  unfold given
  have h : (List.range ns.length).map (fun i => ns.getD i d) = ns := by
    refine List.ext_getElem (by simp) fun i h1 h2 => ?_
    rw [List.getElem_map, List.getElem_range, List.getD_eq_getElem?_getD, List.getElem?_eq_getElem h2]
    rfl
  have h2 : (((List.range ns.length).map (fun i => ns.getD i d)).filter p).map g = ((List.range ns.length).filter (fun i => p (ns.getD i d))).map (fun i => g (ns.getD i d)) := by
    rw [List.filter_map, List.map_map]
    rfl
  rw [← h2, h]
theorem getD_of {α : Type} {ns : List α} {i : Nat} {x d : α} (h : ns[i]? = some x) : ns.getD i d = x := by
  rw [List.getD_eq_getElem?_getD, h]
  rfl
theorem map_get {α : Type} {f : α → V} {ns : List α} {i : Nat} {x : V} (h : (ns.map f)[i]? = some x) : ∃ n, ns[i]? = some n ∧ x = f n := by
  rw [List.getElem?_map] at h
  cases e : ns[i]? with
  | none =>
    rw [e] at h
    cases h
  | some n =>
    rw [e] at h
    exact ⟨n, rfl, (Option.some.inj h).symm⟩
/-- a comprehension over a list of ints that stands at an address -/
theorem el_lc {a : Addr} {ns : List Nat} {j : Nat} {vs : List Nat} (p : Nat → Bool) (g : Nat → V) (h : Ev tl σ H (.ref a)) (hx : SqL K H a (ns.map vN)) (hz : ns.length ≤ 40000) (hw : ∀ x, wipe ((wipe σ vs).set j (some x)) vs = wipe σ vs)
    (ht : ∀ (x : Nat) H1, Ex H H1 → x ∈ ns → EvT t ((wipe σ vs).set j (some (vN x))) H1 (p x)) (he : ∀ (x : Nat) H1, Ex H H1 → x ∈ ns → p x = true → Ev te ((wipe σ vs).set j (some (vN x))) H1 (g x)) :
    EvL (tLc (iList K tl) (gName j) t te vs) σ H ((ns.filter p).map g) := by
  rw [← given_list p g 0 ns, ← List.length_map (f := vN) (as := ns)]
  refine el_lcL (xs := ns.map vN) (fun i => p (ns.getD i 0)) (fun i => g (ns.getD i 0)) h hx (by rw [List.length_map]; exact hz) hw (fun i x H1 e hi => ?_) (fun i x H1 e hi hf => ?_)
  · obtain ⟨n, hn, rfl⟩ := map_get hi
    have en : ns.getD i 0 = n := getD_of hn
    rw [en]
    exact ht n H1 e (List.mem_of_getElem? hn)
  · obtain ⟨n, hn, rfl⟩ := map_get hi
    have en : ns.getD i 0 = n := getD_of hn
    rw [en] at hf ⊢
    exact he n H1 e (List.mem_of_getElem? hn) hf
/-- over a new list of ints -/
theorem el_lcN {ns : List Nat} {j : Nat} {vs : List Nat} (p : Nat → Bool) (g : Nat → V) (h : EvL tl σ H (ns.map vN)) (hz : ns.length ≤ 40000) (hw : ∀ x, wipe ((wipe σ vs).set j (some x)) vs = wipe σ vs)
    (ht : ∀ (x : Nat) H1, Ex H H1 → x ∈ ns → EvT t ((wipe σ vs).set j (some (vN x))) H1 (p x)) (he : ∀ (x : Nat) H1, Ex H H1 → x ∈ ns → p x = true → Ev te ((wipe σ vs).set j (some (vN x))) H1 (g x)) :
    EvL (tLc (iList K tl) (gName j) t te vs) σ H ((ns.filter p).map g) := by
  rw [← given_list p g 0 ns, ← List.length_map (f := vN) (as := ns)]
  refine el_lcNL (xs := ns.map vN) (fun i => p (ns.getD i 0)) (fun i => g (ns.getD i 0)) h (by rw [List.length_map]; exact hz) hw (fun i x H1 e hi => ?_) (fun i x H1 e hi hf => ?_)
  · obtain ⟨n, hn, rfl⟩ := map_get hi
    have en : ns.getD i 0 = n := getD_of hn
    rw [en]
    exact ht n H1 e (List.mem_of_getElem? hn)
  · obtain ⟨n, hn, rfl⟩ := map_get hi
    have en : ns.getD i 0 = n := getD_of hn
    rw [en] at hf ⊢
    exact he n H1 e (List.mem_of_getElem? hn) hf
theorem et_yes : EvT tYes σ H true := fun H1 _ _ q => q H1 (Ex.refl H1)
theorem filter_yes {α : Type} (ns : List α) : ns.filter (fun _ => true) = ns := by
  rw [List.filter_eq_self]
  intro _ _
  rfl
/-- the same without a test -/
theorem el_map {a : Addr} {ns : List Nat} {j : Nat} {vs : List Nat} (g : Nat → V) (h : Ev tl σ H (.ref a)) (hx : SqL K H a (ns.map vN)) (hz : ns.length ≤ 40000) (hw : ∀ x, wipe ((wipe σ vs).set j (some x)) vs = wipe σ vs)
    (he : ∀ (x : Nat) H1, Ex H H1 → x ∈ ns → Ev te ((wipe σ vs).set j (some (vN x))) H1 (g x)) :
    EvL (tLc (iList K tl) (gName j) tYes te vs) σ H (ns.map g) := by
  have q := el_lc (t := tYes) (te := te) (fun _ => true) g h hx hz hw (fun _ _ _ _ => et_yes) (fun x H1 e m _ => he x H1 e m)
  rw [filter_yes] at q
  exact q
theorem el_mapN {ns : List Nat} {j : Nat} {vs : List Nat} (g : Nat → V) (h : EvL tl σ H (ns.map vN)) (hz : ns.length ≤ 40000) (hw : ∀ x, wipe ((wipe σ vs).set j (some x)) vs = wipe σ vs)
    (he : ∀ (x : Nat) H1, Ex H H1 → x ∈ ns → Ev te ((wipe σ vs).set j (some (vN x))) H1 (g x)) :
    EvL (tLc (iList K tl) (gName j) tYes te vs) σ H (ns.map g) := by
  have q := el_lcN (K := K) (t := tYes) (te := te) (fun _ => true) g h hz hw (fun _ _ _ _ => et_yes) (fun x H1 e m _ => he x H1 e m)
  rw [filter_yes] at q
  exact q
/-! bits -/
theorem shr_and (m c : Nat) : Builtin.bitAnd ((m : Int) / 2 ^ ((c : Int)).toNat) 1 = if m.testBit c = true then 1 else 0 := by
  rw [bitAnd_m1, Int.toNat_natCast]
  have e : ((m : Int) / 2 ^ c) % 2 = (((m / 2 ^ c) % 2 : Nat) : Int) := by
    rw [Int.natCast_emod, Int.natCast_ediv, Int.natCast_pow]
    rfl
  rw [e, Nat.testBit_eq_decide_div_mod_eq]
  by_cases h : m / 2 ^ c % 2 = 1
  · rw [if_pos (decide_eq_true h), h]
    rfl
  · have : m / 2 ^ c % 2 = 0 := by omega
    rw [if_neg (by rw [decide_eq_true_eq]; exact h), this]
    rfl
theorem ev_bit {m c : Nat} (ha : Ev ta σ H (vN m)) (hb : Ev tb σ H (vN c)) : Ev (tOp (rI0 fun i j => .int (Builtin.bitAnd i j)) (tOp (rI (fun _ j => 0 ≤ j) fun i j => .int (i / 2 ^ j.toNat)) ta tb) (tC (.int 1))) σ H (.int (if m.testBit c = true then 1 else 0)) := by
  rw [← shr_and m c]
  exact ev_op (ev_op ha hb (rv_I (by omega))) ev_c rv_I0
theorem ev_pow {c : Nat} (hb : Ev tb σ H (vN c)) (hc : c ≤ 100000) : Ev (tOp (rI CPow fun i j => .int (i * 2 ^ j.toNat)) (tC (.int 1)) tb) σ H (vN (2 ^ c)) := by
  have e : vN (2 ^ c) = V.int (1 * 2 ^ ((c : Int)).toNat) := by
    show V.int (((2 ^ c : Nat)) : Int) = _
    rw [Int.toNat_natCast, Int.one_mul, Int.natCast_pow]
    rfl
  rw [e]
  exact ev_op ev_c hb (rv_I ⟨by omega, by omega, by decide⟩)
theorem ev_or {m n : Nat} (ha : Ev ta σ H (vN m)) (hb : Ev tb σ H (vN n)) : Ev (tOp (rI0 fun i j => .int (Builtin.bitOr i j)) ta tb) σ H (vN (m ||| n)) := by
  have e : vN (m ||| n) = V.int (Builtin.bitOr (m : Int) (n : Int)) := by
    rw [Bits.bitOr_pp (by omega) (by omega)]
    rfl
  rw [e]
  exact ev_op ha hb rv_I0
end

/-! ### the ballots' object -/
def bF (n c : Nat) (L : Addr) : List (Str × V) := [("many", vN n), ("cast", vN c), ("wins", .ref L)]
theorem lk_here {k : Str} {v : V} {r : List (Str × V)} : List.lookup k ((k, v) :: r) = some v := by
  have e : (k == k) = true := beq_self_eq_true k
  simp only [List.lookup, e]
theorem lk_past {k g : Str} {v : V} {r : List (Str × V)} (h : (k == g) = false) : List.lookup k ((g, v) :: r) = List.lookup k r := by
  simp only [List.lookup, h]
theorem put_here {f : Str} {v x : V} {r : List (Str × V)} : putF f v ((f, x) :: r) = (f, v) :: r := if_pos rfl
theorem put_past {f g : Str} {v x : V} {r : List (Str × V)} (h : ¬ g = f) : putF f v ((g, x) :: r) = (g, x) :: putF f v r := if_neg h
theorem bF_many (n c : Nat) (L : Addr) : (bF n c L).lookup ("many" : Str) = some (vN n) := lk_here
theorem bF_cast (n c : Nat) (L : Addr) : (bF n c L).lookup ("cast" : Str) = some (vN c) := (lk_past (by decide +kernel)).trans lk_here
theorem bF_wins (n c : Nat) (L : Addr) : (bF n c L).lookup ("wins" : Str) = some (.ref L) := (lk_past (by decide +kernel)).trans ((lk_past (by decide +kernel)).trans lk_here)
theorem bF_putc (n c d : Nat) (L : Addr) : putF "cast" (vN d) (bF n c L) = bF n d L := (put_past (by decide +kernel)).trans (congrArg _ put_here)
theorem bF_new (n : Nat) (L : Addr) : putF "wins" (.ref L) (putF "cast" (.int 0) (putF "many" (vN n) [])) = bF n 0 L := by
  have e1 : putF "cast" (.int 0) (putF "many" (vN n) []) = [(("many" : Str), vN n), (("cast" : Str), V.int 0)] := (put_past (by decide +kernel)).trans rfl
  rw [e1]
  exact (put_past (by decide +kernel)).trans (congrArg _ ((put_past (by decide +kernel)).trans rfl))
def rowV (n : Nat) (f : Nat → Nat) : List V := (List.range n).map fun j => vN (f j)
structure BalX (C : Addr) (H : Hp) (b dx L : Addr) (rows : List Addr) (n c : Nat) (w : WF) : Prop where
  ob : H b = some (.ins C dx (bF n c L))
  lw : H L = some (.lst (rows.map V.ref))
  ln : rows.length = n
  rw_ : ∀ i r, rows[i]? = some r → H r = some (.lst (rowV n (w i)))
def BalAt (C : Addr) (H : Hp) (b : Addr) (n c : Nat) (w : WF) : Prop := n ≤ 6 ∧ ∃ dx L rows, BalX C H b dx L rows n c w
theorem BalX.mono {C : Addr} {H H' : Hp} {b dx L : Addr} {rows : List Addr} {n c : Nat} {w : WF} (e : Ex H H') (h : BalX C H b dx L rows n c w) : BalX C H' b dx L rows n c w :=
  ⟨e _ _ h.ob, e _ _ h.lw, h.ln, fun i r q => e _ _ (h.rw_ i r q)⟩
theorem BalAt.mono {C : Addr} {H H' : Hp} {b : Addr} {n c : Nat} {w : WF} (e : Ex H H') (h : BalAt C H b n c w) : BalAt C H' b n c w := by
  obtain ⟨h6, dx, L, rows, q⟩ := h
  exact ⟨h6, dx, L, rows, q.mono e⟩
theorem rowV_get {n j : Nat} {f : Nat → Nat} (h : j < n) : (rowV n f)[j]? = some (vN (f j)) := by
  unfold rowV
  rw [List.getElem?_map, List.getElem?_range h]
  rfl
/-- what the top has written of the class -/
structure BTxt (K : PySem.W.Frag) (C : Addr) : Prop where
  cl : Cls K C
  nM : NoAttr K C "many"
  nC : NoAttr K C "cast"
  nW : NoAttr K C "wins"
section
variable {K : PySem.W.Frag} {C : Addr} {σ : L2.St} {H : Hp} {te ti tj : TE} {b : Addr} {n c i j : Nat} {w : WF}
theorem ev_many (T : BTxt K C) (B : BalAt C H b n c w) (h : Ev te σ H (.ref b)) : Ev (tFld K te "many") σ H (vN n) := by
  obtain ⟨h6, dx, L, rows, q⟩ := B
  exact ev_fld h q.ob T.cl T.nM (bF_many n c L)
theorem ev_cast (T : BTxt K C) (B : BalAt C H b n c w) (h : Ev te σ H (.ref b)) : Ev (tFld K te "cast") σ H (vN c) := by
  obtain ⟨h6, dx, L, rows, q⟩ := B
  exact ev_fld h q.ob T.cl T.nC (bF_cast n c L)
/-- ballots.wins[i][j] -/
theorem ev_wins (T : BTxt K C) (B : BalAt C H b n c w) (h : Ev te σ H (.ref b)) (hi : Ev ti σ H (vN i)) (hj : Ev tj σ H (vN j)) (li : i < n) (lj : j < n) :
    Ev (tOp (rIxL K) (tOp (rIxL K) (tFld K te "wins") ti) tj) σ H (vN (w i j)) := by
  obtain ⟨h6, dx, L, rows, q⟩ := B
  have hr : rows[i]? = some rows[i]! := by
    have : i < rows.length := by rw [q.ln]; exact li
    rw [List.getElem?_eq_getElem this, List.getElem!_eq_getElem?_getD, List.getElem?_eq_getElem this]
    rfl
  refine ev_ix (ev_ix (ev_fld h q.ob T.cl T.nW (bF_wins n c L)) hi (sq_of q.lw) (v := .ref rows[i]!) ?_) hj (sq_of (q.rw_ i _ hr)) (rowV_get lj)
  rw [List.getElem?_map, hr]
  rfl
end
end TV
/-! part TvF1 -/
namespace TV
open PySem PySem.Spec PyProof.Rows L2 Evl
/-- the def st stands at its name -/
def Dn (K : PySem.W.Frag) (mg : Str → Option Value) (x : Str) (st : Stmt) : Prop := ∃ f fd, Fun K x x st f fd ∧ mg x = some (.ref f)
section
variable {P : Program} {w : World} {K : PySem.W.Frag} {mg : Str → Option Value} {base : Heap} {C : Addr}
/-- a def's promise from its body -/
theorem Dn.fn {x : Str} {st : Stmt} {N ps : List Str} {k : Nat} {sp : Sp} (D : Dn K mg x st) (S : FnScope N ps (defScope st)) (len : ∀ vs H Q E, sp vs H Q E → vs.length = ps.length)
    (hb : ∀ (kV doc pm : Value) (an : Option Addr) (cdv ct : Value) (us : List Value), us.length = ps.length → bindArgs (PySem.W.fnOf x x (defArgs st) (defBody st) (defScope st) .none kV doc pm an cdv ct) ⟨us, []⟩ = pure (ps.zip us))
    (hbody : ∀ (f : Addr) (cdv : Value) (A : Around) (outer : List Env) (s : Shared) (H : Hp) (vs : List V) (Q : VK) (E : XK), Room k (A.deeper (envOfC x (defScope st) s.heap.objs.size f cdv)) → sp vs H Q E →
      ∃ t, PSs (cxOf CX0 P w K mg base N x (defScope st) f cdv A outer s H E).nox (defBody st) t ∧ t { nx := fun _ H' => Q .non H', rt := Q } (start N vs) H) : Fn P w K mg base x (k + 1) sp := by
  obtain ⟨f, fd, F, hm⟩ := D
  exact ⟨f, fd, ps, F.ok S len (hbody f), hm, F.kp, F.binds hb⟩

/-! ### beats -/
def spBeats (C : Addr) : Sp := fun vs H Q _ => ∃ b n c w i j, vs = [.ref b, vN i, vN j] ∧ BalAt C H b n c w ∧ i < n ∧ j < n ∧ RetV (.bl (bt w i j)) H Q
theorem sv_beats {H : Hp} {b n c w i j} (B : BalAt C H b n c w) (hi : i < n) (hj : j < n) : SpV (spBeats C) [.ref b, vN i, vN j] H (.bl (bt w i j)) := fun H1 e Q q E => ⟨b, n, c, w, i, j, rfl, B.mono e, hi, hj, q⟩
theorem sc_beats : FnScope ["ballots", "one", "other"] ["ballots", "one", "other"] (defScope (top 5)) := ⟨rfl, rfl, rfl, by decide +kernel, rfl, by decide +kernel, by decide +kernel⟩
theorem fn_beats (D : Dn K mg "beats" (top 5)) (T : BTxt K C) : Fn P w K mg base "beats" 1 (spBeats C) := by
  refine D.fn sc_beats (fun vs H Q E h => ?_) (fun _ _ _ _ _ _ us hl => match us, hl with | [_, _, _], _ => rfl) (fun f cdv A outer s H vs Q E hr h => ?_)
  · obtain ⟨_, _, _, _, _, _, rfl, _⟩ := h
    rfl
  · obtain ⟨b, n, c, w, i, j, rfl, B, hi, hj, k⟩ := h
    refine ⟨_, pss_one (ps_ret (pe_cmpR op_gt (pe_ix ix_list (pe_ix ix_list (pe_fld (pv 0) rfl) (pv 1) (fun _ _ => rfl)) (pv 2) (fun _ _ => rfl))
      (pe_ix ix_list (pe_ix ix_list (pe_fld (pv 0) rfl) (pv 2) (fun _ _ => rfl)) (pv 1) (fun _ _ => rfl)) (nomark _))), ?_⟩
    refine s_ret (v := .bl (bt w i j)) (ev_is (ev_op (ev_wins T B (ev_var rfl) (ev_var rfl) (ev_var rfl) hi hj) (ev_wins T B (ev_var rfl) (ev_var rfl) (ev_var rfl) hj hi) rv_I0) ?_) (fun H1 e => k H1 e)
    refine congrArg V.bl ?_
    unfold bt
    exact decide_eq_decide.mpr (by omega)

/-! ### everybody -/
def spEv (C : Addr) : Sp := fun vs H Q _ => ∃ b n c w, vs = [.ref b] ∧ BalAt C H b n c w ∧ RetL ((List.range n).map vN) H Q
theorem sl_ev {H : Hp} {b n c w} (B : BalAt C H b n c w) : SpL (spEv C) [.ref b] H ((List.range n).map vN) := fun H1 e Q q E => ⟨b, n, c, w, rfl, B.mono e, q⟩
theorem sc_ev : FnScope ["ballots"] ["ballots"] (defScope (top 7)) := ⟨rfl, rfl, rfl, by decide +kernel, rfl, by decide +kernel, by decide +kernel⟩
theorem fn_ev (D : Dn K mg "everybody" (top 7)) (T : BTxt K C) (ml : mg "list" = none) (mr : mg "range" = none) : Fn P w K mg base "everybody" 1 (spEv C) := by
  refine D.fn sc_ev (fun vs H Q E h => ?_) (fun _ _ _ _ _ _ us hl => match us, hl with | [_], _ => rfl) (fun f cdv A outer s H vs Q E hr h => ?_)
  · obtain ⟨_, _, _, _, rfl, _⟩ := h
    rfl
  · obtain ⟨b, n, c, w, rfl, B, k⟩ := h
    refine ⟨_, pss_one (ps_ret (pe_listRg rfl rfl ml (prg_1 rfl mr (pe_fld (pv 0) rfl)))), ?_⟩
    have h6 := B.1
    exact s_retL (el_range (ev_many T B (ev_var rfl)) (by omega)) k

/-! ### beats_all -/
def spBall (C : Addr) : Sp := fun vs H Q _ => ∃ b n c w i a ns, vs = [.ref b, vN i, .ref a] ∧ BalAt C H b n c w ∧ i < n ∧ H a = some (.lst (ns.map vN)) ∧ ns.length ≤ 1000 ∧ (∀ x ∈ ns, x < n) ∧ RetV (.bl (ball w i ns)) H Q
theorem sv_ball {H : Hp} {b n c w i a ns} (B : BalAt C H b n c w) (hi : i < n) (ha : H a = some (.lst (ns.map vN))) (hl : ns.length ≤ 1000) (hn : ∀ x ∈ ns, x < n) : SpV (spBall C) [.ref b, vN i, .ref a] H (.bl (ball w i ns)) :=
  fun H1 e Q q E => ⟨b, n, c, w, i, a, ns, rfl, B.mono e, hi, e _ _ ha, hl, hn, q⟩
theorem sc_ball : FnScope ["ballots", "one", "others", "other"] ["ballots", "one", "others"] (defScope (top 6)) := ⟨rfl, rfl, rfl, by decide +kernel, rfl, by decide +kernel, by decide +kernel⟩
theorem all_map (f : Nat → Bool) (ns : List Nat) : (ns.map f).all id = ns.all f := by
  rw [List.all_map]
  rfl
theorem any_map (f : Nat → Bool) (ns : List Nat) : (ns.map f).any id = ns.any f := by
  rw [List.any_map]
  rfl
theorem map_bl (f : Nat → Bool) (ns : List Nat) : (ns.map fun x => V.bl (f x)) = (ns.map f).map V.bl := by
  rw [List.map_map]
  rfl
theorem fn_ball (D : Dn K mg "beats_all" (top 6)) (hB : Fn P w K mg base "beats" 1 (spBeats C)) (ma : mg "all" = none) : Fn P w K mg base "beats_all" 2 (spBall C) := by
  refine D.fn sc_ball (fun vs H Q E h => ?_) (fun _ _ _ _ _ _ us hl => match us, hl with | [_, _, _], _ => rfl) (fun f cdv A outer s H vs Q E hr h => ?_)
  · obtain ⟨_, _, _, _, _, _, _, rfl, _⟩ := h
    rfl
  · obtain ⟨b, n, c, w, i, a, ns, rfl, B, hi, ha, hl, hn, k⟩ := h
    refine ⟨_, pss_one (ps_ret (pe_callB (cr_all rfl) rfl ma (by decide +kernel) (pa_cons (pe_lc (own := [("other", 3)]) (g := gName 3) (tt := tYes) rfl sc_ball.nd (pi_list (pv 2)) (blkOk_by (N := ["ballots", "one", "others", "other"]) (sc := defScope (top 6)) (by decide +kernel))
      (fun _ _ _ _ _ => pg_name (i := 3) sc_ball.nd rfl (Or.inl rfl)) (fun _ _ _ _ _ => pts_nil)
      (fun _ _ _ _ _ => pe_fn hB hr (by decide) (pa_cons (pv 0) (pa_cons (pv 1) (pa_cons (pv 3) pa_nil))))) pa_nil))), ?_⟩
    have e1 : EvL (tLc (iList K (tVar 2)) (gName 3) tYes (tCall (spBeats C) [] E0 (tCons (tVar 0) (tCons (tVar 1) (tCons (tVar 3) tNil)))) [3]) (start ["ballots", "one", "others", "other"] [.ref b, vN i, .ref a]) H ((ns.map (bt w i)).map V.bl) := by
      rw [← map_bl]
      exact el_map (fun x => V.bl (bt w i x)) (ev_var rfl) (sq_of ha) (by omega) (fun _ => rfl) fun x H1 e hx =>
        ev_call (ea_cons (ev_var rfl) (ea_cons (ev_var rfl) (ea_cons (ev_var rfl) ea_nil))) (sv_beats (B.mono e) hi (hn x hx))
    refine s_ret (ev_all e1) (fun H1 e => ?_)
    rw [all_map]
    exact k H1 e
end
end TV
/-! part TvF2 -/
namespace TV
open PySem PySem.Spec PyProof.Rows L2 Evl
section
variable {K : PySem.W.Frag} {σ : L2.St} {H H' : Hp} {ta tb te tl : TE} {t u : TT} {x y z v : V} {r : R2}
/-- sorted(a list of ints), fewer than 64 -/
theorem el_sorted {a : Addr} {ns : List Nat} (h : Ev te σ H (.ref a)) (ha : H a = some (.lst (ns.map vN))) (hl : ns.length < 64) : EvL (tCB (rSorted K) (tCons te tNil)) σ H ((srt ns).map vN) := fun H1 e Q q =>
  h H1 e _ fun H2 e2 => ⟨a, ns.map fun x => ((x : Nat) : Int), rfl, (by rw [← map_vN]; exact sq_of (e2 _ _ (e _ _ ha))), (by rw [List.length_map]; exact hl), fun ns' p hp hs hn => by
    have e1 : ns' = (srt ns).map fun x => ((x : Nat) : Int) := by
      refine List.Perm.eq_of_pairwise (le := (· ≤ ·)) (fun a b _ _ => Int.le_antisymm) hs ?_ (hp.trans ((srt_perm ns).map _).symm)
      rw [List.pairwise_map]
      exact (srt_le ns).imp fun h => Int.ofNat_le.mpr h
    rw [e1, ← map_vN]
    exact q p _ (fresh_back e2 hn) (e2.trans (Ex.new hn)) upd_same⟩
theorem dp_ints {K : PySem.W.Frag} {H : Hp} : ∀ ns : List Nat, DpAll K H (ns.map vN) ((ns.map fun x => ((x : Nat) : Int)).map PyData.int)
  | [] => .nil
  | n :: r => .cons (.int _) (dp_ints r)
theorem inj_cast {l k : List Nat} : (l.map fun x => ((x : Nat) : Int)) = (k.map fun x => ((x : Nat) : Int)) ↔ l = k := by
  constructor
  · intro h
    have := congrArg (List.map Int.toNat) h
    rw [List.map_map, List.map_map] at this
    have e : (Int.toNat ∘ fun x : Nat => (x : Int)) = id := by
      funext x
      exact Int.toNat_natCast x
    rw [e, List.map_id, List.map_id] at this
    exact this
  · rintro rfl
    rfl
/-- two lists of ints are equal -/
theorem rv_eqL {a b : Addr} {ns ms : List Nat} (ha : SqL K H a (ns.map vN)) (hb : SqL K H b (ms.map vN)) : RV (rEqD K) (.ref a) (.ref b) H (.bl (decide (ns = ms))) := fun H1 e Q q =>
  ⟨_, _, .lst (ex_l e ha) (dp_ints ns), .lst (ex_l e hb) (dp_ints ms), PySem.W.shaped_ints _, PySem.W.shaped_ints _, by
    have e1 : PyData.eqv (.list ((ns.map fun x => ((x : Nat) : Int)).map PyData.int)) (.list ((ms.map fun x => ((x : Nat) : Int)).map PyData.int)) = decide (ns = ms) := by
      simp only [PyData.eqv]
      rw [PySem.W.ked_eqvAll]
      exact decide_eq_decide.mpr inj_cast
    rw [e1]
    exact q H1 (Ex.refl H1)⟩
theorem rv_neL {a b : Addr} {ns ms : List Nat} (ha : SqL K H a (ns.map vN)) (hb : SqL K H b (ms.map vN)) : RV (rNeD K) (.ref a) (.ref b) H (.bl (!decide (ns = ms))) := fun H1 e Q q =>
  ⟨_, _, .lst (ex_l e ha) (dp_ints ns), .lst (ex_l e hb) (dp_ints ms), PySem.W.shaped_ints _, PySem.W.shaped_ints _, by
    have e1 : PyData.eqv (.list ((ns.map fun x => ((x : Nat) : Int)).map PyData.int)) (.list ((ms.map fun x => ((x : Nat) : Int)).map PyData.int)) = decide (ns = ms) := by
      simp only [PyData.eqv]
      rw [PySem.W.ked_eqvAll]
      exact decide_eq_decide.mpr inj_cast
    rw [e1]
    exact q H1 (Ex.refl H1)⟩
end
section
variable {P : Program} {w : World} {K : PySem.W.Frag} {mg : Str → Option Value} {base : Heap} {C : Addr}
/-! ### members, others_than -/
def spMem (C : Addr) : Sp := fun vs H Q _ => ∃ b n c w m, vs = [.ref b, vN m] ∧ BalAt C H b n c w ∧ RetL ((mem n m).map vN) H Q
def spOth (C : Addr) : Sp := fun vs H Q _ => ∃ b n c w m, vs = [.ref b, vN m] ∧ BalAt C H b n c w ∧ RetL ((oth n m).map vN) H Q
theorem sl_mem {H : Hp} {b n c w m} (B : BalAt C H b n c w) : SpL (spMem C) [.ref b, vN m] H ((mem n m).map vN) := fun H1 e Q q E => ⟨b, n, c, w, m, rfl, B.mono e, q⟩
theorem sl_oth {H : Hp} {b n c w m} (B : BalAt C H b n c w) : SpL (spOth C) [.ref b, vN m] H ((oth n m).map vN) := fun H1 e Q q E => ⟨b, n, c, w, m, rfl, B.mono e, q⟩
theorem sc_mem : FnScope ["ballots", "mask", "candidate"] ["ballots", "mask"] (defScope (top 9)) := ⟨rfl, rfl, rfl, by decide +kernel, rfl, by decide +kernel, by decide +kernel⟩
theorem sc_oth : FnScope ["ballots", "mask", "candidate"] ["ballots", "mask"] (defScope (top 10)) := ⟨rfl, rfl, rfl, by decide +kernel, rfl, by decide +kernel, by decide +kernel⟩
theorem fn_mem (D : Dn K mg "members" (top 9)) (hE : Fn P w K mg base "everybody" 1 (spEv C)) : Fn P w K mg base "members" 2 (spMem C) := by
  refine D.fn sc_mem (fun vs H Q E h => ?_) (fun _ _ _ _ _ _ us hl => match us, hl with | [_, _], _ => rfl) (fun f cdv A outer s H vs Q E hr h => ?_)
  · obtain ⟨_, _, _, _, _, rfl, _⟩ := h
    rfl
  · obtain ⟨b, n, c, w, m, rfl, B, k⟩ := h
    refine ⟨_, pss_one (ps_ret (pe_lc (own := [("candidate", 2)]) (g := gName 2) rfl sc_mem.nd (pi_list (pe_fn hE hr (by decide) (pa_cons (pv 0) pa_nil))) (blkOk_by (N := ["ballots", "mask", "candidate"]) (sc := defScope (top 9)) (by decide +kernel))
      (fun _ _ _ _ _ => pg_name (i := 2) sc_mem.nd rfl (Or.inl rfl)) (fun _ _ _ _ _ => pts_one (pt_cmpR op_eq (pe_op op_and (pe_op op_shr (pv 1) (pv 2)) pe_int) pe_int (nomark _)))
      (fun _ _ _ _ _ => pv 2))), ?_⟩
    have h6 := B.1
    refine s_retL (xs := (mem n m).map vN) (el_lcN (fun i => m.testBit i) vN (el_call (ea_cons (ev_var rfl) ea_nil) (sl_ev B)) (by rw [List.length_range]; omega) (fun _ => rfl) (fun x H1 e hx => ?_) (fun x H1 e hx _ => ev_var rfl)) k
    refine et_is (et_test (ev_op (ev_bit (ev_var rfl) (ev_var rfl)) ev_c (rv_eq rfl))) ?_
    cases m.testBit x <;> rfl
theorem fn_oth (D : Dn K mg "others_than" (top 10)) (hE : Fn P w K mg base "everybody" 1 (spEv C)) : Fn P w K mg base "others_than" 2 (spOth C) := by
  refine D.fn sc_oth (fun vs H Q E h => ?_) (fun _ _ _ _ _ _ us hl => match us, hl with | [_, _], _ => rfl) (fun f cdv A outer s H vs Q E hr h => ?_)
  · obtain ⟨_, _, _, _, _, rfl, _⟩ := h
    rfl
  · obtain ⟨b, n, c, w, m, rfl, B, k⟩ := h
    refine ⟨_, pss_one (ps_ret (pe_lc (own := [("candidate", 2)]) (g := gName 2) rfl sc_oth.nd (pi_list (pe_fn hE hr (by decide) (pa_cons (pv 0) pa_nil))) (blkOk_by (N := ["ballots", "mask", "candidate"]) (sc := defScope (top 10)) (by decide +kernel))
      (fun _ _ _ _ _ => pg_name (i := 2) sc_oth.nd rfl (Or.inl rfl)) (fun _ _ _ _ _ => pts_one (pt_cmpR op_eq (pe_op op_and (pe_op op_shr (pv 1) (pv 2)) pe_int) pe_int (nomark _)))
      (fun _ _ _ _ _ => pv 2))), ?_⟩
    have h6 := B.1
    refine s_retL (xs := (oth n m).map vN) (el_lcN (fun i => !m.testBit i) vN (el_call (ea_cons (ev_var rfl) ea_nil) (sl_ev B)) (by rw [List.length_range]; omega) (fun _ => rfl) (fun x H1 e hx => ?_) (fun x H1 e hx _ => ev_var rfl)) k
    refine et_is (et_test (ev_op (ev_bit (ev_var rfl) (ev_var rfl)) ev_c (rv_eq rfl))) ?_
    cases m.testBit x <;> rfl
/-! ### told_set -/
def spTold : Sp := fun vs H Q _ => ∃ a ns, vs = [.ref a] ∧ H a = some (.lst (ns.map vN)) ∧ ns.length ≤ 1000 ∧ (∀ x ∈ ns, x ≤ 1000) ∧ RetV (vN (told ns)) H Q
theorem sv_told {H : Hp} {a ns} (ha : H a = some (.lst (ns.map vN))) (hl : ns.length ≤ 1000) (hx : ∀ x ∈ ns, x ≤ 1000) : SpV spTold [.ref a] H (vN (told ns)) := fun H1 e Q q E => ⟨a, ns, rfl, e _ _ ha, hl, hx, q⟩
theorem sc_told : FnScope ["candidates", "candidate"] ["candidates"] (defScope (top 8)) := ⟨rfl, rfl, rfl, by decide +kernel, rfl, by decide +kernel, by decide +kernel⟩
theorem fn_told (D : Dn K mg "told_set" (top 8)) (ms : mg "sum" = none) : Fn P w K mg base "told_set" 1 spTold := by
  refine D.fn sc_told (fun vs H Q E h => ?_) (fun _ _ _ _ _ _ us hl => match us, hl with | [_], _ => rfl) (fun f cdv A outer s H vs Q E hr h => ?_)
  · obtain ⟨_, _, rfl, _⟩ := h
    rfl
  · obtain ⟨a, ns, rfl, ha, hl, hx, k⟩ := h
    refine ⟨_, pss_one (ps_ret (pe_callB (cr_sum rfl) rfl ms (by decide +kernel) (pa_cons (pe_lc (own := [("candidate", 1)]) (g := gName 1) (tt := tYes) rfl sc_told.nd (pi_list (pv 0)) (blkOk_by (N := ["candidates", "candidate"]) (sc := defScope (top 8)) (by decide +kernel))
      (fun _ _ _ _ _ => pg_name (i := 1) sc_told.nd rfl (Or.inl rfl)) (fun _ _ _ _ _ => pts_nil)
      (fun _ _ _ _ _ => pe_op op_shl pe_int (pv 1))) pa_nil))), ?_⟩
    refine s_ret (v := vN (told ns)) (ev_sum (ns := ns.map fun i => 2 ^ i) ?_) k
    rw [List.map_map]
    exact el_map (fun x => vN (2 ^ x)) (ev_var rfl) (sq_of ha) (by omega) (fun _ => rfl) fun x H1 e m => ev_pow (ev_var rfl) (by have := hx x m; omega)
/-! ### is_order -/
def spOrd (C : Addr) : Sp := fun vs H Q _ => ∃ b n c w a ns, vs = [.ref b, .ref a] ∧ BalAt C H b n c w ∧ H a = some (.lst (ns.map vN)) ∧ ns.length < 64 ∧ RetV (.bl (Rc61.each n ns)) H Q
theorem sv_ord {H : Hp} {b n c w a ns} (B : BalAt C H b n c w) (ha : H a = some (.lst (ns.map vN))) (hl : ns.length < 64) : SpV (spOrd C) [.ref b, .ref a] H (.bl (Rc61.each n ns)) := fun H1 e Q q E => ⟨b, n, c, w, a, ns, rfl, B.mono e, e _ _ ha, hl, q⟩
theorem sc_ord : FnScope ["ballots", "order"] ["ballots", "order"] (defScope (top 3)) := ⟨rfl, rfl, rfl, by decide +kernel, rfl, by decide +kernel, by decide +kernel⟩
theorem fn_ord (D : Dn K mg "is_order" (top 3)) (T : BTxt K C) (ms : mg "sorted" = none) (ml : mg "list" = none) (mr : mg "range" = none) : Fn P w K mg base "is_order" 1 (spOrd C) := by
  refine D.fn sc_ord (fun vs H Q E h => ?_) (fun _ _ _ _ _ _ us hl => match us, hl with | [_, _], _ => rfl) (fun f cdv A outer s H vs Q E hr h => ?_)
  · obtain ⟨_, _, _, _, _, _, rfl, _⟩ := h
    rfl
  · obtain ⟨b, n, c, w, a, ns, rfl, B, ha, hl, k⟩ := h
    refine ⟨_, pss_one (ps_ret (pe_cmpR (op_eqD hr.units) (pe_callB cr_sorted rfl ms (by decide +kernel) (pa_cons (pv 1) pa_nil)) (pe_listRg rfl rfl ml (prg_1 rfl mr (pe_fld (pv 0) rfl))) (nomark _))), ?_⟩
    have h6 := B.1
    refine s_ret (v := .bl (Rc61.each n ns)) (ev_opLL (el_sorted (ev_var rfl) ha hl) (el_range (ev_many T B (ev_var rfl)) (by omega)) fun p q H1 hp hq e => ?_) k
    rw [each_eq]
    exact rv_eqL (sq_of hp) (sq_of hq)
end
end TV
/-! part TvF3 -/
namespace TV
open PySem PySem.Spec PyProof.Rows L2 Evl
section
variable {K : PySem.W.Frag} {σ : L2.St} {H H' : Hp} {ta tb te tl : TE} {t u : TT} {x y z v : V} {r : R2} {sp : Sp} {E : XK}
/-- a call whose last argument is a new list -/
theorem ev_call3L {xs : List V} (ha : Ev ta σ H x) (hb : Ev tb σ H y) (hl : EvL tl σ H xs) (hs : ∀ p H1, Ex H H1 → H1 p = some (.lst xs) → SpV sp [x, y, .ref p] H1 z) : Ev (tCall sp [] E (tCons ta (tCons tb (tCons tl tNil)))) σ H z := fun H1 e Q q =>
  ha H1 e _ fun H2 e2 => hb H2 (e.trans e2) _ fun H3 e3 => hl H3 ((e.trans e2).trans e3) _ fun p H4 _ e4 hp => hs p H4 (((e.trans e2).trans e3).trans e4) hp H4 (Ex.refl H4) Q (fun H5 e5 => q H5 (((e2.trans e3).trans e4).trans e5)) E
theorem ev_call1L {xs : List V} (hl : EvL tl σ H xs) (hs : ∀ p H1, Ex H H1 → H1 p = some (.lst xs) → SpV sp [.ref p] H1 z) : Ev (tCall sp [] E (tCons tl tNil)) σ H z := fun H1 e Q q =>
  hl H1 e _ fun p H2 _ e2 hp => hs p H2 (e.trans e2) hp H2 (Ex.refl H2) Q (fun H3 e3 => q H3 (e2.trans e3)) E
theorem el_call2L {xs ys : List V} (ha : Ev ta σ H x) (hl : EvL tl σ H xs) (hs : ∀ p H1, Ex H H1 → H1 p = some (.lst xs) → SpL sp [x, .ref p] H1 ys) : EvL (tCall sp [] E (tCons ta (tCons tl tNil))) σ H ys := fun H1 e Q q =>
  ha H1 e _ fun H2 e2 => hl H2 (e.trans e2) _ fun p H3 _ e3 hp => hs p H3 ((e.trans e2).trans e3) hp H3 (Ex.refl H3) Q (fun r H4 hr e4 h4 => q r H4 (fresh_back (e2.trans e3) hr) ((e2.trans e3).trans e4) h4) E
theorem cut_from (xs : List V) (k : Nat) : cutV xs (some (k : Int)) none = xs.drop k := by
  unfold cutV
  rw [HT.sIx_nat, HT.sIx_none]
  by_cases h : k ≤ xs.length
  · rw [Nat.min_eq_left h, List.take_of_length_le (by rw [List.length_drop]; exact Nat.le_refl _)]
  · rw [Nat.min_eq_right (by omega), List.drop_eq_nil_of_le (Nat.le_refl _), List.drop_eq_nil_of_le (by omega), List.take_nil]
theorem cut_mid (xs : List V) (k j : Nat) (hk : k ≤ xs.length) (hj : j ≤ xs.length) : cutV xs (some (k : Int)) (some (j : Int)) = (xs.drop k).take (j - k) := by
  unfold cutV
  rw [HT.sIx_nat, HT.sIx_nat, Nat.min_eq_left hk, Nat.min_eq_left hj]
theorem range_get {n i : Nat} {x : V} (h : ((List.range n).map vN)[i]? = some x) : x = vN i ∧ i < n := by
  obtain ⟨k, hk, rfl⟩ := map_get h
  have hi : i < n := by
    have := (List.getElem?_eq_some_iff.mp hk).1
    rwa [List.length_range] at this
  rw [List.getElem?_range hi] at hk
  cases hk
  exact ⟨rfl, hi⟩
theorem take_range_succ {n i : Nat} (h : i < n) : (List.range n).take (i + 1) = (List.range n).take i ++ [i] := by
  rw [List.take_add_one, List.getElem?_range h]
  rfl
end
section
variable {P : Program} {w : World} {K : PySem.W.Frag} {mg : Str → Option Value} {base : Heap} {C : Addr}
/-! ### first_of_all -/
def opV (o : Option Nat) : V := match o with
  | some i => vN i
  | none => .non
def spFirst (C : Addr) : Sp := fun vs H Q _ => ∃ b n c w, vs = [.ref b] ∧ BalAt C H b n c w ∧ RetV (opV (firstW n w)) H Q
theorem sv_first {H : Hp} {b n c w} (B : BalAt C H b n c w) : SpV (spFirst C) [.ref b] H (opV (firstW n w)) := fun H1 e Q q E => ⟨b, n, c, w, rfl, B.mono e, q⟩
theorem sc_first : FnScope ["ballots", "candidate"] ["ballots"] (defScope (top 12)) := ⟨rfl, rfl, rfl, by decide +kernel, rfl, by decide +kernel, by decide +kernel⟩
theorem fn_first (D : Dn K mg "first_of_all" (top 12)) (hE : Fn P w K mg base "everybody" 1 (spEv C)) (hBa : Fn P w K mg base "beats_all" 2 (spBall C)) (hO : Fn P w K mg base "others_than" 2 (spOth C)) : Fn P w K mg base "first_of_all" 3 (spFirst C) := by
  refine D.fn sc_first (fun vs H Q E h => ?_) (fun _ _ _ _ _ _ us hl => match us, hl with | [_], _ => rfl) (fun f cdv A outer s H vs Q E hr h => ?_)
  · obtain ⟨_, _, _, _, rfl, _⟩ := h
    rfl
  · obtain ⟨b, n, c, w, rfl, B, k⟩ := h
    refine ⟨_, pss_cons (ps_for PassesOwn.never rfl (pi_list (pe_fn hE hr (by decide) (pa_cons (pv 0) pa_nil))) (pg_name (i := 1) sc_first.nd rfl (Or.inl rfl))
      (pss_one (ps_if (pt_val (pe_fn hBa hr (by decide) (pa_cons (pv 0) (pa_cons (pv 1) (pa_cons (pe_fn hO hr (by decide) (pa_cons (pv 0) (pa_cons (pe_op op_shl pe_int (pv 1)) pa_nil))) pa_nil))))) (pss_one (ps_ret (pv 1))) pss_nil)))
      (pss_one (ps_ret pe_non)), ?_⟩
    have h6 := B.1
    refine q_forNLn (xs := (List.range n).map vN) (el_call (ea_cons (ev_var rfl) ea_nil) (sl_ev B))
      (fun p i σ' H' => ∃ v, σ' = [some (.ref b), v] ∧ Ex H H' ∧ H' p = some (.lst ((List.range n).map vN)) ∧ ∀ j, j < i → ball w j (oth n (2 ^ j)) = false)
      (fun p H1 hp e h1 => ⟨_, rfl, e, h1, fun j hj => absurd hj (Nat.not_lt_zero _)⟩) (fun p i σ' H' _ ⟨_, _, _, h1, _⟩ => sq_of h1) ?_ ?_
    · rintro p i x σ' H' hx ⟨v, rfl, e, h1, ih⟩
      obtain ⟨rfl, hi⟩ := range_get hx
      have B1 := B.mono e
      refine s_when (b := ball w i (oth n (2 ^ i))) (et_B (ev_call3L (ev_var rfl) (ev_var rfl) (el_call (ea_cons (ev_var rfl) (ea_cons (ev_pow (ev_var rfl) (by omega)) ea_nil)) (sl_oth B1)) fun q H2 e2 h2 =>
        sv_ball (B1.mono e2) hi h2 (by have := List.length_filter_le (fun j => !(2 ^ i).testBit j) (List.range n); rw [List.length_range] at this; show (List.filter _ _).length ≤ 1000; omega) fun x hx => (mem_oth.mp hx).1)) (fun hb H2 e2 => ?_) (fun hb H2 e2 => ?_)
      · refine s_ret (ev_var rfl) fun H3 e3 => ?_
        have ef : firstW n w = some i := by
          unfold firstW
          rw [List.find?_range_eq_some]
          exact ⟨hb, List.mem_range.mpr hi, fun j hj => by rw [ih j hj] <;> rfl⟩
        have := k H3 ((e.trans e2).trans e3)
        rw [ef] at this
        exact this
      · refine ⟨_, rfl, e.trans e2, e2 _ _ h1, fun j hj => ?_⟩
        by_cases q : j = i
        · rw [q]; exact hb
        · exact ih j (by omega)
    · rintro p σ' H' ⟨v, rfl, e, h1, ih⟩
      rw [List.length_map, List.length_range] at ih
      refine s_ret ev_c fun H3 e3 => ?_
      have ef : firstW n w = none := by
        unfold firstW
        rw [List.find?_eq_none]
        intro j hj
        rw [ih j (List.mem_range.mp hj)]
        decide
      have := k H3 (e.trans e3)
      rw [ef] at this
      exact this
/-! ### is_group -/
def spGrp (C : Addr) : Sp := fun vs H Q _ => ∃ b n c w m, vs = [.ref b, vN m] ∧ BalAt C H b n c w ∧ RetV (.bl (isGrp n w m)) H Q
theorem sv_grp {H : Hp} {b n c w m} (B : BalAt C H b n c w) : SpV (spGrp C) [.ref b, vN m] H (.bl (isGrp n w m)) := fun H1 e Q q E => ⟨b, n, c, w, m, rfl, B.mono e, q⟩
theorem sc_grp : FnScope ["ballots", "mask", "outside", "candidate"] ["ballots", "mask"] (defScope (top 13)) := ⟨rfl, rfl, rfl, by decide +kernel, rfl, by decide +kernel, by decide +kernel⟩
theorem mem_len (n m : Nat) : (mem n m).length ≤ n := by
  have := List.length_filter_le (fun j => m.testBit j) (List.range n)
  rwa [List.length_range] at this
theorem oth_len (n m : Nat) : (oth n m).length ≤ n := by
  have := List.length_filter_le (fun j => !m.testBit j) (List.range n)
  rwa [List.length_range] at this
theorem fn_grp (D : Dn K mg "is_group" (top 13)) (hBa : Fn P w K mg base "beats_all" 2 (spBall C)) (hO : Fn P w K mg base "others_than" 2 (spOth C)) (hM : Fn P w K mg base "members" 2 (spMem C)) (ma : mg "all" = none) : Fn P w K mg base "is_group" 3 (spGrp C) := by
  refine D.fn sc_grp (fun vs H Q E h => ?_) (fun _ _ _ _ _ _ us hl => match us, hl with | [_, _], _ => rfl) (fun f cdv A outer s H vs Q E hr h => ?_)
  · obtain ⟨_, _, _, _, _, rfl, _⟩ := h
    rfl
  · obtain ⟨b, n, c, w, m, rfl, B, k⟩ := h
    refine ⟨_, pss_cons (ps_set (i := 2) sc_grp.nd rfl (Or.inr rfl) (pe_fn hO hr (by decide) (pa_cons (pv 0) (pa_cons (pv 1) pa_nil))))
      (pss_one (ps_ret (pe_callB (cr_all rfl) rfl ma (by decide +kernel) (pa_cons (pe_lc (own := [("candidate", 3)]) (g := gName 3) (tt := tYes) rfl sc_grp.nd (pi_list (pe_fn hM hr (by decide) (pa_cons (pv 0) (pa_cons (pv 1) pa_nil)))) (blkOk_by (N := ["ballots", "mask", "outside", "candidate"]) (sc := defScope (top 13)) (by decide +kernel))
        (fun _ _ _ _ _ => pg_name (i := 3) sc_grp.nd rfl (Or.inl rfl)) (fun _ _ _ _ _ => pts_nil)
        (fun _ _ _ _ _ => pe_fn hBa hr (by decide) (pa_cons (pv 0) (pa_cons (pv 3) (pa_cons (pv 2) pa_nil))))) pa_nil)))), ?_⟩
    have h6 := B.1
    refine q_asgL (el_call (ea_cons (ev_var rfl) (ea_cons (ev_var rfl) ea_nil)) (sl_oth B)) fun o H1 ho e1 h1 => ?_
    have B1 := B.mono e1
    refine s_ret (v := .bl (isGrp n w m)) ?_ fun H2 e2 => k H2 (e1.trans e2)
    unfold isGrp
    rw [← all_map]
    refine ev_all ?_
    rw [← map_bl]
    exact el_mapN (fun x => V.bl (ball w x (oth n m))) (el_call (ea_cons (ev_var rfl) (ea_cons (ev_var rfl) ea_nil)) (sl_mem B1)) (by have := mem_len n m; omega) (fun _ => rfl) fun x H2 e2 hx =>
      ev_call (ea_cons (ev_var rfl) (ea_cons (ev_var rfl) (ea_cons (ev_var rfl) ea_nil))) (sv_ball (B1.mono e2) (mem_mem.mp hx).1 (e2 _ _ h1) (by have := oth_len n m; omega) fun y hy => (mem_oth.mp hy).1)
/-! ### smallest_group -/
def spSm (C : Addr) : Sp := fun vs H Q _ => ∃ b n c w, vs = [.ref b] ∧ BalAt C H b n c w ∧ RetV (vN (smallestW n w)) H Q
theorem sv_sm {H : Hp} {b n c w} (B : BalAt C H b n c w) : SpV (spSm C) [.ref b] H (vN (smallestW n w)) := fun H1 e Q q E => ⟨b, n, c, w, rfl, B.mono e, q⟩
theorem sc_sm : FnScope ["ballots", "best", "mask"] ["ballots"] (defScope (top 14)) := ⟨rfl, rfl, rfl, by decide +kernel, rfl, by decide +kernel, by decide +kernel⟩
theorem pow_le6 {n : Nat} (h : n ≤ 6) : 2 ^ n ≤ 64 := (Nat.pow_le_pow_right (by omega) h : 2 ^ n ≤ 2 ^ 6)
/-- (1 << n) - 1 -/
theorem ev_full {K : PySem.W.Frag} {σ : L2.St} {H : Hp} {tb : TE} {n : Nat} (hb : Ev tb σ H (vN n)) (hn : n ≤ 100000) : Ev (tOp (rI0 fun i j => .int (i - j)) (tOp (rI CPow fun i j => .int (i * 2 ^ j.toNat)) (tC (.int 1)) tb) (tC (.int 1))) σ H (vN (2 ^ n - 1)) := by
  have e : vN (2 ^ n - 1) = V.int (((2 ^ n : Nat) : Int) - 1) := by
    have := Nat.two_pow_pos n
    show V.int _ = V.int _
    congr 1
    omega
  rw [e]
  exact ev_op (ev_pow hb hn) ev_c rv_I0
theorem fn_sm (D : Dn K mg "smallest_group" (top 14)) (T : BTxt K C) (hM : Fn P w K mg base "members" 2 (spMem C)) (hG : Fn P w K mg base "is_group" 3 (spGrp C)) (ml : mg "len" = none) (mr : mg "range" = none) : Fn P w K mg base "smallest_group" 4 (spSm C) := by
  refine D.fn sc_sm (fun vs H Q E h => ?_) (fun _ _ _ _ _ _ us hl => match us, hl with | [_], _ => rfl) (fun f cdv A outer s H vs Q E hr h => ?_)
  · obtain ⟨_, _, _, _, rfl, _⟩ := h
    rfl
  · obtain ⟨b, n, c, w, rfl, B, k⟩ := h
    refine ⟨_, pss_cons (ps_set (i := 1) sc_sm.nd rfl (Or.inl rfl) (pe_op op_sub (pe_op op_shl pe_int (pe_fld (pv 0) rfl)) pe_int))
      (pss_cons (ps_for PassesOwn.never rfl (pi_range2 rfl mr (pa_cons pe_int (pa_cons (pe_op op_shl pe_int (pe_fld (pv 0) rfl)) pa_nil))) (pg_name (i := 2) sc_sm.nd rfl (Or.inl rfl))
        (pss_one (ps_if (PW.pt (pw_and (pt_cmpR op_lt (pe_callB call_len_seq rfl ml PySem.boot_len (pa_cons (pe_fn hM hr (by decide) (pa_cons (pv 0) (pa_cons (pv 2) pa_nil))) pa_nil)) (pe_callB call_len_seq rfl ml PySem.boot_len (pa_cons (pe_fn hM hr (by decide) (pa_cons (pv 0) (pa_cons (pv 1) pa_nil))) pa_nil)) (nomark _))
            (pw_and1 (pt_val (pe_fn hG hr (by decide) (pa_cons (pv 0) (pa_cons (pv 2) pa_nil)))))))
          (pss_one (ps_set (i := 1) sc_sm.nd rfl (Or.inl rfl) (pv 2))) pss_nil)))
      (pss_one (ps_ret (pv 1)))), ?_⟩
    have h6 := B.1
    have hp := pow_le6 h6
    have hp1 := Nat.two_pow_pos n
    refine q_asg (ev_full (K := K) (ev_many T B (ev_var rfl)) (by omega)) fun H1 e1 => ?_
    have B1 := B.mono e1
    refine q_forR2 (ea_cons ev_c (ea_cons (ev_pow (ev_many T B1 (ev_var rfl)) (by omega)) ea_nil)) (by omega)
      (fun i σ' H' => ∃ v, σ' = [some (.ref b), some (vN (bestAt n w i)), v] ∧ Ex H H')
      (fun H2 e2 => ⟨_, rfl, e1.trans e2⟩) ?_ ?_
    · rintro i σ' H' hi ⟨v, rfl, e⟩
      have B2 := B.mono e
      have ec : ((1 : Int) + (i : Int)) = ((i + 1 : Nat) : Int) := by omega
      rw [ec]
      have t1 : EvT _ _ H' (decide ((mem n (i + 1)).length < (mem n (bestAt n w i)).length)) := et_is (et_test (ev_op (ev_lenN (K := K) (el_call (E := E0) (ta := tCons (tVar 0) (tCons (tVar 2) tNil)) (σ := [some (V.ref b), some (vN (bestAt n w i)), some (vN (i + 1))]) (ea_cons (ev_var rfl) (ea_cons (ev_var rfl) ea_nil)) (sl_mem B2)))
        (ev_lenN (K := K) (el_call (E := E0) (ta := tCons (tVar 0) (tCons (tVar 1) tNil)) (ea_cons (ev_var rfl) (ea_cons (ev_var rfl) ea_nil)) (sl_mem B2))) (rv_I0 (g := fun i j => .bl (decide (i < j)))))) (decide_eq_decide.mpr (by rw [List.length_map, List.length_map]; omega))
      refine s_when (et_and t1 fun _ => et_B (ev_call (ea_cons (ev_var rfl) (ea_cons (ev_var rfl) ea_nil)) (sv_grp B2))) (fun hb H2 e2 => ?_) (fun hb H2 e2 => ?_)
      · refine s_asg (ev_var rfl) fun H3 e3 => ⟨some (vN (i + 1)), ?_, (e.trans e2).trans e3⟩
        have : bestAt n w (i + 1) = i + 1 := by
          show bestStep n w (bestAt n w i) (i + 1) = i + 1
          unfold bestStep
          rw [if_pos hb]
        rw [this]
        rfl
      · refine ⟨some (vN (i + 1)), ?_, e.trans e2⟩
        have : bestAt n w (i + 1) = bestAt n w i := by
          show bestStep n w (bestAt n w i) (i + 1) = bestAt n w i
          unfold bestStep
          rw [if_neg (by rw [hb]; decide)]
        rw [this]
        rfl
    · rintro σ' H' ⟨v, rfl, e⟩
      refine s_ret (ev_var rfl) fun H3 e3 => ?_
      have en : (((2 ^ n : Nat) : Int) - 1).toNat = 2 ^ n - 1 := by omega
      have := k H3 (e.trans e3)
      unfold smallestW at this
      rw [← en] at this
      exact this
end
end TV
/-! part TvF4 -/
namespace TV
open PySem PySem.Spec PyProof.Rows L2 Evl
section
variable {P : Program} {w : World} {K : PySem.W.Frag} {mg : Str → Option Value} {base : Heap} {C : Addr}
/-! ### covers -/
def spCov (C : Addr) : Sp := fun vs H Q _ => ∃ b n c w i j, vs = [.ref b, vN i, vN j] ∧ BalAt C H b n c w ∧ i < n ∧ j < n ∧ RetV (.bl (cov n w i j)) H Q
theorem sv_cov {H : Hp} {b n c w i j} (B : BalAt C H b n c w) (hi : i < n) (hj : j < n) : SpV (spCov C) [.ref b, vN i, vN j] H (.bl (cov n w i j)) := fun H1 e Q q E => ⟨b, n, c, w, i, j, rfl, B.mono e, hi, hj, q⟩
theorem sc_cov : FnScope ["ballots", "one", "other", "beaten", "candidate"] ["ballots", "one", "other"] (defScope (top 15)) := ⟨rfl, rfl, rfl, by decide +kernel, rfl, by decide +kernel, by decide +kernel⟩
theorem fn_cov (D : Dn K mg "covers" (top 15)) (hE : Fn P w K mg base "everybody" 1 (spEv C)) (hB : Fn P w K mg base "beats" 1 (spBeats C)) (hBa : Fn P w K mg base "beats_all" 2 (spBall C)) : Fn P w K mg base "covers" 3 (spCov C) := by
  refine D.fn sc_cov (fun vs H Q E h => ?_) (fun _ _ _ _ _ _ us hl => match us, hl with | [_, _, _], _ => rfl) (fun f cdv A outer s H vs Q E hr h => ?_)
  · obtain ⟨_, _, _, _, _, _, rfl, _⟩ := h
    rfl
  · obtain ⟨b, n, c, w, i, j, rfl, B, hi, hj, k⟩ := h
    refine ⟨_, pss_cons (ps_setLc (i := 3) (own := [("candidate", 4)]) (g := gName 4) rfl sc_cov.nd rfl rfl (sw_true rfl rfl rfl (by decide +kernel)) (pi_list (pe_fn hE hr (by decide) (pa_cons (pv 0) pa_nil))) (blkOk_by (N := ["ballots", "one", "other", "beaten", "candidate"]) (sc := defScope (top 15)) (by decide +kernel))
        (fun _ _ _ _ _ => pg_name (i := 4) sc_cov.nd rfl (Or.inl rfl)) (fun _ _ _ _ _ => pts_one (pt_val (pe_fn hB hr (by decide) (pa_cons (pv 0) (pa_cons (pv 2) (pa_cons (pv 4) pa_nil)))))) (fun _ _ _ _ _ => pv 4))
      (pss_one (ps_ret (pe_and (pe_fn hB hr (by decide) (pa_cons (pv 0) (pa_cons (pv 1) (pa_cons (pv 2) pa_nil)))) (pe_one (pe_fn hBa hr (by decide) (pa_cons (pv 0) (pa_cons (pv 1) (pa_cons (pv 3) pa_nil)))))))), ?_⟩
    have h6 := B.1
    refine q_asgL (xs := ((List.range n).filter fun k => bt w j k).map vN) (el_lcN (fun x => bt w j x) vN (el_call (ea_cons (ev_var rfl) ea_nil) (sl_ev B)) (by rw [List.length_range]; omega) (fun _ => rfl)
      (fun x H1 e hx => et_B (ev_call (ea_cons (ev_var rfl) (ea_cons (ev_var rfl) (ea_cons (ev_var rfl) ea_nil))) (sv_beats (B.mono e) hj (List.mem_range.mp hx)))) (fun x H1 e hx _ => ev_var rfl)) fun p H1 hp e1 h1 => ?_
    have B1 := B.mono e1
    refine s_ret (v := .bl (cov n w i j)) (ev_andV (ev_call (ea_cons (ev_var rfl) (ea_cons (ev_var rfl) (ea_cons (ev_var rfl) ea_nil))) (sv_beats B1 hi hj)) fun _ =>
      ev_call (ea_cons (ev_var rfl) (ea_cons (ev_var rfl) (ea_cons (ev_var rfl) ea_nil))) (sv_ball B1 hi h1 (by have := List.length_filter_le (fun k => bt w j k) (List.range n); rw [List.length_range] at this; omega) fun x hx => List.mem_range.mp (List.mem_filter.mp hx).1)) fun H2 e2 => k H2 (e1.trans e2)
/-! ### uncovered -/
def spUn (C : Addr) : Sp := fun vs H Q _ => ∃ b n c w, vs = [.ref b] ∧ BalAt C H b n c w ∧ RetL ((uncovW n w).map vN) H Q
theorem sl_un {H : Hp} {b n c w} (B : BalAt C H b n c w) : SpL (spUn C) [.ref b] H ((uncovW n w).map vN) := fun H1 e Q q E => ⟨b, n, c, w, rfl, B.mono e, q⟩
theorem sc_un : FnScope ["ballots", "found", "other", "one"] ["ballots"] (defScope (top 16)) := ⟨rfl, rfl, rfl, by decide +kernel, rfl, by decide +kernel, by decide +kernel⟩
theorem fn_un (D : Dn K mg "uncovered" (top 16)) (hE : Fn P w K mg base "everybody" 1 (spEv C)) (hC : Fn P w K mg base "covers" 3 (spCov C)) (my : mg "any" = none) : Fn P w K mg base "uncovered" 4 (spUn C) := by
  refine D.fn sc_un (fun vs H Q E h => ?_) (fun _ _ _ _ _ _ us hl => match us, hl with | [_], _ => rfl) (fun f cdv A outer s H vs Q E hr h => ?_)
  · obtain ⟨_, _, _, _, rfl, _⟩ := h
    rfl
  · obtain ⟨b, n, c, w, rfl, B, k⟩ := h
    refine ⟨_, pss_cons (ps_set (i := 1) sc_un.nd rfl (Or.inl rfl) (pe_lst pa_nil))
      (pss_cons (ps_for PassesOwn.never rfl (pi_list (pe_fn hE hr (by decide) (pa_cons (pv 0) pa_nil))) (pg_name (i := 2) sc_un.nd rfl (Or.inr rfl))
        (pss_one (ps_if (pt_not (pt_val (pe_callB (cr_any rfl) rfl my (by decide +kernel) (pa_cons (pe_lc (own := [("one", 3)]) (g := gName 3) (tt := tYes) rfl sc_un.nd (pi_list (pe_fn hE hr (by decide) (pa_cons (pv 0) pa_nil))) (blkOk_by (N := ["ballots", "found", "other", "one"]) (sc := defScope (top 16)) (by decide +kernel))
            (fun _ _ _ _ _ => pg_name (i := 3) sc_un.nd rfl (Or.inl rfl)) (fun _ _ _ _ _ => pts_nil) (fun _ _ _ _ _ => pe_fn hC hr (by decide) (pa_cons (pv 0) (pa_cons (pv 3) (pa_cons (pv 2) pa_nil))))) pa_nil))))
          (pss_one (ps_expr (pe_bm PySem.F.plainAttrs_list PySem.F.slot_list_append PySem.F.type_list_append mt_append (pv 1) (pa_cons (pv 2) pa_nil)))) pss_nil)))
      (pss_one (ps_ret (pv 1)))), ?_⟩
    have h6 := B.1
    refine q_asgL (el_lst ea_nil (by decide)) fun F H1 hF e1 h1 => ?_
    have B1 := B.mono e1
    refine q_forNLn (xs := (List.range n).map vN) (el_call (ea_cons (ev_var rfl) ea_nil) (sl_ev B1))
      (fun p i σ' H' => ∃ v, σ' = [some (.ref b), some (.ref F), v, none] ∧ Ex H H' ∧ H' p = some (.lst ((List.range n).map vN)) ∧ p ≠ F ∧ H' F = some (.lst ((((List.range n).take i).filter fun o => !((List.range n).any fun i => cov n w i o)).map vN)))
      (fun p H2 hp e2 h2 => ⟨_, rfl, e1.trans e2, h2, (ne_of_none h1 hp).symm, e2 _ _ h1⟩) (fun p i σ' H' _ ⟨_, _, _, h1, _⟩ => sq_of h1) ?_ ?_
    · rintro p i x σ' H' hx ⟨v, rfl, e, hp, np, hf⟩
      obtain ⟨rfl, hi⟩ := range_get hx
      have B2 := B.mono e
      have tk : ∀ g : Nat → Bool, ((List.range n).take (i + 1)).filter g = ((List.range n).take i).filter g ++ if g i = true then [i] else [] := fun g => by
        rw [take_range_succ hi, List.filter_append, List.filter_cons]
        rfl
      have ta : EvT _ _ H' (!(((List.range n).map fun o => cov n w o i).any id)) := et_not (et_B (ev_any (K := K) (te := tLc (iList K (tCall (spEv C) [] E0 (tCons (tVar 0) tNil))) (gName 3) tYes (tCall (spCov C) [] E0 (tCons (tVar 0) (tCons (tVar 3) (tCons (tVar 2) tNil)))) [3])
        (σ := [some (V.ref b), some (V.ref F), some (vN i), none]) (bs := (List.range n).map fun o => cov n w o i) (by
          rw [← map_bl]
          exact el_mapN (fun o => V.bl (cov n w o i)) (el_call (ea_cons (ev_var rfl) ea_nil) (sl_ev B2)) (by rw [List.length_range]; omega) (fun _ => rfl) fun x H3 e3 hx =>
            ev_call (ea_cons (ev_var rfl) (ea_cons (ev_var rfl) (ea_cons (ev_var rfl) ea_nil))) (sv_cov (B2.mono e3) (List.mem_range.mp hx) hi))))
      rw [any_map] at ta
      refine s_when ta (fun hb H3 e3 => ?_) (fun hb H3 e3 => ?_)
      · refine s_app (e3 _ _ hf) (ev_var rfl) (ev_var rfl) ?_ fun H4 e4 => ?_
        · rw [List.length_map]
          have := List.length_filter_le (fun o => !((List.range n).any fun i => cov n w i o)) ((List.range n).take i)
          rw [List.length_take, List.length_range] at this
          omega
        · refine ⟨_, rfl, Ex.mut ((e.trans e3).trans e4) hF, ?_, np, ?_⟩
          · rw [upd_ne np]
            exact e4 _ _ (e3 _ _ hp)
          · rw [upd_same, tk, if_pos hb, List.map_append]
            rfl
      · refine ⟨_, rfl, e.trans e3, e3 _ _ hp, np, ?_⟩
        rw [tk, if_neg (by rw [hb]; decide), List.append_nil]
        exact e3 _ _ hf
    · rintro p σ' H' ⟨v, rfl, e, hp, np, hf⟩
      rw [List.length_map, List.length_range] at hf
      refine s_ret (ev_var rfl) fun H3 e3 => k F H3 hF (e.trans e3) ?_
      have : (List.range n).take n = List.range n := List.take_of_length_le (by rw [List.length_range]; exact Nat.le_refl _)
      rw [this] at hf
      exact e3 _ _ hf
/-! ### is_headed -/
def spHdd (C : Addr) : Sp := fun vs H Q _ => ∃ b n c w m, vs = [.ref b, vN m] ∧ BalAt C H b n c w ∧ RetV (.bl (hdd n w m)) H Q
theorem sv_hdd {H : Hp} {b n c w m} (B : BalAt C H b n c w) : SpV (spHdd C) [.ref b, vN m] H (.bl (hdd n w m)) := fun H1 e Q q E => ⟨b, n, c, w, m, rfl, B.mono e, q⟩
theorem sc_hdd : FnScope ["ballots", "mask", "chain", "candidate"] ["ballots", "mask"] (defScope (top 17)) := ⟨rfl, rfl, rfl, by decide +kernel, rfl, by decide +kernel, by decide +kernel⟩
theorem fn_hdd (D : Dn K mg "is_headed" (top 17)) (hE : Fn P w K mg base "everybody" 1 (spEv C)) (hM : Fn P w K mg base "members" 2 (spMem C)) (hBa : Fn P w K mg base "beats_all" 2 (spBall C)) (my : mg "any" = none) : Fn P w K mg base "is_headed" 3 (spHdd C) := by
  refine D.fn sc_hdd (fun vs H Q E h => ?_) (fun _ _ _ _ _ _ us hl => match us, hl with | [_, _], _ => rfl) (fun f cdv A outer s H vs Q E hr h => ?_)
  · obtain ⟨_, _, _, _, _, rfl, _⟩ := h
    rfl
  · obtain ⟨b, n, c, w, m, rfl, B, k⟩ := h
    refine ⟨_, pss_cons (ps_set (i := 2) sc_hdd.nd rfl (Or.inr rfl) (pe_fn hM hr (by decide) (pa_cons (pv 0) (pa_cons (pv 1) pa_nil))))
      (pss_one (ps_ret (pe_not (pe_callB (cr_any rfl) rfl my (by decide +kernel) (pa_cons (pe_lc (own := [("candidate", 3)]) (g := gName 3) (tt := tYes) rfl sc_hdd.nd (pi_list (pe_fn hE hr (by decide) (pa_cons (pv 0) pa_nil))) (blkOk_by (N := ["ballots", "mask", "chain", "candidate"]) (sc := defScope (top 17)) (by decide +kernel))
        (fun _ _ _ _ _ => pg_name (i := 3) sc_hdd.nd rfl (Or.inl rfl)) (fun _ _ _ _ _ => pts_nil)
        (fun _ _ _ _ _ => pe_fn hBa hr (by decide) (pa_cons (pv 0) (pa_cons (pv 3) (pa_cons (pv 2) pa_nil))))) pa_nil))))), ?_⟩
    have h6 := B.1
    refine q_asgL (el_call (ea_cons (ev_var rfl) (ea_cons (ev_var rfl) ea_nil)) (sl_mem B)) fun o H1 ho e1 h1 => ?_
    have B1 := B.mono e1
    refine s_ret (v := .bl (hdd n w m)) ?_ fun H2 e2 => k H2 (e1.trans e2)
    unfold hdd
    rw [← any_map]
    refine ev_notV (ev_any ?_)
    rw [← map_bl]
    exact el_mapN (fun x => V.bl (ball w x (mem n m))) (el_call (ea_cons (ev_var rfl) ea_nil) (sl_ev B1)) (by rw [List.length_range]; omega) (fun _ => rfl) fun x H2 e2 hx =>
      ev_call (ea_cons (ev_var rfl) (ea_cons (ev_var rfl) (ea_cons (ev_var rfl) ea_nil))) (sv_ball (B1.mono e2) (List.mem_range.mp hx) (e2 _ _ h1) (by have := mem_len n m; omega) fun y hy => (mem_mem.mp hy).1)
/-! ### heads -/
def spHead (C : Addr) : Sp := fun vs H Q _ => ∃ b n c w i, vs = [.ref b, vN i] ∧ BalAt C H b n c w ∧ i < n ∧ RetV (.bl (headB n w i)) H Q
theorem sv_head {H : Hp} {b n c w i} (B : BalAt C H b n c w) (hi : i < n) : SpV (spHead C) [.ref b, vN i] H (.bl (headB n w i)) := fun H1 e Q q E => ⟨b, n, c, w, i, rfl, B.mono e, hi, q⟩
def spHeads (C : Addr) : Sp := fun vs H Q _ => ∃ b n c w, vs = [.ref b] ∧ BalAt C H b n c w ∧ RetL ((headsW n w).map vN) H Q
theorem sl_heads {H : Hp} {b n c w} (B : BalAt C H b n c w) : SpL (spHeads C) [.ref b] H ((headsW n w).map vN) := fun H1 e Q q E => ⟨b, n, c, w, rfl, B.mono e, q⟩
theorem sc_heads : FnScope ["ballots", "candidate"] ["ballots"] (defScope (top 19)) := ⟨rfl, rfl, rfl, by decide +kernel, rfl, by decide +kernel, by decide +kernel⟩
theorem fn_heads (D : Dn K mg "heads" (top 19)) (hE : Fn P w K mg base "everybody" 1 (spEv C)) (hH : Fn P w K mg base "is_head" 4 (spHead C)) : Fn P w K mg base "heads" 5 (spHeads C) := by
  refine D.fn sc_heads (fun vs H Q E h => ?_) (fun _ _ _ _ _ _ us hl => match us, hl with | [_], _ => rfl) (fun f cdv A outer s H vs Q E hr h => ?_)
  · obtain ⟨_, _, _, _, rfl, _⟩ := h
    rfl
  · obtain ⟨b, n, c, w, rfl, B, k⟩ := h
    refine ⟨_, pss_one (ps_ret (pe_lc (own := [("candidate", 1)]) (g := gName 1) rfl sc_heads.nd (pi_list (pe_fn hE hr (by decide) (pa_cons (pv 0) pa_nil))) (blkOk_by (N := ["ballots", "candidate"]) (sc := defScope (top 19)) (by decide +kernel))
      (fun _ _ _ _ _ => pg_name (i := 1) sc_heads.nd rfl (Or.inl rfl)) (fun _ _ _ _ _ => pts_one (pt_val (pe_fn hH hr (by decide) (pa_cons (pv 0) (pa_cons (pv 1) pa_nil)))))
      (fun _ _ _ _ _ => pv 1))), ?_⟩
    have h6 := B.1
    exact s_retL (xs := (headsW n w).map vN) (el_lcN (headB n w) vN (el_call (ea_cons (ev_var rfl) ea_nil) (sl_ev B)) (by rw [List.length_range]; omega) (fun _ => rfl)
      (fun x H1 e hx => et_B (ev_call (ea_cons (ev_var rfl) (ea_cons (ev_var rfl) ea_nil)) (sv_head (B.mono e) (List.mem_range.mp hx)))) (fun x H1 e hx _ => ev_var rfl)) k
/-! ### by_turns -/
def spTurns (C : Addr) : Sp := fun vs H Q _ => ∃ b n c w a ns, vs = [.ref b, .ref a] ∧ BalAt C H b n c w ∧ H a = some (.lst (ns.map vN)) ∧ ns ≠ [] ∧ ns.length ≤ 1000 ∧ (∀ x ∈ ns, x < n) ∧ RetV (vN (turnsW w ns)) H Q
theorem sv_turns {H : Hp} {b n c w a ns} (B : BalAt C H b n c w) (ha : H a = some (.lst (ns.map vN))) (h0 : ns ≠ []) (hl : ns.length ≤ 1000) (hn : ∀ x ∈ ns, x < n) : SpV (spTurns C) [.ref b, .ref a] H (vN (turnsW w ns)) :=
  fun H1 e Q q E => ⟨b, n, c, w, a, ns, rfl, B.mono e, e _ _ ha, h0, hl, hn, q⟩
theorem sc_turns : FnScope ["ballots", "order", "stands", "candidate"] ["ballots", "order"] (defScope (top 20)) := ⟨rfl, rfl, rfl, by decide +kernel, rfl, by decide +kernel, by decide +kernel⟩
theorem fn_turns (D : Dn K mg "by_turns" (top 20)) (hB : Fn P w K mg base "beats" 1 (spBeats C)) : Fn P w K mg base "by_turns" 2 (spTurns C) := by
  refine D.fn sc_turns (fun vs H Q E h => ?_) (fun _ _ _ _ _ _ us hl => match us, hl with | [_, _], _ => rfl) (fun f cdv A outer s H vs Q E hr h => ?_)
  · obtain ⟨_, _, _, _, _, _, rfl, _⟩ := h
    rfl
  · obtain ⟨b, n, c, w, a, ns, rfl, B, ha, h0, hl, hn, k⟩ := h
    refine ⟨_, pss_cons (ps_set (i := 2) sc_turns.nd rfl (Or.inl rfl) (pe_ix ix_list (pv 1) pe_int (fun _ _ => rfl)))
      (pss_cons (ps_for PassesOwn.never rfl (pi_list (pe_slice sl_list (pv 1) (po_some pe_int) po_none)) (pg_name (i := 3) sc_turns.nd rfl (Or.inl rfl))
        (pss_one (ps_if (pt_val (pe_fn hB hr (by decide) (pa_cons (pv 0) (pa_cons (pv 3) (pa_cons (pv 2) pa_nil))))) (pss_one (ps_set (i := 2) sc_turns.nd rfl (Or.inl rfl) (pv 3))) pss_nil)))
      (pss_one (ps_ret (pv 2)))), ?_⟩
    cases ns with
    | nil => exact absurd rfl h0
    | cons a0 r =>
      have ha0 := hn a0 List.mem_cons_self
      have hr' : ∀ x ∈ r, x < n := fun x hx => hn x (List.mem_cons_of_mem _ hx)
      refine q_asg (v := vN a0) (ev_ix (i := 0) (ev_var rfl) ev_c (sq_of ha) rfl) fun H1 e1 => ?_
      have cut : cutV ((a0 :: r).map vN) (some 1) none = r.map vN := cut_from ((a0 :: r).map vN) 1
      have sl : EvL (tSl (rSlL K) (tVar 1) (tPart (tC (.int 1))) tNoPart) [some (V.ref b), some (V.ref a), some (vN a0), none] H1 (r.map vN) := by
        rw [← cut]
        exact el_sl (ev_var rfl) (eo_some ev_c) eo_none (sq_of (e1 _ _ ha))
      refine q_forNLn (xs := r.map vN) sl
        (fun p i σ' H' => ∃ (v : Option V) (x : Nat), σ' = [some (.ref b), some (.ref a), some (vN x), v] ∧ Ex H H' ∧ H' p = some (.lst (r.map vN)) ∧ x < n ∧ (r.take i).foldl (fun (x : Nat) y => if bt w y x = true then y else x) a0 = x)
        (fun p H2 hp e2 h2 => ⟨_, a0, rfl, e1.trans e2, h2, ha0, rfl⟩) (fun p i σ' H' _ ⟨_, _, _, _, h1, _⟩ => sq_of h1) ?_ ?_
      · rintro p i z σ' H' hz ⟨v, x, rfl, e, hp, hx, ef⟩
        obtain ⟨y, hy, rfl⟩ := map_get hz
        have hyn := hr' y (List.mem_of_getElem? hy)
        have tk : (r.take (i + 1)).foldl (fun (x : Nat) y => if bt w y x = true then y else x) a0 = if bt w y x = true then y else x := by
          rw [List.take_add_one, hy, List.foldl_append, ef]
          rfl
        refine s_when (et_B (ev_call (ea_cons (ev_var rfl) (ea_cons (ev_var rfl) (ea_cons (ev_var rfl) ea_nil))) (sv_beats (B.mono e) hyn hx))) (fun hb H3 e3 => ?_) (fun hb H3 e3 => ?_)
        · refine s_asg (ev_var rfl) fun H4 e4 => ⟨_, y, rfl, (e.trans e3).trans e4, e4 _ _ (e3 _ _ hp), hyn, ?_⟩
          rw [tk, if_pos hb]
        · refine ⟨_, x, rfl, e.trans e3, e3 _ _ hp, hx, ?_⟩
          rw [tk, if_neg (by rw [hb]; decide)]
      · rintro p σ' H' ⟨v, x, rfl, e, hp, hx, ef⟩
        rw [List.length_map, List.take_length] at ef
        refine s_ret (ev_var rfl) fun H3 e3 => ?_
        have := k H3 (e.trans e3)
        rw [show turnsW w (a0 :: r) = x from ef] at this
        exact this
end
end TV
/-! part TvF5 -/
namespace TV
open PySem PySem.Spec PyProof.Rows L2 Evl
section
variable {K : PySem.W.Frag} {σ : L2.St} {H H' : Hp} {ta tb te tl td ty tv : TE} {t u : TT} {x y z v : V} {r : R2} {sp : Sp} {E : XK} {D : Ends} {tz : TS}
theorem et_dnotin {S : Addr} {kvs : List (Key × V)} {k : Key} (hk : Ev ty σ H (kV k)) (hd : Ev td σ H (.ref S)) (hS : H S = some (.dK kvs)) : EvT (tB (tDNotIn ty td)) σ H (!(valV kvs k).isSome) := fun H1 e Q q =>
  hk H1 e _ fun H2 e2 => hd H2 (e.trans e2) _ fun H3 e3 => ⟨S, valV kvs k, rfl, DGet.k (e3 _ _ (e2 _ _ (e _ _ hS))), _, rfl, q H3 (e2.trans e3)⟩
theorem q_dput {S : Addr} {kvs : List (Key × V)} {k : Key} (hS : H S = some (.dK kvs)) (hd : Ev td σ H (.ref S)) (hk : Ev ty σ H (kV k)) (hv : Ev tv σ H v) (hl : kvs.length < 100000) (go : ∀ H1, Ex H H1 → tz D σ (upd H1 S (.dK (putK kvs k v)))) :
    tSeq (sDPut td ty tv) tz D σ H := hv H (Ex.refl H) _ fun H1 e1 => hd H1 e1 _ fun H2 e2 => hk H2 (e1.trans e2) _ fun H3 e3 =>
  ⟨S, _, rfl, DPut.k (e3 _ _ (e2 _ _ (e1 _ _ hS))) (sz_lt hl), go H3 ((e1.trans e2).trans e3)⟩
/-- {k: v} -/
theorem q_disp1 {k : Key} {i : Nat} (hk : ∀ H1, Ex H H1 → Ev ty σ H1 (kV k)) (hv : ∀ H1, Ex H H1 → Ev tv σ H1 v) (go : ∀ p H1, H p = none → Ex H H1 → H1 p = some (.dK [(k, v)]) → tz D (σ.set i (some (.ref p))) H1) :
    tSeq (tAsg (tDisp [(ty, tv)]) (gName i)) tz D σ H := fun p hp => by
  refine hk (upd H p (.dK [])) (Ex.new hp) _ (Ex.refl _) _ fun H1 e1 => hv H1 ((Ex.new hp).trans e1) _ (Ex.refl _) _ fun H2 e2 => ?_
  refine ⟨e2 _ _ (e1 _ _ upd_same), [(k, v)], rfl, (by show 1 ≤ 15; decide), ?_⟩
  have em : mergeK [] [(k, v)] = [(k, v)] := rfl
  rw [em]
  exact go p _ hp (Ex.mut (((Ex.new hp).trans e1).trans e2) hp) upd_same
def keys (L : List Nat) : List (Key × V) := L.map fun (m : Nat) => (Sum.inl (m : Int), V.bl true)
theorem keys_has (L : List Nat) (x : Nat) : (valV (keys L) (Sum.inl (x : Int))).isSome = L.contains x := by
  rw [← valV_any]
  unfold keys
  rw [List.any_map, Bool.eq_iff_iff, List.any_eq_true, List.contains_iff_mem]
  constructor
  · rintro ⟨m, hm, h⟩
    have : (Sum.inl (m : Int) : Key) = Sum.inl (x : Int) := of_decide_eq_true h
    have : (m : Int) = (x : Int) := Sum.inl.inj this
    have : m = x := by omega
    rw [← this]
    exact hm
  · intro h
    exact ⟨x, h, decide_eq_true rfl⟩
theorem keys_put {L : List Nat} {x : Nat} (h : L.contains x = false) : putK (keys L) (Sum.inl (x : Int)) (V.bl true) = keys (L ++ [x]) := by
  have e : valV (keys L) (Sum.inl (x : Int)) = none := by
    have := keys_has L x
    rw [h] at this
    cases q : valV (keys L) (Sum.inl (x : Int)) with
    | none => rfl
    | some v =>
      rw [q] at this
      cases this
  rw [putK_new _ e]
  unfold keys
  rw [List.map_append]
  rfl
theorem keys_len (L : List Nat) : (keys L).length = L.length := List.length_map _
end
section
variable {P : Program} {w : World} {K : PySem.W.Frag} {mg : Str → Option Value} {base : Heap} {C : Addr}
theorem sc_head : FnScope ["ballots", "candidate", "line", "seen", "at", "mask", "behind", "longer", "one"] ["ballots", "candidate"] (defScope (top 18)) := ⟨rfl, rfl, rfl, by decide +kernel, rfl, by decide +kernel, by decide +kernel⟩
/-- what holds between two turns -/
structure HInv (H0 : Hp) (n : Nat) (w : WF) (c : Nat) (L S : Addr) (Ls : List Nat) (at_ : Nat) (H' : Hp) : Prop where
  ex : Ex H0 H'
  nl : H0 L = none
  ns : H0 S = none
  li : Line n w c Ls
  dn : Done n w Ls at_
  le : at_ ≤ Ls.length
  hl : H' L = some (.lst (Ls.map vN))
  hs : H' S = some (.dK (keys Ls))
theorem fn_head (D : Dn K mg "is_head" (top 18)) (hO : Fn P w K mg base "others_than" 2 (spOth C)) (hM : Fn P w K mg base "members" 2 (spMem C)) (hB : Fn P w K mg base "beats" 1 (spBeats C)) (hH : Fn P w K mg base "is_headed" 3 (spHdd C)) (ml : mg "len" = none) (ma : mg "all" = none) : Fn P w K mg base "is_head" 4 (spHead C) := by
  refine D.fn sc_head (fun vs H Q E h => ?_) (fun _ _ _ _ _ _ us hl => match us, hl with | [_, _], _ => rfl) (fun f cdv A outer s H vs Q E hr h => ?_)
  · obtain ⟨_, _, _, _, _, rfl, _⟩ := h
    rfl
  · obtain ⟨b, n, cc, w, c, rfl, B, hc, k⟩ := h
    refine ⟨_, pss_cons (ps_set (i := 2) sc_head.nd rfl (Or.inl rfl) (pe_lst (pa_cons (pe_op op_shl pe_int (pv 1)) pa_nil)))
      (pss_cons (ps_set (i := 3) sc_head.nd rfl (Or.inl rfl) (pe_disp (pps_cons (pe_ix ix_list (pv 2) pe_int (fun _ _ => rfl)) pe_bl pps_nil) (by rfl) (by rfl) (fun z => by cases z) (by decide)))
      (pss_cons (ps_set (i := 4) sc_head.nd rfl (Or.inl rfl) pe_int)
      (pss_cons (ps_while PassesOwn.never (pt_cmpR op_lt (pv 4) (pe_callB call_len_seq rfl ml PySem.boot_len (pa_cons (pv 2) pa_nil)) (nomark _))
        (pss_cons (ps_set (i := 5) sc_head.nd rfl (Or.inl rfl) (pe_ix ix_list (pv 2) (pv 4) (fun _ _ => rfl)))
        (pss_cons (ps_if (pt_val (pe_fn hH hr (by decide) (pa_cons (pv 0) (pa_cons (pv 5) pa_nil)))) (pss_one (ps_ret pe_bl)) pss_nil)
        (pss_cons (ps_for PassesOwn.never rfl (pi_list (pe_fn hO hr (by decide) (pa_cons (pv 0) (pa_cons (pv 5) pa_nil)))) (pg_name (i := 6) sc_head.nd rfl (Or.inr rfl))
          (pss_cons (ps_set (i := 7) sc_head.nd rfl (Or.inl rfl) (pe_op op_or (pv 5) (pe_op op_shl pe_int (pv 6))))
          (pss_one (ps_if (PW.pt (pw_and (pt_cmp (pc_dnotin (hu_of hr) (pv 7) (pv 3))) (pw_and1 (pt_val (pe_callB (cr_all rfl) rfl ma (by decide +kernel) (pa_cons
                (pe_lc (own := [("one", 8)]) (g := gName 8) (tt := tYes) rfl sc_head.nd (pi_list (pe_fn hM hr (by decide) (pa_cons (pv 0) (pa_cons (pv 5) pa_nil)))) (blkOk_by (N := ["ballots", "candidate", "line", "seen", "at", "mask", "behind", "longer", "one"]) (sc := defScope (top 18)) (by decide +kernel))
                  (fun _ _ _ _ _ => pg_name (i := 8) sc_head.nd rfl (Or.inl rfl)) (fun _ _ _ _ _ => pts_nil) (fun _ _ _ _ _ => pe_fn hB hr (by decide) (pa_cons (pv 0) (pa_cons (pv 8) (pa_cons (pv 6) pa_nil))))) pa_nil))))))
            (pss_cons (ps_dput (hu_of hr) (pv 3) (pv 7) pe_bl rfl) (pss_one (ps_expr (pe_bm PySem.F.plainAttrs_list PySem.F.slot_list_append PySem.F.type_list_append mt_append (pv 2) (pa_cons (pv 7) pa_nil))))) pss_nil))))
        (pss_one (ps_aug (i := 4) sc_head.nd rfl (Or.inl rfl) pe_int ip_add))))))
      (pss_one (ps_ret pe_bl))))), ?_⟩
    have h6 := B.1
    have p6 := pow_le6 h6
    refine q_asgL (xs := [vN (2 ^ c)]) (el_lst (ea_cons (ev_pow (ev_var rfl) (by omega)) ea_nil) (by show 1 ≤ 100000; decide)) fun L H1 hL e1 h1 => ?_
    refine q_disp1 (k := Sum.inl ((2 ^ c : Nat) : Int)) (v := .bl true) (fun H2 e2 => ev_ix (i := 0) (ev_var rfl) ev_c (sq_of (e2 _ _ h1)) rfl) (fun H2 e2 => ev_c) fun S H2 hS e2 h2 => ?_
    refine q_asg ev_c fun H3 e3 => ?_
    refine q_while (fun m σ' H' => ∃ (Ls : List Nat) (at_ : Nat) (v5 v6 v7 : Option V), σ' = [some (.ref b), some (vN c), some (.ref L), some (.ref S), some (vN at_), v5, v6, v7, none] ∧ HInv H n w c L S Ls at_ H' ∧ m = 2 ^ n - at_) (2 ^ n)
      ⟨[2 ^ c], 0, none, none, none, rfl, ⟨(e1.trans e2).trans e3, hL, fresh_back e1 hS, Line.one n w c, fun k m hk => absurd hk (Nat.not_lt_zero _), Nat.zero_le _, e3 _ _ (e2 _ _ h1), e3 _ _ h2⟩, rfl⟩ ?_
    rintro m σ' H' ⟨Ls, at_, v5, v6, v7, rfl, I, rfl⟩
    have len := I.li.len hc
    refine ⟨decide (at_ < Ls.length), et_is (et_test (ev_op (ev_var rfl) (ev_len (ev_var rfl) (sq_of I.hl)) (rv_I0 (g := fun i j => .bl (decide (i < j)))))) (decide_eq_decide.mpr (by rw [List.length_map]; omega)), fun hb H4 e4 => ?_, fun hb H4 e4 => ?_⟩
    · have hat := of_decide_eq_true hb
      have B4 := B.mono (I.ex.trans e4)
      have gm : Ls[at_]? = some Ls[at_] := List.getElem?_eq_getElem hat
      generalize Ls[at_] = mk at gm
      have mL : mk ∈ Ls := List.mem_of_getElem? gm
      have mlt := (I.li.rc mk mL).lt hc
      refine ⟨fun σ2 H2 => ∃ (Ls' : List Nat) (v5 v6 v7 : Option V), σ2 = [some (.ref b), some (vN c), some (.ref L), some (.ref S), some (vN (at_ + 1)), v5, v6, v7, none] ∧ HInv H n w c L S Ls' (at_ + 1) H2, fun σ2 H2 ⟨Ls', v5, v6, v7, e, I2⟩ => ⟨2 ^ n - (at_ + 1), by omega, Ls', at_ + 1, v5, v6, v7, e, I2, rfl⟩, ?_⟩
      refine q_asg (v := vN mk) (ev_ix (i := at_) (ev_var rfl) (ev_var rfl) (sq_of (e4 _ _ I.hl)) (by rw [List.getElem?_map, gm]; rfl)) fun H5 e5 => ?_
      have B5 := B4.mono e5
      refine q_when (b := hdd n w mk) (et_B (ev_call (ea_cons (ev_var rfl) (ea_cons (ev_var rfl) ea_nil)) (sv_hdd B5))) (fun hh H6 e6 => ?_) (fun hh H6 e6 => ?_)
      · refine s_ret ev_c fun H7 e7 => ?_
        have := k H7 ((((I.ex.trans e4).trans e5).trans e6).trans e7)
        rw [headB_of hc (I.li.rc mk mL) hh] at this
        exact this
      · have B6 := B5.mono e6
        have ex6 := ((I.ex.trans e4).trans e5).trans e6
        refine q_forNLn (xs := (oth n mk).map vN) (el_call (ea_cons (ev_var rfl) (ea_cons (ev_var rfl) ea_nil)) (sl_oth B6))
          (fun p i σ' H' => ∃ v6 v7 : Option V, σ' = [some (.ref b), some (vN c), some (.ref L), some (.ref S), some (vN at_), some (vN mk), v6, v7, none] ∧ Ex H H' ∧ H' p = some (.lst ((oth n mk).map vN)) ∧ p ≠ L ∧ p ≠ S ∧
            H' L = some (.lst ((((oth n mk).take i).foldl (addExt n w mk) Ls).map vN)) ∧ H' S = some (.dK (keys (((oth n mk).take i).foldl (addExt n w mk) Ls))))
          (fun p H7 hp e7 h7 => ⟨_, _, rfl, ex6.trans e7, h7, fun q => (by rw [q, e6 _ _ (e5 _ _ (e4 _ _ I.hl))] at hp; cases hp), fun q => (by rw [q, e6 _ _ (e5 _ _ (e4 _ _ I.hs))] at hp; cases hp), e7 _ _ (e6 _ _ (e5 _ _ (e4 _ _ I.hl))), e7 _ _ (e6 _ _ (e5 _ _ (e4 _ _ I.hs)))⟩)
          (fun p i σ' H' _ ⟨_, _, _, _, h7, _⟩ => sq_of h7) ?_ ?_
        · rintro p i z σ' H' hz ⟨v6, v7, rfl, ex, hp, npL, npS, hLs, hSs⟩
          obtain ⟨bh, hbh, rfl⟩ := map_get hz
          obtain ⟨bn, bb⟩ := mem_oth.mp (List.mem_of_getElem? hbh)
          have tk : ((oth n mk).take (i + 1)).foldl (addExt n w mk) Ls = addExt n w mk (((oth n mk).take i).foldl (addExt n w mk) Ls) bh := by
            rw [List.take_add_one, hbh, List.foldl_append]
            rfl
          have L1 := (I.li.fold (l := (oth n mk).take i) mL fun j hj => mem_oth.mp (List.mem_of_mem_take hj)).1
          have L2 := (I.li.fold (l := (oth n mk).take (i + 1)) mL fun j hj => mem_oth.mp (List.mem_of_mem_take hj)).1
          have len1 := L1.len hc
          rw [tk]
          generalize ((oth n mk).take i).foldl (addExt n w mk) Ls = Lx at hLs hSs L1 len1 ⊢
          refine q_asg (v := vN (mk ||| 2 ^ bh)) (ev_or (ev_var rfl) (ev_pow (ev_var rfl) (by omega))) fun H7 e7 => ?_
          have B7 := B.mono (ex.trans e7)
          have ta : EvT (tB (tCB (rAll K) (tCons (tLc (iList K (tCall (spMem C) [] E0 (tCons (tVar 0) (tCons (tVar 5) tNil)))) (gName 8) tYes (tCall (spBeats C) [] E0 (tCons (tVar 0) (tCons (tVar 8) (tCons (tVar 6) tNil)))) [8]) tNil)))
              [some (V.ref b), some (vN c), some (V.ref L), some (V.ref S), some (vN at_), some (vN mk), some (vN bh), some (vN (mk ||| 2 ^ bh)), none] H7 (allBeat n w mk bh) := by
            unfold allBeat
            rw [← all_map]
            refine et_B (ev_all ?_)
            rw [← map_bl]
            exact el_mapN (fun x => V.bl (bt w x bh)) (el_call (ea_cons (ev_var rfl) (ea_cons (ev_var rfl) ea_nil)) (sl_mem B7)) (by have := mem_len n mk; omega) (fun _ => rfl) fun x H8 e8 hx =>
              ev_call (ea_cons (ev_var rfl) (ea_cons (ev_var rfl) (ea_cons (ev_var rfl) ea_nil))) (sv_beats (B7.mono e8) (mem_mem.mp hx).1 bn)
          have td : EvT (tB (tDNotIn (tVar 7) (tVar 3))) [some (V.ref b), some (vN c), some (V.ref L), some (V.ref S), some (vN at_), some (vN mk), some (vN bh), some (vN (mk ||| 2 ^ bh)), none] H7 (!Lx.contains (mk ||| 2 ^ bh)) := by
            rw [← keys_has]
            exact et_dnotin (ev_var rfl) (ev_var rfl) (e7 _ _ hSs)
          have nLS : L ≠ S := fun q => by
            rw [q, hSs] at hLs
            cases hLs
          refine s_when (et_and td fun _ => ta) (fun hq H8 e8 => ?_) (fun hq H8 e8 => ?_)
          · have ad : addExt n w mk Lx bh = Lx ++ [mk ||| 2 ^ bh] := if_pos hq
            rw [ad]
            have nin : Lx.contains (mk ||| 2 ^ bh) = false := by
              rw [Bool.and_eq_true, Bool.not_eq_true'] at hq
              exact hq.1
            refine q_dput (k := Sum.inl ((mk ||| 2 ^ bh : Nat) : Int)) (v := .bl true) (e8 _ _ (e7 _ _ hSs)) (ev_var rfl) (ev_var rfl) ev_c (by rw [keys_len]; omega) fun H9 e9 => ?_
            rw [keys_put nin]
            have hL9 : (upd H9 S (.dK (keys (Lx ++ [mk ||| 2 ^ bh])))) L = some (.lst (Lx.map vN)) := by
              rw [upd_ne nLS]
              exact e9 _ _ (e8 _ _ (e7 _ _ hLs))
            refine s_app hL9 (ev_var rfl) (ev_var rfl) (by rw [List.length_map]; omega) fun H10 e10 => ?_
            refine ⟨_, _, rfl, Ex.mut ((Ex.mut (((ex.trans e7).trans e8).trans e9) I.ns).trans e10) I.nl, ?_, npL, npS, ?_, ?_⟩
            · rw [upd_ne npL]
              exact e10 _ _ (by rw [upd_ne npS]; exact e9 _ _ (e8 _ _ (e7 _ _ hp)))
            · rw [upd_same, List.map_append]
              rfl
            · rw [upd_ne nLS.symm]
              exact e10 _ _ upd_same
          · have ad : addExt n w mk Lx bh = Lx := if_neg (by rw [hq]; decide)
            rw [ad]
            exact ⟨_, _, rfl, (ex.trans e7).trans e8, e8 _ _ (e7 _ _ hp), npL, npS, e8 _ _ (e7 _ _ hLs), e8 _ _ (e7 _ _ hSs)⟩
        · rintro p σ' H' ⟨v6, v7, rfl, ex, hp, npL, npS, hLs, hSs⟩
          rw [List.length_map, List.take_length] at hLs hSs
          refine s_aug (a := (at_ : Int)) (b := 1) rfl ev_c fun H7 e7 => ?_
          obtain ⟨g1, ⟨ee, g2⟩, g3⟩ := I.li.fold (l := oth n mk) mL fun j hj => mem_oth.mp hj
          refine ⟨(oth n mk).foldl (addExt n w mk) Ls, some (vN mk), v6, v7, rfl, ⟨ex.trans e7, I.nl, I.ns, g1, I.dn.more I.li gm hh, ?_, e7 _ _ hLs, e7 _ _ hSs⟩⟩
          rw [g2, List.length_append]
          omega
    · have hat := of_decide_eq_false hb
      refine s_ret ev_c fun H5 e5 => ?_
      have eq : at_ = Ls.length := by
        have := I.le
        omega
      have dn := I.dn
      rw [eq] at dn
      have := k H5 ((I.ex.trans e4).trans e5)
      rw [dn.all hc I.li] at this
      exact this
end
end TV
/-! part TvF6 -/
namespace TV
open PySem PySem.Spec PyProof.Rows L2 Evl
section
variable {K : PySem.W.Frag} {σ : L2.St} {H H' : Hp} {ta tb te tl td ty tv : TE} {t u : TT} {x y z v : V} {r : R2} {sp : Sp} {E : XK} {D : Ends} {tz : TS}
/-- min of a list of ints -/
theorem ev_min {a : Addr} {ns : List Nat} {v : Nat} (h : Ev te σ H (.ref a)) (ha : SqL K H a (ns.map vN)) (hv : v ∈ ns) (hm : ∀ y ∈ ns, v ≤ y) : Ev (tCB (rMin K) (tCons te tNil)) σ H (vN v) := fun H1 e Q q =>
  h H1 e _ fun H2 e2 => ⟨a, ns.map fun x => ((x : Nat) : Int), rfl, (by rw [← map_vN]; exact ex_l (e.trans e2) ha), (by rw [List.length_map]; exact List.length_pos_of_mem hv), fun m h1 h2 => by
    obtain ⟨u, hu, rfl⟩ := List.mem_map.mp h1
    have a1 := h2 _ (List.mem_map.mpr ⟨v, hv, rfl⟩)
    have a2 := hm u hu
    have : u = v := by omega
    rw [this]
    exact q H2 e2⟩
/-- m - (1 << c) -/
theorem ev_rest {m c : Nat} (ha : Ev ta σ H (vN m)) (hb : Ev tb σ H (vN c)) (hc : c ≤ 100000) (hm : 2 ^ c ≤ m) : Ev (tOp (rI0 fun i j => .int (i - j)) ta (tOp (rI CPow fun i j => .int (i * 2 ^ j.toNat)) (tC (.int 1)) tb)) σ H (vN (m - 2 ^ c)) := by
  have e : vN (m - 2 ^ c) = V.int ((m : Int) - ((2 ^ c : Nat) : Int)) := by
    show V.int _ = V.int _
    congr 1
    omega
  rw [e]
  exact ev_op ha (ev_pow hb hc) rv_I0
theorem ev_add {m c : Nat} (ha : Ev ta σ H (vN m)) (hb : Ev tb σ H (vN c)) : Ev (tOp (rI0 fun i j => .int (i + j)) ta tb) σ H (vN (m + c)) := ev_op ha hb rv_I0
end
section
variable {P : Program} {w : World} {K : PySem.W.Frag} {mg : Str → Option Value} {base : Heap} {C : Addr}
/-! ### quarrel_of -/
def spQ (C : Addr) : Sp := fun vs H Q _ => ∃ b n c w i m, vs = [.ref b, vN i, vN m] ∧ BalAt C H b n c w ∧ i < n ∧ RetV (vN (quarOf n w i m)) H Q
theorem sv_q {H : Hp} {b n c w i m} (B : BalAt C H b n c w) (hi : i < n) : SpV (spQ C) [.ref b, vN i, vN m] H (vN (quarOf n w i m)) := fun H1 e Q q E => ⟨b, n, c, w, i, m, rfl, B.mono e, hi, q⟩
theorem sc_q : FnScope ["ballots", "candidate", "mask", "other"] ["ballots", "candidate", "mask"] (defScope (top 22)) := ⟨rfl, rfl, rfl, by decide +kernel, rfl, by decide +kernel, by decide +kernel⟩
theorem fn_q (D : Dn K mg "quarrel_of" (top 22)) (T : BTxt K C) (hM : Fn P w K mg base "members" 2 (spMem C)) (ms : mg "sum" = none) : Fn P w K mg base "quarrel_of" 3 (spQ C) := by
  refine D.fn sc_q (fun vs H Q E h => ?_) (fun _ _ _ _ _ _ us hl => match us, hl with | [_, _, _], _ => rfl) (fun f cdv A outer s H vs Q E hr h => ?_)
  · obtain ⟨_, _, _, _, _, _, rfl, _⟩ := h
    rfl
  · obtain ⟨b, n, c, w, i, m, rfl, B, hi, k⟩ := h
    refine ⟨_, pss_one (ps_ret (pe_callB (cr_sum rfl) rfl ms (by decide +kernel) (pa_cons (pe_lc (own := [("other", 3)]) (g := gName 3) (tt := tYes) (te := tOp (rIxL K) (tOp (rIxL K) (tFld K (tVar 0) "wins") (tVar 3)) (tVar 1)) rfl sc_q.nd (pi_list (pe_fn hM hr (by decide) (pa_cons (pv 0) (pa_cons (pv 2) pa_nil)))) (blkOk_by (N := ["ballots", "candidate", "mask", "other"]) (sc := defScope (top 22)) (by decide +kernel))
      (fun _ _ _ _ _ => pg_name (i := 3) sc_q.nd rfl (Or.inl rfl)) (fun _ _ _ _ _ => pts_nil)
      (fun _ _ _ _ _ => by exact pe_ix ix_list (pe_ix ix_list (pe_fld (pv 0) rfl) (pv 3) (fun _ _ => rfl)) (pv 1) (fun _ _ => rfl))) pa_nil))), ?_⟩
    have h6 := B.1
    refine s_ret (v := vN (quarOf n w i m)) (ev_sum (ns := (mem n m).map fun j => w j i) ?_) k
    rw [List.map_map]
    exact el_mapN (fun j => vN (w j i)) (el_call (ea_cons (ev_var rfl) (ea_cons (ev_var rfl) ea_nil)) (sl_mem B)) (by have := mem_len n m; omega) (fun _ => rfl) fun x H1 e hx =>
      ev_wins T (B.mono e) (ev_var rfl) (ev_var rfl) (ev_var rfl) (mem_mem.mp hx).1 hi
/-! ### least_quarrels -/
def spLq (C : Addr) : Sp := fun vs H Q _ => ∃ b n c w, vs = [.ref b] ∧ BalAt C H b n c w ∧ ∀ f : Nat → Nat, (∀ k, k < 2 ^ n → LeastOf n w k (f k)) → RetL ((List.range (2 ^ n)).map fun k => vN (f k)) H Q
theorem sc_lq : FnScope ["ballots", "found", "mask", "costs", "candidate", "rest"] ["ballots"] (defScope (top 23)) := ⟨rfl, rfl, rfl, by decide +kernel, rfl, by decide +kernel, by decide +kernel⟩
theorem fn_lq (D : Dn K mg "least_quarrels" (top 23)) (T : BTxt K C) (hM : Fn P w K mg base "members" 2 (spMem C)) (hQ : Fn P w K mg base "quarrel_of" 3 (spQ C)) (mr : mg "range" = none) (mm : mg "min" = none) : Fn P w K mg base "least_quarrels" 4 (spLq C) := by
  refine D.fn sc_lq (fun vs H Q E h => ?_) (fun _ _ _ _ _ _ us hl => match us, hl with | [_], _ => rfl) (fun f cdv A outer s H vs Q E hr h => ?_)
  · obtain ⟨_, _, _, _, rfl, _⟩ := h
    rfl
  · obtain ⟨b, n, c, w, rfl, B, k⟩ := h
    refine ⟨_, pss_cons (ps_set (i := 1) sc_lq.nd rfl (Or.inl rfl) (pe_lst (pa_cons pe_int pa_nil)))
      (pss_cons (ps_for PassesOwn.never rfl (pi_range2 rfl mr (pa_cons pe_int (pa_cons (pe_op op_shl pe_int (pe_fld (pv 0) rfl)) pa_nil))) (pg_name (i := 2) sc_lq.nd rfl (Or.inl rfl))
        (pss_cons (ps_set (i := 3) sc_lq.nd rfl (Or.inl rfl) (pe_lst pa_nil))
        (pss_cons (ps_for PassesOwn.never rfl (pi_list (pe_fn hM hr (by decide) (pa_cons (pv 0) (pa_cons (pv 2) pa_nil)))) (pg_name (i := 4) sc_lq.nd rfl (Or.inl rfl))
          (pss_cons (ps_set (i := 5) sc_lq.nd rfl (Or.inl rfl) (pe_op op_sub (pv 2) (pe_op op_shl pe_int (pv 4))))
          (pss_one (ps_expr (pe_bm PySem.F.plainAttrs_list PySem.F.slot_list_append PySem.F.type_list_append mt_append (pv 3) (pa_cons (pe_op op_add (pe_fn hQ hr (by decide) (pa_cons (pv 0) (pa_cons (pv 4) (pa_cons (pv 5) pa_nil)))) (pe_ix ix_list (pv 1) (pv 5) (fun _ _ => rfl))) pa_nil))))))
        (pss_one (ps_expr (pe_bm PySem.F.plainAttrs_list PySem.F.slot_list_append PySem.F.type_list_append mt_append (pv 1) (pa_cons (pe_callB (cr_min rfl) rfl mm (by decide +kernel) (pa_cons (pv 3) pa_nil)) pa_nil)))))))
      (pss_one (ps_ret (pv 1)))), ?_⟩
    have h6 := B.1
    have p6 := pow_le6 h6
    have p1 := Nat.two_pow_pos n
    refine q_asgL (xs := [vN 0]) (el_lst (ea_cons ev_c ea_nil) (by show 1 ≤ 100000; decide)) fun F H1 hF e1 h1 => ?_
    have B1 := B.mono e1
    refine q_forR2 (ea_cons ev_c (ea_cons (ev_pow (ev_many T B1 (ev_var rfl)) (by omega)) ea_nil)) (by omega)
      (fun i σ' H' => ∃ (fs : List Nat) (v2 v3 v4 v5 : Option V), σ' = [some (.ref b), some (.ref F), v2, v3, v4, v5] ∧ Ex H H' ∧ H' F = some (.lst (fs.map vN)) ∧ fs.length = i + 1 ∧ ∀ k, k < i + 1 → LeastOf n w k (fs.getD k 0))
      (fun H2 e2 => ⟨[0], none, none, none, none, rfl, e1.trans e2, e2 _ _ h1, rfl, fun k hk => by
        have : k = 0 := by omega
        rw [this]
        exact least_zero n w⟩) ?_ ?_
    · rintro i σ' H' hi ⟨fs, v2, v3, v4, v5, rfl, e, hf, hl, hL⟩
      have ec : ((1 : Int) + (i : Int)) = ((i + 1 : Nat) : Int) := by omega
      rw [ec]
      have ilt : i + 1 < 2 ^ n := by omega
      refine q_asgL (xs := []) (el_lst ea_nil (by decide)) fun G H2 hG e2 h2 => ?_
      have e02 := e.trans e2
      have B2 := B.mono e02
      have nGF : G ≠ F := fun q => by rw [q, hf] at hG; cases hG
      let cost : Nat → Nat := fun c => quarOf n w c (i + 1 - 2 ^ c) + fs.getD (i + 1 - 2 ^ c) 0
      refine q_forNLn (xs := (mem n (i + 1)).map vN) (el_call (ea_cons (ev_var rfl) (ea_cons (ev_var rfl) ea_nil)) (sl_mem B2))
        (fun p j σ' H' => ∃ (v4 v5 : Option V), σ' = [some (.ref b), some (.ref F), some (vN (i + 1)), some (.ref G), v4, v5] ∧ Ex H H' ∧ H' p = some (.lst ((mem n (i + 1)).map vN)) ∧ p ≠ G ∧ H' F = some (.lst (fs.map vN)) ∧ H' G = some (.lst ((((mem n (i + 1)).take j).map cost).map vN)))
        (fun p H3 hp e3 h3 => ⟨_, _, rfl, e02.trans e3, h3, (fun q => by rw [q, h2] at hp; cases hp), e3 _ _ (e2 _ _ hf), e3 _ _ h2⟩) (fun p j σ' H' _ ⟨_, _, _, _, h3, _⟩ => sq_of h3) ?_ ?_
      · rintro p j z σ' H' hz ⟨v4, v5, rfl, e3, hp, npG, hf3, hG3⟩
        obtain ⟨cd, hcd, rfl⟩ := map_get hz
        have cm := List.mem_of_getElem? hcd
        have cn := (mem_mem.mp cm).1
        obtain ⟨r1, r2⟩ := rest_lt h6 ilt cm
        refine q_asg (v := vN (i + 1 - 2 ^ cd)) (ev_rest (ev_var rfl) (ev_var rfl) (by omega) r1) fun H4 e4 => ?_
        have B4 := B.mono (e3.trans e4)
        refine s_app (v := vN (cost cd)) (e4 _ _ hG3) (ev_var rfl) (ev_add (ev_call (ea_cons (ev_var rfl) (ea_cons (ev_var rfl) (ea_cons (ev_var rfl) ea_nil))) (sv_q B4 cn)) (ev_ix (i := i + 1 - 2 ^ cd) (v := vN (fs.getD (i + 1 - 2 ^ cd) 0)) (ev_var rfl) (ev_var rfl) (sq_of (e4 _ _ hf3)) ?_)) ?_ fun H5 e5 => ?_
        · have lt : i + 1 - 2 ^ cd < fs.length := by omega
          rw [List.getElem?_map, List.getElem?_eq_getElem lt, List.getD_eq_getElem?_getD, List.getElem?_eq_getElem lt]
          rfl
        · rw [List.length_map, List.length_map, List.length_take]
          have := mem_len n (i + 1)
          omega
        · refine ⟨_, _, rfl, Ex.mut ((e3.trans e4).trans e5) (fresh_back e hG), ?_, npG, ?_, ?_⟩
          · rw [upd_ne npG]
            exact e5 _ _ (e4 _ _ hp)
          · rw [upd_ne nGF.symm]
            exact e5 _ _ (e4 _ _ hf3)
          · rw [upd_same, List.take_add_one, hcd, List.map_append, List.map_append]
            rfl
      · rintro p σ' H' ⟨v4, v5, rfl, e3, hp, npG, hf3, hG3⟩
        rw [List.length_map, List.take_length] at hG3
        have ne : (mem n (i + 1)).map cost ≠ [] := fun q => mem_ne ilt (by omega) (List.map_eq_nil_iff.mp q)
        obtain ⟨v, hv, hm⟩ := exists_min _ ne
        refine s_app (v := vN v) hf3 (ev_var rfl) (ev_min (ev_var rfl) (sq_of hG3) hv hm) (by rw [List.length_map]; omega) fun H4 e4 => ?_
        refine ⟨fs ++ [v], _, _, _, _, rfl, Ex.mut (e3.trans e4) hF, ?_, by rw [List.length_append, hl]; rfl, fun k hk => ?_⟩
        · rw [upd_same, List.map_append]
          rfl
        · by_cases q : k < i + 1
          · have := hL k q
            rw [List.getD_eq_getElem?_getD] at this ⊢
            rw [List.getElem?_append_left (by omega)]
            exact this
          · have ek : k = i + 1 := by omega
            subst ek
            have : (fs ++ [v]).getD (i + 1) 0 = v := by
              rw [List.getD_eq_getElem?_getD, List.getElem?_append_right (by omega), hl, Nat.sub_self]
              rfl
            rw [this]
            obtain ⟨cc, hcc, ecc⟩ := List.mem_map.mp hv
            refine least_step (f := fun k => fs.getD k 0) h6 ilt (fun c hc => hL _ (by have := rest_lt h6 ilt hc; omega)) ⟨cc, hcc, ecc.symm⟩ fun c hc => hm _ (List.mem_map.mpr ⟨c, hc, rfl⟩)
    · rintro σ' H' ⟨fs, v2, v3, v4, v5, rfl, e, hf, hl, hL⟩
      have en : (((2 ^ n : Nat) : Int) - 1).toNat + 1 = 2 ^ n := by omega
      rw [en] at hl hL
      refine s_ret (ev_var rfl) fun H3 e3 => k (fun k => fs.getD k 0) hL F H3 hF (e.trans e3) ?_
      rw [e3 _ _ hf]
      refine congrArg (fun l => some (HO.lst l)) ?_
      refine List.ext_getElem? fun i => ?_
      rw [List.getElem?_map, List.getElem?_map]
      by_cases hi : i < 2 ^ n
      · rw [List.getElem?_range hi, List.getElem?_eq_getElem (by omega)]
        show some (vN _) = some (vN _)
        rw [List.getD_eq_getElem?_getD, List.getElem?_eq_getElem (by omega)]
        rfl
      · rw [List.getElem?_eq_none (by omega), List.getElem?_eq_none (by rw [List.length_range]; omega)]
        rfl
end
end TV
/-! part TvF7 -/
namespace TV
open PySem PySem.Spec PyProof.Rows L2 Evl
section
variable {P : Program} {w : World} {K : PySem.W.Frag} {mg : Str → Option Value} {base : Heap} {C : Addr}
theorem sl_lq {H : Hp} {b n c w} {f : Nat → Nat} (B : BalAt C H b n c w) (hf : ∀ k, k < 2 ^ n → LeastOf n w k (f k)) : SpL (spLq C) [.ref b] H ((List.range (2 ^ n)).map fun k => vN (f k)) := fun H1 e Q q E =>
  ⟨b, n, c, w, rfl, B.mono e, fun f' hf' => by
    have e1 : ((List.range (2 ^ n)).map fun k => vN (f' k)) = ((List.range (2 ^ n)).map fun k => vN (f k)) := List.map_congr_left fun k hk => by
      rw [(hf' k (List.mem_range.mp hk)).uniq (hf k (List.mem_range.mp hk))]
    rw [e1]
    exact q⟩
/-! ### calmest -/
def spCalm (C : Addr) : Sp := fun vs H Q _ => ∃ b n c w, vs = [.ref b] ∧ BalAt C H b n c w ∧ RetL ((calmW n w).map vN) H Q
theorem sl_calm {H : Hp} {b n c w} (B : BalAt C H b n c w) : SpL (spCalm C) [.ref b] H ((calmW n w).map vN) := fun H1 e Q q E => ⟨b, n, c, w, rfl, B.mono e, q⟩
theorem sc_calm : FnScope ["ballots", "least", "mask", "order", "firsts", "candidate", "rest"] ["ballots"] (defScope (top 24)) := ⟨rfl, rfl, rfl, by decide +kernel, rfl, by decide +kernel, by decide +kernel⟩
theorem fn_calm (D : Dn K mg "calmest" (top 24)) (T : BTxt K C) (hM : Fn P w K mg base "members" 2 (spMem C)) (hQ : Fn P w K mg base "quarrel_of" 3 (spQ C)) (hL : Fn P w K mg base "least_quarrels" 4 (spLq C)) : Fn P w K mg base "calmest" 5 (spCalm C) := by
  refine D.fn sc_calm (fun vs H Q E h => ?_) (fun _ _ _ _ _ _ us hl => match us, hl with | [_], _ => rfl) (fun f cdv A outer s H vs Q E hr h => ?_)
  · obtain ⟨_, _, _, _, rfl, _⟩ := h
    rfl
  · obtain ⟨b, n, c, w, rfl, B, k⟩ := h
    refine ⟨_, pss_cons (ps_set (i := 1) sc_calm.nd rfl (Or.inl rfl) (pe_fn hL hr (by decide) (pa_cons (pv 0) pa_nil)))
      (pss_cons (ps_set (i := 2) sc_calm.nd rfl (Or.inl rfl) (pe_op op_sub (pe_op op_shl pe_int (pe_fld (pv 0) rfl)) pe_int))
      (pss_cons (ps_set (i := 3) sc_calm.nd rfl (Or.inl rfl) (pe_lst pa_nil))
      (pss_cons (ps_while PassesOwn.never (pt_cmpR op_gt (pv 2) pe_int (nomark _))
        (pss_cons (ps_set (i := 4) sc_calm.nd rfl (Or.inl rfl) (pe_lst pa_nil))
        (pss_cons (ps_for PassesOwn.never rfl (pi_list (pe_fn hM hr (by decide) (pa_cons (pv 0) (pa_cons (pv 2) pa_nil)))) (pg_name (i := 5) sc_calm.nd rfl (Or.inl rfl))
          (pss_cons (ps_set (i := 6) sc_calm.nd rfl (Or.inl rfl) (pe_op op_sub (pv 2) (pe_op op_shl pe_int (pv 5))))
          (pss_one (ps_if (pt_cmpR op_eq (pe_op op_add (pe_fn hQ hr (by decide) (pa_cons (pv 0) (pa_cons (pv 5) (pa_cons (pv 6) pa_nil)))) (pe_ix ix_list (pv 1) (pv 6) (fun _ _ => rfl))) (pe_ix ix_list (pv 1) (pv 2) (fun _ _ => rfl)) (nomark _))
            (pss_one (ps_expr (pe_bm PySem.F.plainAttrs_list PySem.F.slot_list_append PySem.F.type_list_append mt_append (pv 4) (pa_cons (pv 5) pa_nil)))) pss_nil))))
        (pss_cons (ps_expr (pe_bm PySem.F.plainAttrs_list PySem.F.slot_list_append PySem.F.type_list_append mt_append (pv 3) (pa_cons (pe_ix ix_list (pv 4) pe_int (fun _ _ => rfl)) pa_nil)))
        (pss_one (ps_aug (i := 2) sc_calm.nd rfl (Or.inl rfl) (pe_op op_shl pe_int (pe_ix ix_list (pv 4) pe_int (fun _ _ => rfl))) ip_sub))))))
      (pss_one (ps_ret (pv 3)))))), ?_⟩
    have h6 := B.1
    have p6 := pow_le6 h6
    have p1 := Nat.two_pow_pos n
    obtain ⟨f, hf⟩ : ∃ f : Nat → Nat, ∀ k, k < 2 ^ n → LeastOf n w k (f k) := ⟨fun k => Classical.choose (least_some n w k), fun k _ => Classical.choose_spec (least_some n w k)⟩
    refine q_asgL (el_call (ea_cons (ev_var rfl) ea_nil) (sl_lq B hf)) fun Lq H1 hLq e1 h1 => ?_
    have B1 := B.mono e1
    refine q_asg (ev_full (K := K) (ev_many T B1 (ev_var rfl)) (by omega)) fun H2 e2 => ?_
    refine q_asgL (xs := []) (el_lst ea_nil (by decide)) fun O H3 hO e3 h3 => ?_
    have hO0 := fresh_back (e1.trans e2) hO
    refine q_while (fun mm σ' H' => ∃ (pre : List Nat) (m : Nat) (v4 v5 v6 : Option V), σ' = [some (.ref b), some (.ref Lq), some (vN m), some (.ref O), v4, v5, v6] ∧ Ex H H' ∧ H' Lq = some (.lst ((List.range (2 ^ n)).map fun k => vN (f k))) ∧ Lq ≠ O ∧ H' O = some (.lst (pre.map vN)) ∧ Calm n w f pre m ∧ mm = m) (2 ^ n - 1)
      ⟨[], 2 ^ n - 1, none, none, none, rfl, (e1.trans e2).trans e3, e3 _ _ (e2 _ _ h1), (fun q => by rw [← q, e2 _ _ h1] at hO; cases hO), h3, Calm.start n w f, rfl⟩ ?_
    rintro mm σ' H' ⟨pre, m, v4, v5, v6, rfl, ex, hl, nLO, ho, I, rfl⟩
    refine ⟨decide (0 < mm), et_is (et_test (ev_op (ev_var rfl) ev_c (rv_I0 (g := fun i j => .bl (decide (j < i)))))) (decide_eq_decide.mpr (by omega)), fun hb H4 e4 => ?_, fun hb H4 e4 => ?_⟩
    · have hm0 := of_decide_eq_true hb
      refine ⟨fun σ2 H2 => ∃ (pre : List Nat) (m : Nat) (v4 v5 v6 : Option V), σ2 = [some (.ref b), some (.ref Lq), some (vN m), some (.ref O), v4, v5, v6] ∧ Ex H H2 ∧ H2 Lq = some (.lst ((List.range (2 ^ n)).map fun k => vN (f k))) ∧ Lq ≠ O ∧ H2 O = some (.lst (pre.map vN)) ∧ Calm n w f pre m ∧ m < mm,
        fun σ2 H2 ⟨pre, m, v4, v5, v6, a1, a2, a3, a4, a5, a6, a7⟩ => ⟨m, a7, pre, m, v4, v5, v6, a1, a2, a3, a4, a5, a6, rfl⟩, ?_⟩
      refine q_asgL (xs := []) (el_lst ea_nil (by decide)) fun G H5 hG e5 h5 => ?_
      have ex5 := (ex.trans e4).trans e5
      have B5 := B.mono ex5
      have nGO : G ≠ O := fun q => by rw [q, e4 _ _ ho] at hG; cases hG
      have nGL : G ≠ Lq := fun q => by rw [q, e4 _ _ hl] at hG; cases hG
      have hG0 := fresh_back (ex.trans e4) hG
      have plen : pre.length ≤ n := by
        obtain ⟨⟨t, ht, et⟩, _⟩ := hf mm I.lt
        have := (I.go t ht et).1.length_eq
        rw [List.length_append, List.length_range] at this
        omega
      have lget : ∀ k, k < 2 ^ n → ((List.range (2 ^ n)).map fun k => vN (f k))[k]? = some (vN (f k)) := fun k hk => by
        rw [List.getElem?_map, List.getElem?_range hk]
        rfl
      refine q_forNLn (xs := (mem n mm).map vN) (el_call (ea_cons (ev_var rfl) (ea_cons (ev_var rfl) ea_nil)) (sl_mem B5))
        (fun p j σ' H' => ∃ (v5 v6 : Option V), σ' = [some (.ref b), some (.ref Lq), some (vN mm), some (.ref O), some (.ref G), v5, v6] ∧ Ex H H' ∧ H' p = some (.lst ((mem n mm).map vN)) ∧ p ≠ G ∧ H' Lq = some (.lst ((List.range (2 ^ n)).map fun k => vN (f k))) ∧ H' O = some (.lst (pre.map vN)) ∧
          H' G = some (.lst ((((mem n mm).take j).filter (isFirst n w f mm)).map vN)))
        (fun p H6 hp e6 h6 => ⟨_, _, rfl, ex5.trans e6, h6, (fun q => by rw [q, h5] at hp; cases hp), e6 _ _ (e5 _ _ (e4 _ _ hl)), e6 _ _ (e5 _ _ (e4 _ _ ho)), e6 _ _ h5⟩) (fun p j σ' H' _ ⟨_, _, _, _, h6, _⟩ => sq_of h6) ?_ ?_
      · rintro p j z σ' H' hz ⟨v5, v6, rfl, ex6, hp, npG, hl6, ho6, hG6⟩
        obtain ⟨cd, hcd, rfl⟩ := map_get hz
        have cm := List.mem_of_getElem? hcd
        have cn := (mem_mem.mp cm).1
        obtain ⟨r1, r2⟩ := rest_lt h6 I.lt cm
        have ilt := I.lt
        refine q_asg (v := vN (mm - 2 ^ cd)) (ev_rest (ev_var rfl) (ev_var rfl) (by omega) r1) fun H7 e7 => ?_
        have B7 := B.mono (ex6.trans e7)
        have tk : ((mem n mm).take (j + 1)).filter (isFirst n w f mm) = ((mem n mm).take j).filter (isFirst n w f mm) ++ if isFirst n w f mm cd = true then [cd] else [] := by
          rw [List.take_add_one, hcd, List.filter_append]
          show _ ++ List.filter _ [cd] = _
          rw [List.filter_cons]
          rfl
        refine s_when (b := isFirst n w f mm cd) (et_is (et_test (ev_op (ev_add (ev_call (ea_cons (ev_var rfl) (ea_cons (ev_var rfl) (ea_cons (ev_var rfl) ea_nil))) (sv_q B7 cn)) (ev_ix (i := mm - 2 ^ cd) (ev_var rfl) (ev_var rfl) (sq_of (e7 _ _ hl6)) (lget _ (by omega))))
          (ev_ix (i := mm) (ev_var rfl) (ev_var rfl) (sq_of (e7 _ _ hl6)) (lget _ ilt)) (rv_eq rfl))) ?_) (fun hb H8 e8 => ?_) (fun hb H8 e8 => ?_)
        · unfold isFirst
          refine decide_eq_decide.mpr ⟨fun h => ?_, fun h => ?_⟩
          · have := V.int.inj h
            omega
          · rw [h]
        · refine s_app (e8 _ _ (e7 _ _ hG6)) (ev_var rfl) (ev_var rfl) ?_ fun H9 e9 => ?_
          · rw [List.length_map]
            have q1 := List.length_filter_le (isFirst n w f mm) ((mem n mm).take j)
            rw [List.length_take] at q1
            have := mem_len n mm
            omega
          · refine ⟨_, _, rfl, Ex.mut (((ex6.trans e7).trans e8).trans e9) hG0, ?_, npG, ?_, ?_, ?_⟩
            · rw [upd_ne npG]
              exact e9 _ _ (e8 _ _ (e7 _ _ hp))
            · rw [upd_ne nGL.symm]
              exact e9 _ _ (e8 _ _ (e7 _ _ hl6))
            · rw [upd_ne nGO.symm]
              exact e9 _ _ (e8 _ _ (e7 _ _ ho6))
            · rw [upd_same, tk, if_pos hb, List.map_append]
              rfl
        · refine ⟨_, _, rfl, (ex6.trans e7).trans e8, e8 _ _ (e7 _ _ hp), npG, e8 _ _ (e7 _ _ hl6), e8 _ _ (e7 _ _ ho6), ?_⟩
          rw [tk, if_neg (by rw [hb]; decide), List.append_nil]
          exact e8 _ _ (e7 _ _ hG6)
      · rintro p σ' H' ⟨v5, v6, rfl, ex6, hp, npG, hl6, ho6, hG6⟩
        rw [List.length_map, List.take_length] at hG6
        have hG6 : H' G = some (.lst ((firsts n w f mm).map vN)) := hG6
        cases ef : firsts n w f mm with
        | nil => exact absurd ef (firsts_ne h6 I.lt (by omega) hf)
        | cons cd tl =>
          rw [ef] at hG6
          obtain ⟨I2, cm⟩ := I.step h6 hf ef
          have cn := (mem_mem.mp cm).1
          obtain ⟨r1, r2⟩ := rest_lt h6 I.lt cm
          refine q_app (v := vN cd) ho6 (ev_var rfl) (ev_ix (i := 0) (ev_var rfl) ev_c (sq_of hG6) rfl) (by rw [List.length_map]; omega) fun H7 e7 => ?_
          have hG7 : (upd H7 O (.lst (pre.map vN ++ [vN cd]))) G = some (.lst ((cd :: tl).map vN)) := by
            rw [upd_ne nGO]
            exact e7 _ _ hG6
          refine s_aug (a := (mm : Int)) (b := ((2 ^ cd : Nat) : Int)) rfl (ev_pow (ev_ix (i := 0) (v := vN cd) (ev_var rfl) ev_c (sq_of hG7) rfl) (by omega)) fun H8 e8 => ?_
          have em : V.int ((mm : Int) - ((2 ^ cd : Nat) : Int)) = vN (mm - 2 ^ cd) := by
            show V.int _ = V.int _
            congr 1
            omega
          rw [em]
          refine ⟨pre ++ [cd], mm - 2 ^ cd, _, _, _, rfl, (Ex.mut (ex6.trans e7) hO0).trans e8, e8 _ _ (by rw [upd_ne nLO]; exact e7 _ _ hl6), nLO, ?_, I2, r2⟩
          rw [e8 _ _ upd_same, List.map_append]
          rfl
    · have hm0 := of_decide_eq_false hb
      have : mm = 0 := by omega
      subst this
      refine s_ret (ev_var rfl) fun H5 e5 => ?_
      refine k O H5 hO0 ((ex.trans e4).trans e5) ?_
      rw [calmW_is (I.done hf)]
      exact e5 _ _ (e4 _ _ ho)
end
end TV
/-! part TvS -/
/-! sorted(a list of triples of fint), any fint, any number of them: a rule that the layer lacks (it has pairs of any fint, and longer tuples of fint from 0 on) -/
namespace TV
open PySem PySem.Spec PyProof.Rows L2 Evl
abbrev Tri := Int × Int × Int
def lex3 (p q : Tri) : Bool := decide (p.1 < q.1 ∨ (p.1 = q.1 ∧ (p.2.1 < q.2.1 ∨ (p.2.1 = q.2.1 ∧ p.2.2 < q.2.2))))
theorem lex3_iff {p q : Tri} : lex3 p q = true ↔ p.1 < q.1 ∨ (p.1 = q.1 ∧ (p.2.1 < q.2.1 ∨ (p.2.1 = q.2.1 ∧ p.2.2 < q.2.2))) := by
  unfold lex3
  exact decide_eq_true_iff
theorem lex3_no {p q : Tri} : lex3 p q = false ↔ ¬ (p.1 < q.1 ∨ (p.1 = q.1 ∧ (p.2.1 < q.2.1 ∨ (p.2.1 = q.2.1 ∧ p.2.2 < q.2.2)))) := by
  unfold lex3
  exact decide_eq_false_iff_not
theorem swo3 {α : Type} (k : α → Tri) : SrtO.Swo fun u v => lex3 (k u) (k v) := by
  constructor
  · intro x y hxy
    have a1 := lex3_iff.mp hxy
    exact lex3_no.mpr (by omega)
  · intro x y z hyx hzy
    have a1 := lex3_no.mp hyx
    have a2 := lex3_no.mp hzy
    exact lex3_no.mpr (by omega)
def IsTri (h : Heap) (v : Value) (p : Tri) : Prop := ∃ (adr : Addr) (ob : Obj) (t1 t2 t3 : Tok) (ep : Nat), v = .ref adr ∧ h.get? adr = some ob ∧ ob.cls = .type "tuple" ∧ ob.data = .seq #[.int p.1 t1, .int p.2.1 t2, .int p.2.2 t3] ep
theorem IsTri.carry {h g : Heap} {v : Value} {p : Tri} (it : IsTri h v p) (old : ∀ b o, h.get? b = some o → o.cls = .type "tuple" → g.get? b = some o) : IsTri g v p := by
  obtain ⟨adr, ob, t1, t2, t3, ep, ev, ha, hcl, hda⟩ := it
  exact ⟨adr, ob, t1, t2, t3, ep, ev, old adr ob ha hcl, hcl, hda⟩
theorem heads3 {h : Heap} {k : Value → Tri} : ∀ {vs : List Value}, (∀ v ∈ vs, IsTri h v (k v)) → ∃ fs : List Value, PySem.W.KatTups h vs fs ∧ fs.length = vs.length ∧ ∀ f ∈ fs, ∃ i t, f = Value.int i t
  | [], _ => ⟨[], .nil, rfl, fun f hf => absurd hf (by simp)⟩
  | v :: tl, all => by
    obtain ⟨fs, kt, lfs, fint⟩ := heads3 (vs := tl) fun y hy => all y (List.mem_cons_of_mem v hy)
    obtain ⟨adr, ob, t1, t2, t3, ep, rfl, ha, hcl, hda⟩ := all v List.mem_cons_self
    refine ⟨.int (k (.ref adr)).1 t1 :: fs, .cons ha hcl hda rfl kt, congrArg (· + 1) lfs, ?_⟩
    intro f hf
    cases hf with
    | head => exact ⟨_, _, rfl⟩
    | tail _ hf => exact fint f hf
section
variable {prog : Program} {w : World} {A : Around} {E : Value → Shared → Prop} {s : Shared}
theorem cmp3 {vs : List Value} {k : Value → Tri} (all : ∀ v ∈ vs, IsTri s.heap v (k v)) : SrtO.Cmp prog w A s (tuples' true) (fun p => p.1 ∈ vs) (SrtO.lt2 fun u v => lex3 (k u) (k v)) := by
  intro p q mp mq
  show wpAny (model prog w) A (keyLt' (tuples' true) p.1 q.1) (fun r s2 => s2 = s ∧ r = lex3 (k p.1) (k q.1)) (fun _ _ => False) s
  have ip := all _ mp
  have iq := all _ mq
  generalize k p.1 = P1 at ip ⊢
  generalize k q.1 = P2 at iq ⊢
  obtain ⟨x, y, z⟩ := P1
  obtain ⟨x', y', z'⟩ := P2
  obtain ⟨a1, o1, t1, t2, t3, ep, e1, g1, c1, d1⟩ := ip
  obtain ⟨a2, o2, u1, u2, u3, eq_, e2, g2, c2, d2⟩ := iq
  rw [e1, e2]
  refine PySem.W.kat_lt g1 d1 g2 d2 ?_
  show PySem.W.KatLex prog w A true (decide (3 < 3)) _ [(.int x t1, .int x' u1), (.int y t2, .int y' u2), (.int z t3, .int z' u3)] 0 s
  refine PySem.W.kat_cons (SeqAt.EqAt.int_int x t1 x' u1 prog w _ _ (PySem.W.kat_go (fun h1 => ?_) (fun h1 => ?_)))
  · have ex : x = x' := by simpa using h1
    refine PySem.W.kat_yes (PySem.W.kat_cons (SeqAt.EqAt.int_int y t2 y' u2 prog w _ _ (PySem.W.kat_go (fun h2 => ?_) (fun h2 => ?_))))
    · have ey : y = y' := by simpa using h2
      refine PySem.W.kat_yes (PySem.W.kat_cons (SeqAt.EqAt.int_int z t3 z' u3 prog w _ _ (PySem.W.kat_go (fun h3 => ?_) (fun h3 => ?_))))
      · have ez : z = z' := by simpa using h3
        refine PySem.W.kat_yes (PySem.W.kat_nil ⟨rfl, ?_⟩)
        symm
        exact lex3_no.mpr (by dsimp only; omega)
      · have ez : ¬ z = z' := by simpa using h3
        refine PySem.W.kat_no (PySem.W.kat_one _ _ (PyProof.Rows.lt_int ?_))
        refine (show s = s ∧ decide (z < z') = lex3 (x, y, z) (x', y', z') from ⟨rfl, ?_⟩)
        unfold lex3
        exact decide_eq_decide.mpr (by dsimp only; omega)
    · have ey : ¬ y = y' := by simpa using h2
      refine PySem.W.kat_no (PySem.W.kat_one _ _ (PyProof.Rows.lt_int ?_))
      refine (show s = s ∧ decide (y < y') = lex3 (x, y, z) (x', y', z') from ⟨rfl, ?_⟩)
      unfold lex3
      exact decide_eq_decide.mpr (by dsimp only; omega)
  · have ex : ¬ x = x' := by simpa using h1
    refine PySem.W.kat_no (oneLt_int ⟨rfl, ?_⟩)
    unfold lex3
    exact decide_eq_decide.mpr (by dsimp only; omega)
theorem able3 {a : Addr} {vs : List Value} {k : Value → Tri} (pos : 0 < vs.length) (all : ∀ v ∈ vs, IsTri s.heap v (k v)) (na : ∀ o, s.heap.get? a = some o → o.cls ≠ .type "tuple") : SrtO.SortableO prog w A s a vs fun u v => lex3 (k u) (k v) := by
  intro g old
  have all' : ∀ v ∈ vs, IsTri g v (k v) := fun v hv => (all v hv).carry fun b o hb hcl => old b o (fun e => na o (e ▸ hb) hcl) hb
  obtain ⟨fs, kt, lfs, fint⟩ := heads3 all'
  refine ⟨tuples' true, fun Q E hq => PySem.W.kat_kind (T := .type "int") kt (by omega) (fun f hf => ?_) rfl ?_, cmp3 all'⟩
  · obtain ⟨i, t, rfl⟩ := fint f hf
    exact PySem.W.Looks.now
  · have en : (Value.type "int" != Value.type "tuple") = true := by first | rfl | decide +kernel
    rw [en]
    exact hq
end
/-- sorted of a list of triples: k tells what stands in each -/
def rSorted3 (K : PySem.W.Frag) : List V → Hp → VK → Prop := fun vs H Q => ∃ (a : Addr) (xs : List V) (k : V → Tri), vs = [V.ref a] ∧ SqL K H a xs ∧ (∀ x ∈ xs, ∃ t, x = V.ref t ∧ H t = some (.tup [.int (k x).1, .int (k x).2.1, .int (k x).2.2])) ∧
  ∀ ys p, ys.Pairwise (fun x y => lex3 (k y) (k x) = false) → ys.Perm xs → H p = none → Q (.ref p) (upd H p (.lst ys))
section
variable {X : Cx}
theorem vals_of3 {x y z : V} {us : List Value} (r : Vals [x, y, z] us) : ∃ u v t, us = [u, v, t] ∧ RelV x u ∧ RelV y v ∧ RelV z t := by
  cases r with
  | cons h1 r =>
    obtain ⟨v, t, rfl, h2, h3⟩ := vals2 r
    exact ⟨_, v, t, rfl, h1, h2, h3⟩
theorem cr_sorted3 : CallR X (.builtin "sorted") (rSorted3 X.K) := by
  intro pins s σ H args us Q inv rel want
  obtain ⟨adr, xs, k, rfl, sq, tups, go⟩ := want
  obtain ⟨its, rits, isl, small⟩ := inv.list sq
  obtain ⟨u, rfl, ru⟩ := vals1 rel
  have eu : u = Value.ref adr := ru
  subst eu
  have isref : ∀ x ∈ xs, ∃ b, x = V.ref b := fun x hx => (tups x hx).elim fun t ht => ⟨t, ht.1⟩
  obtain ⟨exs, refs⟩ := refs_back rits isref
  have tri : ∀ v ∈ its, IsTri s.heap v (k (backV v)) := fun v hv => by
    obtain ⟨b, rfl⟩ := refs v hv
    have inx : V.ref b ∈ xs := exs ▸ List.mem_map.mpr ⟨_, hv, rfl⟩
    obtain ⟨t, et, ht⟩ := tups _ inx
    cases et
    obtain ⟨_, it3, rel3, ob, g1, g2, ep, g3⟩ := inv.hok _ _ ht
    obtain ⟨v1, v2, v3, rfl, r1, r2, r3⟩ := vals_of3 rel3
    obtain ⟨t1, rfl⟩ := r1
    obtain ⟨t2, rfl⟩ := r2
    obtain ⟨t3, rfl⟩ := r3
    exact ⟨b, ob, t1, t2, t3, ep, rfl, g1, g2, g3⟩
  refine SrtO.sorted_ord (swo3 fun v => k (backV v)) isl.isList (by rw [← rits.length]; exact small) (fun two g a ga old => ?_) fun out so st => ?_
  · refine able3 (s := { s with heap := g }) (by omega) (fun v hv => (tri v hv).carry fun b o hb _ => (old b o hb).2) fun o ho hcl => ?_
    have eo : o = seqObj "list" its.toArray 0 := Option.some.inj (ho.symm.trans ga)
    rw [eo] at hcl
    exact absurd (Value.type.inj hcl) (by decide)
  · have outr : ∀ v ∈ out, ∃ b, v = Value.ref b := fun v hv => refs v (st.perm.mem_iff.mp hv)
    obtain ⟨ep, at_⟩ := sortedAll_at s.heap its out.toArray
    have pm : (out.map backV).Perm xs := exs ▸ st.perm.map backV
    refine ⟨.ref (s.heap.objs.size + 1), upd H (s.heap.objs.size + 1) (.lst (out.map backV)), inv.laid (t' := s.toks) (fun b o ho => sortedAll_old ho) (Nat.le_succ _) ⟨?_, out, ep, vals_back outr, at_⟩, rfl, go _ _ ?_ pm (inv.hok.fresh (Nat.le_succ _))⟩
    · rw [pm.length_eq]
      exact small
    · rw [List.pairwise_map]
      exact so
end
end TV
/-! part TvF8 -/
namespace TV
open PySem PySem.Spec PyProof.Rows L2 Evl
section
variable {K : PySem.W.Frag} {σ : L2.St} {H H' : Hp} {ta tb te tl td ty tv tc : TE} {t u : TT} {x y z v : V} {r : R2} {sp : Sp} {E : XK} {D : Ends} {tz : TS}
theorem perm_map {α β : Type} (f : α → β) : ∀ {zs : List α} {ys : List β}, ys.Perm (zs.map f) → ∃ zs' : List α, zs'.Perm zs ∧ ys = zs'.map f
  | [], ys, h => ⟨[], List.Perm.refl _, List.perm_nil.mp h⟩
  | z :: zs, ys, h => by
    have hm : f z ∈ ys := h.mem_iff.mpr List.mem_cons_self
    obtain ⟨l1, l2, rfl⟩ := List.append_of_mem hm
    have h2 : (l1 ++ l2).Perm (zs.map f) := (List.perm_middle.symm.trans h).cons_inv
    obtain ⟨ws, hp, e⟩ := perm_map f h2
    have e1 : l1 = (ws.take l1.length).map f := by
      have := congrArg (List.take l1.length) e
      rw [List.take_left, ← List.map_take] at this
      exact this
    have e2 : l2 = (ws.drop l1.length).map f := by
      have := congrArg (List.drop l1.length) e
      rw [List.drop_left, ← List.map_drop] at this
      exact this
    refine ⟨ws.take l1.length ++ z :: ws.drop l1.length, List.perm_middle.trans ((List.Perm.of_eq (List.take_append_drop _ _)).trans hp |>.cons z), ?_⟩
    rw [List.map_append, List.map_cons, ← e1, ← e2]
theorem inV_nat (x : Nat) (L : List Nat) : inV (vN x) (L.map vN) = L.contains x := by
  unfold inV
  rw [List.any_map, Bool.eq_iff_iff, List.any_eq_true, List.contains_iff_mem]
  constructor
  · rintro ⟨y, hy, h⟩
    have : ((y : Int) == (x : Int)) = true := h
    have : (y : Int) = (x : Int) := beq_iff_eq.mp this
    have : y = x := by omega
    rw [← this]
    exact hy
  · intro h
    exact ⟨x, h, beq_self_eq_true (x : Int)⟩
theorem flat_nat (L : List Nat) : (L.map vN).all flatV = true := by
  rw [List.all_map, List.all_eq_true]
  intro _ _
  rfl
/-- x not in a call's list -/
theorem et_notin {x : Nat} {b : Bool} (ha : Ev ta σ H (vN x)) (hc : ∀ H1, Ex H H1 → ∀ Q : VK, (∀ (L : List Nat) p H2, L.contains x = b → Ex H1 H2 → H2 p = some (.lst (L.map vN)) → Q (.ref p) H2) → tc σ H1 Q) : EvT (tTest (tOp (rIn K true) ta tc)) σ H (!b) := fun H1 e Q q =>
  ha H1 e _ fun H2 e2 => hc H2 (e.trans e2) _ fun L p H3 hb e3 hp => ⟨p, L.map vN, rfl, .inl (sq_of hp), rfl, flat_nat L, !b, (by rw [if_pos rfl, inV_nat, hb]), q H3 (e2.trans e3)⟩
theorem ev_in {x : Nat} {p : Addr} {L : List Nat} (ha : Ev ta σ H (vN x)) (hb : Ev tb σ H (.ref p)) (hp : SqL K H p (L.map vN)) : Ev (tOp (rIn K false) ta tb) σ H (.bl (L.contains x)) := by
  rw [← inV_nat]
  exact ev_op ha hb (rv_isL hp rfl (flat_nat L))
/-! a comprehension that makes a new list each turn -/
def Cr (H0 : Hp) (g : Nat → List V) (D : Addr) (i : Nat) (H' : Hp) : Prop := H0 D = none ∧ Ex H0 H' ∧ ∃ rows : List Addr, rows.length = i ∧ rows.Nodup ∧ D ∉ rows ∧ (∀ r ∈ rows, H0 r = none) ∧ (∀ k r, rows[k]? = some r → H' r = some (.lst (g k))) ∧ H' D = some (.lst (rows.map V.ref))
theorem cr_start {H0 : Hp} {g : Nat → List V} {D : Addr} (h : H0 D = none) : Cr H0 g D 0 (upd H0 D (.lst [])) :=
  ⟨h, Ex.new h, [], rfl, List.nodup_nil, by simp, fun r hr => absurd hr (by simp), fun k r hr => absurd hr (by simp), upd_same⟩
theorem cr_turn {H0 H' : Hp} {g : Nat → List V} {D : Addr} {i : Nat} {σ2 : L2.St} (p : Cr H0 g D i H') (hi : i < 50000) (he : EvL te σ2 H' (g i)) :
    tYes σ2 H' fun b H3 => if b = true then te σ2 H3 fun y H4 => ∃ acc, H4 D = some (.lst acc) ∧ acc.length < sizeLine ∧ Cr H0 g D (i + 1) (upd H4 D (.lst (acc ++ [y]))) else Cr H0 g D (i + 1) H3 := by
  obtain ⟨h0, ex, rows, len, nd, nin, fr, at_, hD⟩ := p
  refine he H' (Ex.refl _) _ fun q H4 hq e4 h4 => ⟨rows.map V.ref, e4 _ _ hD, sz_lt (by rw [List.length_map]; omega), h0, Ex.mut (ex.trans e4) h0, rows ++ [q], by rw [List.length_append, len]; rfl, ?_, ?_, ?_, ?_, ?_⟩
  · rw [List.nodup_append]
    refine ⟨nd, List.nodup_cons.mpr ⟨by simp, List.nodup_nil⟩, fun a ha b hb e => ?_⟩
    rw [List.mem_singleton.mp hb] at e
    obtain ⟨k, hk, ek⟩ := List.mem_iff_getElem.mp ha
    have := at_ k a (by rw [List.getElem?_eq_getElem hk, ek])
    rw [e, hq] at this
    cases this
  · intro m
    rcases List.mem_append.mp m with m | m
    · exact nin m
    · rw [List.mem_singleton.mp m, hq] at hD
      cases hD
  · intro r hr
    rcases List.mem_append.mp hr with m | m
    · exact fr r m
    · rw [List.mem_singleton.mp m]
      exact fresh_back ex hq
  · intro k r hr
    have nr : r ≠ D := fun e => by
      rw [e] at hr
      have := List.mem_of_getElem? hr
      rcases List.mem_append.mp this with m | m
      · exact nin m
      · rw [List.mem_singleton.mp m, hq] at hD
        cases hD
    rw [upd_ne nr]
    by_cases hk : k < rows.length
    · rw [List.getElem?_append_left hk] at hr
      exact e4 _ _ (at_ k r hr)
    · have hk2 : k = rows.length := by
        have := (List.getElem?_eq_some_iff.mp hr).1
        rw [List.length_append] at this
        have : k < rows.length + 1 := this
        omega
      rw [hk2, List.getElem?_append_right (Nat.le_refl _), Nat.sub_self] at hr
      have : q = r := by simpa using hr
      rw [← this, hk2, len]
      exact h4
  · rw [upd_same, List.map_append]
    rfl
/-- what such a comprehension leaves -/
def NewRows (H0 : Hp) (g : Nat → List V) (n : Nat) (Q : VK) : Prop := ∀ (p : Addr) (rows : List Addr) (H2 : Hp), H0 p = none → Ex H0 H2 → rows.length = n → rows.Nodup → p ∉ rows → (∀ r ∈ rows, H0 r = none) → (∀ k r, rows[k]? = some r → H2 r = some (.lst (g k))) → H2 p = some (.lst (rows.map V.ref)) → Q (.ref p) H2
theorem lc_newN {xs : List V} {j : Nat} {vs : List Nat} (g : Nat → List V) (h : EvL tl σ H xs) (hz : xs.length ≤ 40000) (hw : ∀ x, wipe ((wipe σ vs).set j (some x)) vs = wipe σ vs)
    (he : ∀ (i : Nat) (x : V) H1, Ex H H1 → xs[i]? = some x → EvL te ((wipe σ vs).set j (some x)) H1 (g i)) {Q : VK} (k : NewRows H g xs.length Q) : tLc (iList K tl) (gName j) tYes te vs σ H Q :=
  h H (Ex.refl H) _ fun a H1 ha e1 hx => ⟨a, rfl, ⟨xs, sq_of hx⟩, fun Dl hD =>
  lc_list (xs := xs) (Cr H1 g Dl) (cr_start hD) (fun i H' _ p => sq_of (p.2.1 a _ hx)) (fun i x H' hi p => ⟨hw x, cr_turn p (by have := (List.getElem?_eq_some_iff.mp hi).1; omega) (he i x H' (e1.trans p.2.1) hi)⟩)
    (fun H' p => by
      obtain ⟨h0, ex, rows, len, nd, nin, fr, at_, hD'⟩ := p
      exact k Dl rows H' (fresh_back e1 h0) (e1.trans ex) len nd nin (fun r hr => fresh_back e1 (fr r hr)) at_ hD')⟩
theorem lc_newR {ta : TA} {n : Nat} {j : Nat} {vs : List Nat} (g : Nat → List V) (h : EvA ta σ H [vN n]) (hz : n ≤ 40000) (hw : ∀ x, wipe ((wipe σ vs).set j (some x)) vs = wipe σ vs)
    (he : ∀ (i : Nat) (x : V) H1, Ex H H1 → i < n → EvL te ((wipe σ vs).set j (some x)) H1 (g i)) {Q : VK} (k : NewRows H g n Q) : tLc (iRng1 ta) (gName j) tYes te vs σ H Q :=
  h H (Ex.refl H) _ fun H1 e1 => ⟨(n : Int), rfl, by omega, by omega, fun Dl hD =>
  lc_range (lo := 0) (n := (n : Int).toNat) (Cr H1 g Dl) (cr_start hD) (fun i H' hi p => ⟨hw _, cr_turn p (by omega) (he i _ H' (e1.trans p.2.1) (by omega))⟩)
    (fun H' p => by
      obtain ⟨h0, ex, rows, len, nd, nin, fr, at_, hD'⟩ := p
      rw [Int.toNat_natCast] at len
      exact k Dl rows H' (fresh_back e1 h0) (e1.trans ex) len nd nin (fun r hr => fresh_back e1 (fr r hr)) at_ hD')⟩
end
section
variable {P : Program} {w : World} {K : PySem.W.Frag} {mg : Str → Option Value} {base : Heap} {C : Addr}
/-! ### pairs_in_order -/
def tv3 (w : WF) (p : Nat × Nat) : List V := [V.int (0 - ((w p.1 p.2 : Nat) : Int)), vN p.1, vN p.2]
abbrev Zs := List (Addr × (Nat × Nat))
def PzAt (w : WF) (H : Hp) (zs : Zs) : Prop := ∀ z ∈ zs, H z.1 = some (.tup (tv3 w z.2))
def refsOf (zs : Zs) : List V := zs.map fun z => V.ref z.1
def triOf (H : Hp) : V → Tri
  | .ref t => (match H t with
    | some (.tup [.int a, .int b, .int c]) => (a, b, c)
    | _ => (0, 0, 0))
  | _ => (0, 0, 0)
theorem triOf_at {H : Hp} {t : Addr} {w : WF} {p : Nat × Nat} (h : H t = some (.tup (tv3 w p))) : triOf H (.ref t) = (0 - ((w p.1 p.2 : Nat) : Int), (p.1 : Int), (p.2 : Int)) := by
  show (match H t with
    | some (.tup [.int a, .int b, .int c]) => (a, b, c)
    | _ => (0, 0, 0)) = _
  rw [h] <;> rfl
def spPairs (C : Addr) : Sp := fun vs H Q _ => ∃ b n c w, vs = [.ref b] ∧ BalAt C H b n c w ∧ ∀ (zs : Zs) p H2, H p = none → Ex H H2 → zs.map (·.2) = pairsW n w → PzAt w H2 zs → H2 p = some (.lst (refsOf zs)) → Q (.ref p) H2
theorem sc_pairs : FnScope ["ballots", "found", "winner", "loser"] ["ballots"] (defScope (top 25)) := ⟨rfl, rfl, rfl, by decide +kernel, rfl, by decide +kernel, by decide +kernel⟩
/-- the pairs of the winners ahead of i, then those of i with the losers ahead of j -/
def rawTo (n : Nat) (w : WF) (i j : Nat) : List (Nat × Nat) := ((List.range i).flatMap fun i => ((List.range n).filter fun j => bt w i j).map fun j => (i, j)) ++ ((List.range j).filter fun j => bt w i j).map fun j => (i, j)
theorem rawTo_next (n : Nat) (w : WF) (i j : Nat) : rawTo n w i (j + 1) = rawTo n w i j ++ if bt w i j = true then [(i, j)] else [] := by
  unfold rawTo
  rw [List.append_assoc, List.range_succ, List.filter_append, List.map_append]
  congr 2
  rw [List.filter_cons]
  cases bt w i j <;> rfl
theorem rawTo_row (n : Nat) (w : WF) (i : Nat) : rawTo n w i n = rawTo n w (i + 1) 0 := by
  unfold rawTo
  rw [List.range_succ (n := i), List.flatMap_append]
  simp
theorem rawTo_all (n : Nat) (w : WF) : rawTo n w n 0 = rawPairs n w := by
  unfold rawTo rawPairs
  simp
theorem rawTo_len (n : Nat) (w : WF) {i j : Nat} (hi : i < n) (hj : j ≤ n) : (rawTo n w i j).length ≤ n * n := by
  unfold rawTo
  rw [List.length_append, List.length_map]
  have g : ∀ l : List Nat, (l.flatMap fun i => ((List.range n).filter fun j => bt w i j).map fun j => (i, j)).length ≤ l.length * n := by
    intro l
    induction l with
    | nil => exact Nat.zero_le _
    | cons a t ih =>
      rw [List.flatMap_cons, List.length_append, List.length_map, List.length_cons, Nat.add_mul]
      have := List.length_filter_le (fun j => bt w a j) (List.range n)
      rw [List.length_range] at this
      omega
  have g1 := g (List.range i)
  have g2 := List.length_filter_le (fun k => bt w i k) (List.range j)
  rw [List.length_range] at g1 g2
  have g3 : i * n + n ≤ n * n := by
    have : (i + 1) * n ≤ n * n := Nat.mul_le_mul_right n hi
    rw [Nat.add_mul, Nat.one_mul] at this
    exact this
  omega
theorem fn_pairs (D : Dn K mg "pairs_in_order" (top 25)) (T : BTxt K C) (hE : Fn P w K mg base "everybody" 1 (spEv C)) (hB : Fn P w K mg base "beats" 1 (spBeats C)) (ms : mg "sorted" = none) : Fn P w K mg base "pairs_in_order" 2 (spPairs C) := by
  refine D.fn sc_pairs (fun vs H Q E h => ?_) (fun _ _ _ _ _ _ us hl => match us, hl with | [_], _ => rfl) (fun f cdv A outer s H vs Q E hr h => ?_)
  · obtain ⟨_, _, _, _, rfl, _⟩ := h
    rfl
  · obtain ⟨b, n, c, w, rfl, B, k⟩ := h
    refine ⟨_, pss_cons (ps_set (i := 1) sc_pairs.nd rfl (Or.inl rfl) (pe_lst pa_nil))
      (pss_cons (ps_for PassesOwn.never rfl (pi_list (pe_fn hE hr (by decide) (pa_cons (pv 0) pa_nil))) (pg_name (i := 2) sc_pairs.nd rfl (Or.inl rfl))
        (pss_one (ps_for PassesOwn.never rfl (pi_list (pe_fn hE hr (by decide) (pa_cons (pv 0) pa_nil))) (pg_name (i := 3) sc_pairs.nd rfl (Or.inl rfl))
          (pss_one (ps_if (pt_val (pe_fn hB hr (by decide) (pa_cons (pv 0) (pa_cons (pv 2) (pa_cons (pv 3) pa_nil)))))
            (pss_one (ps_expr (pe_bm PySem.F.plainAttrs_list PySem.F.slot_list_append PySem.F.type_list_append mt_append (pv 1) (pa_cons (pe_tup (pa_cons (pe_op op_sub pe_int (pe_ix ix_list (pe_ix ix_list (pe_fld (pv 0) rfl) (pv 2) (fun _ _ => rfl)) (pv 3) (fun _ _ => rfl))) (pa_cons (pv 2) (pa_cons (pv 3) pa_nil)))) pa_nil)))) pss_nil)))))
      (pss_one (ps_ret (pe_callB cr_sorted3 rfl ms (by decide +kernel) (pa_cons (pv 1) pa_nil))))), ?_⟩
    have h6 := B.1
    refine q_asgL (xs := []) (el_lst ea_nil (by decide)) fun F H1 hF e1 h1 => ?_
    have B1 := B.mono e1
    refine q_forNLn (xs := (List.range n).map vN) (el_call (ea_cons (ev_var rfl) ea_nil) (sl_ev B1))
      (fun p i σ' H' => ∃ (v2 v3 : Option V) (zs : Zs), σ' = [some (.ref b), some (.ref F), v2, v3] ∧ Ex H H' ∧ H' p = some (.lst ((List.range n).map vN)) ∧ p ≠ F ∧ zs.map (·.2) = rawTo n w i 0 ∧ PzAt w H' zs ∧ H' F = some (.lst (refsOf zs)))
      (fun p H2 hp e2 h2 => ⟨_, _, [], rfl, e1.trans e2, h2, (fun q => by rw [q, h1] at hp; cases hp), (by unfold rawTo; rfl), (fun z hz => absurd hz (by simp)), e2 _ _ h1⟩) (fun p i σ' H' _ ⟨_, _, _, _, _, h1, _⟩ => sq_of h1) ?_ ?_
    · rintro p i x σ' H' hx ⟨v2, v3, zs, rfl, ex, hp, np, ez, hz, hf⟩
      obtain ⟨rfl, hi⟩ := range_get hx
      have B2 := B.mono ex
      refine s_forNL (xs := (List.range n).map vN) (g := gName 3) (el_call (ea_cons (ev_var rfl) ea_nil) (sl_ev B2))
        (fun q j σ' H' => ∃ (v3 : Option V) (zs : Zs), σ' = [some (.ref b), some (.ref F), some (vN i), v3] ∧ Ex H H' ∧ H' p = some (.lst ((List.range n).map vN)) ∧ H' q = some (.lst ((List.range n).map vN)) ∧ q ≠ F ∧ zs.map (·.2) = rawTo n w i j ∧ PzAt w H' zs ∧ H' F = some (.lst (refsOf zs)))
        (fun q H3 hq e3 h3 => ⟨_, zs, rfl, ex.trans e3, e3 _ _ hp, h3, (fun e => by rw [e, hf] at hq; cases hq), ez, (fun z m => e3 _ _ (hz z m)), e3 _ _ hf⟩) (fun q j σ' H' _ ⟨_, _, _, _, _, h1, _⟩ => sq_of h1) ?_ ?_
      · rintro q j x σ' H' hx ⟨v3, zs, rfl, ex, hp, hq, nq, ez, hz, hf⟩
        obtain ⟨rfl, hj⟩ := range_get hx
        have B3 := B.mono ex
        refine s_when (et_B (ev_call (ea_cons (ev_var rfl) (ea_cons (ev_var rfl) (ea_cons (ev_var rfl) ea_nil))) (sv_beats B3 hi hj))) (fun hb H4 e4 => ?_) (fun hb H4 e4 => ?_)
        · refine s_appU (ys := tv3 w (i, j)) (e4 _ _ hf) (ev_var rfl) (eu_tup (ea_cons (ev_op ev_c (ev_wins T (B3.mono e4) (ev_var rfl) (ev_var rfl) (ev_var rfl) hi hj) rv_I0) (ea_cons (ev_var rfl) (ea_cons (ev_var rfl) ea_nil))) (by show 3 ≤ 100000; decide)) ?_ fun t H5 ht e5 h5 => ?_
          · have l1 := rawTo_len n w hi (Nat.le_of_lt hj)
            rw [← ez, List.length_map] at l1
            have : n * n ≤ 36 := (Nat.mul_le_mul h6 h6 : n * n ≤ 6 * 6)
            unfold refsOf
            rw [List.length_map]
            omega
          · have ntF : t ≠ F := fun e => by
              rw [e, e4 _ _ hf] at ht
              cases ht
            refine ⟨_, zs ++ [(t, (i, j))], rfl, Ex.mut ((ex.trans e4).trans e5) hF, ?_, ?_, nq, ?_, ?_, ?_⟩
            · rw [upd_ne np]
              exact e5 _ _ (e4 _ _ hp)
            · rw [upd_ne nq]
              exact e5 _ _ (e4 _ _ hq)
            · rw [List.map_append, ez, rawTo_next, if_pos hb]
              rfl
            · intro z hzz
              rcases List.mem_append.mp hzz with m | m
              · have hz1 := e5 _ _ (e4 _ _ (hz z m))
                have nz : z.1 ≠ F := fun e => by
                  rw [e] at hz1
                  rw [e5 _ _ (e4 _ _ hf)] at hz1
                  cases hz1
                rw [upd_ne nz]
                exact hz1
              · rw [List.mem_singleton.mp m, upd_ne ntF]
                exact h5
            · rw [upd_same]
              unfold refsOf
              rw [List.map_append]
              rfl
        · refine ⟨_, zs, rfl, ex.trans e4, e4 _ _ hp, e4 _ _ hq, nq, ?_, (fun z m => e4 _ _ (hz z m)), e4 _ _ hf⟩
          rw [rawTo_next, if_neg (by rw [hb]; decide), List.append_nil]
          exact ez
      · rintro q σ' H' ⟨v3, zs, rfl, ex, hp, hq, nq, ez, hz, hf⟩
        rw [List.length_map, List.length_range, rawTo_row] at ez
        exact ⟨_, _, zs, rfl, ex, hp, np, ez, hz, hf⟩
    · rintro p σ' H' ⟨v2, v3, zs, rfl, ex, hp, np, ez, hz, hf⟩
      rw [List.length_map, List.length_range, rawTo_all] at ez
      refine ⟨_, rfl, F, refsOf zs, triOf H', rfl, sq_of hf, fun x hx => ?_, fun ys q so pm hq => ?_⟩
      · obtain ⟨z, m, rfl⟩ := List.mem_map.mp hx
        refine ⟨z.1, rfl, ?_⟩
        rw [triOf_at (hz z m)]
        exact hz z m
      · obtain ⟨zs', pz, rfl⟩ := perm_map _ pm
        have hz' : PzAt w H' zs' := fun z m => hz z (pz.mem_iff.mp m)
        refine k zs' q _ (fresh_back ex hq) (ex.trans (Ex.new hq)) (pairs_uniq ?_ ?_) (fun z m => ?_) upd_same
        · rw [← ez]
          exact pz.map _
        · rw [List.pairwise_map] at so ⊢
          refine List.Pairwise.imp_of_mem (fun {z1 z2} m1 m2 hn => ?_) so
          rw [triOf_at (hz' z1 m1), triOf_at (hz' z2 m2)] at hn
          have := lex3_no.mp hn
          rw [leW_iff]
          dsimp only at this
          omega
        · rw [upd_ne (ne_of_none (hz' z m) hq)]
          exact hz' z m
end
end TV
/-! part TvF9 -/
namespace TV
open PySem PySem.Spec PyProof.Rows L2 Evl
/-- for each winner the losers of the pairs l, a list each -/
structure StX (H : Hp) (S : Addr) (rows : List Addr) (n : Nat) (l : List (Nat × Nat)) : Prop where
  ob : H S = some (.lst (rows.map V.ref))
  ln : rows.length = n
  nd : rows.Nodup
  ni : S ∉ rows
  rw_ : ∀ i r, rows[i]? = some r → H r = some (.lst ((outs l i).map vN))
def StAt (H : Hp) (S : Addr) (n : Nat) (l : List (Nat × Nat)) : Prop := ∃ rows, StX H S rows n l
theorem StX.mono {H H' : Hp} {S : Addr} {rows : List Addr} {n : Nat} {l : List (Nat × Nat)} (e : Ex H H') (h : StX H S rows n l) : StX H' S rows n l := ⟨e _ _ h.ob, h.ln, h.nd, h.ni, fun i r q => e _ _ (h.rw_ i r q)⟩
theorem StAt.mono {H H' : Hp} {S : Addr} {n : Nat} {l : List (Nat × Nat)} (e : Ex H H') (h : StAt H S n l) : StAt H' S n l := by
  obtain ⟨rows, h⟩ := h
  exact ⟨rows, h.mono e⟩
theorem StX.get {H : Hp} {S : Addr} {rows : List Addr} {n i : Nat} {l : List (Nat × Nat)} (h : StX H S rows n l) (hi : i < n) : ∃ r, rows[i]? = some r ∧ (rows.map V.ref)[i]? = some (.ref r) := by
  have q : i < rows.length := by rw [h.ln]; exact hi
  refine ⟨rows[i], List.getElem?_eq_getElem q, ?_⟩
  rw [List.getElem?_map, List.getElem?_eq_getElem q]
  rfl
section
variable {K : PySem.W.Frag} {σ : L2.St} {H H' : Hp} {ta tb te tl td ty tv tc : TE} {x y z v : V}
theorem q_newN {te : TE} {D : Ends} {tz : TS} {xs : List V} {i j : Nat} {vs : List Nat} (g : Nat → List V) (h : EvL tl σ H xs) (hz : xs.length ≤ 40000) (hw : ∀ x, wipe ((wipe σ vs).set j (some x)) vs = wipe σ vs)
    (he : ∀ (i : Nat) (x : V) H1, Ex H H1 → xs[i]? = some x → EvL te ((wipe σ vs).set j (some x)) H1 (g i)) (k : NewRows H g xs.length fun x H1 => tz D (σ.set i (some x)) H1) : tSeq (tAsg (tLc (iList K tl) (gName j) tYes te vs) (gName i)) tz D σ H :=
  lc_newN (K := K) g h hz hw he k
/-- for .. in f(x): what is known of the list that the call hands back is told by Good -/
theorem q_forC {sp : Sp} {E : XK} {D : Ends} {tu tz : TS} {g : TG} (Good : Addr → List V → Hp → Prop) (ha : Ev ta σ H x)
    (hs : ∀ H1, Ex H H1 → ∀ Q : VK, (∀ a xs H2, Good a xs H2 → Ex H1 H2 → H2 a = some (.lst xs) → Q (.ref a) H2) → sp [x] H1 Q E)
    (k : ∀ a xs H2, Good a xs H2 → Ex H H2 → H2 a = some (.lst xs) → ∃ Pv : Nat → L2.St → Hp → Prop, Pv 0 σ H2 ∧ (∀ i σ' H', i ≤ xs.length → Pv i σ' H' → SqL K H' a xs) ∧
      (∀ i x σ' H', xs[i]? = some x → Pv i σ' H' → g x σ' H' fun σ2 H2 => tu { D with nx := Pv (i + 1), ct := Pv (i + 1), bk := tz D } σ2 H2) ∧ (∀ σ' H', Pv xs.length σ' H' → tz D σ' H')) :
    tSeq (tFor (iList K (tCall sp [] E (tCons ta tNil))) g tu) tz D σ H := ha H (Ex.refl H) _ fun H1 e1 => hs H1 e1 _ fun a xs H2 gd e2 h2 => by
  obtain ⟨Pv, p0, p1, p2, p3⟩ := k a xs H2 gd (e1.trans e2) h2
  exact ⟨a, rfl, ⟨xs, sq_of h2⟩, for_list Pv p0 p1 p2 p3⟩
/-- standing[i] -/
theorem ev_row {S r : Addr} {rows : List Addr} {n i : Nat} {l : List (Nat × Nat)} (h : StX H S rows n l) (hr : rows[i]? = some r) (ha : Ev ta σ H (.ref S)) (hb : Ev tb σ H (vN i)) : Ev (tOp (rIxL K) ta tb) σ H (.ref r) :=
  ev_ix ha hb (sq_of h.ob) (by rw [List.getElem?_map, hr]; rfl)
end
section
variable {P : Program} {w : World} {K : PySem.W.Frag} {mg : Str → Option Value} {base : Heap} {C : Addr}
/-! ### reached -/
def spRch : Sp := fun vs H Q _ => ∃ S n l a, vs = [.ref S, vN a] ∧ StAt H S n l ∧ a < n ∧ n ≤ 1000 ∧ (∀ p ∈ l, p.1 < n ∧ p.2 < n) ∧
  ∀ (L : List Nat) p H2, (∀ x, L.contains x = (Rc61.reach l l.length [a]).contains x) → H p = none → Ex H H2 → H2 p = some (.lst (L.map vN)) → Q (.ref p) H2
theorem sc_rch : FnScope ["standing", "begin", "line", "at", "loser"] ["standing", "begin"] (defScope (top 26)) := ⟨rfl, rfl, rfl, by decide +kernel, rfl, by decide +kernel, by decide +kernel⟩
theorem outs_len (l : List (Nat × Nat)) (i : Nat) : (outs l i).length ≤ l.length := by
  unfold outs
  rw [List.length_map]
  exact List.length_filter_le _ _
theorem fn_rch (D : Dn K mg "reached" (top 26)) (ml : mg "len" = none) : Fn P w K mg base "reached" 1 spRch := by
  refine D.fn sc_rch (fun vs H Q E h => ?_) (fun _ _ _ _ _ _ us hl => match us, hl with | [_, _], _ => rfl) (fun f cdv A outer s H vs Q E hr h => ?_)
  · obtain ⟨_, _, _, _, rfl, _⟩ := h
    rfl
  · obtain ⟨S, n, l, a, rfl, ⟨rows, B⟩, ha, hn, hl, k⟩ := h
    refine ⟨_, pss_cons (ps_set (i := 2) sc_rch.nd rfl (Or.inl rfl) (pe_lst (pa_cons (pv 1) pa_nil)))
      (pss_cons (ps_set (i := 3) sc_rch.nd rfl (Or.inl rfl) pe_int)
      (pss_cons (ps_while PassesOwn.never (pt_cmpR op_lt (pv 3) (pe_callB call_len_seq rfl ml PySem.boot_len (pa_cons (pv 2) pa_nil)) (nomark _))
        (pss_cons (ps_for PassesOwn.never rfl (pi_list (pe_ix ix_list (pv 0) (pe_ix ix_list (pv 2) (pv 3) (fun _ _ => rfl)) (fun _ _ => rfl))) (pg_name (i := 4) sc_rch.nd rfl (Or.inl rfl))
          (pss_one (ps_if (pt_cmpR op_notIn_seq (pv 4) (pv 2) rfl) (pss_one (ps_expr (pe_bm PySem.F.plainAttrs_list PySem.F.slot_list_append PySem.F.type_list_append mt_append (pv 2) (pa_cons (pv 4) pa_nil)))) pss_nil)))
        (pss_one (ps_aug (i := 3) sc_rch.nd rfl (Or.inl rfl) pe_int ip_add))))
      (pss_one (ps_ret (pv 2))))), ?_⟩
    refine q_asgL (xs := [vN a]) (el_lst (ea_cons (ev_var rfl) ea_nil) (by show 1 ≤ 100000; decide)) fun L H1 hL e1 h1 => ?_
    refine q_asg ev_c fun H2 e2 => ?_
    refine q_while (fun m σ' H' => ∃ (Ls : List Nat) (at_ : Nat) (v4 : Option V), σ' = [some (.ref S), some (vN a), some (.ref L), some (vN at_), v4] ∧ Ex H H' ∧ Reg l a n Ls ∧ RDone l Ls at_ ∧ at_ ≤ Ls.length ∧ H' L = some (.lst (Ls.map vN)) ∧ m = n - at_) n
      ⟨[a], 0, none, rfl, e1.trans e2, Reg.one ha, fun k x hk => absurd hk (Nat.not_lt_zero _), Nat.zero_le _, e2 _ _ h1, rfl⟩ ?_
    rintro m σ' H' ⟨Ls, at_, v4, rfl, ex, R, dn, le, hLs, rfl⟩
    have len := R.len
    refine ⟨decide (at_ < Ls.length), et_is (et_test (ev_op (ev_var rfl) (ev_len (ev_var rfl) (sq_of hLs)) (rv_I0 (g := fun i j => .bl (decide (i < j)))))) (decide_eq_decide.mpr (by rw [List.length_map]; omega)), fun hb H4 e4 => ?_, fun hb H4 e4 => ?_⟩
    · have hat := of_decide_eq_true hb
      have gm : Ls[at_]? = some Ls[at_] := List.getElem?_eq_getElem hat
      generalize Ls[at_] = xk at gm
      have mL : xk ∈ Ls := List.mem_of_getElem? gm
      have xn := R.lt xk mL
      have B4 := B.mono (ex.trans e4)
      obtain ⟨r, hr1, hr2⟩ := B4.get xn
      have fold := R.fold (ys := outs l xk) mL fun y hy => ⟨mem_outs.mp hy, (hl _ (mem_outs.mp hy)).2⟩
      refine ⟨fun σ2 H2 => ∃ (Ls : List Nat) (v4 : Option V), σ2 = [some (.ref S), some (vN a), some (.ref L), some (vN (at_ + 1)), v4] ∧ Ex H H2 ∧ Reg l a n Ls ∧ RDone l Ls (at_ + 1) ∧ at_ + 1 ≤ Ls.length ∧ H2 L = some (.lst (Ls.map vN)),
        fun σ2 H2 ⟨Ls, v4, q1, q2, q3, q4, q5, q6⟩ => ⟨n - (at_ + 1), by omega, Ls, at_ + 1, v4, q1, q2, q3, q4, q5, q6, rfl⟩, ?_⟩
      have hr4 := B4.rw_ _ _ hr1
      have nrL : r ≠ L := fun e => by
        have := B.rw_ _ _ hr1
        rw [e, hL] at this
        cases this
      refine q_forLn (xs := (outs l xk).map vN) (ev_row B4 hr1 (ev_var rfl) (ev_ix (i := at_) (ev_var rfl) (ev_var rfl) (sq_of (e4 _ _ hLs)) (by rw [List.getElem?_map, gm]; rfl))) (sq_of hr4)
        (fun j σ' H' => ∃ v4 : Option V, σ' = [some (.ref S), some (vN a), some (.ref L), some (vN at_), v4] ∧ Ex H H' ∧ H' r = some (.lst ((outs l xk).map vN)) ∧ H' L = some (.lst ((((outs l xk).take j).foldl addNew Ls).map vN)))
        (fun H5 e5 => ⟨_, rfl, (ex.trans e4).trans e5, e5 _ _ hr4, e5 _ _ (e4 _ _ hLs)⟩) (fun j σ' H' _ ⟨_, _, _, h5, _⟩ => sq_of h5) ?_ ?_
      · rintro j z σ' H' hz ⟨v4, rfl, ex5, hr5, hL5⟩
        obtain ⟨y, hy, rfl⟩ := map_get hz
        have tk : ((outs l xk).take (j + 1)).foldl addNew Ls = addNew (((outs l xk).take j).foldl addNew Ls) y := by
          rw [List.take_add_one, hy, List.foldl_append]
          rfl
        have len1 := (R.fold (ys := (outs l xk).take j) mL fun y hy => ⟨mem_outs.mp (List.mem_of_mem_take hy), (hl _ (mem_outs.mp (List.mem_of_mem_take hy))).2⟩).1.len
        rw [tk]
        generalize ((outs l xk).take j).foldl addNew Ls = Lx at hL5 len1 ⊢
        refine s_when (b := !Lx.contains y) (et_is (et_test (ev_op (ev_var rfl) (ev_var rfl) (rv_niL (sq_of hL5) rfl (flat_nat Lx)))) (by rw [inV_nat])) (fun hq H6 e6 => ?_) (fun hq H6 e6 => ?_)
        · have ad : addNew Lx y = Lx ++ [y] := if_pos hq
          rw [ad]
          refine s_app (e6 _ _ hL5) (ev_var rfl) (ev_var rfl) (by rw [List.length_map]; omega) fun H7 e7 => ⟨_, rfl, Ex.mut ((ex5.trans e6).trans e7) hL, ?_, ?_⟩
          · rw [upd_ne nrL]
            exact e7 _ _ (e6 _ _ hr5)
          · rw [upd_same, List.map_append]
            rfl
        · have ad : addNew Lx y = Lx := if_neg (by rw [hq]; decide)
          rw [ad]
          exact ⟨_, rfl, ex5.trans e6, e6 _ _ hr5, e6 _ _ hL5⟩
      · rintro σ' H' ⟨v4, rfl, ex5, hr5, hL5⟩
        rw [List.length_map, List.take_length] at hL5
        refine s_aug (a := (at_ : Int)) (b := 1) rfl ev_c fun H6 e6 => ?_
        obtain ⟨f1, ⟨ee, f2⟩, f3⟩ := fold
        refine ⟨(outs l xk).foldl addNew Ls, v4, rfl, ex5.trans e6, f1, dn.more R (fun p hp => (hl p hp).2) gm, ?_, e6 _ _ hL5⟩
        rw [f2, List.length_append]
        omega
    · have hat := of_decide_eq_false hb
      refine s_ret (ev_var rfl) fun H5 e5 => ?_
      have eq : at_ = Ls.length := by omega
      rw [eq] at dn
      exact k Ls L H5 (dn.contains R) hL ((ex.trans e4).trans e5) (e5 _ _ (e4 _ _ hLs))
/-! ### standing_pairs -/
def spSt (C : Addr) : Sp := fun vs H Q _ => ∃ b n c w, vs = [.ref b] ∧ BalAt C H b n c w ∧ ∀ S H2, H S = none → Ex H H2 → StAt H2 S n (standW n w) → Q (.ref S) H2
theorem sc_st : FnScope ["ballots", "standing", "fewer", "winner", "loser", "candidate"] ["ballots"] (defScope (top 27)) := ⟨rfl, rfl, rfl, by decide +kernel, rfl, by decide +kernel, by decide +kernel⟩
theorem take_foldl_stand {n : Nat} {w : WF} {i : Nat} {p : Nat × Nat} (h : (pairsW n w)[i]? = some p) : ((pairsW n w).take (i + 1)).foldl Rc61.stand [] = Rc61.stand (((pairsW n w).take i).foldl Rc61.stand []) p := by
  rw [List.take_add_one, h, List.foldl_append]
  rfl
theorem fn_st (D : Dn K mg "standing_pairs" (top 27)) (hE : Fn P w K mg base "everybody" 1 (spEv C)) (hP : Fn P w K mg base "pairs_in_order" 2 (spPairs C)) (hR : Fn P w K mg base "reached" 1 spRch) : Fn P w K mg base "standing_pairs" 3 (spSt C) := by
  refine D.fn sc_st (fun vs H Q E h => ?_) (fun _ _ _ _ _ _ us hl => match us, hl with | [_], _ => rfl) (fun f cdv A outer s H vs Q E hr h => ?_)
  · obtain ⟨_, _, _, _, rfl, _⟩ := h
    rfl
  · obtain ⟨b, n, c, w, rfl, B, k⟩ := h
    refine ⟨_, pss_cons (ps_setLc (i := 1) (own := [("candidate", 5)]) (g := gName 5) (tt := tYes) rfl sc_st.nd rfl rfl (sw_true rfl rfl rfl (by decide +kernel)) (pi_list (pe_fn hE hr (by decide) (pa_cons (pv 0) pa_nil))) (blkOk_by (N := ["ballots", "standing", "fewer", "winner", "loser", "candidate"]) (sc := defScope (top 27)) (by decide +kernel))
        (fun _ _ _ _ _ => pg_name (i := 5) sc_st.nd rfl (Or.inl rfl)) (fun _ _ _ _ _ => pts_nil) (fun _ _ _ _ _ => pe_lst pa_nil))
      (pss_cons (ps_for PassesOwn.never rfl (pi_list (pe_fn hP hr (by decide) (pa_cons (pv 0) pa_nil))) (pg_tup rfl (pgs_cons (pg_name (i := 2) sc_st.nd rfl (Or.inl rfl)) (pgs_cons (pg_name (i := 3) sc_st.nd rfl (Or.inl rfl)) (pgs_cons (pg_name (i := 4) sc_st.nd rfl (Or.inl rfl)) pgs_nil))))
        (pss_one (ps_if (pt_cmpR op_notIn_seq (pv 3) (pe_fn hR hr (by decide) (pa_cons (pv 1) (pa_cons (pv 4) pa_nil))) rfl)
          (pss_one (ps_expr (pe_bm PySem.F.plainAttrs_list PySem.F.slot_list_append PySem.F.type_list_append mt_append (pe_ix ix_list (pv 1) (pv 3) (fun _ _ => rfl)) (pa_cons (pv 4) pa_nil)))) pss_nil)))
      (pss_one (ps_ret (pv 1)))), ?_⟩
    have h6 := B.1
    refine q_newN (xs := (List.range n).map vN) (fun _ => []) (el_call (ea_cons (ev_var rfl) ea_nil) (sl_ev B)) (by rw [List.length_map, List.length_range]; omega) (fun _ => rfl) (fun i x H1 e hi => el_lst ea_nil (by decide)) fun S rows H1 hS e1 len nd nin fr at_ hS1 => ?_
    rw [List.length_map, List.length_range] at len
    have B1 := B.mono e1
    refine q_forC (x := .ref b) (fun p xs H2 => ∃ zs : Zs, xs = refsOf zs ∧ zs.map (·.2) = pairsW n w ∧ PzAt w H2 zs ∧ H1 p = none) (ev_var rfl)
      (fun H2 e2 Q q => ⟨b, n, c, w, rfl, B1.mono e2, fun zs p H3 hp e3 ez hz hp3 => q p _ H3 ⟨zs, rfl, ez, hz, fresh_back e2 hp⟩ e3 hp3⟩) ?_
    rintro p xs H2 ⟨zs, rfl, ez, hz, hp⟩ e2 hp2
    refine ⟨fun i σ' H' => ∃ v2 v3 v4 : Option V, σ' = [some (.ref b), some (.ref S), v2, v3, v4, none] ∧ Ex H H' ∧ PzAt w H' zs ∧ H' p = some (.lst (refsOf zs)) ∧ StX H' S rows n (((pairsW n w).take i).foldl Rc61.stand []),
      ⟨_, _, _, rfl, e1.trans e2, hz, hp2, ⟨e2 _ _ hS1, len, nd, nin, fun i r q => e2 _ _ (at_ i r q)⟩⟩, (fun i σ' H' _ ⟨_, _, _, _, _, _, h2, _⟩ => sq_of h2), ?_, ?_⟩
    · rintro i x σ' H' hx ⟨v2, v3, v4, rfl, ex, hz2, hpp, st⟩
      obtain ⟨z, hzi, rfl⟩ : ∃ z, zs[i]? = some z ∧ x = V.ref z.1 := by
        unfold refsOf at hx
        rw [List.getElem?_map] at hx
        cases q : zs[i]? with
        | none => rw [q] at hx; cases hx
        | some z => rw [q] at hx; exact ⟨z, rfl, (Option.some.inj hx).symm⟩
      have hpi : (pairsW n w)[i]? = some z.2 := by rw [← ez, List.getElem?_map, hzi]; rfl
      obtain ⟨pn1, pn2, _⟩ := pairsW_mem.mp (List.mem_of_getElem? hpi)
      have ht := hz2 z (List.mem_of_getElem? hzi)
      refine ⟨z.1, tv3 w z.2, rfl, st_of ht, rfl, _, _, rfl, _, _, rfl, _, _, rfl, rfl, ?_⟩
      have lt := standW_lt (n := n) (w := w) (k := i)
      have tk := take_foldl_stand hpi
      generalize hl : ((pairsW n w).take i).foldl Rc61.stand [] = l at st lt tk
      have stp : ∀ H2, Ex H' H2 → StAt H2 S n l := fun H2 e => ⟨rows, st.mono e⟩
      refine s_when (b := !((Rc61.reach l l.length [z.2.2]).contains z.2.1)) (et_notin (x := z.2.1) (ev_var rfl) fun H3 e3 Q q => ?_) (fun hb H4 e4 => ?_) (fun hb H4 e4 => ?_)
      · refine ⟨.ref S, rfl, vN z.2.2, rfl, S, n, l, z.2.2, rfl, stp H3 e3, pn2, by omega, lt, fun L p H4 hL _ e4 h4 => q L p H4 (hL _) e4 h4⟩
      · have st4 := st.mono e4
        obtain ⟨r, hr1, hr2⟩ := st4.get pn1
        have new : Rc61.stand l z.2 = l ++ [z.2] := by
          unfold Rc61.stand
          rw [Bool.not_eq_true'] at hb
          rw [if_neg (by rw [hb]; decide)]
        have hrS : S ≠ r := fun e => nin (by rw [e]; exact List.mem_of_getElem? hr1)
        have fr0 : H r = none := fr r (List.mem_of_getElem? hr1)
        have npr : p ≠ r := fun e => by
          rw [e] at hp
          have := at_ _ _ hr1
          rw [hp] at this
          cases this
        refine s_app (xs := (outs l z.2.1).map vN) (st4.rw_ _ _ hr1) (ev_row st4 hr1 (ev_var rfl) (ev_var rfl)) (ev_var rfl) ?_ fun H5 e5 => ?_
        · rw [List.length_map]
          have q1 := outs_len l z.2.1
          have q2 : l.length ≤ 1000 := by
            have q3 : ∀ (ps l : List (Nat × Nat)), (ps.foldl Rc61.stand l).length ≤ l.length + ps.length := by
              intro ps
              induction ps with
              | nil => intro l; exact Nat.le_refl _
              | cons a t ih =>
                intro l
                rw [List.foldl_cons, List.length_cons]
                have := ih (Rc61.stand l a)
                have g : (Rc61.stand l a).length ≤ l.length + 1 := by
                  unfold Rc61.stand
                  split
                  · omega
                  · rw [List.length_append]
                    exact Nat.le_refl _
                omega
            have q4 := q3 ((pairsW n w).take i) []
            rw [hl, List.length_take] at q4
            have q5 : (pairsW n w).length ≤ n * n := by
              unfold pairsW
              rw [(List.mergeSort_perm _ _).length_eq]
              exact raw_len n w
            have q6 : n * n ≤ 36 := (Nat.mul_le_mul h6 h6 : n * n ≤ 6 * 6)
            simp only [List.length_nil] at q4
            omega
          omega
        · refine ⟨_, _, _, rfl, Ex.mut ((ex.trans e4).trans e5) fr0, fun z' m => ?_, ?_, ?_⟩
          · have := e5 _ _ (e4 _ _ (hz2 z' m))
            rw [upd_ne (ne_of this (e5 _ _ (st4.rw_ _ _ hr1)) (by intro q; cases q))]
            exact this
          · rw [upd_ne npr]
            exact e5 _ _ (e4 _ _ hpp)
          · rw [tk, new]
            refine ⟨?_, len, nd, nin, fun j q hq => ?_⟩
            · rw [upd_ne hrS]
              exact e5 _ _ st4.ob
            · rw [outs_snoc]
              by_cases ej : j = z.2.1
              · subst ej
                rw [hr1] at hq
                cases hq
                rw [upd_same, if_pos rfl, List.map_append]
                rfl
              · rw [if_neg ej]
                have nqr : q ≠ r := fun e => ej (by
                  rw [e] at hq
                  exact (List.getElem?_inj (List.getElem?_eq_some_iff.mp hq).1 nd).mp (hq.trans hr1.symm))
                rw [upd_ne nqr]
                exact e5 _ _ (st4.rw_ _ _ hq)
      · rw [Bool.not_eq_false'] at hb
        have new : Rc61.stand l z.2 = l := by
          unfold Rc61.stand
          rw [if_pos hb]
        rw [← new, ← tk] at st
        exact ⟨_, _, _, rfl, ex.trans e4, (fun z m => e4 _ _ (hz2 z m)), e4 _ _ hpp, st.mono e4⟩
    · rintro σ' H' ⟨v2, v3, v4, rfl, ex, hz2, hpp, st⟩
      refine s_ret (ev_var rfl) fun H4 e4 => k S H4 hS (ex.trans e4) ⟨rows, ?_⟩
      have el : (refsOf zs).length = (pairsW n w).length := by
        rw [← ez]
        unfold refsOf
        rw [List.length_map, List.length_map]
      rw [el, List.take_length] at st
      exact st.mono e4
end
end TV
/-! part TvF10 -/
namespace TV
open PySem PySem.Spec PyProof.Rows L2 Evl
section
variable {K : PySem.W.Frag} {σ : L2.St} {H H' : Hp} {ta tb te tl td ty tv tc : TE} {x y z v : V} {D : Ends} {tz : TS} {sp : Sp} {E : XK}
/-- xs.remove(k) -/
theorem s_remove {L : Addr} {ns : List Nat} {k j : Nat} (hL : H L = some (.lst (ns.map vN))) (ha : Ev ta σ H (.ref L)) (hk : Ev te σ H (vN k)) (hj : ns[j]? = some k) (hn : ns.Nodup) (go : ∀ H1, Ex H H1 → D.nx σ (upd H1 L (.lst ((ns.filter fun y => y != k).map vN)))) :
    tDrop (tBM K "list" rRemI ta (tCons te tNil)) D σ H := ha H (Ex.refl H) _ fun H1 e1 =>
  ⟨Or.inl ⟨rfl, _, sq_of (e1 _ _ hL)⟩, hk H1 e1 _ fun H2 e2 => ⟨L, ns.map fun x => ((x : Nat) : Int), (k : Int), j, rfl, rfl, (by rw [← map_vN]; exact e2 _ _ (e1 _ _ hL)), (by rw [List.getElem?_map, hj]; rfl), fun m hm h => by
    rw [List.getElem?_map] at h
    cases q : ns[m]? with
    | none => rw [q] at h; cases h
    | some u =>
      rw [q] at h
      have h : some ((u : Nat) : Int) = some (k : Int) := h
      have eu : (u : Int) = (k : Int) := Option.some.inj h
      have eu : u = k := by omega
      rw [eu, ← hj] at q
      have := (List.getElem?_inj (List.getElem?_eq_some_iff.mp (q.trans hj)).1 hn).mp q
      omega, by
    have e : ((ns.map fun x => ((x : Nat) : Int)).eraseIdx j).map V.int = (ns.filter fun y => y != k).map vN := by
      have e0 : ∀ (l : List Nat) (j : Nat), (l.map fun x => ((x : Nat) : Int)).eraseIdx j = (l.eraseIdx j).map fun x => ((x : Nat) : Int) := by
        intro l
        induction l with
        | nil => intro j; rfl
        | cons a t ih =>
          intro j
          cases j with
          | zero => rfl
          | succ j =>
            show _ :: _ = _ :: _
            rw [ih]
      rw [e0, erase_at hn hj, ← map_vN]
    rw [e]
    exact go H2 (e1.trans e2)⟩⟩
/-- x = f(y), all that is known of the answer told by Good -/
theorem q_asgC {i : Nat} (Good : V → Hp → Prop) (ha : Ev ta σ H x) (hs : ∀ H1, Ex H H1 → ∀ Q : VK, (∀ v H2, Good v H2 → Ex H1 H2 → Q v H2) → sp [x] H1 Q E) (k : ∀ v H2, Good v H2 → Ex H H2 → tz D (σ.set i (some v)) H2) :
    tSeq (tAsg (tCall sp [] E (tCons ta tNil)) (gName i)) tz D σ H := ha H (Ex.refl H) _ fun H1 e1 => hs H1 e1 _ fun v H2 gd e2 => k v H2 gd (e1.trans e2)
end
section
variable {P : Program} {w : World} {K : PySem.W.Frag} {mg : Str → Option Value} {base : Heap} {C : Addr}
/-! ### is_free -/
def spFree : Sp := fun vs H Q _ => ∃ S n l a left c, vs = [.ref S, .ref a, vN c] ∧ StAt H S n l ∧ H a = some (.lst (left.map vN)) ∧ (∀ x ∈ left, x < n) ∧ left.length ≤ 1000 ∧ RetV (.bl (isFree l left c)) H Q
theorem sv_free {H : Hp} {S n l a left c} (B : StAt H S n l) (ha : H a = some (.lst (left.map vN))) (hl : ∀ x ∈ left, x < n) (hz : left.length ≤ 1000) : SpV spFree [.ref S, .ref a, vN c] H (.bl (isFree l left c)) := fun H1 e Q q E => ⟨S, n, l, a, left, c, rfl, B.mono e, e _ _ ha, hl, hz, q⟩
theorem sc_free : FnScope ["standing", "left", "candidate", "winner"] ["standing", "left", "candidate"] (defScope (top 28)) := ⟨rfl, rfl, rfl, by decide +kernel, rfl, by decide +kernel, by decide +kernel⟩
theorem fn_free (D : Dn K mg "is_free" (top 28)) (my : mg "any" = none) : Fn P w K mg base "is_free" 1 spFree := by
  refine D.fn sc_free (fun vs H Q E h => ?_) (fun _ _ _ _ _ _ us hl => match us, hl with | [_, _, _], _ => rfl) (fun f cdv A outer s H vs Q E hr h => ?_)
  · obtain ⟨_, _, _, _, _, _, rfl, _⟩ := h
    rfl
  · obtain ⟨S, n, l, a, left, c, rfl, ⟨rows, B⟩, ha, hl, hz, k⟩ := h
    refine ⟨_, pss_one (ps_ret (pe_not (pe_callB (cr_any rfl) rfl my (by decide +kernel) (pa_cons (pe_lc (own := [("winner", 3)]) (g := gName 3) (tt := tYes) (te := tOp (rIn K false) (tVar 2) (tOp (rIxL K) (tVar 0) (tVar 3))) rfl sc_free.nd (pi_list (pv 1)) (blkOk_by (N := ["standing", "left", "candidate", "winner"]) (sc := defScope (top 28)) (by decide +kernel))
      (fun _ _ _ _ _ => pg_name (i := 3) sc_free.nd rfl (Or.inl rfl)) (fun _ _ _ _ _ => pts_nil)
      (fun _ _ _ _ _ => by exact pe_cmpR op_in_seq (pv 2) (pe_ix ix_list (pv 0) (pv 3) (fun _ _ => rfl)) rfl)) pa_nil)))), ?_⟩
    refine s_ret (v := .bl (isFree l left c)) ?_ k
    unfold isFree
    rw [← any_map]
    refine ev_notV (ev_any ?_)
    rw [← map_bl]
    refine el_map (fun x => V.bl ((outs l x).contains c)) (ev_var rfl) (sq_of ha) (by omega) (fun _ => rfl) fun x H1 e hx => ?_
    have B1 := B.mono e
    obtain ⟨r, hr1, hr2⟩ := B1.get (hl x hx)
    exact ev_in (ev_var rfl) (ev_row B1 hr1 (ev_var rfl) (ev_var rfl)) (sq_of (B1.rw_ _ _ hr1))
/-! ### ranked -/
def spRk (C : Addr) : Sp := fun vs H Q _ => ∃ b n c w, vs = [.ref b] ∧ BalAt C H b n c w ∧ RetL ((rankedW n w).map vN) H Q
theorem sl_rk {H : Hp} {b n c w} (B : BalAt C H b n c w) : SpL (spRk C) [.ref b] H ((rankedW n w).map vN) := fun H1 e Q q E => ⟨b, n, c, w, rfl, B.mono e, q⟩
theorem sc_rk : FnScope ["ballots", "standing", "left", "order", "free", "candidate"] ["ballots"] (defScope (top 29)) := ⟨rfl, rfl, rfl, by decide +kernel, rfl, by decide +kernel, by decide +kernel⟩
theorem fn_rk (D : Dn K mg "ranked" (top 29)) (hE : Fn P w K mg base "everybody" 1 (spEv C)) (hS : Fn P w K mg base "standing_pairs" 3 (spSt C)) (hF : Fn P w K mg base "is_free" 1 spFree) : Fn P w K mg base "ranked" 4 (spRk C) := by
  refine D.fn sc_rk (fun vs H Q E h => ?_) (fun _ _ _ _ _ _ us hl => match us, hl with | [_], _ => rfl) (fun f cdv A outer s H vs Q E hr h => ?_)
  · obtain ⟨_, _, _, _, rfl, _⟩ := h
    rfl
  · obtain ⟨b, n, c, w, rfl, B, k⟩ := h
    refine ⟨_, pss_cons (ps_set (i := 1) sc_rk.nd rfl (Or.inr rfl) (pe_fn hS hr (by decide) (pa_cons (pv 0) pa_nil)))
      (pss_cons (ps_set (i := 2) sc_rk.nd rfl (Or.inr rfl) (pe_fn hE hr (by decide) (pa_cons (pv 0) pa_nil)))
      (pss_cons (ps_set (i := 3) sc_rk.nd rfl (Or.inl rfl) (pe_lst pa_nil))
      (pss_cons (ps_while PassesOwn.never (pt_cmpR (op_neD hr.units) (pv 2) (pe_lst pa_nil) (nomark _))
        (pss_cons (ps_setLc (i := 4) (own := [("candidate", 5)]) (g := gName 5) rfl sc_rk.nd rfl rfl (sw_true rfl rfl rfl (by decide +kernel)) (pi_list (pv 2)) (blkOk_by (N := ["ballots", "standing", "left", "order", "free", "candidate"]) (sc := defScope (top 29)) (by decide +kernel))
          (fun _ _ _ _ _ => pg_name (i := 5) sc_rk.nd rfl (Or.inl rfl)) (fun _ _ _ _ _ => pts_one (pt_val (pe_fn hF hr (by decide) (pa_cons (pv 1) (pa_cons (pv 2) (pa_cons (pv 5) pa_nil)))))) (fun _ _ _ _ _ => pv 5))
        (pss_cons (ps_expr (pe_bm PySem.F.plainAttrs_list PySem.F.slot_list_append PySem.F.type_list_append mt_append (pv 3) (pa_cons (pe_ix ix_list (pv 4) pe_int (fun _ _ => rfl)) pa_nil)))
        (pss_one (ps_expr (pe_bm PySem.F.plainAttrs_list PySem.F.slot_list_remove PySem.F.type_list_remove mt_remove (pv 2) (pa_cons (pe_ix ix_list (pv 4) pe_int (fun _ _ => rfl)) pa_nil)))))))
      (pss_one (ps_ret (pv 3)))))), ?_⟩
    have h6 := B.1
    refine q_asgC (x := .ref b) (fun v H1 => ∃ S, v = .ref S ∧ StAt H1 S n (standW n w)) (ev_var rfl) (fun H1 e1 Q q => ⟨b, n, c, w, rfl, B.mono e1, fun S H2 _ e2 st => q _ H2 ⟨S, rfl, st⟩ e2⟩) ?_
    rintro v H1 ⟨S, rfl, st⟩ e1
    have B1 := B.mono e1
    refine q_asgL (el_call (ea_cons (ev_var rfl) ea_nil) (sl_ev B1)) fun Lf H2 hLf e2 h2 => ?_
    refine q_asgL (xs := []) (el_lst ea_nil (by decide)) fun O H3 hO e3 h3 => ?_
    have nLO : Lf ≠ O := fun q => by rw [← q, h2] at hO; cases hO
    have hO1 := fresh_back e2 hO
    obtain ⟨ac, _⟩ := fold_stand (pairsW n w) [] AC.nil
    have ac : AC (standW n w) := ac
    have slt : ∀ q ∈ standW n w, q.1 < n ∧ q.2 < n := by
      have := standW_lt (n := n) (w := w) (k := (pairsW n w).length)
      rw [List.take_length] at this
      exact this
    refine q_while (fun m σ' H' => ∃ (left pre : List Nat) (v4 : Option V), σ' = [some (.ref b), some (.ref S), some (.ref Lf), some (.ref O), v4, none] ∧ Ex H1 H' ∧ left.Nodup ∧ (∀ x ∈ left, x < n) ∧ pre.length + left.length = n ∧ pre ++ Rc61.row (standW n w) left.length left = rankedW n w ∧
        H' Lf = some (.lst (left.map vN)) ∧ H' O = some (.lst (pre.map vN)) ∧ m = left.length) n
      ⟨List.range n, [], none, rfl, e2.trans e3, List.nodup_range, fun x hx => List.mem_range.mp hx, by rw [List.length_range]; simp, by rw [List.length_range]; rfl, e3 _ _ h2, h3, by rw [List.length_range]⟩ ?_
    rintro m σ' H' ⟨left, pre, v4, rfl, ex, nd, lt, ln, er, hl, ho, rfl⟩
    have lle : left.length ≤ n := nodup_lt_len nd lt
    have tw : EvT (tTest (tOp (rNeD K) (tVar 2) (tLst tNil))) [some (V.ref b), some (V.ref S), some (V.ref Lf), some (V.ref O), v4, none] H' (!decide (left = [])) :=
      et_test (ev_opL (xs := []) (ev_var rfl) (el_lst ea_nil (by decide)) fun q H4 hq e4 => rv_neL (ns := left) (ms := []) (sq_of (e4 _ _ hl)) (sq_of hq))
    refine ⟨_, tw, fun hb H4 e4 => ?_, fun hb H4 e4 => ?_⟩
    · have hne : left ≠ [] := by
        rw [Bool.not_eq_true'] at hb
        exact of_decide_eq_false hb
      have st4 := st.mono (ex.trans e4)
      refine ⟨fun σ2 H2 => ∃ (left2 pre : List Nat) (v4 : Option V), σ2 = [some (.ref b), some (.ref S), some (.ref Lf), some (.ref O), v4, none] ∧ Ex H1 H2 ∧ left2.Nodup ∧ (∀ x ∈ left2, x < n) ∧ pre.length + left2.length = n ∧ pre ++ Rc61.row (standW n w) left2.length left2 = rankedW n w ∧
          H2 Lf = some (.lst (left2.map vN)) ∧ H2 O = some (.lst (pre.map vN)) ∧ left2.length < left.length,
        fun σ2 H2 ⟨left2, pre, v4, q1, q2, q3, q4, q5, q6, q7, q8, q9⟩ => ⟨left2.length, q9, left2, pre, v4, q1, q2, q3, q4, q5, q6, q7, q8, rfl⟩, ?_⟩
      refine q_asgL (xs := (frees (standW n w) left).map vN) (el_lc (isFree (standW n w) left) vN (ev_var rfl) (sq_of (e4 _ _ hl)) (by omega) (fun _ => rfl)
        (fun x H5 e5 hx => et_B (ev_call (ea_cons (ev_var rfl) (ea_cons (ev_var rfl) (ea_cons (ev_var rfl) ea_nil))) (sv_free (st4.mono e5) (e5 _ _ (e4 _ _ hl)) lt (by omega)))) (fun x H5 e5 hx _ => ev_var rfl)) fun G H5 hG e5 h5 => ?_
      have nGO : G ≠ O := fun q => by rw [q, e4 _ _ ho] at hG; cases hG
      cases ef : frees (standW n w) left with
      | nil => exact absurd ef (frees_ne ac lt hne)
      | cons cd tl =>
        rw [ef] at h5
        have cin : cd ∈ left := by
          have : cd ∈ frees (standW n w) left := by rw [ef]; exact List.mem_cons_self
          exact (List.mem_filter.mp this).1
        obtain ⟨j, hj, ej⟩ := List.mem_iff_getElem.mp cin
        have fl := filter_ne_len nd cin
        refine q_app (v := vN cd) (e5 _ _ (e4 _ _ ho)) (ev_var rfl) (ev_ix (i := 0) (ev_var rfl) ev_c (sq_of h5) rfl) (by rw [List.length_map]; omega) fun H6 e6 => ?_
        refine s_remove (ns := left) (k := cd) (j := j) (by rw [upd_ne nLO]; exact e6 _ _ (e5 _ _ (e4 _ _ hl))) (ev_var rfl) (ev_ix (i := 0) (ev_var rfl) ev_c (sq_of (by rw [upd_ne nGO]; exact e6 _ _ h5)) rfl) (by rw [List.getElem?_eq_getElem hj, ej]) nd fun H7 e7 => ?_
        refine ⟨left.filter fun y => y != cd, pre ++ [cd], _, rfl, Ex.mut ((Ex.mut (((ex.trans e4).trans e5).trans e6) hO1).trans e7) hLf, List.Nodup.sublist List.filter_sublist nd, fun x hx => lt x (List.mem_filter.mp hx).1, ?_, ?_, upd_same, ?_, by omega⟩
        · rw [List.length_append]
          show pre.length + 1 + _ = n
          omega
        · have rs := row_step (k := (left.filter fun y => y != cd).length) ef
          rw [fl] at rs
          rw [List.append_assoc, ← er, rs]
          rfl
        · rw [upd_ne nLO.symm, e7 _ _ upd_same, List.map_append]
          rfl
    · have he : left = [] := by
        rw [Bool.not_eq_false'] at hb
        exact of_decide_eq_true hb
      refine s_ret (ev_var rfl) fun H5 e5 => k O H5 (fresh_back e1 hO1) ((e1.trans ex).trans (e4.trans e5)) ?_
      rw [← er, he]
      show H5 O = some (.lst ((pre ++ []).map vN))
      rw [List.append_nil]
      exact e5 _ _ (e4 _ _ ho)
end
end TV
/-! part TvF11 -/
namespace TV
open PySem PySem.Spec PyProof.Rows L2 Evl
/-- the ballots' object, its parts apart from each other -/
structure BalW (C : Addr) (H : Hp) (b dx L : Addr) (rows : List Addr) (n c : Nat) (w : WF) : Prop where
  bx : BalX C H b dx L rows n c w
  nd : rows.Nodup
  nl : L ∉ rows
  n6 : n ≤ 6
theorem BalW.at {C : Addr} {H : Hp} {b dx L : Addr} {rows : List Addr} {n c : Nat} {w : WF} (B : BalW C H b dx L rows n c w) : BalAt C H b n c w := ⟨B.n6, dx, L, rows, B.bx⟩
theorem BalW.mono {C : Addr} {H H' : Hp} {b dx L : Addr} {rows : List Addr} {n c : Nat} {w : WF} (e : Ex H H') (B : BalW C H b dx L rows n c w) : BalW C H' b dx L rows n c w := ⟨B.bx.mono e, B.nd, B.nl, B.n6⟩
theorem BalX.nb {C : Addr} {H : Hp} {b dx L : Addr} {rows : List Addr} {n c : Nat} {w : WF} (B : BalX C H b dx L rows n c w) : b ∉ rows := fun m => by
  obtain ⟨k, hk, e⟩ := List.mem_iff_getElem.mp m
  have := B.rw_ k b (by rw [List.getElem?_eq_getElem hk, e])
  rw [B.ob] at this
  cases this
theorem BalX.bl {C : Addr} {H : Hp} {b dx L : Addr} {rows : List Addr} {n c : Nat} {w : WF} (B : BalX C H b dx L rows n c w) : b ≠ L := ne_of B.ob B.lw (by intro q; cases q)
theorem rowV_congr {n : Nat} {f g : Nat → Nat} (h : ∀ j, j < n → f j = g j) : rowV n f = rowV n g := List.map_congr_left fun j hj => by rw [h j (List.mem_range.mp hj)]
theorem BalX.congr {C : Addr} {H : Hp} {b dx L : Addr} {rows : List Addr} {n c : Nat} {w w' : WF} (B : BalX C H b dx L rows n c w) (h : ∀ i j, i < n → j < n → w i j = w' i j) : BalX C H b dx L rows n c w' :=
  ⟨B.ob, B.lw, B.ln, fun i r q => by
    have hi : i < n := by
      have := (List.getElem?_eq_some_iff.mp q).1
      rw [B.ln] at this
      exact this
    rw [← rowV_congr (fun j hj => h i j hi hj)]
    exact B.rw_ i r q⟩
theorem rowV_set {n j y : Nat} {f : Nat → Nat} (hj : j < n) : (rowV n f).set j (vN y) = rowV n fun k => if k = j then y else f k := by
  unfold rowV
  refine List.ext_getElem? fun i => ?_
  rw [List.getElem?_set, List.getElem?_map, List.getElem?_map]
  by_cases e : j = i
  · subst e
    rw [if_pos rfl, List.length_map, List.length_range, if_pos hj, List.getElem?_range hj]
    show _ = some (vN (if j = j then y else f j))
    rw [if_pos rfl]
  · rw [if_neg e]
    by_cases hi : i < n
    · rw [List.getElem?_range hi]
      show some (vN (f i)) = some (vN (if i = j then y else f i))
      rw [if_neg fun z => e z.symm]
    · rw [List.getElem?_eq_none (by rw [List.length_range]; omega)]
      rfl
theorem rowV_len (n : Nat) (f : Nat → Nat) : (rowV n f).length = n := by
  unfold rowV
  rw [List.length_map, List.length_range]
section
variable {K : PySem.W.Frag} {σ : L2.St} {H H' : Hp} {ta tb te tl td ty tv tc : TE} {x y z v : V} {D : Ends} {tz : TS} {sp : Sp} {E : XK}
/-- xs * k, xs a new list -/
theorem el_rep {xs : List V} {k : Nat} (ha : EvL ta σ H xs) (hb : Ev tb σ H (vN k)) (hl : xs.length * k ≤ 100000) (hk : k ≤ 100000) : EvL (tOp rRep ta tb) σ H (List.replicate k xs).flatten := fun H1 e Q q =>
  ha H1 e _ fun p H2 _ e2 hp => hb H2 (e.trans e2) _ fun H3 e3 => ⟨p, (k : Int), xs, rfl, rfl, e3 _ _ hp, by omega, by omega, by rw [Int.toNat_natCast]; exact sz_of hl, fun r hr => q r _ (fresh_back (e2.trans e3) hr) ((e2.trans e3).trans (Ex.new hr)) (by rw [upd_same, Int.toNat_natCast])⟩
theorem rep_zero (n : Nat) : (List.replicate n [vN 0]).flatten = rowV n fun _ => 0 := by
  unfold rowV
  induction n with
  | zero => rfl
  | succ n ih =>
    rw [List.replicate_succ, List.flatten_cons, ih, List.range_succ_eq_map, List.map_cons, List.map_map]
    rfl
end
theorem f_newR {K : PySem.W.Frag} {σ : L2.St} {H : Hp} {to te : TE} {D : Ends} {fl : Str} {ta : TA} {n : Nat} {j : Nat} {vs : List Nat} (g : Nat → List V) (h : EvA ta σ H [vN n]) (hz : n ≤ 40000) (hw : ∀ x, wipe ((wipe σ vs).set j (some x)) vs = wipe σ vs)
    (he : ∀ (i : Nat) (x : V) H1, Ex H H1 → i < n → EvL te ((wipe σ vs).set j (some x)) H1 (g i))
    (k : NewRows H g n fun y H1 => to σ H1 fun x H2 => ∃ a C dx fs, x = .ref a ∧ H2 a = some (.ins C dx fs) ∧ Cls K C ∧ NoAttr K C fl ∧ fs.length < 1000 ∧ D.nx σ (upd H2 a (.ins C dx (putF fl y fs)))) :
    sFld K to (tLc (iRng1 ta) (gName j) tYes te vs) fl D σ H := lc_newR g h hz hw he k
section
variable {P : Program} {w : World} {K : PySem.W.Frag} {mg : Str → Option Value} {base : Heap} {C : Addr}
/-! ### Ballots.__init__ -/
def spBI (C : Addr) : Sp := fun vs H Q _ => ∃ p dx n, vs = [.ref p, vN n] ∧ H p = some (.ins C dx []) ∧ n ≤ 6 ∧
  ∀ H' L rows, BalW C H' p dx L rows n 0 (fun _ _ => 0) → (∀ x ∈ L :: rows, H x = none) → (∀ x o, H x = some o → x ≠ p → H' x = some o) → Q .non H'
abbrev sBI : Stmt := inClass (top 2) 0
theorem sc_bi : FnScope ["self", "many", "candidate"] ["self", "many"] (defScope sBI) := ⟨rfl, rfl, rfl, by decide +kernel, rfl, by decide +kernel, by decide +kernel⟩
theorem ok_bi {f : Addr} {fd : FuncData} (F : Fun K "__init__" "Ballots.__init__" sBI f fd) (T : BTxt K C) (mr : mg "range" = none) : FnOk P w K mg base CX0 1 f fd ["self", "many"] (spBI C) := by
  refine F.ok sc_bi (fun vs H Q E h => ?_) (fun cdv A outer s H vs Q E hr h => ?_)
  · obtain ⟨_, _, _, rfl, _⟩ := h
    rfl
  · obtain ⟨p, dx, n, rfl, hp, h6, k⟩ := h
    refine ⟨_, pss_cons (ps_fld (pv 0) (pv 1) rfl) (pss_cons (ps_fld (pv 0) pe_int rfl)
      (pss_one (ps_fld (pv 0) (pe_lc (own := [("candidate", 2)]) (g := gName 2) (tt := tYes) rfl sc_bi.nd (pi_range1 rfl mr (pa_cons (pv 1) pa_nil)) (blkOk_by (N := ["self", "many", "candidate"]) (sc := defScope sBI) (by decide +kernel))
        (fun _ _ _ _ _ => pg_name (i := 2) sc_bi.nd rfl (Or.inl rfl)) (fun _ _ _ _ _ => pts_nil) (fun _ _ _ _ _ => pe_op op_rep (pe_lst (pa_cons pe_int pa_nil)) (pv 1))) rfl))), ?_⟩
    refine ⟨_, rfl, _, rfl, p, C, dx, [], rfl, hp, T.cl, T.nM, (by show 0 < 1000; decide), ?_⟩
    refine ⟨_, rfl, p, C, dx, _, rfl, upd_same, T.cl, T.nC, (by show 1 < 1000; decide), ?_⟩
    rw [upd_upd]
    refine f_newR (n := n) (fun _ => rowV n fun _ => 0) (ea_cons (ev_var rfl) ea_nil) (by omega) (fun _ => rfl) (fun i x H1 e hi => ?_) fun L rows H2 hL e2 len nd nin fr at_ hL2 => ?_
    · rw [← rep_zero]
      exact el_rep (el_lst (ea_cons ev_c ea_nil) (by show 1 ≤ 100000; decide)) (ev_var rfl) (by show 1 * n ≤ 100000; omega) (by omega)
    · have hp2 := e2 _ _ (upd_same (H := H) (a := p))
      refine ⟨_, rfl, p, C, dx, _, rfl, hp2, T.cl, T.nW, (by rw [show putF "cast" (V.int 0) (putF "many" (vN n) []) = [(("many" : Str), vN n), (("cast" : Str), V.int 0)] from (put_past (by decide +kernel)).trans rfl]; show 2 < 1000; decide), ?_⟩
      have npL : L ≠ p := fun q => by rw [q, upd_same] at hL; cases hL
      have npr : ∀ r ∈ rows, r ≠ p := fun r hr q => by
        have := fr r hr
        rw [q, upd_same] at this
        cases this
      refine k _ L rows ⟨⟨?_, ?_, len, fun i r q => ?_⟩, nd, nin, h6⟩ (fun x hx => ?_) (fun x o hx nx => ?_)
      · rw [upd_same, bF_new]
      · rw [upd_ne npL]
        exact hL2
      · rw [upd_ne (npr r (List.mem_of_getElem? q))]
        exact at_ i r q
      · rcases List.mem_cons.mp hx with q | q
        · rw [q]
          rw [upd_ne npL] at hL
          exact hL
        · have := fr x q
          rw [upd_ne (npr x q)] at this
          exact this
      · rw [upd_ne nx]
        exact e2 _ _ (by rw [upd_ne nx]; exact hx)
/-! ### add_ballot -/
/-- the heap but for some places -/
def Kept (own : List Addr) (H H' : Hp) : Prop := ∀ x o, H x = some o → x ∉ own → H' x = some o
theorem Kept.ex {own : List Addr} {H H' H2 : Hp} (k : Kept own H H') (e : Ex H' H2) : Kept own H H2 := fun x o h n => e _ _ (k x o h n)
theorem Kept.of {own : List Addr} {H H' : Hp} (e : Ex H H') : Kept own H H' := fun x o h _ => e x o h
theorem Kept.upd {own : List Addr} {H H' : Hp} {r : Addr} {o : HO} (k : Kept own H H') (hr : r ∈ own) : Kept own H (upd H' r o) := fun x u h n => by
  rw [upd_ne fun q => n (by rw [q]; exact hr)]
  exact k x u h n
theorem Kept.trans {own : List Addr} {H H' H2 : Hp} (a : Kept own H H') (b : Kept own H' H2) : Kept own H H2 := fun x o h n => b x o (a x o h n) n
theorem Kept.mono {own own' : List Addr} {H H' : Hp} (k : Kept own H H') (s : ∀ x ∈ own, x ∈ own') : Kept own' H H' := fun x o h n => k x o h fun m => n (s x m)
def spAdd (C : Addr) : Sp := fun vs H Q _ => ∃ b dx L rows n c w a ns t, vs = [.ref b, .ref a, vN t] ∧ BalW C H b dx L rows n c w ∧ H a = some (.lst (ns.map vN)) ∧ a ∉ rows ∧ ns.Perm (List.range n) ∧
  ∀ H' w', Kept (b :: rows) H H' → BalW C H' b dx L rows n (c + 1) w' → (∀ i j, i < n → j < n → w' i j = w i j + if Rc61.place ns i < Rc61.place ns j then t else 0) → Q .non H'
theorem sc_add : FnScope ["ballots", "order", "times", "place", "winner", "loser"] ["ballots", "order", "times"] (defScope (top 4)) := ⟨rfl, rfl, rfl, by decide +kernel, rfl, by decide +kernel, by decide +kernel⟩
theorem fn_add (D : Dn K mg "add_ballot" (top 4)) (T : BTxt K C) (me : mg "enumerate" = none) : Fn P w K mg base "add_ballot" 1 (spAdd C) := by
  refine D.fn sc_add (fun vs H Q E h => ?_) (fun _ _ _ _ _ _ us hl => match us, hl with | [_, _, _], _ => rfl) (fun f cdv A outer s H vs Q E hr h => ?_)
  · obtain ⟨_, _, _, _, _, _, _, _, _, _, rfl, _⟩ := h
    rfl
  · obtain ⟨b, dx, L, rows, n, c, w, a, ns, t, rfl, B, ha, nar, pm, k⟩ := h
    refine ⟨_, pss_cons (ps_for PassesOwn.never rfl (pi_enum rfl me (pa_cons (pv 1) pa_nil)) (pg_tup rfl (pgs_cons (pg_name (i := 3) sc_add.nd rfl (Or.inl rfl)) (pgs_cons (pg_name (i := 4) sc_add.nd rfl (Or.inl rfl)) pgs_nil)))
        (pss_one (ps_for PassesOwn.never rfl (pi_list (pe_slice sl_list (pv 1) (po_some (pe_op op_add (pv 3) pe_int)) po_none)) (pg_name (i := 5) sc_add.nd rfl (Or.inl rfl))
          (pss_one (ps_augS (pe_ix ix_list (pe_fld (pv 0) rfl) (pv 4) (fun _ _ => rfl)) (pv 5) get_list (pv 2) ip_add set_list)))))
      (pss_one (ps_fldaug (pv 0) pe_int in_add)), ?_⟩
    have h6 := B.n6
    have nl : ns.length = n := by rw [pm.length_eq, List.length_range]
    have nnd : ns.Nodup := pm.nodup_iff.mpr List.nodup_range
    have nin : ∀ x, x ∈ ns ↔ x < n := fun x => pm.mem_iff.trans List.mem_range
    refine ⟨_, rfl, a, ns.map vN, rfl, sq_of ha, for_it (walk_enum (K := K) (a := a) (xs := ns.map vN)) (fun i σ' H' => ∃ v3 v4 v5 : Option V, σ' = [some (.ref b), some (.ref a), some (vN t), v3, v4, v5] ∧ Kept (b :: rows) H H' ∧ BalW C H' b dx L rows n c (addW w ns t i 0))
      ⟨_, _, _, rfl, Kept.of (Ex.refl H), by rw [addW_start]; exact B⟩ (fun i σ' H' _ ⟨_, _, _, _, kp, _⟩ => sq_of (kp _ _ ha ?_)) ?_ ?_⟩
    · intro m
      rcases List.mem_cons.mp m with q | q
      · rw [q, B.bx.ob] at ha
        cases ha
      · exact nar q
    · rintro i x σ' H' H'' hi ⟨v3, v4, v5, rfl, kp, B2⟩ ⟨tp, x1, x2, rfl, htp, rfl, e1, e2⟩
      rw [List.length_map] at hi
      obtain rfl : V.int (i : Nat) = x1 := Option.some.inj e1
      obtain ⟨wi, hwi, rfl⟩ := map_get e2
      have wn : wi < n := (nin wi).mp (List.mem_of_getElem? hwi)
      refine ⟨tp, _, rfl, st_of upd_same, rfl, _, _, rfl, _, _, rfl, rfl, ?_⟩
      have ex0 : Ex H' (upd H' tp (.tup [.int (i : Nat), vN wi])) := Ex.new htp
      have na : a ∉ b :: rows := fun m => by
        rcases List.mem_cons.mp m with q | q
        · rw [q, B.bx.ob] at ha
          cases ha
        · exact nar q
      have ha2 := ex0 _ _ (kp _ _ ha na)
      have B3 := B2.mono ex0
      have kp3 := kp.ex ex0
      generalize upd H' tp (.tup [.int (i : Nat), vN wi]) = H3 at ha2 B3 kp3
      have cut : cutV (ns.map vN) (some ((i + 1 : Nat) : Int)) none = (ns.drop (i + 1)).map vN := (cut_from _ _).trans (by rw [List.map_drop])
      have sl : EvL (tSl (rSlL K) (tVar 1) (tPart (tOp (rI0 fun i j => .int (i + j)) (tVar 3) (tC (.int 1)))) tNoPart) [some (V.ref b), some (V.ref a), some (vN t), some (V.int (i : Nat)), some (vN wi), v5] H3 ((ns.drop (i + 1)).map vN) := by
        rw [← cut]
        exact el_sl (ev_var rfl) (eo_some (ev_op (ev_var rfl) ev_c rv_I0)) eo_none (sq_of ha2)
      refine s_forNL (xs := (ns.drop (i + 1)).map vN) (g := gName 5) sl
        (fun p q σ' H' => ∃ v5 : Option V, σ' = [some (V.ref b), some (V.ref a), some (vN t), some (V.int (i : Nat)), some (vN wi), v5] ∧ Kept (b :: rows) H H' ∧ H' p = some (.lst ((ns.drop (i + 1)).map vN)) ∧ p ∉ rows ∧ BalW C H' b dx L rows n c (addW w ns t i q))
        (fun p H4 hp e4 h4 => ⟨_, rfl, kp3.ex e4, h4, (fun m => by
          obtain ⟨j, hj, ej⟩ := List.mem_iff_getElem.mp m
          have := B3.bx.rw_ j p (by rw [List.getElem?_eq_getElem hj, ej])
          rw [hp] at this
          cases this), B3.mono e4⟩) (fun p q σ' H' _ ⟨_, _, _, h4, _⟩ => sq_of h4) ?_ ?_
      · rintro p q z σ' H4 hz ⟨v5, rfl, kp4, hp4, npr, B4⟩
        obtain ⟨lo, hlo, rfl⟩ := map_get hz
        rw [List.getElem?_drop] at hlo
        have lon : lo < n := (nin lo).mp (List.mem_of_getElem? hlo)
        obtain ⟨r, hr⟩ : ∃ r, rows[wi]? = some r := ⟨rows[wi]'(by rw [B4.bx.ln]; exact wn), List.getElem?_eq_getElem _⟩
        have hrr := B4.bx.rw_ wi r hr
        show tAugS (tOp (rIxL K) (tFld K (tVar 0) "wins") (tVar 4)) (tVar 5) (tVar 2) (rIxL K) (ipI fun i j => i + j) rSetL _ [some (V.ref b), some (V.ref a), some (vN t), some (V.int (i : Nat)), some (vN wi), some (vN lo)] H4
        refine ev_ix (i := wi) (v := .ref r) (ev_fld (ev_var rfl) B4.bx.ob T.cl T.nW (bF_wins n c L)) (ev_var rfl) (sq_of B4.bx.lw) (by rw [List.getElem?_map, hr]; rfl) H4 (Ex.refl _) _ fun H5 e5 => ?_
        refine ⟨_, rfl, r, rowV n _, (lo : Int), vN (addW w ns t i q wi lo), rfl, rfl, sq_of (e5 _ _ hrr), atI_nat (rowV_get lon), ?_⟩
        refine ⟨_, rfl, _, _, rfl, rfl, ?_⟩
        refine ⟨r, rowV n _, (lo : Int), lo, rfl, rfl, e5 _ _ hrr, ixN_nat (by rw [rowV_len]; exact lon), ?_⟩
        have nrb : b ≠ r := fun e => B4.bx.nb (by rw [e]; exact List.mem_of_getElem? hr)
        have nrL : L ≠ r := fun e => B4.nl (by rw [e]; exact List.mem_of_getElem? hr)
        have nrp : p ≠ r := fun e => npr (by rw [e]; exact List.mem_of_getElem? hr)
        have B5 := B4.mono e5
        refine ⟨_, rfl, (kp4.ex e5).upd (List.mem_cons_of_mem _ (List.mem_of_getElem? hr)), ?_, npr, ⟨⟨?_, ?_, B4.bx.ln, fun j y hy => ?_⟩, B4.nd, B4.nl, h6⟩⟩
        · rw [upd_ne nrp]
          exact e5 _ _ hp4
        · rw [upd_ne nrb]
          exact B5.bx.ob
        · rw [upd_ne nrL]
          exact B5.bx.lw
        · have hjn : j < n := by
            have := (List.getElem?_eq_some_iff.mp hy).1
            rw [B4.bx.ln] at this
            exact this
          by_cases ej : j = wi
          · subst ej
            rw [hr] at hy
            cases hy
            rw [upd_same]
            have es : V.int (((addW w ns t i q j lo : Nat) : Int) + (t : Int)) = vN (addW w ns t i q j lo + t) := rfl
            rw [es, rowV_set lon]
            refine congrArg (fun l => some (HO.lst l)) (rowV_congr fun m hm => ?_)
            rw [addW_inner w ns t i q nnd hwi hlo j m ((nin m).mpr hm) ((nin j).mpr hjn)]
            by_cases em : m = lo
            · subst em
              rw [if_pos rfl, if_pos ⟨rfl, rfl⟩]
            · rw [if_neg em, if_neg fun z => em z.2]
          · have nyr : y ≠ r := fun e => ej ((List.getElem?_inj (List.getElem?_eq_some_iff.mp hy).1 B4.nd).mp (by rw [hy, e, hr]))
            rw [upd_ne nyr, B5.bx.rw_ j y hy]
            refine congrArg (fun l => some (HO.lst l)) (rowV_congr fun m hm => ?_)
            rw [addW_inner w ns t i q nnd hwi hlo j m ((nin m).mpr hm) ((nin j).mpr hjn), if_neg fun z => ej z.1]
      · rintro p σ' H4 ⟨v5, rfl, kp4, hp4, npr, B4⟩
        rw [List.length_map, List.length_drop, nl] at B4
        exact ⟨_, _, _, rfl, kp4, B4.bx.congr fun x y hx hy => addW_outer w ns t i (by omega) ((nin y).mpr hy), B4.nd, B4.nl, h6⟩
    · rintro σ' H' ⟨v3, v4, v5, rfl, kp, B2⟩
      rw [List.length_map] at B2
      refine ⟨_, rfl, b, C, dx, _, _, rfl, B2.bx.ob, T.cl, T.nC, bF_cast n c L, _, _, rfl, rfl, dx, _, B2.bx.ob, (by show 3 < 1000; decide), ?_⟩
      have ec : V.int ((c : Int) + 1) = vN (c + 1) := rfl
      rw [ec, bF_putc]
      refine k _ (addW w ns t ns.length 0) (kp.upd List.mem_cons_self) ⟨⟨upd_same, ?_, B2.bx.ln, fun i r hr => ?_⟩, B2.nd, B2.nl, h6⟩ fun i j hi hj => addW_end w ns t ((nin i).mpr hi)
      · rw [upd_ne B2.bx.bl.symm]
        exact B2.bx.lw
      · rw [upd_ne fun e => B2.bx.nb (by rw [← e]; exact List.mem_of_getElem? hr)]
        exact B2.bx.rw_ i r hr
end
end TV
/-! part TvF12 -/
namespace TV
open PySem PySem.Spec PyProof.Rows L2 Evl
section
variable {K : PySem.W.Frag} {σ : L2.St} {H H' : Hp} {ta tb te tl td ty tv tc tx tn : TE} {x y z v : V} {D : Ends} {tz : TS} {sp : Sp} {E : XK}
theorem ev_neg {i : Int} (h : Ev ta σ H (.int i)) : Ev (tUn (rU fun i => .int (-i)) ta) σ H (.int (-i)) := ev_un h ru_neg
theorem q_drop3 (ha : Ev ta σ H x) (hb : Ev tb σ H y) (hc : Ev tc σ H z) (h : ∀ H1, Ex H H1 → sp [x, y, z] H1 (fun _ H2 => tz D σ H2) E) : tSeq (tDrop (tCall sp [] E (tCons ta (tCons tb (tCons tc tNil))))) tz D σ H :=
  ha H (Ex.refl H) _ fun H1 e1 => hb H1 e1 _ fun H2 e2 => hc H2 (e1.trans e2) _ fun H3 e3 => h H3 ((e1.trans e2).trans e3)
/-- 0 <= x < n -/
theorem et_chain {i n : Int} (hx : Ev tx σ H (.int i)) (hn : Ev tn σ H (.int n)) : EvT (tTest (tChain (rI0 fun i j => .bl (decide (i ≤ j))) (rI0 fun i j => .bl (decide (i < j))) (tC (.int 0)) tx tn)) σ H (decide (0 ≤ i) && decide (i < n)) := fun H1 e Q q =>
  hx H1 e _ fun H2 e2 => ⟨0, i, rfl, rfl, decide (0 ≤ i), rfl, by
    cases h : decide (0 ≤ i) with
    | true =>
      show tn σ H2 _
      refine hn H2 (e.trans e2) _ fun H3 e3 => ⟨i, n, rfl, rfl, decide (i < n), rfl, ?_⟩
      have := q H3 (e2.trans e3)
      rw [h, Bool.true_and] at this
      exact this
    | false =>
      refine ⟨false, rfl, ?_⟩
      have := q H2 e2
      rw [h, Bool.false_and] at this
      exact this⟩
theorem et_chain1 {i n : Int} (hx : Ev tx σ H (.int i)) (hn : Ev tn σ H (.int n)) : EvT (tTest (tChain (rI0 fun i j => .bl (decide (i ≤ j))) (rI0 fun i j => .bl (decide (i ≤ j))) (tC (.int 1)) tx tn)) σ H (decide (1 ≤ i) && decide (i ≤ n)) := fun H1 e Q q =>
  hx H1 e _ fun H2 e2 => ⟨1, i, rfl, rfl, decide (1 ≤ i), rfl, by
    cases h : decide (1 ≤ i) with
    | true =>
      show tn σ H2 _
      refine hn H2 (e.trans e2) _ fun H3 e3 => ⟨i, n, rfl, rfl, decide (i ≤ n), rfl, ?_⟩
      have := q H3 (e2.trans e3)
      rw [h, Bool.true_and] at this
      exact this
    | false =>
      refine ⟨false, rfl, ?_⟩
      have := q H2 e2
      rw [h, Bool.false_and] at this
      exact this⟩
/-- xs + ys: two new lists, or a new one and one that stands -/
theorem el_catV {xs ys : List V} {p : Addr} (ha : EvL ta σ H xs) (hb : Ev tb σ H (.ref p)) (hp : H p = some (.lst ys)) (hl : xs.length + ys.length ≤ 100000) : EvL (tOp rCat ta tb) σ H (xs ++ ys) := fun H1 e Q q =>
  ha H1 e _ fun l H2 _ e2 h2 => hb H2 (e.trans e2) _ fun H3 e3 => ⟨l, p, xs, ys, rfl, rfl, e3 _ _ h2, e3 _ _ (e2 _ _ (e _ _ hp)), sz_of hl, fun r hr => q r _ (fresh_back (e2.trans e3) hr) ((e2.trans e3).trans (Ex.new hr)) upd_same⟩
theorem el_catL {xs ys : List V} (ha : EvL ta σ H xs) (hb : EvL tb σ H ys) (hl : xs.length + ys.length ≤ 100000) : EvL (tOp rCat ta tb) σ H (xs ++ ys) := fun H1 e Q q =>
  ha H1 e _ fun l H2 _ e2 h2 => hb H2 (e.trans e2) _ fun p H3 _ e3 h3 => ⟨l, p, xs, ys, rfl, rfl, e3 _ _ h2, h3, sz_of hl, fun r hr => q r _ (fresh_back (e2.trans e3) hr) ((e2.trans e3).trans (Ex.new hr)) upd_same⟩
end
section
variable {P : Program} {w : World} {K : PySem.W.Frag} {mg : Str → Option Value} {base : Heap} {C : Addr}
/-! ### do_ballot -/
def spDB (C : Addr) : Sp := fun vs H Q _ => ∃ b dx L rows n c w nu ro t ns, vs = [.ref b, .ref nu, .ref ro] ∧ BalW C H b dx L rows n c w ∧ H nu = some (.lst [vN t]) ∧ H ro = some (.lst (ns.map vN)) ∧ ro ∉ rows ∧ ns.length < 64 ∧
  (Rc61.each n ns = false → RetL [.int (-1)] H Q) ∧ (Rc61.each n ns = true → 256 ≤ c → RetL [.int (-2)] H Q) ∧
  (Rc61.each n ns = true → c < 256 → ∀ H' p w', Kept (b :: rows) H H' → BalW C H' b dx L rows n (c + 1) w' → (∀ i j, i < n → j < n → w' i j = w i j + if Rc61.place ns i < Rc61.place ns j then t else 0) → H p = none → H' p = some (.lst [vN c]) → Q (.ref p) H')
theorem sc_db : FnScope ["ballots", "numbers", "row"] ["ballots", "numbers", "row"] (defScope (top 37)) := ⟨rfl, rfl, rfl, by decide +kernel, rfl, by decide +kernel, by decide +kernel⟩
theorem fn_db (D : Dn K mg "do_ballot" (top 37)) (T : BTxt K C) (hO : Fn P w K mg base "is_order" 1 (spOrd C)) (hA : Fn P w K mg base "add_ballot" 1 (spAdd C)) {u : Value} (mb : mg "MOST_BALLOTS" = some u) (ru : RelV (.int 256) u) : Fn P w K mg base "do_ballot" 2 (spDB C) := by
  refine D.fn sc_db (fun vs H Q E h => ?_) (fun _ _ _ _ _ _ us hl => match us, hl with | [_, _, _], _ => rfl) (fun f cdv A outer s H vs Q E hr h => ?_)
  · obtain ⟨_, _, _, _, _, _, _, _, _, _, _, rfl, _⟩ := h
    rfl
  · obtain ⟨b, dx, L, rows, n, c, w, nu, ro, t, ns, rfl, B, hnu, hro, nro, hl, k1, k2, k3⟩ := h
    refine ⟨_, pss_cons (ps_if (pt_not (pt_val (pe_fn hO hr (by decide) (pa_cons (pv 0) (pa_cons (pv 2) pa_nil))))) (pss_one (ps_ret (pe_lst (pa_cons (pe_un un_neg pe_int) pa_nil)))) pss_nil)
      (pss_cons (ps_if (pt_cmpR op_ge (pe_fld (pv 0) rfl) (pe_glob rfl mb ru) (nomark _)) (pss_one (ps_ret (pe_lst (pa_cons (pe_un un_neg pe_int) pa_nil)))) pss_nil)
      (pss_cons (ps_expr (pe_fn hA hr (by decide) (pa_cons (pv 0) (pa_cons (pv 2) (pa_cons (pe_ix ix_list (pv 1) pe_int (fun _ _ => rfl)) pa_nil)))))
      (pss_one (ps_ret (pe_lst (pa_cons (pe_op op_sub (pe_fld (pv 0) rfl) pe_int) pa_nil)))))), ?_⟩
    refine q_when (b := !Rc61.each n ns) (et_not (et_B (ev_call (ea_cons (ev_var rfl) (ea_cons (ev_var rfl) ea_nil)) (sv_ord B.at hro hl)))) (fun hb H1 e1 => ?_) (fun hb H1 e1 => ?_)
    · rw [Bool.not_eq_true'] at hb
      exact s_retL (el_lst (ea_cons (ev_neg ev_c) ea_nil) (by show 1 ≤ 100000; decide)) fun p H2 hp e2 h2 => (k1 hb).go e1 hp e2 h2
    · rw [Bool.not_eq_false'] at hb
      have B1 := B.mono e1
      refine q_when (b := decide (256 ≤ c)) (et_is (et_test (ev_op (ev_cast T B1.at (ev_var rfl)) ev_c (rv_I0 (g := fun i j => .bl (decide (j ≤ i)))))) (decide_eq_decide.mpr (by omega))) (fun hc H2 e2 => ?_) (fun hc H2 e2 => ?_)
      · exact s_retL (el_lst (ea_cons (ev_neg ev_c) ea_nil) (by show 1 ≤ 100000; decide)) fun p H3 hp e3 h3 => (k2 hb (of_decide_eq_true hc)).go (e1.trans e2) hp e3 h3
      · have hc := of_decide_eq_false hc
        refine q_drop3 (ev_var rfl) (ev_var rfl) (ev_ix (i := 0) (v := vN t) (ev_var rfl) ev_c (sq_of (e2 _ _ (e1 _ _ hnu))) rfl) fun H3 e3 => ?_
        have e03 := (e1.trans e2).trans e3
        refine ⟨b, dx, L, rows, n, c, w, ro, ns, t, rfl, B.mono e03, e03 _ _ hro, nro, each_perm.mp hb, fun H4 w' kp B4 hw => ?_⟩
        refine s_retL (xs := [vN c]) (el_lst (ea_cons (ev_is (ev_op (ev_cast T B4.at (ev_var rfl)) ev_c (rv_I0 (g := fun i j => .int (i - j)))) ?_) ea_nil) (by show 1 ≤ 100000; decide)) fun p H5 hp e5 h5 => ?_
        · show V.int _ = V.int _
          congr 1
          omega
        · refine k3 hb (by omega) H5 p w' (((Kept.of e03).trans kp).ex e5) (B4.mono e5) hw ?_ h5
          cases q : H p with
          | none => rfl
          | some o =>
            exfalso
            by_cases m : p ∈ b :: rows
            · rcases List.mem_cons.mp m with z | z
              · rw [z, B4.bx.ob] at hp
                cases hp
              · obtain ⟨j, hj, ej⟩ := List.mem_iff_getElem.mp z
                have := B4.bx.rw_ j p (by rw [List.getElem?_eq_getElem hj, ej])
                rw [hp] at this
                cases this
            · have := kp p o (e03 _ _ q) m
              rw [hp] at this
              cases this
/-! ### do_wins -/
def spDW (C : Addr) : Sp := fun vs H Q _ => ∃ b n c w nu ro i j, vs = [.ref b, .ref nu, ro] ∧ BalAt C H b n c w ∧ H nu = some (.lst [.int i, .int j]) ∧
  ((i < 0 ∨ (n : Int) ≤ i ∨ j < 0 ∨ (n : Int) ≤ j) → RetL [.int (-1)] H Q) ∧ (¬ (i < 0 ∨ (n : Int) ≤ i ∨ j < 0 ∨ (n : Int) ≤ j) → RetL [.int 0, vN (w i.toNat j.toNat)] H Q)
theorem sc_dw : FnScope ["ballots", "numbers", "row", "one", "other"] ["ballots", "numbers", "row"] (defScope (top 38)) := ⟨rfl, rfl, rfl, by decide +kernel, rfl, by decide +kernel, by decide +kernel⟩
theorem fn_dw (D : Dn K mg "do_wins" (top 38)) (T : BTxt K C) : Fn P w K mg base "do_wins" 1 (spDW C) := by
  refine D.fn sc_dw (fun vs H Q E h => ?_) (fun _ _ _ _ _ _ us hl => match us, hl with | [_, _, _], _ => rfl) (fun f cdv A outer s H vs Q E hr h => ?_)
  · obtain ⟨_, _, _, _, _, _, _, _, rfl, _⟩ := h
    rfl
  · obtain ⟨b, n, c, w, nu, ro, i, j, rfl, B, hnu, k1, k2⟩ := h
    refine ⟨_, pss_cons (ps_asg (pv 1) (pg_lst rfl (pgs_cons (pg_name (i := 3) sc_dw.nd rfl (Or.inl rfl)) (pgs_cons (pg_name (i := 4) sc_dw.nd rfl (Or.inl rfl)) pgs_nil))))
      (pss_cons (ps_if (PW.pt (pw_or (pt_not (pt_chain op_le op_lt pe_int (pv 3) (pe_fld (pv 0) rfl))) (pw_or1 (pt_not (pt_chain op_le op_lt pe_int (pv 4) (pe_fld (pv 0) rfl)))))) (pss_one (ps_ret (pe_lst (pa_cons (pe_un un_neg pe_int) pa_nil)))) pss_nil)
      (pss_one (ps_ret (pe_lst (pa_cons pe_int (pa_cons (pe_ix ix_list (pe_ix ix_list (pe_fld (pv 0) rfl) (pv 3) (fun _ _ => rfl)) (pv 4) (fun _ _ => rfl)) pa_nil)))))), ?_⟩
    refine ⟨_, rfl, nu, _, rfl, sq_of hnu, rfl, _, _, rfl, _, _, rfl, rfl, ?_⟩
    refine q_when (et_or (et_not (et_chain (ev_var rfl) (ev_many T B (ev_var rfl)))) fun _ => et_not (et_chain (ev_var rfl) (ev_many T B (ev_var rfl)))) (fun hb H1 e1 => ?_) (fun hb H1 e1 => ?_)
    · rw [Bool.or_eq_true, Bool.not_eq_true', Bool.not_eq_true', Bool.and_eq_false_iff, Bool.and_eq_false_iff, decide_eq_false_iff_not, decide_eq_false_iff_not, decide_eq_false_iff_not, decide_eq_false_iff_not] at hb
      exact s_retL (el_lst (ea_cons (ev_neg ev_c) ea_nil) (by show 1 ≤ 100000; decide)) fun p H2 hp e2 h2 => (k1 (by omega)).go e1 hp e2 h2
    · rw [Bool.or_eq_false_iff, Bool.not_eq_false', Bool.not_eq_false', Bool.and_eq_true, Bool.and_eq_true, decide_eq_true_eq, decide_eq_true_eq, decide_eq_true_eq, decide_eq_true_eq] at hb
      obtain ⟨i', rfl⟩ := Int.eq_ofNat_of_zero_le hb.1.1
      obtain ⟨j', rfl⟩ := Int.eq_ofNat_of_zero_le hb.2.1
      have g := k2 (by omega)
      rw [Int.toNat_natCast, Int.toNat_natCast] at g
      exact s_retL (el_lst (ea_cons ev_c (ea_cons (ev_wins T (B.mono e1) (ev_var rfl) (ev_var rfl) (ev_var rfl) (by omega) (by omega)) ea_nil)) (by show 2 ≤ 100000; decide)) fun p H2 hp e2 h2 => g.go e1 hp e2 h2
/-! ### do_first -/
def spDF (C : Addr) : Sp := fun vs H Q _ => ∃ b n c w nu ro, vs = [.ref b, nu, ro] ∧ BalAt C H b n c w ∧ RetL [match firstW n w with | some i => vN i | none => .int (-2)] H Q
theorem sc_df : FnScope ["ballots", "numbers", "row", "found"] ["ballots", "numbers", "row"] (defScope (top 39)) := ⟨rfl, rfl, rfl, by decide +kernel, rfl, by decide +kernel, by decide +kernel⟩
theorem fn_df (D : Dn K mg "do_first" (top 39)) (hF : Fn P w K mg base "first_of_all" 3 (spFirst C)) : Fn P w K mg base "do_first" 4 (spDF C) := by
  refine D.fn sc_df (fun vs H Q E h => ?_) (fun _ _ _ _ _ _ us hl => match us, hl with | [_, _, _], _ => rfl) (fun f cdv A outer s H vs Q E hr h => ?_)
  · obtain ⟨_, _, _, _, _, _, rfl, _⟩ := h
    rfl
  · obtain ⟨b, n, c, w, nu, ro, rfl, B, k⟩ := h
    refine ⟨_, pss_cons (ps_set (i := 3) sc_df.nd rfl (Or.inl rfl) (pe_fn hF hr (by decide) (pa_cons (pv 0) pa_nil)))
      (pss_cons (ps_if (pt_cmpR op_isN (pv 3) pe_non (nomark _)) (pss_one (ps_ret (pe_lst (pa_cons (pe_un un_neg pe_int) pa_nil)))) pss_nil)
      (pss_one (ps_ret (pe_lst (pa_cons (pv 3) pa_nil))))), ?_⟩
    refine q_asg (ev_call (ea_cons (ev_var rfl) ea_nil) (sv_first B)) fun H1 e1 => ?_
    refine q_when (b := decide (opV (firstW n w) = .non)) (et_test (ev_op (ev_var rfl) ev_c (rv_val fun H2 e Q q => ⟨rfl, q⟩))) (fun hb H2 e2 => ?_) (fun hb H2 e2 => ?_)
    · have hb := of_decide_eq_true hb
      cases hf : firstW n w with
      | some i => rw [hf] at hb; cases hb
      | none =>
        rw [hf] at k
        exact s_retL (el_lst (ea_cons (ev_neg ev_c) ea_nil) (by show 1 ≤ 100000; decide)) fun p H3 hp e3 h3 => k.go (e1.trans e2) hp e3 h3
    · have hb := of_decide_eq_false hb
      cases hf : firstW n w with
      | some i =>
        rw [hf] at k
        exact s_retL (el_lst (ea_cons (ev_var rfl) ea_nil) (by show 1 ≤ 100000; decide)) fun p H3 hp e3 h3 => k.go (e1.trans e2) hp e3 h3
      | none => rw [hf] at hb; exact absurd rfl hb
/-! ### do_smallest, do_uncovered, do_heads -/
def spD1 (C : Addr) (g : Nat → WF → Nat) : Sp := fun vs H Q _ => ∃ b n c w nu ro, vs = [.ref b, nu, ro] ∧ BalAt C H b n c w ∧ RetL [vN (g n w)] H Q
theorem sc_ds : FnScope ["ballots", "numbers", "row"] ["ballots", "numbers", "row"] (defScope (top 40)) := ⟨rfl, rfl, rfl, by decide +kernel, rfl, by decide +kernel, by decide +kernel⟩
theorem fn_ds (D : Dn K mg "do_smallest" (top 40)) (hS : Fn P w K mg base "smallest_group" 4 (spSm C)) : Fn P w K mg base "do_smallest" 5 (spD1 C smallestW) := by
  refine D.fn sc_ds (fun vs H Q E h => ?_) (fun _ _ _ _ _ _ us hl => match us, hl with | [_, _, _], _ => rfl) (fun f cdv A outer s H vs Q E hr h => ?_)
  · obtain ⟨_, _, _, _, _, _, rfl, _⟩ := h
    rfl
  · obtain ⟨b, n, c, w, nu, ro, rfl, B, k⟩ := h
    refine ⟨_, pss_one (ps_ret (pe_lst (pa_cons (pe_fn hS hr (by decide) (pa_cons (pv 0) pa_nil)) pa_nil))), ?_⟩
    exact s_retL (el_lst (ea_cons (ev_call (ea_cons (ev_var rfl) ea_nil) (sv_sm B)) ea_nil) (by show 1 ≤ 100000; decide)) k
theorem uncov_lt {n : Nat} {w : WF} : ∀ x ∈ uncovW n w, x < n := fun x hx => List.mem_range.mp (List.mem_filter.mp hx).1
theorem heads_lt {n : Nat} {w : WF} : ∀ x ∈ headsW n w, x < n := fun x hx => List.mem_range.mp (List.mem_filter.mp hx).1
theorem filter_le (n : Nat) (p : Nat → Bool) : ((List.range n).filter p).length ≤ n := by
  have := List.length_filter_le p (List.range n)
  rwa [List.length_range] at this
theorem sc_du : FnScope ["ballots", "numbers", "row"] ["ballots", "numbers", "row"] (defScope (top 41)) := ⟨rfl, rfl, rfl, by decide +kernel, rfl, by decide +kernel, by decide +kernel⟩
theorem fn_du (D : Dn K mg "do_uncovered" (top 41)) (hU : Fn P w K mg base "uncovered" 4 (spUn C)) (hT : Fn P w K mg base "told_set" 1 spTold) : Fn P w K mg base "do_uncovered" 5 (spD1 C fun n w => told (uncovW n w)) := by
  refine D.fn sc_du (fun vs H Q E h => ?_) (fun _ _ _ _ _ _ us hl => match us, hl with | [_, _, _], _ => rfl) (fun f cdv A outer s H vs Q E hr h => ?_)
  · obtain ⟨_, _, _, _, _, _, rfl, _⟩ := h
    rfl
  · obtain ⟨b, n, c, w, nu, ro, rfl, B, k⟩ := h
    refine ⟨_, pss_one (ps_ret (pe_lst (pa_cons (pe_fn hT hr (by decide) (pa_cons (pe_fn hU hr (by decide) (pa_cons (pv 0) pa_nil)) pa_nil)) pa_nil))), ?_⟩
    have h6 := B.1
    exact s_retL (el_lst (ea_cons (ev_call1L (el_call (ea_cons (ev_var rfl) ea_nil) (sl_un B)) fun p H1 e1 hp => sv_told hp (by have := filter_le n fun o => !((List.range n).any fun i => cov n w i o); show (List.filter _ _).length ≤ 1000; omega) fun x hx => by have := uncov_lt x hx; omega) ea_nil) (by show 1 ≤ 100000; decide)) k
theorem sc_dh : FnScope ["ballots", "numbers", "row"] ["ballots", "numbers", "row"] (defScope (top 42)) := ⟨rfl, rfl, rfl, by decide +kernel, rfl, by decide +kernel, by decide +kernel⟩
theorem fn_dh (D : Dn K mg "do_heads" (top 42)) (hU : Fn P w K mg base "heads" 5 (spHeads C)) (hT : Fn P w K mg base "told_set" 1 spTold) : Fn P w K mg base "do_heads" 6 (spD1 C fun n w => told (headsW n w)) := by
  refine D.fn sc_dh (fun vs H Q E h => ?_) (fun _ _ _ _ _ _ us hl => match us, hl with | [_, _, _], _ => rfl) (fun f cdv A outer s H vs Q E hr h => ?_)
  · obtain ⟨_, _, _, _, _, _, rfl, _⟩ := h
    rfl
  · obtain ⟨b, n, c, w, nu, ro, rfl, B, k⟩ := h
    refine ⟨_, pss_one (ps_ret (pe_lst (pa_cons (pe_fn hT hr (by decide) (pa_cons (pe_fn hU hr (by decide) (pa_cons (pv 0) pa_nil)) pa_nil)) pa_nil))), ?_⟩
    have h6 := B.1
    exact s_retL (el_lst (ea_cons (ev_call1L (el_call (ea_cons (ev_var rfl) ea_nil) (sl_heads B)) fun p H1 e1 hp => sv_told hp (by have := filter_le n (headB n w); show (List.filter _ _).length ≤ 1000; omega) fun x hx => by have := heads_lt x hx; omega) ea_nil) (by show 1 ≤ 100000; decide)) k
/-! ### do_turns -/
def spDT (C : Addr) : Sp := fun vs H Q _ => ∃ b n c w nu ro ns, vs = [.ref b, nu, .ref ro] ∧ BalAt C H b n c w ∧ 0 < n ∧ H ro = some (.lst (ns.map vN)) ∧ ns.length < 64 ∧
  RetL [if Rc61.each n ns = true then vN (turnsW w ns) else .int (-1)] H Q
theorem sc_dt : FnScope ["ballots", "numbers", "row"] ["ballots", "numbers", "row"] (defScope (top 43)) := ⟨rfl, rfl, rfl, by decide +kernel, rfl, by decide +kernel, by decide +kernel⟩
theorem fn_dt (D : Dn K mg "do_turns" (top 43)) (hO : Fn P w K mg base "is_order" 1 (spOrd C)) (hT : Fn P w K mg base "by_turns" 2 (spTurns C)) : Fn P w K mg base "do_turns" 3 (spDT C) := by
  refine D.fn sc_dt (fun vs H Q E h => ?_) (fun _ _ _ _ _ _ us hl => match us, hl with | [_, _, _], _ => rfl) (fun f cdv A outer s H vs Q E hr h => ?_)
  · obtain ⟨_, _, _, _, _, _, _, rfl, _⟩ := h
    rfl
  · obtain ⟨b, n, c, w, nu, ro, ns, rfl, B, h0, hro, hl, k⟩ := h
    refine ⟨_, pss_cons (ps_if (pt_not (pt_val (pe_fn hO hr (by decide) (pa_cons (pv 0) (pa_cons (pv 2) pa_nil))))) (pss_one (ps_ret (pe_lst (pa_cons (pe_un un_neg pe_int) pa_nil)))) pss_nil)
      (pss_one (ps_ret (pe_lst (pa_cons (pe_fn hT hr (by decide) (pa_cons (pv 0) (pa_cons (pv 2) pa_nil))) pa_nil)))), ?_⟩
    refine q_when (b := !Rc61.each n ns) (et_not (et_B (ev_call (ea_cons (ev_var rfl) (ea_cons (ev_var rfl) ea_nil)) (sv_ord B hro hl)))) (fun hb H1 e1 => ?_) (fun hb H1 e1 => ?_)
    · rw [Bool.not_eq_true'] at hb
      rw [hb] at k
      exact s_retL (el_lst (ea_cons (ev_neg ev_c) ea_nil) (by show 1 ≤ 100000; decide)) fun p H2 hp e2 h2 => k.go e1 hp e2 h2
    · rw [Bool.not_eq_false'] at hb
      rw [if_pos hb] at k
      have pm := each_perm.mp hb
      have ne : ns ≠ [] := fun q => by
        have := pm.length_eq
        rw [q, List.length_range] at this
        simp at this
        omega
      exact s_retL (el_lst (ea_cons (ev_call (ea_cons (ev_var rfl) (ea_cons (ev_var rfl) ea_nil)) (sv_turns (B.mono e1) (e1 _ _ hro) ne (by omega) fun x hx => List.mem_range.mp (pm.mem_iff.mp hx))) ea_nil) (by show 1 ≤ 100000; decide)) fun p H2 hp e2 h2 => k.go e1 hp e2 h2
/-! ### told_order, do_calmest, do_ranked -/
def pad (l : List Nat) : List Nat := l ++ List.replicate (12 - l.length) 0
def spTO (C : Addr) : Sp := fun vs H Q _ => ∃ b n c w a ns, vs = [.ref b, .ref a] ∧ BalAt C H b n c w ∧ H a = some (.lst (ns.map vN)) ∧ ns.length ≤ 12 ∧ RetL ((n :: pad ns).map vN) H Q
theorem sl_to {H : Hp} {b n c w a ns} (B : BalAt C H b n c w) (ha : H a = some (.lst (ns.map vN))) (hl : ns.length ≤ 12) : SpL (spTO C) [.ref b, .ref a] H ((n :: pad ns).map vN) := fun H1 e Q q E => ⟨b, n, c, w, a, ns, rfl, B.mono e, e _ _ ha, hl, q⟩
theorem sc_to : FnScope ["ballots", "order"] ["ballots", "order"] (defScope (top 44)) := ⟨rfl, rfl, rfl, by decide +kernel, rfl, by decide +kernel, by decide +kernel⟩
theorem rep_flat (n : Nat) : (List.replicate n [vN 0]).flatten = (List.replicate n 0).map vN := by
  induction n with
  | zero => rfl
  | succ n ih =>
    rw [List.replicate_succ, List.flatten_cons, ih, List.replicate_succ]
    rfl
theorem fn_to (D : Dn K mg "told_order" (top 44)) (T : BTxt K C) {u : Value} (mc : mg "MOST_CANDIDATES" = some u) (ru : RelV (.int 12) u) (ml : mg "len" = none) : Fn P w K mg base "told_order" 1 (spTO C) := by
  refine D.fn sc_to (fun vs H Q E h => ?_) (fun _ _ _ _ _ _ us hl => match us, hl with | [_, _], _ => rfl) (fun f cdv A outer s H vs Q E hr h => ?_)
  · obtain ⟨_, _, _, _, _, _, rfl, _⟩ := h
    rfl
  · obtain ⟨b, n, c, w, a, ns, rfl, B, ha, hl, k⟩ := h
    refine ⟨_, pss_one (ps_ret (pe_op op_cat (pe_op op_cat (pe_lst (pa_cons (pe_fld (pv 0) rfl) pa_nil)) (pv 1))
      (pe_op op_rep (pe_lst (pa_cons pe_int pa_nil)) (pe_op op_sub (pe_glob rfl mc ru) (pe_callB call_len_seq rfl ml PySem.boot_len (pa_cons (pv 1) pa_nil)))))), ?_⟩
    have ek : V.int (12 - ((ns.map vN).length : Int)) = vN (12 - ns.length) := by
      rw [List.length_map]
      show V.int _ = V.int _
      congr 1
      omega
    refine s_retL (xs := (n :: pad ns).map vN) ?_ k
    have e1 : (n :: pad ns).map vN = ([vN n] ++ ns.map vN) ++ (List.replicate (12 - ns.length) [vN 0]).flatten := by
      rw [rep_flat]
      unfold pad
      rw [List.map_cons, List.map_append]
      rfl
    rw [e1]
    refine el_catL (el_catV (el_lst (ea_cons (ev_many T B (ev_var rfl)) ea_nil) (by show 1 ≤ 100000; decide)) (ev_var rfl) ha (by rw [List.length_map]; show 1 + _ ≤ _; omega)) (el_rep (el_lst (ea_cons ev_c ea_nil) (by show 1 ≤ 100000; decide)) ?_ (by show 1 * _ ≤ _; omega) (by omega)) ?_
    · rw [← ek]
      exact ev_op ev_c (ev_len (ev_var rfl) (sq_of ha)) rv_I0
    · rw [List.length_append, List.length_map, rep_flat, List.length_map, List.length_replicate]
      show 1 + _ + _ ≤ _
      omega
def spDL (C : Addr) (g : Nat → WF → List Nat) (Ok : Nat → WF → Prop) : Sp := fun vs H Q _ => ∃ b n c w nu ro, vs = [.ref b, nu, ro] ∧ BalAt C H b n c w ∧ (g n w).length ≤ 12 ∧ RetL ((n :: pad (g n w)).map vN) H Q
theorem sc_dc : FnScope ["ballots", "numbers", "row"] ["ballots", "numbers", "row"] (defScope (top 45)) := ⟨rfl, rfl, rfl, by decide +kernel, rfl, by decide +kernel, by decide +kernel⟩
theorem fn_dc (D : Dn K mg "do_calmest" (top 45)) (hT : Fn P w K mg base "told_order" 1 (spTO C)) (hC : Fn P w K mg base "calmest" 5 (spCalm C)) : Fn P w K mg base "do_calmest" 6 (spDL C calmW fun _ _ => True) := by
  refine D.fn sc_dc (fun vs H Q E h => ?_) (fun _ _ _ _ _ _ us hl => match us, hl with | [_, _, _], _ => rfl) (fun f cdv A outer s H vs Q E hr h => ?_)
  · obtain ⟨_, _, _, _, _, _, rfl, _⟩ := h
    rfl
  · obtain ⟨b, n, c, w, nu, ro, rfl, B, hl, k⟩ := h
    refine ⟨_, pss_one (ps_ret (pe_fn hT hr (by decide) (pa_cons (pv 0) (pa_cons (pe_fn hC hr (by decide) (pa_cons (pv 0) pa_nil)) pa_nil)))), ?_⟩
    exact s_retL (el_call2L (ev_var rfl) (el_call (ea_cons (ev_var rfl) ea_nil) (sl_calm B)) fun p H1 e1 hp => sl_to (B.mono e1) hp hl) k
theorem sc_dr : FnScope ["ballots", "numbers", "row"] ["ballots", "numbers", "row"] (defScope (top 46)) := ⟨rfl, rfl, rfl, by decide +kernel, rfl, by decide +kernel, by decide +kernel⟩
theorem fn_dr (D : Dn K mg "do_ranked" (top 46)) (hT : Fn P w K mg base "told_order" 1 (spTO C)) (hC : Fn P w K mg base "ranked" 4 (spRk C)) : Fn P w K mg base "do_ranked" 5 (spDL C rankedW fun _ _ => True) := by
  refine D.fn sc_dr (fun vs H Q E h => ?_) (fun _ _ _ _ _ _ us hl => match us, hl with | [_, _, _], _ => rfl) (fun f cdv A outer s H vs Q E hr h => ?_)
  · obtain ⟨_, _, _, _, _, _, rfl, _⟩ := h
    rfl
  · obtain ⟨b, n, c, w, nu, ro, rfl, B, hl, k⟩ := h
    refine ⟨_, pss_one (ps_ret (pe_fn hT hr (by decide) (pa_cons (pv 0) (pa_cons (pe_fn hC hr (by decide) (pa_cons (pv 0) pa_nil)) pa_nil)))), ?_⟩
    exact s_retL (el_call2L (ev_var rfl) (el_call (ea_cons (ev_var rfl) ea_nil) (sl_rk B)) fun p H1 e1 hp => sl_to (B.mono e1) hp hl) k
end
end TV
/-! part TvF13 -/
namespace TV
open PySem PySem.Spec PyProof.Rows L2 Evl
/-! ### the state, and where it lies -/
structure SOk (s : Rc61.Abs) : Prop where
  n6 : s.n ≤ 6
  bl : s.ballots.length ≤ 256
  tm : ∀ x ∈ s.ballots, x.2 ≤ 4294967295
theorem SOk.wins {s : Rc61.Abs} (h : SOk s) (i j : Nat) : Rc61.wins s.ballots i j ≤ 256 * 4294967295 :=
  Nat.le_trans (wins_le s.ballots 4294967295 h.tm i j) (Nat.mul_le_mul_right _ h.bl)
def deskF (v : V) : List (Str × V) := [("ballots", v)]
theorem deskF_get (v : V) : (deskF v).lookup ("ballots" : Str) = some v := lk_here
theorem deskF_put (v u : V) : putF "ballots" u (deskF v) = deskF u := put_here
def BalS (C : Addr) (H : Hp) (s : Rc61.Abs) (v : V) (own : List Addr) : Prop :=
  (s.n = 0 ∧ v = .non ∧ own = []) ∨ (0 < s.n ∧ ∃ b dx L rows, v = .ref b ∧ own = b :: L :: rows ∧ BalW C H b dx L rows s.n s.ballots.length (Rc61.wins s.ballots))
def DeskAt (C CD : Addr) (H : Hp) (D : Addr) (s : Rc61.Abs) (own : List Addr) : Prop := SOk s ∧ D ∉ own ∧ ∃ dxD v, H D = some (.ins CD dxD (deskF v)) ∧ BalS C H s v own
theorem BalS.mono {C : Addr} {H H' : Hp} {s : Rc61.Abs} {v : V} {own : List Addr} (e : Ex H H') (h : BalS C H s v own) : BalS C H' s v own := by
  rcases h with h | ⟨h0, b, dx, L, rows, h1, h2, h3⟩
  · exact .inl h
  · exact .inr ⟨h0, b, dx, L, rows, h1, h2, h3.mono e⟩
theorem DeskAt.mono {C CD : Addr} {H H' : Hp} {D : Addr} {s : Rc61.Abs} {own : List Addr} (e : Ex H H') (h : DeskAt C CD H D s own) : DeskAt C CD H' D s own := by
  obtain ⟨h1, h2, dxD, v, h3, h4⟩ := h
  exact ⟨h1, h2, dxD, v, e _ _ h3, h4.mono e⟩
/-- a call, as the program is handed it: its number, its numbers, its row -/
inductive CallIs : Int → List Int → List Nat → Rc61.Call → Prop where
  | init : CallIs 0 [] [] .init
  | cand (a : Int) (h : a ≤ 6 ∨ 12 < a) : CallIs 1 [a] [] (.candidates a)
  | ballot (t : Nat) (ns : List Nat) (ht : t ≤ 4294967295) (hl : ns.length < 64) : CallIs 2 [(t : Int)] ns (.ballot ns (ns.length : Int) t)
  | wins (i j : Int) : CallIs 3 [i, j] [] (.wins i j)
  | first : CallIs 4 [] [] .first
  | smallest : CallIs 5 [] [] .smallest
  | uncovered : CallIs 6 [] [] .uncovered
  | heads : CallIs 7 [] [] .heads
  | turns (ns : List Nat) (hl : ns.length < 64) : CallIs 8 [] ns (.turns ns (ns.length : Int))
  | calmest : CallIs 9 [] [] .calmest
  | ranked : CallIs 10 [] [] .ranked
def ansV (a : Rc61.Ans) : List V := V.int a.value :: a.numbers.map vN
def spTl (C CD : Addr) : Sp := fun vs H Q _ => ∃ D k nu ro xs ns s c own, vs = [.ref D, .int k, .ref nu, .ref ro] ∧ DeskAt C CD H D s own ∧ H nu = some (.lst (xs.map V.int)) ∧ H ro = some (.lst (ns.map vN)) ∧ ro ∉ own ∧ CallIs k xs ns c ∧
  ∀ H' p own', Kept (D :: own) H H' → (∀ x ∈ own', x ∈ own ∨ H x = none) → DeskAt C CD H' D (Rc61.does s c).1 own' → H p = none → H' p = some (.lst (ansV (Rc61.does s c).2)) → Q (.ref p) H'
/-! ### the defs that told chooses among -/
abbrev rIsN : R2 := fun x y H Q => y = .non ∧ Q (.bl (decide (x = .non))) H
def t_tl (K : PySem.W.Frag) (C DD : Addr) (S : Addr → Option Sp) : TS :=
  tSeq (tIfS (tTest (tOp rEq (tVar 1) (tC (.int 0)))) (tSeq (sFld K (tVar 0) (tC .non) "ballots") (tRet (tLst (tCons (tC (.int 0)) tNil)))) tNext)
  (tSeq (tIfS (tTest (tOp rEq (tVar 1) (tC (.int 1)))) (tSeq (tIfS (tNot (tTest (tChain (rI0 fun i j => .bl (decide (i ≤ j))) (rI0 fun i j => .bl (decide (i ≤ j))) (tC (.int 1)) (tOp (rIxL K) (tVar 2) (tC (.int 0))) (tC (.int 12))))) (tRet (tLst (tCons (tUn (rU fun i => .int (-i)) (tC (.int 1))) tNil))) tNext)
      (tSeq (sFld K (tVar 0) (tMake C (spBI C) [] E0 (tCons (tOp (rIxL K) (tVar 2) (tC (.int 0))) tNil)) "ballots") (tRet (tLst (tCons (tC (.int 0)) tNil))))) tNext)
  (tSeq (tIfS (tTest (tOp rIsN (tFld K (tVar 0) "ballots") (tC .non))) (tRet (tLst (tCons (tUn (rU fun i => .int (-i)) (tC (.int 4))) tNil))) tNext)
  (tSeq (tAsg (tOp (rIxDI K) (tC (.ref DD)) (tVar 1)) (gName 4))
  (tRet (tCallA 4 S (tCons (tFld K (tVar 0) "ballots") (tCons (tVar 2) (tCons (tVar 3) tNil))))))))
structure DTxt (K : PySem.W.Frag) (CD : Addr) : Prop where
  cl : Cls K CD
  nB : NoAttr K CD "ballots"
def N_tl : List Str := ["desk", "kind", "numbers", "row", "deed"]
section
variable {K : PySem.W.Frag} {C CD DD : Addr} {S : Addr → Option Sp} {H : Hp} {D nu ro : Addr} {k : Int} {Q : VK} {s : Rc61.Abs} {own : List Addr} {xs : List Int}
theorem eqI {i j : Int} : decide (V.int i = V.int j) = decide (i = j) := decide_eq_decide.mpr ⟨fun h => V.int.inj h, fun h => by rw [h]⟩
/-- a call behind the first two: no candidates, or the def that stands for it -/
theorem tl_other (TD : DTxt K CD) {dxD : Addr} {v : V} (hD : H D = some (.ins CD dxD (deskF v))) (h0 : k ≠ 0) (h1 : k ≠ 1) (hv : v = .non → RetL [.int (-4)] H Q)
    (hf : v ≠ .non → ∃ f sp, KDI K DD k (.ref f) ∧ S f = some sp ∧ ∀ H1, Ex H H1 → sp [v, .ref nu, .ref ro] H1 Q (fun _ _ _ => False)) :
    t_tl K C DD S { nx := fun _ H' => Q .non H', rt := Q } (start N_tl [.ref D, .int k, .ref nu, .ref ro]) H := by
  refine q_when (b := false) (et_is (et_test (ev_op (ev_var rfl) ev_c (rv_eq rfl))) (by rw [eqI]; exact decide_eq_false h0)) (fun h => Bool.noConfusion h) (fun _ H1 e1 => ?_)
  refine q_when (b := false) (et_is (et_test (ev_op (ev_var rfl) ev_c (rv_eq rfl))) (by rw [eqI]; exact decide_eq_false h1)) (fun h => Bool.noConfusion h) (fun _ H2 e2 => ?_)
  have e02 := e1.trans e2
  refine q_when (b := decide (v = .non)) (et_test (ev_op (ev_fld (ev_var rfl) (e02 _ _ hD) TD.cl TD.nB (deskF_get v)) ev_c (rv_val fun H2 e Q q => ⟨rfl, q⟩))) (fun hb H3 e3 => ?_) (fun hb H3 e3 => ?_)
  · exact s_retL (el_lst (ea_cons (ev_neg ev_c) ea_nil) (by show 1 ≤ 100000; decide)) fun p H4 hp e4 h4 => (hv (of_decide_eq_true hb)).go (e02.trans e3) hp e4 h4
  · obtain ⟨f, sp, hk, hS, go⟩ := hf (of_decide_eq_false hb)
    have e03 := e02.trans e3
    refine q_asg (v := .ref f) (ev_op ev_c (ev_var rfl) (rv_val fun H4 e Q q => ⟨DD, k, .ref f, rfl, rfl, hk, q⟩)) fun H4 e4 => ?_
    refine ⟨f, sp, rfl, hS, ?_⟩
    refine ev_fld (ev_var rfl) ((e03.trans e4) _ _ hD) TD.cl TD.nB (deskF_get v) H4 (Ex.refl _) _ fun H5 e5 => ?_
    exact ⟨_, rfl, _, rfl, go H5 ((e03.trans e4).trans e5)⟩
theorem tl_init (TD : DTxt K CD) {dxD : Addr} {v : V} (hD : H D = some (.ins CD dxD (deskF v)))
    (go : ∀ H' p, Kept [D] H H' → H' D = some (.ins CD dxD (deskF .non)) → H p = none → H' p = some (.lst [.int 0]) → Q (.ref p) H') :
    t_tl K C DD S { nx := fun _ H' => Q .non H', rt := Q } (start N_tl [.ref D, .int 0, .ref nu, .ref ro]) H := by
  refine q_when (b := true) (et_is (et_test (ev_op (ev_var rfl) ev_c (rv_eq rfl))) (by rw [eqI]; rfl)) (fun _ H1 e1 => ?_) (fun h => Bool.noConfusion h)
  refine ⟨_, rfl, D, CD, dxD, _, rfl, e1 _ _ hD, TD.cl, TD.nB, (by show 1 < 1000; decide), ?_⟩
  rw [deskF_put]
  have kp : Kept [D] H (upd H1 D (.ins CD dxD (deskF .non))) := (Kept.of e1).upd List.mem_cons_self
  refine s_retL (σ := start N_tl [.ref D, .int 0, .ref nu, .ref ro]) (el_lst (ea_cons ev_c ea_nil) (by show 1 ≤ 100000; decide)) fun p H2 hp e2 h2 => go H2 p (kp.ex e2) (e2 _ _ upd_same) ?_ h2
  have np : p ≠ D := fun q => by rw [q, upd_same] at hp; cases hp
  rw [upd_ne np] at hp
  exact fresh_back e1 hp
theorem f_make {K : PySem.W.Frag} {σ : L2.St} {H : Hp} {to te : TE} {D : Ends} {fl : Str} {sp : Sp} {x : V} (ha : Ev te σ H x)
    (k : ∀ H1, Ex H H1 → ∀ p dx, H1 p = none → H1 dx = none → dx ≠ p → sp [.ref p, x] (upd (upd H1 dx (.own p)) p (.ins C dx [])) (fun v H2 => v = .non ∧ to σ H2 fun x H2' => ∃ a C' dx fs, x = .ref a ∧ H2' a = some (.ins C' dx fs) ∧ Cls K C' ∧ NoAttr K C' fl ∧ fs.length < 1000 ∧ D.nx σ (upd H2' a (.ins C' dx (putF fl (.ref p) fs)))) E0) :
    sFld K to (tMake C sp [] E0 (tCons te tNil)) fl D σ H := ha H (Ex.refl H) _ fun H1 e1 => fun p dx np nd ne => k H1 e1 p dx np nd ne
theorem tl_cand (TD : DTxt K CD) {dxD : Addr} {v : V} {a : Int} (hD : H D = some (.ins CD dxD (deskF v))) (hnu : H nu = some (.lst [V.int a])) (ha : a ≤ 6 ∨ 12 < a) (hno : (a < 1 ∨ 12 < a) → RetL [.int (-1)] H Q)
    (go : 1 ≤ a → a ≤ 6 → ∀ H' p b dx L rows, Kept [D] H H' → BalW C H' b dx L rows a.toNat 0 (fun _ _ => 0) → (∀ x ∈ b :: L :: rows, H x = none) → H' D = some (.ins CD dxD (deskF (.ref b))) → H p = none → H' p = some (.lst [.int 0]) → Q (.ref p) H') :
    t_tl K C DD S { nx := fun _ H' => Q .non H', rt := Q } (start N_tl [.ref D, .int 1, .ref nu, .ref ro]) H := by
  refine q_when (b := false) (et_is (et_test (ev_op (ev_var rfl) ev_c (rv_eq rfl))) (by rw [eqI]; rfl)) (fun h => Bool.noConfusion h) (fun _ H1 e1 => ?_)
  refine q_when (b := true) (et_is (et_test (ev_op (ev_var rfl) ev_c (rv_eq rfl))) (by rw [eqI]; rfl)) (fun _ H2 e2 => ?_) (fun h => Bool.noConfusion h)
  have e02 := e1.trans e2
  refine q_when (et_not (et_chain1 (i := a) (n := 12) (ev_ix (i := 0) (ev_var rfl) ev_c (sq_of (e02 _ _ hnu)) rfl) ev_c)) (fun hb H3 e3 => ?_) (fun hb H3 e3 => ?_)
  · rw [Bool.not_eq_true', Bool.and_eq_false_iff, decide_eq_false_iff_not, decide_eq_false_iff_not] at hb
    exact s_retL (el_lst (ea_cons (ev_neg ev_c) ea_nil) (by show 1 ≤ 100000; decide)) fun p H4 hp e4 h4 => (hno (by omega)).go (e02.trans e3) hp e4 h4
  · rw [Bool.not_eq_false', Bool.and_eq_true, decide_eq_true_eq, decide_eq_true_eq] at hb
    have e03 := e02.trans e3
    have a6 : a ≤ 6 := by omega
    obtain ⟨n, rfl⟩ := Int.eq_ofNat_of_zero_le (show 0 ≤ a by omega)
    refine f_make (x := vN n) (ev_ix (i := 0) (ev_var rfl) ev_c (sq_of (e03 _ _ hnu)) rfl) fun H4 e4 b dx nb ndx nxb => ?_
    have e04 := e03.trans e4
    have exb : Ex H4 (upd (upd H4 dx (.own b)) b (.ins C dx [])) := Ex.mut (Ex.new ndx) nb
    refine ⟨b, dx, n, rfl, upd_same, by omega, fun H5 L rows B5 fr kp5 => ⟨rfl, ?_⟩⟩
    have hD4 := e04 _ _ hD
    have nDb : D ≠ b := ne_of_none hD4 nb
    have hD5 : H5 D = some (.ins CD dxD (deskF v)) := kp5 _ _ (exb _ _ hD4) nDb
    refine ⟨_, rfl, D, CD, dxD, _, rfl, hD5, TD.cl, TD.nB, (by show 1 < 1000; decide), ?_⟩
    rw [deskF_put]
    have frs : ∀ x ∈ b :: L :: rows, H4 x = none := fun x hx => by
      rcases List.mem_cons.mp hx with q | q
      · rw [q]; exact nb
      · exact fresh_back exb (fr x q)
    have kp : Kept [D] H (upd H5 D (.ins CD dxD (deskF (.ref b)))) := by
      refine Kept.upd ?_ List.mem_cons_self
      intro x o hx nx
      have hx4 := e04 _ _ hx
      exact kp5 x o (exb _ _ hx4) (ne_of_none hx4 nb)
    have nDr : D ∉ b :: L :: rows := fun m => by
      rw [frs D m] at hD4
      cases hD4
    have B6 : BalW C (upd H5 D (.ins CD dxD (deskF (.ref b)))) b dx L rows n 0 (fun _ _ => 0) := by
      refine ⟨⟨?_, ?_, B5.bx.ln, fun i r q => ?_⟩, B5.nd, B5.nl, B5.n6⟩
      · rw [upd_ne fun q => nDr (by rw [← q]; exact List.mem_cons_self)]
        exact B5.bx.ob
      · rw [upd_ne fun q => nDr (by rw [← q]; exact List.mem_cons_of_mem _ List.mem_cons_self)]
        exact B5.bx.lw
      · rw [upd_ne fun z => nDr (by rw [← z]; exact List.mem_cons_of_mem _ (List.mem_cons_of_mem _ (List.mem_of_getElem? q)))]
        exact B5.bx.rw_ i r q
    refine s_retL (σ := start N_tl [.ref D, .int 1, .ref nu, .ref ro]) (el_lst (ea_cons ev_c ea_nil) (by show 1 ≤ 100000; decide)) fun p H6 hp e6 h6 => go (by omega) a6 H6 p b dx L rows (kp.ex e6) (by rw [Int.toNat_natCast]; exact B6.mono e6) (fun x hx => fresh_back e04 (frs x hx)) (e6 _ _ upd_same) ?_ h6
    have np : p ≠ D := fun q => by rw [q, upd_same] at hp; cases hp
    rw [upd_ne np] at hp
    cases q : H p with
    | none => rfl
    | some o =>
      have hx4 := e04 _ _ q
      have := kp5 p o (exb _ _ hx4) (ne_of_none hx4 nb)
      rw [hp] at this
      cases this
end
end TV
/-! part TvF14 -/
namespace TV
open PySem PySem.Spec PyProof.Rows L2 Evl
abbrev Tbl := List (Addr × Sp)
def pick (tbl : Tbl) (f : Addr) : Option Sp := (tbl.find? fun e => e.1 == f).map (·.2)
theorem pick_in {tbl : Tbl} {f : Addr} {sp : Sp} (h : pick tbl f = some sp) : (f, sp) ∈ tbl := by
  unfold pick at h
  cases q : tbl.find? fun e => e.1 == f with
  | none => rw [q] at h; cases h
  | some e =>
    rw [q] at h
    have h1 := List.mem_of_find?_eq_some q
    have h2 : e.1 = f := by simpa using List.find?_some q
    have h3 : e.2 = sp := Option.some.inj h
    rw [← h2, ← h3]
    exact h1
theorem pick_of {f : Addr} {sp : Sp} : ∀ {tbl : Tbl}, (tbl.map (·.1)).Nodup → (f, sp) ∈ tbl → pick tbl f = some sp
  | [], _, h => by cases h
  | e :: r, hn, h => by
    unfold pick
    rw [List.find?_cons]
    obtain ⟨n1, n2⟩ := List.nodup_cons.mp hn
    rcases List.mem_cons.mp h with q | q
    · rw [← q]
      simp
    · have ne : (e.1 == f) = false := by
        rw [beq_eq_false_iff_ne]
        intro z
        exact n1 (by show e.1 ∈ r.map (·.1); rw [z]; exact List.mem_map.mpr ⟨_, q, rfl⟩)
      rw [ne]
      exact pick_of n2 q
section
variable {P : Program} {w : World} {K : PySem.W.Frag} {mg : Str → Option Value} {base : Heap} {C CD : Addr}
theorem Fn.held {x : Str} {k j : Nat} {sp : Sp} {f : Addr} (h : Fn P w K mg base x k sp) (hm : mg x = some (.ref f)) (hk : k ≤ j) : Held P w K mg base j f sp := by
  obtain ⟨f', fd, ps, F, hm', kp, b⟩ := h.ex
  rw [hm] at hm'
  cases hm'
  exact ⟨fd, ps, F.mono hk, kp, b⟩
def deeds (C : Addr) (f2 f3 f4 f5 f6 f7 f8 f9 f10 : Addr) : Tbl := [(f2, spDB C), (f3, spDW C), (f4, spDF C), (f5, spD1 C smallestW), (f6, spD1 C fun n w => told (uncovW n w)), (f7, spD1 C fun n w => told (headsW n w)), (f8, spDT C), (f9, spDL C calmW fun _ _ => True), (f10, spDL C rankedW fun _ _ => True)]
structure Deeds (P : Program) (w : World) (K : PySem.W.Frag) (mg : Str → Option Value) (base : Heap) (C DD f2 f3 f4 f5 f6 f7 f8 f9 f10 : Addr) : Prop where
  nd : [f2, f3, f4, f5, f6, f7, f8, f9, f10].Nodup
  all : ∀ e ∈ deeds C f2 f3 f4 f5 f6 f7 f8 f9 f10, Held P w K mg base 6 e.1 e.2
  d2 : KDI K DD 2 (.ref f2)
  d3 : KDI K DD 3 (.ref f3)
  d4 : KDI K DD 4 (.ref f4)
  d5 : KDI K DD 5 (.ref f5)
  d6 : KDI K DD 6 (.ref f6)
  d7 : KDI K DD 7 (.ref f7)
  d8 : KDI K DD 8 (.ref f8)
  d9 : KDI K DD 9 (.ref f9)
  d10 : KDI K DD 10 (.ref f10)
theorem sc_tl : FnScope N_tl ["desk", "kind", "numbers", "row"] (defScope (top 49)) := ⟨rfl, rfl, rfl, by decide +kernel, rfl, by decide +kernel, by decide +kernel⟩
theorem does_zero {s : Rc61.Abs} {c : Rc61.Call} (h : s.n = 0) (h1 : c ≠ .init) (h2 : ∀ a, c ≠ .candidates a) : Rc61.does s c = (s, { value := -4 }) := by
  cases c <;> simp [Rc61.does, h] at *
/-- the deed's answer where the state stays -/
theorem ret_same {H : Hp} {D : Addr} {s : Rc61.Abs} {c : Rc61.Call} {own : List Addr} {Q : VK} {a : Rc61.Ans} (B : DeskAt C CD H D s own)
    (go : ∀ H' p own', Kept (D :: own) H H' → (∀ x ∈ own', x ∈ own ∨ H x = none) → DeskAt C CD H' D (Rc61.does s c).1 own' → H p = none → H' p = some (.lst (ansV (Rc61.does s c).2)) → Q (.ref p) H')
    (e : Rc61.does s c = (s, a)) {H1 : Hp} (e1 : Ex H H1) : RetL (ansV a) H1 Q := fun p H2 hp e2 h2 => by
  rw [e] at go
  exact go H2 p own (Kept.of (e1.trans e2)) (fun x m => .inl m) (B.mono (e1.trans e2)) (fresh_back e1 hp) h2
theorem fn_tl {DD f2 f3 f4 f5 f6 f7 f8 f9 f10 fB : Addr} {fdB : FuncData} {u0 u1 u12 : Value} (D : Dn K mg "told" (top 49)) (T : BTxt K C) (TD : DTxt K CD) (Ds : Deeds P w K mg base C DD f2 f3 f4 f5 f6 f7 f8 f9 f10)
    (m0 : mg "BEGIN" = some u0) (r0 : RelV (.int 0) u0) (m1 : mg "CANDIDATES" = some u1) (r1 : RelV (.int 1) u1) (m12 : mg "MOST_CANDIDATES" = some u12) (r12 : RelV (.int 12) u12) (mD : mg "DEEDS" = some (.ref DD))
    (M : Mk K C fB) (FB : FnOk P w K mg base CX0 1 fB fdB ["self", "many"] (spBI C)) (bB : Binds K fdB ["self", "many"] []) (mC : mg "Ballots" = some (.ref C)) : Fn P w K mg base "told" 7 (spTl C CD) := by
  refine D.fn sc_tl (fun vs H Q E h => ?_) (fun _ _ _ _ _ _ us hl => match us, hl with | [_, _, _, _], _ => rfl) (fun f cdv A outer s H vs Q E hr h => ?_)
  · obtain ⟨_, _, _, _, _, _, _, _, _, rfl, _⟩ := h
    rfl
  · obtain ⟨D, k, nu, ro, xs, ns, s, c, own, rfl, B, hnu, hro, nro, hc, go⟩ := h
    refine ⟨t_tl K C DD (pick (deeds C f2 f3 f4 f5 f6 f7 f8 f9 f10)), ?_, ?_⟩
    · exact pss_cons (ps_if (pt_cmpR op_eq (pv 1) (pe_glob rfl m0 r0) (nomark _)) (pss_cons (ps_fld (pv 0) pe_non rfl) (pss_one (ps_ret (pe_lst (pa_cons pe_int pa_nil))))) pss_nil)
        (pss_cons (ps_if (pt_cmpR op_eq (pv 1) (pe_glob rfl m1 r1) (nomark _))
            (pss_cons (ps_if (pt_not (pt_chain op_le op_le pe_int (pe_ix ix_list (pv 2) pe_int (fun _ _ => rfl)) (pe_glob rfl m12 r12))) (pss_one (ps_ret (pe_lst (pa_cons (pe_un un_neg pe_int) pa_nil)))) pss_nil)
            (pss_cons (ps_fld (pv 0) (pe_make M FB (hr.mono (by decide)) rfl mC bB .nil pass0 (pa_cons (pe_ix ix_list (pv 2) pe_int (fun _ _ => rfl)) pa_nil)) rfl) (pss_one (ps_ret (pe_lst (pa_cons pe_int pa_nil)))))) pss_nil)
        (pss_cons (ps_if (pt_cmpR op_isN (pe_fld (pv 0) rfl) pe_non (nomark _)) (pss_one (ps_ret (pe_lst (pa_cons (pe_un un_neg pe_int) pa_nil)))) pss_nil)
        (pss_cons (ps_set (i := 4) sc_tl.nd rfl (Or.inl rfl) (pe_ix ix_kdictI (pe_glob rfl mD rfl) (pv 1) (fun _ _ => rfl)))
        (pss_one (ps_ret (pe_callA (i := 4) (S := pick (deeds C f2 f3 f4 f5 f6 f7 f8 f9 f10)) (fun f sp h => Ds.all (f, sp) (pick_in h)) hr rfl (Or.inl rfl) (pa_cons (pe_fld (pv 0) rfl) (pa_cons (pv 2) (pa_cons (pv 3) pa_nil))))))))) 
    · obtain ⟨ok, nD, dxD, v, hD, bs⟩ := id B
      have pk : ∀ f sp, (f, sp) ∈ deeds C f2 f3 f4 f5 f6 f7 f8 f9 f10 → pick (deeds C f2 f3 f4 f5 f6 f7 f8 f9 f10) f = some sp := fun f sp m => pick_of Ds.nd m
      have vz : v = .non → s.n = 0 := fun e => by
        rcases bs with ⟨h0, _⟩ | ⟨_, b, _, _, _, h1, _⟩
        · exact h0
        · rw [h1] at e
          cases e
      have vb : v ≠ .non → 0 < s.n ∧ ∃ b dx L rows, v = .ref b ∧ own = b :: L :: rows ∧ BalW C H b dx L rows s.n s.ballots.length (Rc61.wins s.ballots) := fun e => by
        rcases bs with ⟨_, h1, _⟩ | h
        · exact absurd h1 e
        · exact h
      have vi : v ≠ .non → s.n ≠ 0 := fun e => Nat.pos_iff_ne_zero.mp (vb e).1
      cases hc with
      | init =>
        refine tl_init TD hD fun H' p kp hD' hp h => go H' p [] (kp.mono fun x m => by rw [List.mem_singleton.mp m]; exact List.mem_cons_self) (fun x m => by cases m) ⟨⟨Nat.zero_le 6, Nat.zero_le 256, fun x m => by cases m⟩, by simp, dxD, .non, hD', .inl ⟨rfl, rfl, rfl⟩⟩ hp h
      | cand a ha =>
        refine tl_cand TD hD hnu ha (fun hn => ?_) fun h1 h2 H' p b dx L rows kp B' fr hD' hp h => ?_
        · exact ret_same (a := Rc61.refused) B go (if_pos hn) (Ex.refl H)
        · have e : Rc61.does s (.candidates a) = ({ n := a.toNat }, { value := 0 }) := if_neg (show ¬ (a < 1 ∨ 12 < a) by omega)
          rw [e] at go
          refine go H' p (b :: L :: rows) (kp.mono fun x m => by rw [List.mem_singleton.mp m]; exact List.mem_cons_self) (fun x m => .inr (fr x m)) ⟨⟨?_, Nat.zero_le _, fun x m => by cases m⟩, ?_, dxD, .ref b, hD', .inr ⟨?_, b, dx, L, rows, rfl, rfl, ⟨B'.bx.congr fun i j _ _ => rfl, B'.nd, B'.nl, B'.n6⟩⟩⟩ hp h
          · show a.toNat ≤ 6
            omega
          · intro m
            rw [fr D m] at hD
            cases hD
          · show 0 < a.toNat
            omega
      | ballot t ns ht hl =>
        refine tl_other TD hD (by decide) (by decide) (fun e => ret_same (a := { value := -4 }) B go (does_zero (vz e) (fun z => by cases z) (fun a z => by cases z)) (Ex.refl H)) fun e => ⟨f2, spDB C, Ds.d2, pk _ _ (by simp [deeds]), fun H1 e1 => ?_⟩
        obtain ⟨n0, b, dx, L, rows, rfl, eo, Bw⟩ := vb e
        have hn0 := vi e
        have nrr : ro ∉ rows := fun m => nro (by rw [eo]; exact List.mem_cons_of_mem _ (List.mem_cons_of_mem _ m))
        refine ⟨b, dx, L, rows, s.n, s.ballots.length, _, nu, ro, t, ns, rfl, Bw.mono e1, e1 _ _ hnu, e1 _ _ hro, nrr, hl, fun he => ?_, fun he hc => ?_, fun he hc H' p w' kp B' hw hp h => ?_⟩
        · have e2 : Rc61.does s (.ballot ns (ns.length : Int) t) = (s, Rc61.refused) := by
            show (if s.n = 0 then _ else if _ then _ else _) = _
            rw [if_neg hn0, if_pos (.inr he)]
          exact ret_same B go e2 e1
        · have el : ¬ ((ns.length : Int) ≠ (s.n : Int) ∨ Rc61.each s.n ns = false) := fun z => by
            rcases z with z | z
            · apply z
              rw [(each_perm.mp he).length_eq, List.length_range]
            · rw [he] at z
              cases z
          have e2 : Rc61.does s (.ballot ns (ns.length : Int) t) = (s, { value := -2 }) := by
            show (if s.n = 0 then _ else if _ then _ else if _ then _ else _) = _
            rw [if_neg hn0, if_neg el, if_pos (show Rc61.BALLOTS ≤ s.ballots.length from hc)]
          exact ret_same B go e2 e1
        · have el : ¬ ((ns.length : Int) ≠ (s.n : Int) ∨ Rc61.each s.n ns = false) := fun z => by
            rcases z with z | z
            · apply z
              rw [(each_perm.mp he).length_eq, List.length_range]
            · rw [he] at z
              cases z
          have e2 : Rc61.does s (.ballot ns (ns.length : Int) t) = ({ s with ballots := s.ballots ++ [(ns, t)] }, { value := (s.ballots.length : Nat) }) := by
            show (if s.n = 0 then _ else if _ then _ else if _ then _ else _) = _
            rw [if_neg hn0, if_neg el, if_neg (show ¬ Rc61.BALLOTS ≤ s.ballots.length from Nat.not_le.mpr hc)]
          rw [e2] at go
          have hD1 := e1 _ _ hD
          have nDr : D ∉ b :: rows := fun m => nD (by
            rw [eo]
            rcases List.mem_cons.mp m with q | q
            · rw [q]; exact List.mem_cons_self
            · exact List.mem_cons_of_mem _ (List.mem_cons_of_mem _ q))
          refine go H' p own (((Kept.of e1).trans kp).mono fun x m => by
            rw [eo]
            rcases List.mem_cons.mp m with q | q
            · rw [q]; exact List.mem_cons_of_mem _ List.mem_cons_self
            · exact List.mem_cons_of_mem _ (List.mem_cons_of_mem _ (List.mem_cons_of_mem _ q))) (fun x m => .inl m) ⟨⟨ok.n6, ?_, ?_⟩, nD, dxD, .ref b, kp _ _ hD1 nDr, .inr ⟨n0, b, dx, L, rows, rfl, eo, ?_⟩⟩ (fresh_back e1 hp) h
          · show (s.ballots ++ [(ns, t)]).length ≤ 256
            rw [List.length_append]
            show s.ballots.length + 1 ≤ 256
            omega
          · intro x hx
            rcases List.mem_append.mp hx with q | q
            · exact ok.tm x q
            · rw [List.mem_singleton.mp q]
              exact ht
          · have el2 : (s.ballots ++ [(ns, t)]).length = s.ballots.length + 1 := List.length_append
            show BalW C H' b dx L rows s.n (s.ballots ++ [(ns, t)]).length (Rc61.wins (s.ballots ++ [(ns, t)]))
            rw [el2]
            refine ⟨B'.bx.congr fun i j hi hj => ?_, B'.nd, B'.nl, B'.n6⟩
            rw [hw i j hi hj, wins_snoc]
      | wins i j =>
        refine tl_other TD hD (by decide) (by decide) (fun e => ret_same (a := { value := -4 }) B go (does_zero (vz e) (fun z => by cases z) (fun a z => by cases z)) (Ex.refl H)) fun e => ⟨f3, spDW C, Ds.d3, pk _ _ (by simp [deeds]), fun H1 e1 => ?_⟩
        obtain ⟨n0, b, dx, L, rows, rfl, eo, Bw⟩ := vb e
        have hn0 := vi e
        refine ⟨b, s.n, s.ballots.length, _, nu, .ref ro, i, j, rfl, Bw.at.mono e1, e1 _ _ hnu, fun hx => ?_, fun hx => ?_⟩
        · have e2 : Rc61.does s (.wins i j) = (s, Rc61.refused) := by
            show (if s.n = 0 then _ else if _ then _ else _) = _
            rw [if_neg hn0, if_pos hx]
          exact ret_same B go e2 e1
        · have e2 : Rc61.does s (.wins i j) = (s, { value := 0, numbers := [Rc61.wins s.ballots i.toNat j.toNat] }) := by
            show (if s.n = 0 then _ else if _ then _ else _) = _
            rw [if_neg hn0, if_neg hx]
          exact ret_same B go e2 e1
      | first =>
        refine tl_other TD hD (by decide) (by decide) (fun e => ret_same (a := { value := -4 }) B go (does_zero (vz e) (fun z => by cases z) (fun a z => by cases z)) (Ex.refl H)) fun e => ⟨f4, spDF C, Ds.d4, pk _ _ (by simp [deeds]), fun H1 e1 => ?_⟩
        obtain ⟨n0, b, dx, L, rows, rfl, eo, Bw⟩ := vb e
        have hn0 := vi e
        refine ⟨b, s.n, s.ballots.length, _, .ref nu, .ref ro, rfl, Bw.at.mono e1, ?_⟩
        rw [first_eq]
        cases ef : Rc61.first s.n s.ballots with
        | some i =>
          have e2 : Rc61.does s .first = (s, { value := (i : Nat) }) := by
            show (if s.n = 0 then _ else match Rc61.first s.n s.ballots with | some i => (s, ({ value := (i : Nat) } : Rc61.Ans)) | none => (s, ({ value := -2 } : Rc61.Ans))) = _
            rw [if_neg hn0, ef]
          exact ret_same B go e2 e1
        | none =>
          have e2 : Rc61.does s .first = (s, { value := -2 }) := by
            show (if s.n = 0 then _ else match Rc61.first s.n s.ballots with | some i => (s, ({ value := (i : Nat) } : Rc61.Ans)) | none => (s, ({ value := -2 } : Rc61.Ans))) = _
            rw [if_neg hn0, ef]
          exact ret_same B go e2 e1
      | smallest =>
        refine tl_other TD hD (by decide) (by decide) (fun e => ret_same (a := { value := -4 }) B go (does_zero (vz e) (fun z => by cases z) (fun a z => by cases z)) (Ex.refl H)) fun e => ⟨f5, spD1 C smallestW, Ds.d5, pk _ _ (by simp [deeds]), fun H1 e1 => ?_⟩
        obtain ⟨n0, b, dx, L, rows, rfl, eo, Bw⟩ := vb e
        have hn0 := vi e
        refine ⟨b, s.n, s.ballots.length, _, .ref nu, .ref ro, rfl, Bw.at.mono e1, ?_⟩
        rw [smallest_eq s.n s.ballots n0]
        have e2 : Rc61.does s .smallest = (s, { value := (Rc61.smallestOf s.n s.ballots : Nat) }) := if_neg hn0
        exact ret_same B go e2 e1
      | uncovered =>
        refine tl_other TD hD (by decide) (by decide) (fun e => ret_same (a := { value := -4 }) B go (does_zero (vz e) (fun z => by cases z) (fun a z => by cases z)) (Ex.refl H)) fun e => ⟨f6, spD1 C fun n w => TV.told (uncovW n w), Ds.d6, pk _ _ (by simp [deeds]), fun H1 e1 => ?_⟩
        obtain ⟨n0, b, dx, L, rows, rfl, eo, Bw⟩ := vb e
        have hn0 := vi e
        refine ⟨b, s.n, s.ballots.length, _, .ref nu, .ref ro, rfl, Bw.at.mono e1, ?_⟩
        show RetL [vN (TV.told (uncovW s.n (Rc61.wins s.ballots)))] H1 Q
        rw [uncov_eq s.n s.ballots]
        have e2 : Rc61.does s .uncovered = (s, { value := (Rc61.uncovered s.n s.ballots : Nat) }) := if_neg hn0
        exact ret_same B go e2 e1
      | heads =>
        refine tl_other TD hD (by decide) (by decide) (fun e => ret_same (a := { value := -4 }) B go (does_zero (vz e) (fun z => by cases z) (fun a z => by cases z)) (Ex.refl H)) fun e => ⟨f7, spD1 C fun n w => TV.told (headsW n w), Ds.d7, pk _ _ (by simp [deeds]), fun H1 e1 => ?_⟩
        obtain ⟨n0, b, dx, L, rows, rfl, eo, Bw⟩ := vb e
        have hn0 := vi e
        refine ⟨b, s.n, s.ballots.length, _, .ref nu, .ref ro, rfl, Bw.at.mono e1, ?_⟩
        show RetL [vN (TV.told (headsW s.n (Rc61.wins s.ballots)))] H1 Q
        rw [heads_eq s.n s.ballots]
        have e2 : Rc61.does s .heads = (s, { value := (Rc61.headsOf s.n s.ballots : Nat) }) := if_neg hn0
        exact ret_same B go e2 e1
      | turns ns hl =>
        refine tl_other TD hD (by decide) (by decide) (fun e => ret_same (a := { value := -4 }) B go (does_zero (vz e) (fun z => by cases z) (fun a z => by cases z)) (Ex.refl H)) fun e => ⟨f8, spDT C, Ds.d8, pk _ _ (by simp [deeds]), fun H1 e1 => ?_⟩
        obtain ⟨n0, b, dx, L, rows, rfl, eo, Bw⟩ := vb e
        have hn0 := vi e
        refine ⟨b, s.n, s.ballots.length, _, .ref nu, ro, ns, rfl, Bw.at.mono e1, n0, e1 _ _ hro, hl, ?_⟩
        cases he : Rc61.each s.n ns with
        | true =>
          have el : ¬ ((ns.length : Int) ≠ (s.n : Int) ∨ Rc61.each s.n ns = false) := fun z => by
            rcases z with z | z
            · apply z
              rw [(each_perm.mp he).length_eq, List.length_range]
            · rw [he] at z
              cases z
          have e2 : Rc61.does s (.turns ns (ns.length : Int)) = (s, { value := (Rc61.turns s.ballots ns : Nat) }) := by
            show (if s.n = 0 then _ else if _ then _ else _) = _
            rw [if_neg hn0, if_neg el]
          rw [if_pos rfl, turns_eq]
          exact ret_same B go e2 e1
        | false =>
          have e2 : Rc61.does s (.turns ns (ns.length : Int)) = (s, Rc61.refused) := by
            show (if s.n = 0 then _ else if _ then _ else _) = _
            rw [if_neg hn0, if_pos (.inr he)]
          rw [if_neg Bool.false_ne_true]
          exact ret_same B go e2 e1
      | calmest =>
        refine tl_other TD hD (by decide) (by decide) (fun e => ret_same (a := { value := -4 }) B go (does_zero (vz e) (fun z => by cases z) (fun a z => by cases z)) (Ex.refl H)) fun e => ⟨f9, spDL C calmW fun _ _ => True, Ds.d9, pk _ _ (by simp [deeds]), fun H1 e1 => ?_⟩
        obtain ⟨n0, b, dx, L, rows, rfl, eo, Bw⟩ := vb e
        have hn0 := vi e
        obtain ⟨q1, q2⟩ := calmW_eq (b := s.ballots) ok.n6 n0 ok.wins (by decide)
        refine ⟨b, s.n, s.ballots.length, _, .ref nu, .ref ro, rfl, Bw.at.mono e1, by rw [q2]; have := ok.n6; omega, ?_⟩
        rw [q1]
        have e2 : Rc61.does s .calmest = (s, { value := (s.n : Nat), numbers := Rc61.padded (Rc61.calmestOf s.n s.ballots) }) := if_neg hn0
        exact ret_same B go e2 e1
      | ranked =>
        refine tl_other TD hD (by decide) (by decide) (fun e => ret_same (a := { value := -4 }) B go (does_zero (vz e) (fun z => by cases z) (fun a z => by cases z)) (Ex.refl H)) fun e => ⟨f10, spDL C rankedW fun _ _ => True, Ds.d10, pk _ _ (by simp [deeds]), fun H1 e1 => ?_⟩
        obtain ⟨n0, b, dx, L, rows, rfl, eo, Bw⟩ := vb e
        have hn0 := vi e
        refine ⟨b, s.n, s.ballots.length, _, .ref nu, .ref ro, rfl, Bw.at.mono e1, by have := ok.n6; have := row_len s.n (standW s.n (Rc61.wins s.ballots)) (List.range s.n); show (Rc61.row _ _ _).length ≤ 12; omega, ?_⟩
        rw [ranked_eq]
        have e2 : Rc61.does s .ranked = (s, { value := (s.n : Nat), numbers := Rc61.padded (Rc61.ranked s.n s.ballots) }) := if_neg hn0
        exact ret_same B go e2 e1
end
end TV
/-! part TvF15 -/
namespace TV
open PySem PySem.Spec PyProof.Rows L2 Evl
def NUMS : List Nat := [0, 1, 1, 2, 0, 0, 0, 0, 0, 0, 0]
def castL (ns : List Nat) : List Int := ns.map fun x : Nat => (x : Int)
structure Raw (c : List (List Int)) (k : Int) (xs : List Int) (ns : List Nat) (cl : Rc61.Call) : Prop where
  is : CallIs k xs ns cl
  form : ((k ≠ 2 ∧ k ≠ 8) ∧ ns = [] ∧ c = [k :: xs]) ∨ ((k = 2 ∨ k = 8) ∧ c = [k :: xs, castL ns])
  num : NUMS[k.toNat]? = some xs.length
  k0 : 0 ≤ k
  st : ∀ s, Rc61Neutral.step s (PyRc61.whole c) = ((Rc61.does s cl).1, (Rc61.does s cl).2.value :: (Rc61.does s cl).2.numbers.map fun (b : Nat) => (b : Int))
theorem row_ok {r : List Int} (h : (r.all fun (z : Int) => Rc61Neutral.natural z 8) = true) : castL (Rc61Neutral.natsOf r) = r := nats_back fun z hz => (natural_lt z 8 (List.all_eq_true.mp h z hz)).1
theorem nats_len (r : List Int) : (Rc61Neutral.natsOf r).length = r.length := List.length_map _
theorem row_len12 {r : List Int} (h : PyInside.lists [(0, 255, 0, 12)] [r] = true) : r.length ≤ 12 := by
  have h : (decide (0 ≤ r.length) && decide (r.length ≤ 12) && r.all (PyInside.within 0 255) && true) = true := h
  rw [Bool.and_eq_true, Bool.and_eq_true, Bool.and_eq_true, decide_eq_true_eq] at h
  have := h.1.1.2
  exact of_decide_eq_true this
theorem raw_is {c : List (List Int)} (h1 : PyFlat.okCall PyRc61.shape c) (h2 : PyInside.call PyRc61.bound c = true) (h3 : Rc61Neutral.asked1 (PyRc61.whole c) = true) : ∃ k xs ns cl, Raw c k xs ns cl := by
  obtain ⟨p, a, rs, rfl, hs⟩ := h1
  have sh := shape_cases hs
  clear hs
  rcases sh with ⟨rfl, e1, e2⟩ | ⟨rfl, e1, e2⟩ | ⟨rfl, e1, e2⟩ | ⟨rfl, e1, e2⟩ | ⟨rfl, e1, e2⟩ | ⟨rfl, e1, e2⟩ | ⟨rfl, e1, e2⟩ | ⟨rfl, e1, e2⟩ | ⟨rfl, e1, e2⟩ | ⟨rfl, e1, e2⟩ | ⟨rfl, e1, e2⟩
  · obtain rfl := len0 e1.symm
    obtain rfl := len0 e2.symm
    exact ⟨0, [], [], .init, .init, .inl ⟨by decide, rfl, rfl⟩, rfl, by decide, fun s => rfl⟩
  · obtain ⟨x, rfl⟩ := len1 e1.symm
    obtain rfl := len0 e2.symm
    have h3 : (Rc61Neutral.whole32 x && (decide (x ≤ 6) || decide (12 < x))) = true := h3
    rw [Bool.and_eq_true, Bool.or_eq_true, decide_eq_true_eq, decide_eq_true_eq] at h3
    exact ⟨1, [x], [], .candidates x, .cand x h3.2, .inl ⟨by decide, rfl, rfl⟩, rfl, by decide, fun s => rfl⟩
  · obtain ⟨x, rfl⟩ := len1 e1.symm
    obtain ⟨r, rfl⟩ := len1 e2.symm
    have h3 : ((r.all (fun (z : Int) => Rc61Neutral.natural z 8) && Rc61Neutral.long r (r.length : Int) 1 12) && (Rc61Neutral.whole32 (r.length : Int) && (Rc61Neutral.natural x 32))) = true := h3
    rw [Bool.and_eq_true, Bool.and_eq_true, Bool.and_eq_true] at h3
    have h2 : (PyInside.each [(0, 4294967295)] [x] && PyInside.lists [(0, 255, 0, 12)] [r]) = true := h2
    rw [Bool.and_eq_true] at h2
    have hl := row_len12 h2.2
    have hx := natural_lt x 32 h3.2.2
    have hr := row_ok h3.1.1
    obtain ⟨t, rfl⟩ := Int.eq_ofNat_of_zero_le hx.1
    refine ⟨2, [(t : Int)], Rc61Neutral.natsOf r, .ballot (Rc61Neutral.natsOf r) ((Rc61Neutral.natsOf r).length : Int) t, .ballot t _ (by omega) (by rw [nats_len]; omega), .inr ⟨.inl rfl, by rw [hr]⟩, rfl, by decide, fun s => ?_⟩
    rw [nats_len]
    rfl
  · obtain ⟨x, y, rfl⟩ := len2 e1.symm
    obtain rfl := len0 e2.symm
    exact ⟨3, [x, y], [], .wins x y, .wins x y, .inl ⟨by decide, rfl, rfl⟩, rfl, by decide, fun s => rfl⟩
  · obtain rfl := len0 e1.symm
    obtain rfl := len0 e2.symm
    exact ⟨4, [], [], .first, .first, .inl ⟨by decide, rfl, rfl⟩, rfl, by decide, fun s => rfl⟩
  · obtain rfl := len0 e1.symm
    obtain rfl := len0 e2.symm
    exact ⟨5, [], [], .smallest, .smallest, .inl ⟨by decide, rfl, rfl⟩, rfl, by decide, fun s => rfl⟩
  · obtain rfl := len0 e1.symm
    obtain rfl := len0 e2.symm
    exact ⟨6, [], [], .uncovered, .uncovered, .inl ⟨by decide, rfl, rfl⟩, rfl, by decide, fun s => rfl⟩
  · obtain rfl := len0 e1.symm
    obtain rfl := len0 e2.symm
    exact ⟨7, [], [], .heads, .heads, .inl ⟨by decide, rfl, rfl⟩, rfl, by decide, fun s => rfl⟩
  · obtain rfl := len0 e1.symm
    obtain ⟨r, rfl⟩ := len1 e2.symm
    have h3 : ((r.all (fun (z : Int) => Rc61Neutral.natural z 8) && Rc61Neutral.long r (r.length : Int) 1 12) && (Rc61Neutral.whole32 (r.length : Int))) = true := h3
    rw [Bool.and_eq_true, Bool.and_eq_true] at h3
    have h2 : (PyInside.each [] [] && PyInside.lists [(0, 255, 0, 12)] [r]) = true := h2
    rw [Bool.and_eq_true] at h2
    have hl := row_len12 h2.2
    have hr := row_ok h3.1.1
    refine ⟨8, [], Rc61Neutral.natsOf r, .turns (Rc61Neutral.natsOf r) ((Rc61Neutral.natsOf r).length : Int), .turns _ (by rw [nats_len]; omega), .inr ⟨.inr rfl, by rw [hr]⟩, rfl, by decide, fun s => ?_⟩
    rw [nats_len]
    rfl
  · obtain rfl := len0 e1.symm
    obtain rfl := len0 e2.symm
    exact ⟨9, [], [], .calmest, .calmest, .inl ⟨by decide, rfl, rfl⟩, rfl, by decide, fun s => rfl⟩
  · obtain rfl := len0 e1.symm
    obtain rfl := len0 e2.symm
    exact ⟨10, [], [], .ranked, .ranked, .inl ⟨by decide, rfl, rfl⟩, rfl, by decide, fun s => rfl⟩
/-- what is asked of the whole list -/
theorem asked_of {l : List Int} (h : PyRc61.answers_asked l = true) : ∃ cs, PyFlat.calls PyRc61.shape l.length l = some cs ∧ l = PyFlat.put cs ∧ (∀ c ∈ cs, ∃ k xs ns cl, Raw c k xs ns cl) ∧ (PyRc61.answers l).length ≤ 10000000 ∧
    PyRc61.answers l = PyFlat.told (PyFlat.played Rc61Neutral.step Rc61Neutral.start (cs.map PyRc61.whole)) := by
  unfold PyRc61.answers_asked at h
  cases e : PyFlat.calls PyRc61.shape l.length l with
  | none => rw [e] at h; cases h
  | some cs =>
    rw [e] at h
    have h : (PyFlat.atMost 300 cs && PyInside.calls PyRc61.bound cs && Rc61Neutral.asked (cs.map PyRc61.whole) && PyFlat.short 10000000 (PyRc61.answers l)) = true := h
    rw [Bool.and_eq_true, Bool.and_eq_true, Bool.and_eq_true] at h
    obtain ⟨⟨⟨h1, h2⟩, h3⟩, h4⟩ := h
    obtain ⟨p1, p2⟩ := PyFlat.put_calls _ _ _ e
    have h3 : (((cs.map PyRc61.whole).all Rc61Neutral.asked1 && (decide ((cs.map PyRc61.whole).length ≤ 300))) && ((cs.map PyRc61.whole).head?.map fun (c : Rc61Neutral.Call) => c == [[0]]).getD true) = true := h3
    rw [Bool.and_eq_true, Bool.and_eq_true, List.all_eq_true] at h3
    have h2 : cs.all (PyInside.call PyRc61.bound) = true := h2
    rw [List.all_eq_true] at h2
    refine ⟨cs, rfl, p1, fun c hc => raw_is (p2 c hc) (h2 c hc) (h3.1.1 _ (List.mem_map.mpr ⟨c, hc, rfl⟩)), of_decide_eq_true h4, ?_⟩
    have e2 : PyRc61.calls l = some (cs.map PyRc61.whole) := by
      unfold PyRc61.calls
      rw [e]
    unfold PyRc61.answers
    rw [e2]
theorem told_cons (a : List Int) (l : List (List Int)) : PyFlat.told (a :: l) = ((a.length : Int) :: a) ++ PyFlat.told l := by
  unfold PyFlat.told
  rw [List.flatMap_cons]
theorem played_cons (s : Rc61Neutral.S) (c : Rc61Neutral.Call) (r : List Rc61Neutral.Call) : PyFlat.played Rc61Neutral.step s (c :: r) = (Rc61Neutral.step s c).2 :: PyFlat.played Rc61Neutral.step (Rc61Neutral.step s c).1 r := rfl
end TV
/-! part TvF16 -/
namespace TV
open PySem PySem.Spec PyProof.Rows L2 Evl
section
variable {K : PySem.W.Frag} {σ : L2.St} {H H' : Hp} {ta tb te tl td ty tv tc : TE} {x y z v u : V} {D : Ends} {tz : TS} {sp : Sp} {E : XK}
/-- xs.append(e), by the model's own bound -/
theorem q_appZ {l : Addr} {xs : List V} (hl : H l = some (.lst xs)) (ha : Ev ta σ H (.ref l)) (h : Ev te σ H v) (hz : xs.length < sizeLine) (k : ∀ H1, Ex H H1 → tz D σ (upd H1 l (.lst (xs ++ [v])))) :
    tSeq (tDrop (tBM K "list" rAppend ta (tCons te tNil))) tz D σ H := ha H (Ex.refl H) _ fun H1 e1 =>
  ⟨Or.inl ⟨rfl, xs, sq_of (e1 l _ hl)⟩, h H1 e1 _ fun H2 e2 => ⟨l, xs, v, rfl, rfl, e2 l _ (e1 l _ hl), hz, k H2 (e1.trans e2)⟩⟩
/-- xs.extend(ys) -/
theorem s_ext {l b : Addr} {xs zs : List V} (hl : H l = some (.lst xs)) (hb : H b = some (.lst zs)) (ha : Ev ta σ H (.ref l)) (h : Ev te σ H (.ref b)) (hz : xs.length + zs.length ≤ sizeLine) (k : ∀ H1, Ex H H1 → D.nx σ (upd H1 l (.lst (xs ++ zs)))) :
    tDrop (tBM K "list" rExtend ta (tCons te tNil)) D σ H := ha H (Ex.refl H) _ fun H1 e1 =>
  ⟨Or.inl ⟨rfl, xs, sq_of (e1 l _ hl)⟩, h H1 e1 _ fun H2 e2 => ⟨l, b, xs, zs, rfl, rfl, e2 l _ (e1 l _ hl), e2 b _ (e1 b _ hb), hz, k H2 (e1.trans e2)⟩⟩
/-- x = f(a, b, c, d) -/
theorem q_asg4 {i : Nat} (ha : Ev ta σ H x) (hb : Ev tb σ H y) (hc : Ev tc σ H z) (hd : Ev td σ H u) (h : ∀ H1, Ex H H1 → sp [x, y, z, u] H1 (fun v H2 => tz D (σ.set i (some v)) H2) E) :
    tSeq (tAsg (tCall sp [] E (tCons ta (tCons tb (tCons tc (tCons td tNil))))) (gName i)) tz D σ H :=
  ha H (Ex.refl H) _ fun H1 e1 => hb H1 e1 _ fun H2 e2 => hc H2 (e1.trans e2) _ fun H3 e3 => hd H3 ((e1.trans e2).trans e3) _ fun H4 e4 => h H4 (((e1.trans e2).trans e3).trans e4)
end
section
variable {P : Program} {w : World} {K : PySem.W.Frag} {mg : Str → Option Value} {base : Heap} {C CD : Addr}
/-! ### Desk.__init__ -/
def spDI (CD : Addr) : Sp := fun vs H Q _ => ∃ p dx, vs = [.ref p] ∧ H p = some (.ins CD dx []) ∧ ∀ H', H' p = some (.ins CD dx (deskF .non)) → (∀ x o, H x = some o → x ≠ p → H' x = some o) → Q .non H'
abbrev sDI : Stmt := inClass (top 36) 0
theorem sc_di : FnScope ["self"] ["self"] (defScope sDI) := ⟨rfl, rfl, rfl, by decide +kernel, rfl, by decide +kernel, by decide +kernel⟩
theorem ok_di {f : Addr} {fd : FuncData} (F : Fun K "__init__" "Desk.__init__" sDI f fd) (TD : DTxt K CD) : FnOk P w K mg base CX0 1 f fd ["self"] (spDI CD) := by
  refine F.ok sc_di (fun vs H Q E h => ?_) (fun cdv A outer s H vs Q E hr h => ?_)
  · obtain ⟨_, _, rfl, _⟩ := h
    rfl
  · obtain ⟨p, dx, rfl, hp, k⟩ := h
    refine ⟨_, pss_one (ps_fld (pv 0) pe_non rfl), ?_⟩
    refine ⟨_, rfl, p, CD, dx, [], rfl, hp, TD.cl, TD.nB, (by show 0 < 1000; decide), ?_⟩
    exact k _ upd_same fun x o hx nx => by
      rw [upd_ne nx]
      exact hx
/-! ### answers -/
def spAns (K : PySem.W.Frag) : Sp := fun vs H Q _ => ∃ (a : Addr) (ns : List Int), vs = [.ref a] ∧ SqL K H a (ns.map V.int) ∧ ns.length ≤ 30000 ∧ PyRc61.answers_asked ns = true ∧
  ∀ (H' : Hp) (p : Addr), H' p = some (.lst ((PyRc61.answers ns).map V.int)) → Q (.ref p) H'
def N_an : List Str := ["calls", "desk", "found", "at", "kind", "begin", "numbers", "row", "answer"]
theorem sc_an : FnScope N_an ["calls"] (defScope (top 50)) := ⟨rfl, rfl, rfl, by decide +kernel, rfl, by decide +kernel, by decide +kernel⟩
/-- the turn's end: told, and what it answers laid into the list -/
def t_end (K : PySem.W.Frag) (C CD : Addr) : TS :=
  tSeq (tAsg (tCall (spTl C CD) [] E0 (tCons (tVar 1) (tCons (tVar 4) (tCons (tVar 6) (tCons (tVar 7) tNil))))) (gName 8))
  (tSeq (tDrop (tBM K "list" rAppend (tVar 2) (tCons (tCB (rLenS K) (tCons (tVar 8) tNil)) tNil)))
  (tDrop (tBM K "list" rExtend (tVar 2) (tCons (tVar 8) tNil))))
def t_row (K : PySem.W.Frag) : TS :=
  tSeq (tAsg (tOp (rI0 fun i j => .int (i + j)) (tVar 3) (tC (.int 1))) (gName 5))
  (tSeq (tAsg (tOp (rI0 fun i j => .int (i + j)) (tVar 5) (tOp (rIxL K) (tVar 0) (tOp (rI0 fun i j => .int (i - j)) (tVar 5) (tC (.int 1))))) (gName 3))
  (tAsg (tSl (rSlL K) (tVar 0) (tPart (tVar 5)) (tPart (tVar 3))) (gName 7)))
def t_turn (K : PySem.W.Frag) (C CD NU : Addr) : TS :=
  tSeq (tAsg (tOp (rIxL K) (tVar 0) (tVar 3)) (gName 4))
  (tSeq (tAsg (tOp (rI0 fun i j => .int (i + j)) (tVar 3) (tC (.int 1))) (gName 5))
  (tSeq (tAsg (tOp (rI0 fun i j => .int (i + j)) (tVar 5) (tOp (rIxT K) (tC (.ref NU)) (tVar 4))) (gName 3))
  (tSeq (tAsg (tSl (rSlL K) (tVar 0) (tPart (tVar 5)) (tPart (tVar 3))) (gName 6))
  (tSeq (tAsg (tLst tNil) (gName 7))
  (tSeq (tIfS (tTest (tOp (rIn K false) (tVar 4) (tTup (tCons (tC (.int 2)) (tCons (tC (.int 8)) tNil))))) (t_row K) tNext)
  (t_end K C CD))))))
def t_an (K : PySem.W.Frag) (C CD NU : Addr) : TS :=
  tSeq (tAsg (tMake CD (spDI CD) [] E0 tNil) (gName 1))
  (tSeq (tAsg (tLst tNil) (gName 2))
  (tSeq (tAsg (tC (.int 0)) (gName 3))
  (tSeq (tWhile (tTest (tOp (rI0 fun i j => .bl (decide (i < j))) (tVar 3) (tCB (rLenS K) (tCons (tVar 0) tNil)))) (t_turn K C CD NU))
  (tRet (tVar 2)))))
/-- what is told of all that stands, at a turn's beginning; H0: the heap ahead of all -/
structure AnInv (C CD : Addr) (H0 : Hp) (D F : Addr) (s : Rc61.Abs) (out : List Int) (H' : Hp) (own : List Addr) : Prop where
  ex : Ex H0 H'
  desk : DeskAt C CD H' D s own
  nD : H0 D = none
  nF : H0 F = none
  no : ∀ x ∈ own, H0 x = none
  fD : F ≠ D
  fo : F ∉ own
  hF : H' F = some (.lst (out.map V.int))
theorem own_some {H : Hp} {D : Addr} {s : Rc61.Abs} {own : List Addr} (B : DeskAt C CD H D s own) : ∀ x ∈ own, ∃ o, H x = some o := by
  obtain ⟨_, _, dxD, v, hD, bs⟩ := B
  rcases bs with ⟨_, _, rfl⟩ | ⟨_, b, dx, L, rows, _, rfl, Bw⟩
  · intro x hx
    cases hx
  · intro x hx
    rcases List.mem_cons.mp hx with q | hx
    · rw [q]; exact ⟨_, Bw.bx.ob⟩
    · rcases List.mem_cons.mp hx with q | hx
      · rw [q]; exact ⟨_, Bw.bx.lw⟩
      · obtain ⟨j, hj, ej⟩ := List.mem_iff_getElem.mp hx
        exact ⟨_, Bw.bx.rw_ j x (by rw [List.getElem?_eq_getElem hj, ej])⟩
theorem AnInv.mono {H0 H' H2 : Hp} {D F : Addr} {s : Rc61.Abs} {out : List Int} {own : List Addr} (I : AnInv C CD H0 D F s out H' own) (e : Ex H' H2) : AnInv C CD H0 D F s out H2 own :=
  ⟨I.ex.trans e, I.desk.mono e, I.nD, I.nF, I.no, I.fD, I.fo, e _ _ I.hF⟩
theorem ansV_eq (a : Rc61.Ans) : ansV a = (a.value :: a.numbers.map fun (b : Nat) => (b : Int)).map V.int := by
  unfold ansV
  rw [List.map_cons, List.map_map]
  rfl
/-- the turn's end, from what it has read -/
theorem end_ok {H0 H' : Hp} {D F nu ro a : Addr} {s : Rc61.Abs} {out : List Int} {own : List Addr} {k at_ : Int} {xs : List Int} {ns : List Nat} {c : Rc61.Call} {v5 v8 : Option V} {Dn : Ends} (I : AnInv C CD H0 D F s out H' own)
    (hnu : H' nu = some (.lst (xs.map V.int))) (hro : H' ro = some (.lst (ns.map vN))) (nro : H0 ro = none → ro ∉ own) (hro0 : ro ∉ own) (hc : CallIs k xs ns c)
    (hz : out.length + 1 + ((Rc61.does s c).2.value :: (Rc61.does s c).2.numbers.map fun (b : Nat) => (b : Int)).length ≤ 10000000)
    (go : ∀ H2 own' v8, AnInv C CD H0 D F (Rc61.does s c).1 (out ++ ((((Rc61.does s c).2.value :: (Rc61.does s c).2.numbers.map fun (b : Nat) => (b : Int)).length : Int) :: ((Rc61.does s c).2.value :: (Rc61.does s c).2.numbers.map fun (b : Nat) => (b : Int)))) H2 own' →
      Dn.nx [some (.ref a), some (.ref D), some (.ref F), some (.int at_), some (.int k), v5, some (.ref nu), some (.ref ro), v8] H2) :
    t_end K C CD Dn [some (.ref a), some (.ref D), some (.ref F), some (.int at_), some (.int k), v5, some (.ref nu), some (.ref ro), v8] H' := by
  refine q_asg4 (ev_var rfl) (ev_var rfl) (ev_var rfl) (ev_var rfl) fun H1 e1 => ?_
  have I1 := I.mono e1
  refine ⟨D, k, nu, ro, xs, ns, s, c, own, rfl, I1.desk, e1 _ _ hnu, e1 _ _ hro, hro0, hc, fun H2 p own' kp fr desk hp hans => ?_⟩
  rw [ansV_eq] at hans
  generalize hA : ((Rc61.does s c).2.value :: (Rc61.does s c).2.numbers.map fun (b : Nat) => (b : Int)) = A at hans go hz
  have keep : ∀ x o, H1 x = some o → x ≠ D → x ∉ own → H2 x = some o := fun x o hx n1 n2 => kp x o hx fun m => by
    rcases List.mem_cons.mp m with q | q
    · exact n1 q
    · exact n2 q
  have hF2 : H2 F = some (.lst (out.map V.int)) := keep F _ I1.hF I1.fD I1.fo
  have ex2 : Ex H0 H2 := fun x o hx => keep x o (I1.ex _ _ hx) (fun q => by rw [q, I.nD] at hx; cases hx) fun m => by rw [I.no x m] at hx; cases hx
  have fo2 : F ∉ own' := fun m => by
    rcases fr F m with q | q
    · exact I.fo q
    · rw [I1.hF] at q
      cases q
  have no2 : ∀ x ∈ own', H0 x = none := fun x m => by
    rcases fr x m with q | q
    · exact I.no x q
    · exact fresh_back I1.ex q
  have npF : p ≠ F := fun q => by
    rw [q, I1.hF] at hp
    cases hp
  have big : (10000000 : Nat) < sizeLine := by decide
  refine q_appZ (v := .int (A.length : Int)) hF2 (ev_var rfl) (ev_is (ev_len (ev_var rfl) (sq_of hans)) (by rw [List.length_map])) (by rw [List.length_map]; omega) fun H3 e3 => ?_
  have hF3 : (upd H3 F (.lst (out.map V.int ++ [V.int (A.length : Int)]))) F = some (.lst (out.map V.int ++ [V.int (A.length : Int)])) := upd_same
  have hp3 : (upd H3 F (.lst (out.map V.int ++ [V.int (A.length : Int)]))) p = some (.lst (A.map V.int)) := by
    rw [upd_ne npF]
    exact e3 _ _ hans
  have bound : (out.map V.int ++ [V.int (A.length : Int)]).length + (A.map V.int).length ≤ sizeLine := by
    rw [List.length_append, List.length_map, List.length_map]
    show out.length + 1 + A.length ≤ sizeLine
    omega
  refine s_ext hF3 hp3 (ev_var rfl) (ev_var rfl) bound fun H4 e4 => ?_
  have nDF : D ≠ F := I.fD.symm
  have desk3 := desk.mono e3
  have dk : ∀ (H5 : Hp) (l : List V), DeskAt C CD H5 D (Rc61.does s c).1 own' → DeskAt C CD (upd H5 F (.lst l)) D (Rc61.does s c).1 own' := fun H5 l d => by
    obtain ⟨ok, nd, dxD, v, hD, bs⟩ := d
    refine ⟨ok, nd, dxD, v, by rw [upd_ne nDF]; exact hD, ?_⟩
    rcases bs with b0 | ⟨n0, b, dx, L, rows, e1, e2, Bw⟩
    · exact .inl b0
    · refine .inr ⟨n0, b, dx, L, rows, e1, e2, ⟨⟨?_, ?_, Bw.bx.ln, fun i r q => ?_⟩, Bw.nd, Bw.nl, Bw.n6⟩⟩
      · rw [upd_ne fun q => fo2 (by rw [e2, ← q]; exact List.mem_cons_self)]
        exact Bw.bx.ob
      · rw [upd_ne fun q => fo2 (by rw [e2, ← q]; exact List.mem_cons_of_mem _ List.mem_cons_self)]
        exact Bw.bx.lw
      · rw [upd_ne fun z => fo2 (by rw [e2, ← z]; exact List.mem_cons_of_mem _ (List.mem_cons_of_mem _ (List.mem_of_getElem? q)))]
        exact Bw.bx.rw_ i r q
  refine go _ own' _ ⟨Ex.mut ((Ex.mut (ex2.trans e3) I.nF).trans e4) I.nF, dk _ _ ((dk _ _ desk3).mono e4), I.nD, I.nF, no2, I.fD, fo2, ?_⟩
  rw [upd_same, List.append_assoc, List.map_append]
  rfl
end
end TV
/-! part TvF17 -/
namespace TV
open PySem PySem.Spec PyProof.Rows L2 Evl
theorem map_get_at {ns : List Int} {n : Nat} {k : Int} (h : ns[n]? = some k) : atI (ns.map V.int) ((n : Nat) : Int) = some (V.int k) := atI_nat (by rw [List.getElem?_map, h]; rfl)
/-- the numbers from one place to another -/
theorem cut_at {ns p m q : List Int} (e : ns = p ++ (m ++ q)) {lo hi : Int} (el : lo = (p.length : Int)) (eh : hi = ((p.length + m.length : Nat) : Int)) : cutV (ns.map V.int) (some lo) (some hi) = m.map V.int := by
  rw [el, eh, cut_mid _ _ _ (by rw [e]; simp) (by rw [e]; simp), ← List.map_drop, ← List.map_take, e, Nat.add_sub_cancel_left, drop_take_mid]
theorem cast_map (ns : List Nat) : (castL ns).map V.int = ns.map vN := by
  unfold castL
  rw [List.map_map]
  rfl
section
variable {P : Program} {w : World} {K : PySem.W.Frag} {mg : Str → Option Value} {base : Heap} {C CD NU : Addr}
theorem turn_ok {H0 H' : Hp} {D F a : Addr} {s : Rc61.Abs} {out ns : List Int} {own : List Addr} {k : Int} {xs : List Int} {r : List Nat} {c : List (List Int)} {cl : Rc61.Call} {done rest : List (List (List Int))} {v4 v5 v6 v7 v8 : Option V} {Dn : Ends}
    (I : AnInv C CD H0 D F s out H' own) (hS : SqL K H0 a (ns.map V.int)) (hNU : ∀ H, SqT K H NU (NUMS.map vN)) (R : Raw c k xs r cl) (e : ns = PyFlat.put (done ++ c :: rest))
    (hz : out.length + 1 + ((Rc61.does s cl).2.value :: (Rc61.does s cl).2.numbers.map fun (b : Nat) => (b : Int)).length ≤ 10000000)
    (go : ∀ H2 own' v4 v5 v6 v7 v8, AnInv C CD H0 D F (Rc61.does s cl).1 (out ++ ((((Rc61.does s cl).2.value :: (Rc61.does s cl).2.numbers.map fun (b : Nat) => (b : Int)).length : Int) :: ((Rc61.does s cl).2.value :: (Rc61.does s cl).2.numbers.map fun (b : Nat) => (b : Int)))) H2 own' →
      Dn.nx [some (.ref a), some (.ref D), some (.ref F), some (.int ((PyFlat.put (done ++ [c])).length : Nat)), v4, v5, v6, v7, v8] H2) :
    t_turn K C CD NU Dn [some (.ref a), some (.ref D), some (.ref F), some (.int ((PyFlat.put done).length : Nat)), v4, v5, v6, v7, v8] H' := by
  have sq : ∀ H2, Ex H' H2 → SqL K H2 a (ns.map V.int) := fun H2 e => ex_l (I.ex.trans e) hS
  generalize hn : (PyFlat.put done).length = n
  have epre : ns = PyFlat.put done ++ (PyFlat.put1 c ++ PyFlat.put rest) := by
    rw [e, put_app]
    rfl
  have edone : PyFlat.put (done ++ [c]) = PyFlat.put done ++ PyFlat.put1 c := by
    rw [put_app]
    show _ ++ (PyFlat.put1 c ++ []) = _
    rw [List.append_nil]
  obtain ⟨tail, et⟩ : ∃ tail, PyFlat.put1 c = (k :: xs) ++ tail := by
    rcases R.form with ⟨_, _, rfl⟩ | ⟨_, rfl⟩
    · exact ⟨[], rfl⟩
    · exact ⟨_, rfl⟩
  have gk : ns[n]? = some k := by
    rw [epre, et, ← hn]
    exact get_mid _ _ _
  refine q_asg (v := .int k) (ev_op (ev_var rfl) (ev_var rfl) (rv_ixL (sq H' (Ex.refl _)) (map_get_at gk))) fun H1 e1 => ?_
  refine q_asg (v := .int ((n : Int) + 1)) (ev_op (ev_var rfl) ev_c rv_I0) fun H2 e2 => ?_
  have gn : atI (NUMS.map vN) k = some (vN xs.length) := by
    obtain ⟨kn, rfl⟩ := Int.eq_ofNat_of_zero_le R.k0
    have := R.num
    rw [Int.toNat_natCast] at this
    exact atI_nat (by rw [List.getElem?_map, this]; rfl)
  refine q_asg (v := .int ((n : Int) + 1 + (xs.length : Int))) (ev_op (ev_var rfl) (ev_op ev_c (ev_var rfl) (rv_ixT (hNU H2) gn)) rv_I0) fun H3 e3 => ?_
  have e13 := (e1.trans e2).trans e3
  have cut1 : cutV (ns.map V.int) (some ((n : Int) + 1)) (some ((n : Int) + 1 + (xs.length : Int))) = xs.map V.int := by
    refine cut_at (p := PyFlat.put done ++ [k]) (m := xs) (q := tail ++ PyFlat.put rest) ?_ ?_ ?_
    · rw [epre, et]
      simp
    · rw [List.length_append, hn]
      rfl
    · rw [List.length_append, hn]
      show _ = ((n + 1 + xs.length : Nat) : Int)
      omega
  have sl1 : EvL (tSl (rSlL K) (tVar 0) (tPart (tVar 5)) (tPart (tVar 3))) [some (V.ref a), some (V.ref D), some (V.ref F), some (V.int ((n : Int) + 1 + (xs.length : Int))), some (V.int k), some (V.int ((n : Int) + 1)), v6, v7, v8] H3 (xs.map V.int) := by
    rw [← cut1]
    exact el_sl (ev_var rfl) (eo_some (ev_var rfl)) (eo_some (ev_var rfl)) (sq H3 e13)
  refine q_asgL sl1 fun nu H4 hnu e4 h4 => ?_
  refine q_asgL (xs := []) (el_lst ea_nil (by decide)) fun ro H5 hro e5 h5 => ?_
  have e15 := (e13.trans e4).trans e5
  have I5 := I.mono e15
  have tin : EvT (tTest (tOp (rIn K false) (tVar 4) (tTup (tCons (tC (.int 2)) (tCons (tC (.int 8)) tNil))))) [some (V.ref a), some (V.ref D), some (V.ref F), some (V.int ((n : Int) + 1 + (xs.length : Int))), some (V.int k), some (V.int ((n : Int) + 1)), some (V.ref nu), some (V.ref ro), v8] H5 (inV (V.int k) [V.int 2, V.int 8]) :=
    et_test (ev_inU (ev_var rfl) (eu_tup (ea_cons ev_c (ea_cons ev_c ea_nil)) (by show 2 ≤ 100000; decide)) rfl rfl)
  have vin : inV (V.int k) [V.int 2, V.int 8] = (decide (k = 2) || decide (k = 8)) := by
    show ((2 : Int) == k || ((8 : Int) == k || false)) = _
    rw [Bool.or_false, Bool.eq_iff_iff, Bool.or_eq_true, Bool.or_eq_true, beq_iff_eq, beq_iff_eq, decide_eq_true_eq, decide_eq_true_eq]
    omega
  rw [vin] at tin
  have fresh_no : ∀ {H6 : Hp} {p : Addr}, Ex H' H6 → H6 p = none → p ∉ own := fun e6 hp m => by
    obtain ⟨o, ho⟩ := own_some I.desk _ m
    rw [e6 _ _ ho] at hp
    cases hp
  refine q_when tin (fun hb H6 e6 => ?_) (fun hb H6 e6 => ?_)
  · rw [Bool.or_eq_true, decide_eq_true_eq, decide_eq_true_eq] at hb
    have fm : c = [k :: xs, castL r] := by
      rcases R.form with ⟨⟨q1, q2⟩, _⟩ | ⟨_, q⟩
      · omega
      · exact q
    have et2 : PyFlat.put1 c = (k :: xs) ++ (((castL r).length : Int) :: castL r) := by
      rw [fm]
      show (k :: xs) ++ ((((castL r).length : Int) :: castL r) ++ []) = _
      rw [List.append_nil]
    have gl : ns[n + 1 + xs.length]? = some ((castL r).length : Int) := by
      have : ns = (PyFlat.put done ++ (k :: xs)) ++ ((castL r).length : Int) :: (castL r ++ PyFlat.put rest) := by
        rw [epre, et2]
        simp
      rw [this]
      have ln : (PyFlat.put done ++ (k :: xs)).length = n + 1 + xs.length := by
        rw [List.length_append, hn, List.length_cons]
        omega
      rw [← ln]
      exact get_mid _ _ _
    refine q_asg (v := .int ((n : Int) + 1 + (xs.length : Int) + 1)) (ev_op (ev_var rfl) ev_c rv_I0) fun H7 e7 => ?_
    have ei : (n : Int) + 1 + (xs.length : Int) + 1 - 1 = ((n + 1 + xs.length : Nat) : Int) := by omega
    have e57 := e6.trans e7
    refine q_asg (v := .int ((n : Int) + 1 + (xs.length : Int) + 1 + ((castL r).length : Int))) (ev_op (ev_var rfl) (ev_op (ev_var rfl) (ev_op (ev_var rfl) ev_c rv_I0) (rv_ixL (sq H7 (e15.trans e57)) (by rw [ei]; exact map_get_at gl))) rv_I0) fun H8 e8 => ?_
    have e58 := e57.trans e8
    have cut2 : cutV (ns.map V.int) (some ((n : Int) + 1 + (xs.length : Int) + 1)) (some ((n : Int) + 1 + (xs.length : Int) + 1 + ((castL r).length : Int))) = r.map vN := by
      rw [← cast_map]
      refine cut_at (p := PyFlat.put done ++ (k :: xs) ++ [((castL r).length : Int)]) (m := castL r) (q := PyFlat.put rest) ?_ ?_ ?_
      · rw [epre, et2]
        simp
      · rw [List.length_append, List.length_append, hn, List.length_cons]
        show _ = ((n + (xs.length + 1) + 1 : Nat) : Int)
        omega
      · rw [List.length_append, List.length_append, hn, List.length_cons]
        show _ = ((n + (xs.length + 1) + 1 + (castL r).length : Nat) : Int)
        omega
    have sl2 : EvL (tSl (rSlL K) (tVar 0) (tPart (tVar 5)) (tPart (tVar 3))) [some (V.ref a), some (V.ref D), some (V.ref F), some (V.int ((n : Int) + 1 + (xs.length : Int) + 1 + ((castL r).length : Int))), some (V.int k), some (V.int ((n : Int) + 1 + (xs.length : Int) + 1)), some (V.ref nu), some (V.ref ro), v8] H8 (r.map vN) := by
      rw [← cut2]
      exact el_sl (ev_var rfl) (eo_some (ev_var rfl)) (eo_some (ev_var rfl)) (sq H8 (e15.trans e58))
    refine s_asgL sl2 fun ro2 H9 hro2 e9 h9 => ?_
    have e59 := e58.trans e9
    refine end_ok (Dn := Dn) (I5.mono e59) (e59 _ _ (e5 _ _ h4)) h9 (fun _ => fresh_no (e15.trans e58) hro2) (fresh_no (e15.trans e58) hro2) R.is hz fun H10 own' v8 I2 => ?_
    have ea : (n : Int) + 1 + (xs.length : Int) + 1 + ((castL r).length : Int) = ((PyFlat.put (done ++ [c])).length : Nat) := by
      rw [edone, et2, List.length_append, hn, List.length_append, List.length_cons, List.length_cons]
      omega
    rw [ea]
    exact go H10 own' _ _ _ _ v8 I2
  · rw [Bool.or_eq_false_iff, decide_eq_false_iff_not, decide_eq_false_iff_not] at hb
    obtain ⟨rfl, fm⟩ : r = [] ∧ c = [k :: xs] := by
      rcases R.form with ⟨_, q1, q2⟩ | ⟨q, _⟩
      · exact ⟨q1, q2⟩
      · omega
    refine end_ok (Dn := Dn) (ns := []) (I5.mono e6) (e6 _ _ (e5 _ _ h4)) (e6 _ _ h5) (fun _ => fresh_no (e13.trans e4) hro) (fresh_no (e13.trans e4) hro) R.is hz fun H10 own' v8 I2 => ?_
    have ea : (n : Int) + 1 + (xs.length : Int) = ((PyFlat.put (done ++ [c])).length : Nat) := by
      rw [edone, fm, List.length_append, hn]
      show _ = ((n + ((k :: xs) ++ []).length : Nat) : Int)
      rw [List.append_nil, List.length_cons]
      omega
    rw [ea]
    exact go H10 own' _ _ _ _ v8 I2
theorem an_ok {H : Hp} {Q : VK} (M0 : ∀ H, SqT K H NU (NUMS.map vN)) {a : Addr} {ns : List Int} (hS : SqL K H a (ns.map V.int)) (hl : ns.length ≤ 30000) (ask : PyRc61.answers_asked ns = true) (k : ∀ (H' : Hp) (p : Addr), H' p = some (.lst ((PyRc61.answers ns).map V.int)) → Q (.ref p) H') :
    t_an K C CD NU { nx := fun _ H' => Q .non H', rt := Q } (start N_an [.ref a]) H := by
  obtain ⟨cs, ec, ep, raws, short, ans⟩ := asked_of ask
  intro D dx nD ndx nxd
  have ex0 : Ex H (upd (upd H dx (.own D)) D (.ins CD dx [])) := Ex.mut (Ex.new ndx) nD
  refine ⟨D, dx, rfl, upd_same, fun H1 hD kp => ⟨rfl, ?_⟩⟩
  have ex1 : Ex H H1 := fun x o hx => kp x o (ex0 _ _ hx) (ne_of_none hx nD)
  refine q_asgL (xs := []) (el_lst ea_nil (by decide)) fun F H2 hF e2 h2 => ?_
  have nFD : F ≠ D := fun q => by rw [q, hD] at hF; cases hF
  refine q_asg ev_c fun H3 e3 => ?_
  have I0 : AnInv C CD H D F {} [] H3 [] := ⟨(ex1.trans e2).trans e3, ⟨⟨Nat.zero_le 6, Nat.zero_le 256, fun x m => (by cases m)⟩, (by simp), dx, .non, e3 _ _ (e2 _ _ hD), .inl ⟨rfl, rfl, rfl⟩⟩, nD, fresh_back ex1 hF, (fun x m => by cases m), nFD, (by simp), e3 _ _ h2⟩
  refine q_while (fun m σ' H' => ∃ (done rest : List (List (List Int))) (s : Rc61.Abs) (out : List Int) (own : List Addr) (v4 v5 v6 v7 v8 : Option V), σ' = [some (.ref a), some (.ref D), some (.ref F), some (.int ((PyFlat.put done).length : Nat)), v4, v5, v6, v7, v8] ∧
      cs = done ++ rest ∧ AnInv C CD H D F s out H' own ∧ out ++ PyFlat.told (PyFlat.played Rc61Neutral.step s (rest.map PyRc61.whole)) = PyRc61.answers ns ∧ m = rest.length) cs.length
    ⟨[], cs, {}, [], [], none, none, none, none, none, rfl, rfl, I0, ans.symm, rfl⟩ ?_
  rintro m σ' H' ⟨done, rest, s, out, own, v4, v5, v6, v7, v8, rfl, hcs, I, eo, rfl⟩
  refine ⟨decide ((PyFlat.put done).length < ns.length), et_is (et_test (ev_op (ev_var rfl) (ev_len (ev_var rfl) (ex_l I.ex hS)) (rv_I0 (g := fun i j => .bl (decide (i < j)))))) (decide_eq_decide.mpr (by rw [List.length_map]; omega)), fun hb H4 e4 => ?_, fun hb H4 e4 => ?_⟩
  · have hlt := of_decide_eq_true hb
    cases rest with
    | nil =>
      rw [hcs, List.append_nil] at ep
      rw [← ep] at hlt
      omega
    | cons c rest =>
      obtain ⟨kk, xs, r, cl, R⟩ := raws c (by rw [hcs]; exact List.mem_append_right _ List.mem_cons_self)
      rw [List.map_cons, played_cons, R.st, told_cons] at eo
      dsimp only at eo
      have hz : out.length + 1 + ((Rc61.does s cl).2.value :: (Rc61.does s cl).2.numbers.map fun (b : Nat) => (b : Int)).length ≤ 10000000 := by
        have := congrArg List.length eo
        rw [List.length_append, List.length_append, List.length_cons] at this
        omega
      refine ⟨fun σ2 H2 => ∃ (done rest2 : List (List (List Int))) (s : Rc61.Abs) (out : List Int) (own : List Addr) (v4 v5 v6 v7 v8 : Option V), σ2 = [some (.ref a), some (.ref D), some (.ref F), some (.int ((PyFlat.put done).length : Nat)), v4, v5, v6, v7, v8] ∧
          cs = done ++ rest2 ∧ AnInv C CD H D F s out H2 own ∧ out ++ PyFlat.told (PyFlat.played Rc61Neutral.step s (rest2.map PyRc61.whole)) = PyRc61.answers ns ∧ rest2.length < (c :: rest).length,
        fun σ2 H2 ⟨done, rest2, s, out, own, v4, v5, v6, v7, v8, q1, q2, q3, q4, q5⟩ => ⟨rest2.length, q5, done, rest2, s, out, own, v4, v5, v6, v7, v8, q1, q2, q3, q4, rfl⟩, ?_⟩
      refine turn_ok (rest := rest) (I.mono e4) hS M0 R (by rw [ep, hcs]) hz fun H2 own' v4 v5 v6 v7 v8 I2 => ?_
      refine ⟨done ++ [c], rest, _, _, own', v4, v5, v6, v7, v8, rfl, by rw [hcs, List.append_assoc]; rfl, I2, ?_, Nat.lt_succ_self _⟩
      rw [← eo, List.append_assoc]
  · have hge := of_decide_eq_false hb
    cases rest with
    | nil =>
      refine s_ret (ev_var rfl) fun H5 e5 => k H5 F ?_
      rw [← eo]
      show H5 F = some (.lst ((out ++ []).map V.int))
      rw [List.append_nil]
      exact e5 _ _ (e4 _ _ I.hF)
    | cons c rest =>
      exfalso
      apply hge
      have hl : ns.length = (PyFlat.put done).length + (PyFlat.put1 c ++ PyFlat.put rest).length := by
        have : ns = PyFlat.put done ++ (PyFlat.put1 c ++ PyFlat.put rest) := by
          rw [ep, hcs, put_app]
          rfl
        rw [this, List.length_append]
      obtain ⟨kk, xs, r, cl, R⟩ := raws c (by rw [hcs]; exact List.mem_append_right _ List.mem_cons_self)
      have pos : 0 < (PyFlat.put1 c).length := by
        rcases R.form with ⟨_, _, fm⟩ | ⟨_, fm⟩
        · rw [fm]
          exact Nat.zero_lt_succ _
        · rw [fm]
          exact Nat.zero_lt_succ _
      rw [List.length_append] at hl
      omega
theorem ok_an {fa : Addr} {fd : FuncData} {fDI : Addr} {fdDI : FuncData} {u2 u8 : Value} (F : Fun K "answers" "answers" (top 50) fa fd) (hT : Fn P w K mg base "told" 7 (spTl C CD)) (M : Mk K CD fDI) (FI : FnOk P w K mg base CX0 1 fDI fdDI ["self"] (spDI CD)) (bI : Binds K fdDI ["self"] []) (mD : mg "Desk" = some (.ref CD))
    (mN : mg "NUMBERS" = some (.ref NU)) (hN : ∀ H, SqT K H NU (NUMS.map vN)) (m2 : mg "BALLOT" = some u2) (r2 : RelV (.int 2) u2) (m8 : mg "TURNS" = some u8) (r8 : RelV (.int 8) u8) (ml : mg "len" = none) : FnOk P w K mg base CX0 8 fa fd ["calls"] (spAns K) := by
  refine F.ok sc_an (fun vs H Q E h => ?_) (fun cdv A outer s H vs Q E hr h => ?_)
  · obtain ⟨_, _, rfl, _⟩ := h
    rfl
  · obtain ⟨a, ns, rfl, hS, hl, ask, k⟩ := h
    refine ⟨t_an K C CD NU, ?_, an_ok hN hS hl ask k⟩
    exact pss_cons (ps_set (i := 1) sc_an.nd rfl (Or.inl rfl) (pe_make0 M FI (hr.mono (by decide)) rfl mD bI .nil pass0))
      (pss_cons (ps_set (i := 2) sc_an.nd rfl (Or.inl rfl) (pe_lst pa_nil))
      (pss_cons (ps_set (i := 3) sc_an.nd rfl (Or.inl rfl) pe_int)
      (pss_cons (ps_while PassesOwn.never (pt_cmpR op_lt (pv 3) (pe_callB call_len_seq rfl ml PySem.boot_len (pa_cons (pv 0) pa_nil)) (nomark _))
        (pss_cons (ps_set (i := 4) sc_an.nd rfl (Or.inl rfl) (pe_ix ix_list (pv 0) (pv 3) (fun _ _ => rfl)))
        (pss_cons (ps_set (i := 5) sc_an.nd rfl (Or.inl rfl) (pe_op op_add (pv 3) pe_int))
        (pss_cons (ps_set (i := 3) sc_an.nd rfl (Or.inl rfl) (pe_op op_add (pv 5) (pe_ix ix_tup (pe_glob rfl mN rfl) (pv 4) (fun _ _ => rfl))))
        (pss_cons (ps_set (i := 6) sc_an.nd rfl (Or.inl rfl) (pe_slice sl_list (pv 0) (po_some (pv 5)) (po_some (pv 3))))
        (pss_cons (ps_set (i := 7) sc_an.nd rfl (Or.inl rfl) (pe_lst pa_nil))
        (pss_cons (ps_if (pt_cmpR op_in_seq (pv 4) (pe_tup (pa_cons (pe_glob rfl m2 r2) (pa_cons (pe_glob rfl m8 r8) pa_nil))) rfl)
          (pss_cons (ps_set (i := 5) sc_an.nd rfl (Or.inl rfl) (pe_op op_add (pv 3) pe_int))
          (pss_cons (ps_set (i := 3) sc_an.nd rfl (Or.inl rfl) (pe_op op_add (pv 5) (pe_ix ix_list (pv 0) (pe_op op_sub (pv 5) pe_int) (fun _ _ => rfl))))
          (pss_one (ps_set (i := 7) sc_an.nd rfl (Or.inl rfl) (pe_slice sl_list (pv 0) (po_some (pv 5)) (po_some (pv 3))))))) pss_nil)
        (pss_cons (ps_set (i := 8) sc_an.nd rfl (Or.inl rfl) (pe_fn hT hr (by decide) (pa_cons (pv 1) (pa_cons (pv 4) (pa_cons (pv 6) (pa_cons (pv 7) pa_nil))))))
        (pss_cons (ps_expr (pe_bm PySem.F.plainAttrs_list PySem.F.slot_list_append PySem.F.type_list_append mt_append (pv 2) (pa_cons (pe_callB call_len_seq rfl ml PySem.boot_len (pa_cons (pv 8) pa_nil)) pa_nil)))
        (pss_one (ps_expr (pe_bm PySem.F.plainAttrs_list PySem.F.slot_list_extend PySem.F.type_list_extend mt_extend (pv 2) (pa_cons (pv 8) pa_nil)))))))))))))
      (pss_one (ps_ret (pv 2))))))
end
end TV
/-! part TvEnd -/
namespace TV
open PySem PySem.Spec PyProof.Rows L2 Evl
section
variable {P : Program} {w : World} {K : PySem.W.Frag} {mg : Str → Option Value} {h : Heap} {base : Heap}
theorem dn_mk (X : K.In h) (G : h.Ns mainGlobals mg) {x : Str} {st : Stmt} {f : Addr} {oc : Value} {od an : Option Addr} {osl : Array (Option Value)} {kV doc pm cdv ct : Value} (a : PySem.W.nsIn K mainGlobals x = some (some (.ref f)))
    (l : K.lookup f = some ⟨oc, od, .func (PySem.W.fnOf x x (defArgs st) (defBody st) (defScope st) .none kV doc pm an cdv ct), osl⟩) (c : PySem.W.codeIn K cdv x = true) (k : PySem.W.keepIn K (.ref f) = true) : Dn K mg x st :=
  ⟨f, _, fun_mk l c k, PySem.W.mg_of X G a⟩
def keyI (e : DictEntry) : Bool := match e.key with
  | .int k _ => decide (e.hash = hashInt k)
  | _ => false
theorem kdi_mk {a : Addr} {es : Array DictEntry} {n : Nat} {i : Int} {f : Addr} (l : K.lookup a = some ⟨.type "dict", none, .dict es n, #[]⟩) (c : es.toList.all keyI = true) (e : findBy Value.isInt es i = some (.ref f)) : KDI K a i (.ref f) := by
  refine ⟨es, n, _, l, fun x hx => ?_, e, rfl⟩
  have q := List.all_eq_true.mp c x (by rw [Array.mem_toList_iff]; exact hx)
  unfold keyI at q
  cases hk : x.key with
  | int k t =>
    rw [hk] at q
    exact ⟨k, t, rfl, of_decide_eq_true q⟩
  | _ =>
    rw [hk] at q
    cases q
/-- what the top has left -/
structure Top (K : PySem.W.Frag) (mg : Str → Option Value) (C CD DD NU fB fDI f2 f3 f4 f5 f6 f7 f8 f9 f10 : Addr) (fdB fdDI : FuncData) : Prop where
  n_4 : Dn K mg "add_ballot" (top 4)
  n_3 : Dn K mg "is_order" (top 3)
  n_5 : Dn K mg "beats" (top 5)
  n_6 : Dn K mg "beats_all" (top 6)
  n_7 : Dn K mg "everybody" (top 7)
  n_8 : Dn K mg "told_set" (top 8)
  n_9 : Dn K mg "members" (top 9)
  n_10 : Dn K mg "others_than" (top 10)
  n_12 : Dn K mg "first_of_all" (top 12)
  n_13 : Dn K mg "is_group" (top 13)
  n_14 : Dn K mg "smallest_group" (top 14)
  n_15 : Dn K mg "covers" (top 15)
  n_16 : Dn K mg "uncovered" (top 16)
  n_17 : Dn K mg "is_headed" (top 17)
  n_18 : Dn K mg "is_head" (top 18)
  n_19 : Dn K mg "heads" (top 19)
  n_20 : Dn K mg "by_turns" (top 20)
  n_22 : Dn K mg "quarrel_of" (top 22)
  n_23 : Dn K mg "least_quarrels" (top 23)
  n_24 : Dn K mg "calmest" (top 24)
  n_25 : Dn K mg "pairs_in_order" (top 25)
  n_26 : Dn K mg "reached" (top 26)
  n_27 : Dn K mg "standing_pairs" (top 27)
  n_28 : Dn K mg "is_free" (top 28)
  n_29 : Dn K mg "ranked" (top 29)
  n_37 : Dn K mg "do_ballot" (top 37)
  n_38 : Dn K mg "do_wins" (top 38)
  n_39 : Dn K mg "do_first" (top 39)
  n_40 : Dn K mg "do_smallest" (top 40)
  n_41 : Dn K mg "do_uncovered" (top 41)
  n_42 : Dn K mg "do_heads" (top 42)
  n_43 : Dn K mg "do_turns" (top 43)
  n_44 : Dn K mg "told_order" (top 44)
  n_45 : Dn K mg "do_calmest" (top 45)
  n_46 : Dn K mg "do_ranked" (top 46)
  n_49 : Dn K mg "told" (top 49)
  bt : BTxt K C
  dt : DTxt K CD
  mB : Mk K C fB
  iB : Fun K "__init__" "Ballots.__init__" sBI fB fdB
  mD : Mk K CD fDI
  iD : Fun K "__init__" "Desk.__init__" sDI fDI fdDI
  gC : mg "Ballots" = some (.ref C)
  gD : mg "Desk" = some (.ref CD)
  gDD : mg "DEEDS" = some (.ref DD)
  gNU : mg "NUMBERS" = some (.ref NU)
  hN : ∀ H, SqT K H NU (NUMS.map vN)
  nd : [f2, f3, f4, f5, f6, f7, f8, f9, f10].Nodup
  g2 : mg "do_ballot" = some (.ref f2)
  d2 : KDI K DD 2 (.ref f2)
  g3 : mg "do_wins" = some (.ref f3)
  d3 : KDI K DD 3 (.ref f3)
  g4 : mg "do_first" = some (.ref f4)
  d4 : KDI K DD 4 (.ref f4)
  g5 : mg "do_smallest" = some (.ref f5)
  d5 : KDI K DD 5 (.ref f5)
  g6 : mg "do_uncovered" = some (.ref f6)
  d6 : KDI K DD 6 (.ref f6)
  g7 : mg "do_heads" = some (.ref f7)
  d7 : KDI K DD 7 (.ref f7)
  g8 : mg "do_turns" = some (.ref f8)
  d8 : KDI K DD 8 (.ref f8)
  g9 : mg "do_calmest" = some (.ref f9)
  d9 : KDI K DD 9 (.ref f9)
  g10 : mg "do_ranked" = some (.ref f10)
  d10 : KDI K DD 10 (.ref f10)
  z_list : mg "list" = none
  z_range : mg "range" = none
  z_all : mg "all" = none
  z_sum : mg "sum" = none
  z_sorted : mg "sorted" = none
  z_any : mg "any" = none
  z_len : mg "len" = none
  z_enumerate : mg "enumerate" = none
  z_min : mg "min" = none
  c_MOST_CANDIDATES : ∃ u, mg "MOST_CANDIDATES" = some u ∧ RelV (.int 12) u
  c_BEGIN : ∃ u, mg "BEGIN" = some u ∧ RelV (.int 0) u
  c_CANDIDATES : ∃ u, mg "CANDIDATES" = some u ∧ RelV (.int 1) u
  c_BALLOT : ∃ u, mg "BALLOT" = some u ∧ RelV (.int 2) u
  c_TURNS : ∃ u, mg "TURNS" = some u ∧ RelV (.int 8) u
  c_MOST_BALLOTS : ∃ u, mg "MOST_BALLOTS" = some u ∧ RelV (.int 256) u
theorem of_top {C CD DD NU fB fDI f2 f3 f4 f5 f6 f7 f8 f9 f10 fa : Addr} {fdB fdDI fd : FuncData} (Z : Top K mg C CD DD NU fB fDI f2 f3 f4 f5 f6 f7 f8 f9 f10 fdB fdDI) (FA : Fun K "answers" "answers" (top 50) fa fd) : FnOk P w K mg base CX0 8 fa fd ["calls"] (spAns K) := by
  have T := Z.bt
  have TD := Z.dt
  obtain ⟨u12, m12, r12⟩ := Z.c_MOST_CANDIDATES
  obtain ⟨u0, m0, r0⟩ := Z.c_BEGIN
  obtain ⟨u1, m1, r1⟩ := Z.c_CANDIDATES
  obtain ⟨u2, m2, r2⟩ := Z.c_BALLOT
  obtain ⟨u8, m8, r8⟩ := Z.c_TURNS
  obtain ⟨u256, m256, r256⟩ := Z.c_MOST_BALLOTS
  have eBeats := fn_beats (P := P) (w := w) (base := base) Z.n_5 T
  have eEv := fn_ev (P := P) (w := w) (base := base) Z.n_7 T Z.z_list Z.z_range
  have eBall := fn_ball Z.n_6 eBeats Z.z_all
  have eMem := fn_mem Z.n_9 eEv
  have eOth := fn_oth Z.n_10 eEv
  have eTold := fn_told (P := P) (w := w) (base := base) Z.n_8 Z.z_sum
  have eOrd := fn_ord (P := P) (w := w) (base := base) Z.n_3 T Z.z_sorted Z.z_list Z.z_range
  have eFirst := fn_first Z.n_12 eEv eBall eOth
  have eGrp := fn_grp Z.n_13 eBall eOth eMem Z.z_all
  have eSm := fn_sm Z.n_14 T eMem eGrp Z.z_len Z.z_range
  have eCov := fn_cov Z.n_15 eEv eBeats eBall
  have eUn := fn_un Z.n_16 eEv eCov Z.z_any
  have eHdd := fn_hdd Z.n_17 eEv eMem eBall Z.z_any
  have eHead := fn_head Z.n_18 eOth eMem eBeats eHdd Z.z_len Z.z_all
  have eHeads := fn_heads Z.n_19 eEv eHead
  have eTurns := fn_turns Z.n_20 eBeats
  have eQ := fn_q Z.n_22 T eMem Z.z_sum
  have eLq := fn_lq Z.n_23 T eMem eQ Z.z_range Z.z_min
  have eCalm := fn_calm Z.n_24 T eMem eQ eLq
  have ePairs := fn_pairs Z.n_25 T eEv eBeats Z.z_sorted
  have eRch := fn_rch (P := P) (w := w) (base := base) Z.n_26 Z.z_len
  have eSt := fn_st Z.n_27 eEv ePairs eRch
  have eFree := fn_free (P := P) (w := w) (base := base) Z.n_28 Z.z_any
  have eRk := fn_rk Z.n_29 eEv eSt eFree
  have eAdd := fn_add (P := P) (w := w) (base := base) Z.n_4 T Z.z_enumerate
  have eDb := fn_db Z.n_37 T eOrd eAdd m256 r256
  have eDw := fn_dw (P := P) (w := w) (base := base) Z.n_38 T
  have eDf := fn_df Z.n_39 eFirst
  have eDs := fn_ds Z.n_40 eSm
  have eDu := fn_du Z.n_41 eUn eTold
  have eDh := fn_dh Z.n_42 eHeads eTold
  have eDt := fn_dt Z.n_43 eOrd eTurns
  have eTo := fn_to (P := P) (w := w) (base := base) Z.n_44 T m12 r12 Z.z_len
  have eDc := fn_dc Z.n_45 eTo eCalm
  have eDr := fn_dr Z.n_46 eTo eRk
  have Ds : Deeds P w K mg base C DD f2 f3 f4 f5 f6 f7 f8 f9 f10 := by
    refine ⟨Z.nd, fun e m => ?_, Z.d2, Z.d3, Z.d4, Z.d5, Z.d6, Z.d7, Z.d8, Z.d9, Z.d10⟩
    unfold deeds at m
    rcases List.mem_cons.mp m with rfl | m
    · exact eDb.held Z.g2 (by decide)
    rcases List.mem_cons.mp m with rfl | m
    · exact eDw.held Z.g3 (by decide)
    rcases List.mem_cons.mp m with rfl | m
    · exact eDf.held Z.g4 (by decide)
    rcases List.mem_cons.mp m with rfl | m
    · exact eDs.held Z.g5 (by decide)
    rcases List.mem_cons.mp m with rfl | m
    · exact eDu.held Z.g6 (by decide)
    rcases List.mem_cons.mp m with rfl | m
    · exact eDh.held Z.g7 (by decide)
    rcases List.mem_cons.mp m with rfl | m
    · exact eDt.held Z.g8 (by decide)
    rcases List.mem_cons.mp m with rfl | m
    · exact eDc.held Z.g9 (by decide)
    rcases List.mem_cons.mp m with rfl | m
    · exact eDr.held Z.g10 (by decide)
    · cases m
  have bB := Z.iB.binds (ps := ["self", "many"]) fun _ _ _ _ _ _ us hl => match us, hl with | [_, _], _ => rfl
  have bD := Z.iD.binds (ps := ["self"]) fun _ _ _ _ _ _ us hl => match us, hl with | [_], _ => rfl
  have eTl := fn_tl Z.n_49 T TD Ds m0 r0 m1 r1 m12 r12 Z.gDD Z.mB (ok_bi Z.iB T Z.z_range) bB Z.gC
  exact ok_an FA eTl Z.mD (ok_di Z.iD TD) bD Z.gD Z.gNU Z.hN m2 r2 m8 r8 Z.z_len
end
end TV
/-! part TvGo -/
namespace TV
open PySem PySem.Spec PyProof.Rows L2 Evl
section
variable {P : Program} {w : World} {K : PySem.W.Frag} {mg : Str → Option Value} {h : Heap}
theorem tup_mk {a : Addr} {od : Option Addr} {sl : Array (Option Value)} {its : Array Value} {n : Nat} {xs : List V} (l : K.lookup a = some ⟨.type "tuple", od, .seq its n, sl⟩) (z : its.size ≤ sizeLine) (v : Vals xs its.toList) : ∀ H, SqT K H a xs :=
  fun _ => .inr ⟨_, its, n, l, rfl, rfl, z, v⟩
theorem co_mk (X : K.In h) (G : h.Ns mainGlobals mg) {x : Str} {u : Value} {v : V} (a : PySem.W.nsIn K mainGlobals x = some (some u)) (r : RelV v u) : ∃ u, mg x = some u ∧ RelV v u := ⟨u, PySem.W.mg_of X G a, r⟩
theorem go {fa fA C CD DD NU fB fDI f2 f3 f4 f5 f6 f7 f8 f9 f10 : Addr} {es : Array DictEntry} {its : Array Value} {nDD nNU : Nat} {odN : Option Addr} {slN : Array (Option Value)}
    {odA anA odB anB odD anD : Option Addr} {slA slB slD : Array (Option Value)} {ocA kVA dcA pmA cdA ctA ocB kVB dcB pmB cdB ctB ocD kVD dcD pmD cdD ctD : Value}
    (X : K.In h) (G : h.Ns mainGlobals mg) (hfa : mg "answers" = some (.ref fa))
    (aA : PySem.W.nsIn K mainGlobals "answers" = some (some (.ref fA)))
    (lA : K.lookup fA = some ⟨ocA, odA, .func (PySem.W.fnOf "answers" "answers" (defArgs (top 50)) (defBody (top 50)) (defScope (top 50)) .none kVA dcA pmA anA cdA ctA), slA⟩)
    (cA : PySem.W.codeIn K cdA "answers" = true)
    (kA : PySem.W.keepIn K (.ref fA) = true)
    (gB : PySem.W.nsIn K mainGlobals "Ballots" = some (some (.ref C)))
    (pgB : PySem.W.plainGet K C Str.empty = true)
    (hdB : PySem.W.hasDictIn K C = true)
    (poB : PySem.W.plainOver K C = true)
    (saB : PySem.W.findIn K (.ref C) "__setattr__" = some (some (.builtin "object.__setattr__")))
    (noBmany : PySem.W.findIn K (.ref C) "many" = some none)
    (noBcast : PySem.W.findIn K (.ref C) "cast" = some none)
    (noBwins : PySem.W.findIn K (.ref C) "wins" = some none)
    (mkB : PySem.W.makesIn K C = true)
    (fiB : PySem.W.findIn K (.ref C) "__init__" = some (some (.ref fB)))
    (isB : PySem.W.isFn K (.ref fB) = true)
    (kcB : PySem.W.keepIn K (.ref C) = true)
    (lB : K.lookup fB = some ⟨ocB, odB, .func (PySem.W.fnOf "__init__" "Ballots.__init__" (defArgs sBI) (defBody sBI) (defScope sBI) .none kVB dcB pmB anB cdB ctB), slB⟩)
    (cB : PySem.W.codeIn K cdB "Ballots.__init__" = true)
    (kB : PySem.W.keepIn K (.ref fB) = true)
    (gD : PySem.W.nsIn K mainGlobals "Desk" = some (some (.ref CD)))
    (pgD : PySem.W.plainGet K CD Str.empty = true)
    (hdD : PySem.W.hasDictIn K CD = true)
    (poD : PySem.W.plainOver K CD = true)
    (saD : PySem.W.findIn K (.ref CD) "__setattr__" = some (some (.builtin "object.__setattr__")))
    (noDballots : PySem.W.findIn K (.ref CD) "ballots" = some none)
    (mkD : PySem.W.makesIn K CD = true)
    (fiD : PySem.W.findIn K (.ref CD) "__init__" = some (some (.ref fDI)))
    (isD : PySem.W.isFn K (.ref fDI) = true)
    (kcD : PySem.W.keepIn K (.ref CD) = true)
    (lD : K.lookup fDI = some ⟨ocD, odD, .func (PySem.W.fnOf "__init__" "Desk.__init__" (defArgs sDI) (defBody sDI) (defScope sDI) .none kVD dcD pmD anD cdD ctD), slD⟩)
    (cD : PySem.W.codeIn K cdD "Desk.__init__" = true)
    (kD : PySem.W.keepIn K (.ref fDI) = true)
    (gDD : PySem.W.nsIn K mainGlobals "DEEDS" = some (some (.ref DD)))
    (lDD : K.lookup DD = some ⟨.type "dict", none, .dict es nDD, #[]⟩)
    (g2 : PySem.W.nsIn K mainGlobals "do_ballot" = some (some (.ref f2)))
    (g3 : PySem.W.nsIn K mainGlobals "do_wins" = some (some (.ref f3)))
    (g4 : PySem.W.nsIn K mainGlobals "do_first" = some (some (.ref f4)))
    (g5 : PySem.W.nsIn K mainGlobals "do_smallest" = some (some (.ref f5)))
    (g6 : PySem.W.nsIn K mainGlobals "do_uncovered" = some (some (.ref f6)))
    (g7 : PySem.W.nsIn K mainGlobals "do_heads" = some (some (.ref f7)))
    (g8 : PySem.W.nsIn K mainGlobals "do_turns" = some (some (.ref f8)))
    (g9 : PySem.W.nsIn K mainGlobals "do_calmest" = some (some (.ref f9)))
    (g10 : PySem.W.nsIn K mainGlobals "do_ranked" = some (some (.ref f10)))
    (kDD : es.toList.all keyI = true)
    (e2 : findBy Value.isInt es 2 = some (.ref f2))
    (e3 : findBy Value.isInt es 3 = some (.ref f3))
    (e4 : findBy Value.isInt es 4 = some (.ref f4))
    (e5 : findBy Value.isInt es 5 = some (.ref f5))
    (e6 : findBy Value.isInt es 6 = some (.ref f6))
    (e7 : findBy Value.isInt es 7 = some (.ref f7))
    (e8 : findBy Value.isInt es 8 = some (.ref f8))
    (e9 : findBy Value.isInt es 9 = some (.ref f9))
    (e10 : findBy Value.isInt es 10 = some (.ref f10))
    (nd : [f2, f3, f4, f5, f6, f7, f8, f9, f10].Nodup)
    (gNU : PySem.W.nsIn K mainGlobals "NUMBERS" = some (some (.ref NU)))
    (lNU : K.lookup NU = some ⟨.type "tuple", odN, .seq its nNU, slN⟩)
    (zNU : its.size ≤ sizeLine)
    (vNU : Vals (NUMS.map vN) its.toList)
    (z_list : PySem.W.nsIn K mainGlobals "list" = some none)
    (z_range : PySem.W.nsIn K mainGlobals "range" = some none)
    (z_all : PySem.W.nsIn K mainGlobals "all" = some none)
    (z_sum : PySem.W.nsIn K mainGlobals "sum" = some none)
    (z_sorted : PySem.W.nsIn K mainGlobals "sorted" = some none)
    (z_any : PySem.W.nsIn K mainGlobals "any" = some none)
    (z_len : PySem.W.nsIn K mainGlobals "len" = some none)
    (z_enumerate : PySem.W.nsIn K mainGlobals "enumerate" = some none)
    (z_min : PySem.W.nsIn K mainGlobals "min" = some none)
    (c_MOST_CANDIDATES : ∃ u, mg "MOST_CANDIDATES" = some u ∧ RelV (.int 12) u)
    (c_BEGIN : ∃ u, mg "BEGIN" = some u ∧ RelV (.int 0) u)
    (c_CANDIDATES : ∃ u, mg "CANDIDATES" = some u ∧ RelV (.int 1) u)
    (c_BALLOT : ∃ u, mg "BALLOT" = some u ∧ RelV (.int 2) u)
    (c_TURNS : ∃ u, mg "TURNS" = some u ∧ RelV (.int 8) u)
    (c_MOST_BALLOTS : ∃ u, mg "MOST_BALLOTS" = some u ∧ RelV (.int 256) u)
    (n_4 : Dn K mg "add_ballot" (top 4))
    (n_3 : Dn K mg "is_order" (top 3))
    (n_5 : Dn K mg "beats" (top 5))
    (n_6 : Dn K mg "beats_all" (top 6))
    (n_7 : Dn K mg "everybody" (top 7))
    (n_8 : Dn K mg "told_set" (top 8))
    (n_9 : Dn K mg "members" (top 9))
    (n_10 : Dn K mg "others_than" (top 10))
    (n_12 : Dn K mg "first_of_all" (top 12))
    (n_13 : Dn K mg "is_group" (top 13))
    (n_14 : Dn K mg "smallest_group" (top 14))
    (n_15 : Dn K mg "covers" (top 15))
    (n_16 : Dn K mg "uncovered" (top 16))
    (n_17 : Dn K mg "is_headed" (top 17))
    (n_18 : Dn K mg "is_head" (top 18))
    (n_19 : Dn K mg "heads" (top 19))
    (n_20 : Dn K mg "by_turns" (top 20))
    (n_22 : Dn K mg "quarrel_of" (top 22))
    (n_23 : Dn K mg "least_quarrels" (top 23))
    (n_24 : Dn K mg "calmest" (top 24))
    (n_25 : Dn K mg "pairs_in_order" (top 25))
    (n_26 : Dn K mg "reached" (top 26))
    (n_27 : Dn K mg "standing_pairs" (top 27))
    (n_28 : Dn K mg "is_free" (top 28))
    (n_29 : Dn K mg "ranked" (top 29))
    (n_37 : Dn K mg "do_ballot" (top 37))
    (n_38 : Dn K mg "do_wins" (top 38))
    (n_39 : Dn K mg "do_first" (top 39))
    (n_40 : Dn K mg "do_smallest" (top 40))
    (n_41 : Dn K mg "do_uncovered" (top 41))
    (n_42 : Dn K mg "do_heads" (top 42))
    (n_43 : Dn K mg "do_turns" (top 43))
    (n_44 : Dn K mg "told_order" (top 44))
    (n_45 : Dn K mg "do_calmest" (top 45))
    (n_46 : Dn K mg "do_ranked" (top 46))
    (n_49 : Dn K mg "told" (top 49))
    : ∃ fd : FuncData, (∀ (s : Shared) (us : List Value), us.length = (["calls"] : List Str).length → BindsTo s fd ⟨us, []⟩ ((["calls"] : List Str).zip us)) ∧ ∀ base : Heap, K.In base → base.Ns mainGlobals mg → FnOk P w K mg base CX0 8 fa fd ["calls"] (spAns K) := by
  have e := hfa.symm.trans (PySem.W.mg_of X G aA)
  cases e
  have FA := fun_mk (st := top 50) lA cA kA
  have FB := fun_mk (st := sBI) lB cB kB
  have FD := fun_mk (st := sDI) lD cD kD
  have Z : Top K mg C CD DD NU fB fDI f2 f3 f4 f5 f6 f7 f8 f9 f10 _ _ := {
          bt := ⟨⟨pgB, hdB, poB, saB⟩, noBmany, noBcast, noBwins⟩, dt := ⟨⟨pgD, hdD, poD, saD⟩, noDballots⟩
          mB := ⟨mkB, fiB, isB, kcB⟩, iB := FB, mD := ⟨mkD, fiD, isD, kcD⟩, iD := FD
          gC := PySem.W.mg_of X G gB, gD := PySem.W.mg_of X G gD, gDD := PySem.W.mg_of X G gDD, gNU := PySem.W.mg_of X G gNU, hN := tup_mk lNU zNU vNU, nd := nd
          g2 := PySem.W.mg_of X G g2, d2 := kdi_mk lDD kDD e2, g3 := PySem.W.mg_of X G g3, d3 := kdi_mk lDD kDD e3, g4 := PySem.W.mg_of X G g4, d4 := kdi_mk lDD kDD e4, g5 := PySem.W.mg_of X G g5, d5 := kdi_mk lDD kDD e5, g6 := PySem.W.mg_of X G g6, d6 := kdi_mk lDD kDD e6, g7 := PySem.W.mg_of X G g7, d7 := kdi_mk lDD kDD e7, g8 := PySem.W.mg_of X G g8, d8 := kdi_mk lDD kDD e8, g9 := PySem.W.mg_of X G g9, d9 := kdi_mk lDD kDD e9, g10 := PySem.W.mg_of X G g10, d10 := kdi_mk lDD kDD e10
          z_list := PySem.W.mg_none_of X G z_list, z_range := PySem.W.mg_none_of X G z_range, z_all := PySem.W.mg_none_of X G z_all, z_sum := PySem.W.mg_none_of X G z_sum, z_sorted := PySem.W.mg_none_of X G z_sorted, z_any := PySem.W.mg_none_of X G z_any, z_len := PySem.W.mg_none_of X G z_len, z_enumerate := PySem.W.mg_none_of X G z_enumerate, z_min := PySem.W.mg_none_of X G z_min
          c_MOST_CANDIDATES := c_MOST_CANDIDATES, c_BEGIN := c_BEGIN, c_CANDIDATES := c_CANDIDATES, c_BALLOT := c_BALLOT, c_TURNS := c_TURNS, c_MOST_BALLOTS := c_MOST_BALLOTS
          n_4 := n_4, n_3 := n_3, n_5 := n_5, n_6 := n_6, n_7 := n_7, n_8 := n_8, n_9 := n_9, n_10 := n_10, n_12 := n_12, n_13 := n_13, n_14 := n_14, n_15 := n_15, n_16 := n_16, n_17 := n_17, n_18 := n_18, n_19 := n_19, n_20 := n_20, n_22 := n_22, n_23 := n_23, n_24 := n_24, n_25 := n_25, n_26 := n_26, n_27 := n_27, n_28 := n_28, n_29 := n_29, n_37 := n_37, n_38 := n_38, n_39 := n_39, n_40 := n_40, n_41 := n_41, n_42 := n_42, n_43 := n_43, n_44 := n_44, n_45 := n_45, n_46 := n_46, n_49 := n_49 }
  exact ⟨_, fun s us hu => match us, hu with | [_], _ => .of_eq rfl, fun base _ _ => of_top Z FA⟩
end
end TV
/-! part TvHead -/
open PySem PySem.W PyProof.Rows
set_option maxRecDepth 100000 in
set_option maxHeartbeats 8000000 in
theorem PySem.Challenge.cw_turnvotes_s01_answers_holds : PySem.Challenge.rw_turnvotes_s01_answers.Holds := by
  w_on; k_headS; (case hw => exact ⟨[.list []], by decide +kernel, by decide +kernel⟩)
  k_fillS
  refine L2.walk_specK (r := PySem.Challenge.rw_turnvotes_s01_answers) (k := 8) (CX := L2.CX0) (ps := ["calls"]) (sp := TV.spAns) (by decide +kernel) rfl rfl ⟨rfl, by decide, by decide⟩ (fun w h Y => PySem.W.kIn_of Y) ?F ?S (fun _ _ _ _ z => z)
  case F =>
    intro w mg fa h Y KX G hmg
    refine' TV.go KX G hmg ?aA ?lA ?cA ?kA ?gB ?pgB ?hdB ?poB ?saB ?noBmany ?noBcast ?noBwins ?mkB ?fiB ?isB ?kcB ?lB ?cB ?kB ?gD ?pgD ?hdD ?poD ?saD ?noDballots ?mkD ?fiD ?isD ?kcD ?lD ?cD ?kD ?gDD ?lDD ?g2 ?g3 ?g4 ?g5 ?g6 ?g7 ?g8 ?g9 ?g10 ?kDD ?e2 ?e3 ?e4 ?e5 ?e6 ?e7 ?e8 ?e9 ?e10 ?nd ?gNU ?lNU ?zNU ?vNU ?z_list ?z_range ?z_all ?z_sum ?z_sorted ?z_any ?z_len ?z_enumerate ?z_min ?c_MOST_CANDIDATES ?c_BEGIN ?c_CANDIDATES ?c_BALLOT ?c_TURNS ?c_MOST_BALLOTS ?n_4 ?n_3 ?n_5 ?n_6 ?n_7 ?n_8 ?n_9 ?n_10 ?n_12 ?n_13 ?n_14 ?n_15 ?n_16 ?n_17 ?n_18 ?n_19 ?n_20 ?n_22 ?n_23 ?n_24 ?n_25 ?n_26 ?n_27 ?n_28 ?n_29 ?n_37 ?n_38 ?n_39 ?n_40 ?n_41 ?n_42 ?n_43 ?n_44 ?n_45 ?n_46 ?n_49
    (case aA => k_is)
    (case lA => k_is)
    (case cA => k_is)
    (case kA => k_is)
    (case gB => k_is)
    (case pgB => k_is)
    (case hdB => k_is)
    (case poB => k_is)
    (case saB => k_is)
    (case noBmany => k_is)
    (case noBcast => k_is)
    (case noBwins => k_is)
    (case mkB => k_is)
    (case fiB => k_is)
    (case isB => k_is)
    (case kcB => k_is)
    (case lB => k_is)
    (case cB => k_is)
    (case kB => k_is)
    (case gD => k_is)
    (case pgD => k_is)
    (case hdD => k_is)
    (case poD => k_is)
    (case saD => k_is)
    (case noDballots => k_is)
    (case mkD => k_is)
    (case fiD => k_is)
    (case isD => k_is)
    (case kcD => k_is)
    (case lD => k_is)
    (case cD => k_is)
    (case kD => k_is)
    (case gDD => k_is)
    (case lDD => k_is)
    (case g2 => k_is)
    (case g3 => k_is)
    (case g4 => k_is)
    (case g5 => k_is)
    (case g6 => k_is)
    (case g7 => k_is)
    (case g8 => k_is)
    (case g9 => k_is)
    (case g10 => k_is)
    (case kDD => decide +kernel)
    (case e2 => rfl)
    (case e3 => rfl)
    (case e4 => rfl)
    (case e5 => rfl)
    (case e6 => rfl)
    (case e7 => rfl)
    (case e8 => rfl)
    (case e9 => rfl)
    (case e10 => rfl)
    (case nd => decide +kernel)
    (case gNU => k_is)
    (case lNU => k_is)
    (case zNU => decide +kernel)
    (case vNU => exact .cons ⟨_, rfl⟩ (.cons ⟨_, rfl⟩ (.cons ⟨_, rfl⟩ (.cons ⟨_, rfl⟩ (.cons ⟨_, rfl⟩ (.cons ⟨_, rfl⟩ (.cons ⟨_, rfl⟩ (.cons ⟨_, rfl⟩ (.cons ⟨_, rfl⟩ (.cons ⟨_, rfl⟩ (.cons ⟨_, rfl⟩ .nil)))))))))))
    (case z_list => k_is)
    (case z_range => k_is)
    (case z_all => k_is)
    (case z_sum => k_is)
    (case z_sorted => k_is)
    (case z_any => k_is)
    (case z_len => k_is)
    (case z_enumerate => k_is)
    (case z_min => k_is)
    (case c_MOST_CANDIDATES => refine' TV.co_mk KX G ?a ?r; (case a => k_is); (case r => exact ⟨_, rfl⟩))
    (case c_BEGIN => refine' TV.co_mk KX G ?a ?r; (case a => k_is); (case r => exact ⟨_, rfl⟩))
    (case c_CANDIDATES => refine' TV.co_mk KX G ?a ?r; (case a => k_is); (case r => exact ⟨_, rfl⟩))
    (case c_BALLOT => refine' TV.co_mk KX G ?a ?r; (case a => k_is); (case r => exact ⟨_, rfl⟩))
    (case c_TURNS => refine' TV.co_mk KX G ?a ?r; (case a => k_is); (case r => exact ⟨_, rfl⟩))
    (case c_MOST_BALLOTS => refine' TV.co_mk KX G ?a ?r; (case a => k_is); (case r => exact ⟨_, rfl⟩))
    (case n_4 => refine' TV.dn_mk KX G ?a ?l ?c ?k; (case a => k_is); (case l => k_is); (case c => k_is); (case k => k_is))
    (case n_3 => refine' TV.dn_mk KX G ?a ?l ?c ?k; (case a => k_is); (case l => k_is); (case c => k_is); (case k => k_is))
    (case n_5 => refine' TV.dn_mk KX G ?a ?l ?c ?k; (case a => k_is); (case l => k_is); (case c => k_is); (case k => k_is))
    (case n_6 => refine' TV.dn_mk KX G ?a ?l ?c ?k; (case a => k_is); (case l => k_is); (case c => k_is); (case k => k_is))
    (case n_7 => refine' TV.dn_mk KX G ?a ?l ?c ?k; (case a => k_is); (case l => k_is); (case c => k_is); (case k => k_is))
    (case n_8 => refine' TV.dn_mk KX G ?a ?l ?c ?k; (case a => k_is); (case l => k_is); (case c => k_is); (case k => k_is))
    (case n_9 => refine' TV.dn_mk KX G ?a ?l ?c ?k; (case a => k_is); (case l => k_is); (case c => k_is); (case k => k_is))
    (case n_10 => refine' TV.dn_mk KX G ?a ?l ?c ?k; (case a => k_is); (case l => k_is); (case c => k_is); (case k => k_is))
    (case n_12 => refine' TV.dn_mk KX G ?a ?l ?c ?k; (case a => k_is); (case l => k_is); (case c => k_is); (case k => k_is))
    (case n_13 => refine' TV.dn_mk KX G ?a ?l ?c ?k; (case a => k_is); (case l => k_is); (case c => k_is); (case k => k_is))
    (case n_14 => refine' TV.dn_mk KX G ?a ?l ?c ?k; (case a => k_is); (case l => k_is); (case c => k_is); (case k => k_is))
    (case n_15 => refine' TV.dn_mk KX G ?a ?l ?c ?k; (case a => k_is); (case l => k_is); (case c => k_is); (case k => k_is))
    (case n_16 => refine' TV.dn_mk KX G ?a ?l ?c ?k; (case a => k_is); (case l => k_is); (case c => k_is); (case k => k_is))
    (case n_17 => refine' TV.dn_mk KX G ?a ?l ?c ?k; (case a => k_is); (case l => k_is); (case c => k_is); (case k => k_is))
    (case n_18 => refine' TV.dn_mk KX G ?a ?l ?c ?k; (case a => k_is); (case l => k_is); (case c => k_is); (case k => k_is))
    (case n_19 => refine' TV.dn_mk KX G ?a ?l ?c ?k; (case a => k_is); (case l => k_is); (case c => k_is); (case k => k_is))
    (case n_20 => refine' TV.dn_mk KX G ?a ?l ?c ?k; (case a => k_is); (case l => k_is); (case c => k_is); (case k => k_is))
    (case n_22 => refine' TV.dn_mk KX G ?a ?l ?c ?k; (case a => k_is); (case l => k_is); (case c => k_is); (case k => k_is))
    (case n_23 => refine' TV.dn_mk KX G ?a ?l ?c ?k; (case a => k_is); (case l => k_is); (case c => k_is); (case k => k_is))
    (case n_24 => refine' TV.dn_mk KX G ?a ?l ?c ?k; (case a => k_is); (case l => k_is); (case c => k_is); (case k => k_is))
    (case n_25 => refine' TV.dn_mk KX G ?a ?l ?c ?k; (case a => k_is); (case l => k_is); (case c => k_is); (case k => k_is))
    (case n_26 => refine' TV.dn_mk KX G ?a ?l ?c ?k; (case a => k_is); (case l => k_is); (case c => k_is); (case k => k_is))
    (case n_27 => refine' TV.dn_mk KX G ?a ?l ?c ?k; (case a => k_is); (case l => k_is); (case c => k_is); (case k => k_is))
    (case n_28 => refine' TV.dn_mk KX G ?a ?l ?c ?k; (case a => k_is); (case l => k_is); (case c => k_is); (case k => k_is))
    (case n_29 => refine' TV.dn_mk KX G ?a ?l ?c ?k; (case a => k_is); (case l => k_is); (case c => k_is); (case k => k_is))
    (case n_37 => refine' TV.dn_mk KX G ?a ?l ?c ?k; (case a => k_is); (case l => k_is); (case c => k_is); (case k => k_is))
    (case n_38 => refine' TV.dn_mk KX G ?a ?l ?c ?k; (case a => k_is); (case l => k_is); (case c => k_is); (case k => k_is))
    (case n_39 => refine' TV.dn_mk KX G ?a ?l ?c ?k; (case a => k_is); (case l => k_is); (case c => k_is); (case k => k_is))
    (case n_40 => refine' TV.dn_mk KX G ?a ?l ?c ?k; (case a => k_is); (case l => k_is); (case c => k_is); (case k => k_is))
    (case n_41 => refine' TV.dn_mk KX G ?a ?l ?c ?k; (case a => k_is); (case l => k_is); (case c => k_is); (case k => k_is))
    (case n_42 => refine' TV.dn_mk KX G ?a ?l ?c ?k; (case a => k_is); (case l => k_is); (case c => k_is); (case k => k_is))
    (case n_43 => refine' TV.dn_mk KX G ?a ?l ?c ?k; (case a => k_is); (case l => k_is); (case c => k_is); (case k => k_is))
    (case n_44 => refine' TV.dn_mk KX G ?a ?l ?c ?k; (case a => k_is); (case l => k_is); (case c => k_is); (case k => k_is))
    (case n_45 => refine' TV.dn_mk KX G ?a ?l ?c ?k; (case a => k_is); (case l => k_is); (case c => k_is); (case k => k_is))
    (case n_46 => refine' TV.dn_mk KX G ?a ?l ?c ?k; (case a => k_is); (case l => k_is); (case c => k_is); (case k => k_is))
    (case n_49 => refine' TV.dn_mk KX G ?a ?l ?c ?k; (case a => k_is); (case l => k_is); (case c => k_is); (case k => k_is))
  case S =>
    intro K H xs a hO hwi hask hx
    cases hx with
    | cons h1 h2 =>
      cases h2
      cases h1 with
      | lst hs ha =>
        have ed := L2.ints_dw a.1 _ ha
        subst ed
        have q : ((Codec.inLen 0 30000 a.1 && a.1.all (Codec.inInt (-2147483648) 4294967295)) && true) = true := hwi
        rw [Bool.and_eq_true, Bool.and_eq_true] at q
        exact ⟨_, a.1, rfl, hs, (Codec.inNat_iff.mp q.1.1).2, hask, fun H' p hp => .lst (L2.SqL.of hp) (L2.dw_ints _)⟩
#print axioms PySem.Challenge.cw_turnvotes_s01_answers_holds
