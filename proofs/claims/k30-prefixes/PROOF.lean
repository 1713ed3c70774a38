import PyProof.Rows.All
import Wide.All
import OpenK.AllK
import Wide.FinOn
import PySem.Challenge.RW_switchstages_k30_whole_fewest_prefixes_a
import HandS.ForMost
import HandS.Zip
import HandS.Walk
import HandS.IsInst
import HandS.WideBits
import HandS.TupAny
import HandS.Strs
import HandS.SetFor
import HandS.Style
import PyProof.ReprLen
import PyProof.ReprRoads
import HandS.Steps
set_option Elab.async false
set_option linter.all false
set_option maxHeartbeats 4000000
set_option maxRecDepth 100000
/-! K30: the plain mathematics of greatest blocks, marks and the fewest prefixes. -/
namespace K30

/-! ### powers of two -/
theorem pw_pos (k : Nat) : 0 < 2 ^ k := Nat.two_pow_pos k
theorem pw_succ (k : Nat) : 2 ^ (k + 1) = 2 * 2 ^ k := by rw [Nat.pow_succ, Nat.mul_comm]
theorem pw_le {i j : Nat} (h : i ≤ j) : 2 ^ i ≤ 2 ^ j := Nat.pow_le_pow_right (by decide) h
theorem pw_lt_iff {i j : Nat} (h : 2 ^ i < 2 ^ j) : i < j := by
  by_cases c : i < j
  · exact c
  · have := pw_le (show j ≤ i by omega)
    omega
theorem pw_le_iff {i j : Nat} (h : 2 ^ i ≤ 2 ^ j) : i ≤ j := by
  by_cases c : i ≤ j
  · exact c
  · have h1 := pw_le (show j + 1 ≤ i by omega)
    have h2 := pw_succ j
    have h3 := pw_pos j
    omega
theorem pw_split {i j : Nat} (h : i ≤ j) : 2 ^ j = 2 ^ i * 2 ^ (j - i) := by
  rw [← Nat.pow_add]
  congr 1
  omega
/-- a number that a greater power divides is divided by a lesser one -/
theorem dvd_down {a i j : Nat} (h : i ≤ j) (ha : a % 2 ^ j = 0) : a % 2 ^ i = 0 := by
  obtain ⟨c, e⟩ := Nat.dvd_of_mod_eq_zero ha
  rw [e, pw_split h, Nat.mul_assoc]
  exact Nat.mul_mod_right _ _

/-! ### blocks: those of the same size, or of unlike ones, that meet -/
theorem nest {a b m n x : Nat} (hn : n ≤ m) (ha : a % 2 ^ m = 0) (hb : b % 2 ^ n = 0) (h1 : a ≤ x) (h2 : x < a + 2 ^ m) (h3 : b ≤ x) (h4 : x < b + 2 ^ n) : a ≤ b ∧ b + 2 ^ n ≤ a + 2 ^ m := by
  obtain ⟨c, ec⟩ := Nat.dvd_of_mod_eq_zero (dvd_down hn ha)
  obtain ⟨d, ed⟩ := Nat.dvd_of_mod_eq_zero hb
  have em := pw_split hn
  have hp := pw_pos n
  generalize 2 ^ (m - n) = e at em
  rw [em] at h2 ⊢
  generalize 2 ^ n = N at *
  subst ec ed
  have k1 : c < d + 1 := by
    refine Nat.lt_of_mul_lt_mul_left (a := N) ?_
    rw [Nat.mul_add]
    omega
  have k2 : d < c + e := by
    refine Nat.lt_of_mul_lt_mul_left (a := N) ?_
    rw [Nat.mul_add]
    omega
  refine ⟨Nat.mul_le_mul_left N (by omega), ?_⟩
  have k3 := Nat.mul_le_mul_left N (show d + 1 ≤ c + e by omega)
  rw [Nat.mul_add, Nat.mul_add] at k3
  omega

/-! ### the growing of one block -/
/-- from a size on, so many doublings at most: the size and how many were left -/
def grow (low high : Nat) : Nat → Nat → Nat × Nat
  | 0, size => (size, 0)
  | bits + 1, size => if low % (2 * size) = 0 ∧ low + 2 * size ≤ high + 1 then grow low high bits (2 * size) else (size, bits + 1)

theorem grow_spec (low high : Nat) : ∀ (bits j : Nat), low % 2 ^ j = 0 → (low + 2 ^ j ≤ high + 1) →
    ∃ k, j ≤ k ∧ k ≤ j + bits ∧ grow low high bits (2 ^ j) = (2 ^ k, j + bits - k) ∧ low % 2 ^ k = 0 ∧ low + 2 ^ k ≤ high + 1 ∧
      (k < j + bits → ¬ (low % 2 ^ (k + 1) = 0 ∧ low + 2 ^ (k + 1) ≤ high + 1))
  | 0, j, h1, h2 => ⟨j, Nat.le_refl _, Nat.le_refl _, by simp [grow], h1, h2, fun h => by omega⟩
  | bits + 1, j, h1, h2 => by
    have e := pw_succ j
    unfold grow
    rw [← e]
    by_cases h : low % 2 ^ (j + 1) = 0 ∧ low + 2 ^ (j + 1) ≤ high + 1
    · rw [if_pos h]
      obtain ⟨k, a1, a2, a3, a4, a5, a6⟩ := grow_spec low high bits (j + 1) h.1 h.2
      refine ⟨k, by omega, by omega, ?_, a4, a5, fun q => a6 (by omega)⟩
      rw [a3]
      congr 1
      omega
    · rw [if_neg h]
      refine ⟨j, Nat.le_refl _, by omega, ?_, h1, h2, fun _ => h⟩
      congr 1
      omega
theorem grow_pos (low high : Nat) : ∀ (bits size : Nat), 0 < size → 0 < (grow low high bits size).1
  | 0, size, h => h
  | bits + 1, size, h => by
    unfold grow
    split
    · exact grow_pos low high bits _ (by omega)
    · exact h

/-! ### the blocks of a range, greedily -/
def blocks (w high low : Nat) : List (Nat × Nat) :=
  if h : low ≤ high then (low, (grow low high w 1).2) :: blocks w high (low + (grow low high w 1).1) else []
termination_by high + 1 - low
decreasing_by
  have := grow_pos low high w 1 (by decide)
  omega
theorem blocks_stop {w high low : Nat} (h : high < low) : blocks w high low = [] := by
  rw [blocks, dif_neg (by omega)]
theorem blocks_step {w high low : Nat} (h : low ≤ high) : blocks w high low = (low, (grow low high w 1).2) :: blocks w high (low + (grow low high w 1).1) := by
  rw [blocks, dif_pos h]
/-- one turn, by its exponent -/
theorem turn {w high low : Nat} (h : low ≤ high) : ∃ k, k ≤ w ∧ grow low high w 1 = (2 ^ k, w - k) ∧ low % 2 ^ k = 0 ∧ low + 2 ^ k ≤ high + 1 ∧
    (k < w → ¬ (low % 2 ^ (k + 1) = 0 ∧ low + 2 ^ (k + 1) ≤ high + 1)) := by
  obtain ⟨k, _, a2, a3, a4, a5, a6⟩ := grow_spec low high w 0 (by simp [Nat.mod_one]) (by simp; omega)
  rw [Nat.zero_add] at a2 a3 a6
  exact ⟨k, a2, a3, a4, a5, a6⟩
/-- induction along the turns -/
theorem blocks_ind {w high : Nat} {C : Nat → Prop} (stop : C (high + 1)) (step : ∀ low k, low ≤ high → k ≤ w → grow low high w 1 = (2 ^ k, w - k) → low % 2 ^ k = 0 → low + 2 ^ k ≤ high + 1 →
    (k < w → ¬ (low % 2 ^ (k + 1) = 0 ∧ low + 2 ^ (k + 1) ≤ high + 1)) → C (low + 2 ^ k) → C low) : ∀ low, low ≤ high + 1 → C low := by
  have go : ∀ n low, low ≤ high + 1 → high + 1 - low ≤ n → C low := by
    intro n
    induction n with
    | zero =>
      intro low h1 h2
      have e : low = high + 1 := by omega
      rw [e]
      exact stop
    | succ n ih =>
      intro low h1 h2
      by_cases c : low ≤ high
      · obtain ⟨k, a1, a2, a3, a4, a5⟩ := turn (w := w) c
        have hp := pw_pos k
        exact step low k c a1 a2 a3 a4 a5 (ih _ a4 (by omega))
      · have e : low = high + 1 := by omega
        rw [e]
        exact stop
  exact fun low h => go _ low h (Nat.le_refl _)

/-! ### a block within the range -/
def Win (lo hi a m : Nat) : Prop := a % 2 ^ m = 0 ∧ lo ≤ a ∧ a + 2 ^ m ≤ hi + 1
/-- no block within the range reaches over this place from below -/
def Hd (lo hi p : Nat) : Prop := ∀ a m, Win lo hi a m → a ≤ p → p < a + 2 ^ m → a = p
theorem hd_lo (lo hi : Nat) : Hd lo hi lo := fun a m h h1 _ => Nat.le_antisymm h1 h.2.1
theorem hd_next {lo hi w low k : Nat} (hw : hi < 2 ^ w) (hlo : lo ≤ low) (h3 : low % 2 ^ k = 0)
    (h5 : k < w → ¬ (low % 2 ^ (k + 1) = 0 ∧ low + 2 ^ (k + 1) ≤ hi + 1)) (P : Hd lo hi low) : Hd lo hi (low + 2 ^ k) := by
  intro a m hW h1 h2
  by_cases e : a = low + 2 ^ k
  · exact e
  exfalso
  have hp := pw_pos k
  obtain ⟨w1, w2, w3⟩ := hW
  by_cases c : m ≤ k
  · have q := nest c h3 w1 (x := low + 2 ^ k - 1) (by omega) (by omega) (by omega) (by omega)
    omega
  · have q := nest (show k ≤ m by omega) w1 h3 (x := low + 2 ^ k - 1) (by omega) (by omega) (by omega) (by omega)
    have ea : a = low := P a m ⟨w1, w2, w3⟩ q.1 (by omega)
    have m1 := pw_le (show k + 1 ≤ m by omega)
    have mw : m ≤ w := pw_le_iff (show 2 ^ m ≤ 2 ^ w by omega)
    refine h5 (by omega) ⟨?_, by omega⟩
    rw [← ea]
    exact dvd_down (by omega) w1
/-- what all first words of blocks are -/
theorem heads_spec {lo hi w : Nat} (hw : hi < 2 ^ w) : ∀ low, low ≤ hi + 1 → lo ≤ low → Hd lo hi low →
    (∀ p ∈ blocks w hi low, low ≤ p.1 ∧ p.1 ≤ hi ∧ Hd lo hi p.1 ∧ ∃ k, k ≤ w ∧ p.2 = w - k ∧ p.1 + 2 ^ k ≤ hi + 1) ∧ ((blocks w hi low).map (·.1)).Pairwise (· < ·) := by
  refine blocks_ind (w := w) (high := hi) (C := fun low => lo ≤ low → Hd lo hi low → (∀ p ∈ blocks w hi low, low ≤ p.1 ∧ p.1 ≤ hi ∧ Hd lo hi p.1 ∧ ∃ k, k ≤ w ∧ p.2 = w - k ∧ p.1 + 2 ^ k ≤ hi + 1) ∧ ((blocks w hi low).map (·.1)).Pairwise (· < ·)) ?_ ?_
  · intro _ _
    rw [blocks_stop (by omega)]
    exact ⟨fun p hp => absurd hp List.not_mem_nil, List.Pairwise.nil⟩
  · intro low k h1 h2 h3 h4 h5 h6 ih hlo hP
    have hp := pw_pos k
    obtain ⟨i1, i2⟩ := ih (by omega) (hd_next hw hlo h4 h6 hP)
    rw [blocks_step h1, h3]
    refine ⟨fun p hq => ?_, ?_⟩
    · rcases List.mem_cons.mp hq with e | hq
      · subst e
        exact ⟨Nat.le_refl _, h1, hP, k, h2, rfl, h5⟩
      · obtain ⟨a1, a2, a3, a4⟩ := i1 p hq
        exact ⟨by omega, a2, a3, a4⟩
    · rw [List.map_cons]
      refine List.pairwise_cons.mpr ⟨fun y hy => ?_, i2⟩
      obtain ⟨p, hq, e⟩ := List.mem_map.mp hy
      have := (i1 p hq).1
      show low < y
      omega
/-- two of them never stand in one block within the range -/
theorem heads_apart {lo hi x y a m : Nat} (hy : Hd lo hi y) (h : x < y) (hW : Win lo hi a m) (h1 : a ≤ x) (h2 : y < a + 2 ^ m) : False := by
  have := hy a m hW (by omega) h2
  omega

/-! ### how many first words lie below a place -/
def below (hs : List Nat) (x : Nat) : Nat := hs.countP fun h => decide (h < x)
theorem count_le_one {p : Nat → Bool} : ∀ {l : List Nat}, l.Pairwise (fun x y => ¬ (p x = true ∧ p y = true)) → l.countP p ≤ 1
  | [], _ => by simp
  | x :: l, h => by
    obtain ⟨h1, h2⟩ := List.pairwise_cons.mp h
    rw [List.countP_cons]
    by_cases hx : p x = true
    · rw [if_pos hx]
      have : l.countP p = 0 := List.countP_eq_zero.mpr fun y hy hpy => h1 y hy ⟨hx, hpy⟩
      omega
    · rw [if_neg hx]
      exact count_le_one h2
theorem below_split {a b : Nat} (h : a ≤ b) : ∀ hs : List Nat, below hs b = below hs a + hs.countP fun x => decide (a ≤ x ∧ x < b)
  | [] => by simp [below]
  | x :: hs => by
    have ih := below_split h hs
    unfold below at ih ⊢
    rw [List.countP_cons, List.countP_cons, List.countP_cons, ih]
    have no : ∀ {c : Prop} [Decidable c], ¬ c → ¬ (decide c = true) := fun h q => h (of_decide_eq_true q)
    by_cases h1 : x < a
    · rw [if_pos (decide_eq_true (show x < b by omega)), if_pos (decide_eq_true h1), if_neg (no (show ¬ (a ≤ x ∧ x < b) by omega))]
      omega
    · by_cases h2 : x < b
      · rw [if_pos (decide_eq_true h2), if_neg (no h1), if_pos (decide_eq_true (show a ≤ x ∧ x < b by omega))]
        omega
      · rw [if_neg (no h2), if_neg (no h1), if_neg (no (show ¬ (a ≤ x ∧ x < b) by omega))]
        omega
section
variable {lo hi w : Nat} (hw : hi < 2 ^ w) (hl : lo ≤ hi)
def heads (w hi lo : Nat) : List Nat := (blocks w hi lo).map (·.1)
theorem heads_hd (hw : hi < 2 ^ w) (hl : lo ≤ hi) {x : Nat} (h : x ∈ heads w hi lo) : lo ≤ x ∧ x ≤ hi ∧ Hd lo hi x := by
  obtain ⟨p, hp, e⟩ := List.mem_map.mp h
  have q := (heads_spec hw lo (by omega) (Nat.le_refl _) (hd_lo lo hi)).1 p hp
  subst e
  exact ⟨q.1, q.2.1, q.2.2.1⟩
theorem heads_asc (hw : hi < 2 ^ w) (hl : lo ≤ hi) : (heads w hi lo).Pairwise (· < ·) := (heads_spec hw lo (by omega) (Nat.le_refl _) (hd_lo lo hi)).2
theorem below_lo (hw : hi < 2 ^ w) (hl : lo ≤ hi) : below (heads w hi lo) lo = 0 :=
  List.countP_eq_zero.mpr fun x hx h => by
    have := (heads_hd hw hl hx).1
    have := of_decide_eq_true h
    omega
theorem below_end (hw : hi < 2 ^ w) (hl : lo ≤ hi) : below (heads w hi lo) (hi + 1) = (blocks w hi lo).length := by
  have e : (heads w hi lo).length = (blocks w hi lo).length := List.length_map ..
  rw [← e]
  exact List.countP_eq_length.mpr fun x hx => decide_eq_true (by have := (heads_hd hw hl hx).2.1; omega)
theorem below_block (hw : hi < 2 ^ w) (hl : lo ≤ hi) {a m : Nat} (hW : Win lo hi a m) : below (heads w hi lo) (a + 2 ^ m) ≤ below (heads w hi lo) a + 1 := by
  rw [below_split (Nat.le_add_right a (2 ^ m))]
  have : ((heads w hi lo).countP fun x => decide (a ≤ x ∧ x < a + 2 ^ m)) ≤ 1 := by
    refine count_le_one (List.Pairwise.imp_of_mem (fun {x y} hx hy hxy => ?_) (heads_asc hw hl))
    rintro ⟨p, q⟩
    have p := of_decide_eq_true p
    have q := of_decide_eq_true q
    exact heads_apart (heads_hd hw hl hy).2.2 hxy hW p.1 q.2
  omega
end

/-! ### rows of blocks, one behind the other -/
inductive Til : Nat → Nat → Nat → Prop
  | nil (a : Nat) : Til a a 0
  | cons (a j b n : Nat) : a % 2 ^ j = 0 → Til (a + 2 ^ j) b n → Til a b (n + 1)
theorem Til.le {a b n : Nat} (h : Til a b n) : a ≤ b := by
  induction h with
  | nil a => exact Nat.le_refl _
  | cons a j b n _ _ ih => omega
theorem Til.zero {a b : Nat} (h : Til a b 0) : a = b := by
  cases h
  rfl
theorem Til.append {a b c n m : Nat} (h : Til a b n) (h' : Til b c m) : Til a c (n + m) := by
  induction h with
  | nil a => rw [Nat.zero_add]; exact h'
  | cons a j b n ha _ ih => rw [Nat.add_right_comm]; exact .cons a j c _ ha (ih h')
theorem Til.one {a j : Nat} (h : a % 2 ^ j = 0) : Til a (a + 2 ^ j) 1 := .cons a j _ 0 h (.nil _)
theorem til_below {lo hi w a b n : Nat} (hw : hi < 2 ^ w) (hl : lo ≤ hi) (h : Til a b n) (h1 : lo ≤ a) (h2 : b ≤ hi + 1) : below (heads w hi lo) b ≤ below (heads w hi lo) a + n := by
  induction h with
  | nil a => omega
  | cons a j b n ha ht ih =>
    have q := ht.le
    have i := ih (by omega) h2
    have k := below_block hw hl (a := a) (m := j) ⟨ha, h1, by omega⟩
    omega
/-- a range's blocks are no more than any row of blocks that makes it -/
theorem til_fewest {lo hi w n : Nat} (hw : hi < 2 ^ w) (hl : lo ≤ hi) (h : Til lo (hi + 1) n) : (blocks w hi lo).length ≤ n := by
  have q := til_below hw hl h (Nat.le_refl _) (Nat.le_refl _)
  rw [below_end hw hl, below_lo hw hl] at q
  omega

/-! ### at most 2 w - 2 -/
theorem mul_pw (c w : Nat) : c * 2 ^ (w + 1) = 2 * c * 2 ^ w := by rw [pw_succ, ← Nat.mul_assoc, Nat.mul_comm c 2]
theorem al (c w : Nat) : (c * 2 ^ w) % 2 ^ w = 0 := Nat.mul_mod_left _ _
theorem til_suf : ∀ (w c a : Nat), c * 2 ^ w ≤ a → a ≤ c * 2 ^ w + 2 ^ w → ∃ n, Til a (c * 2 ^ w + 2 ^ w) n ∧ (n ≤ w ∨ (a = c * 2 ^ w ∧ n = 1))
  | 0, c, a, h1, h2 => by
    rw [Nat.pow_zero, Nat.mul_one] at *
    by_cases e : a = c
    · subst e
      exact ⟨1, Til.one (j := 0) (by simp [Nat.mod_one]), .inr ⟨rfl, rfl⟩⟩
    · have e2 : a = c + 1 := by omega
      subst e2
      exact ⟨0, .nil _, .inl (Nat.le_refl _)⟩
  | w + 1, c, a, h1, h2 => by
    by_cases e : a = c * 2 ^ (w + 1)
    · subst e
      exact ⟨1, Til.one (al c (w + 1)), .inr ⟨rfl, rfl⟩⟩
    have e1 := mul_pw c w
    have e2 := pw_succ w
    have e3 : (2 * c + 1) * 2 ^ w = 2 * c * 2 ^ w + 2 ^ w := by rw [Nat.add_mul, Nat.one_mul]
    by_cases h : a ≤ 2 * c * 2 ^ w + 2 ^ w
    · obtain ⟨n, t, hn⟩ := til_suf w (2 * c) a (by omega) h
      have t2 : Til (2 * c * 2 ^ w + 2 ^ w) (2 * c * 2 ^ w + 2 ^ w + 2 ^ w) 1 := Til.one (by rw [← e3]; exact al _ _)
      have t3 := t.append t2
      refine ⟨n + 1, ?_, .inl (by omega)⟩
      rw [e1, e2, Nat.two_mul (2 ^ w), ← Nat.add_assoc]
      exact t3
    · obtain ⟨n, t, hn⟩ := til_suf w (2 * c + 1) a (by omega) (by omega)
      refine ⟨n, ?_, .inl (by omega)⟩
      rw [e3, Nat.add_assoc, ← Nat.two_mul (2 ^ w), ← e2, ← e1] at t
      exact t
theorem til_pre : ∀ (w c b : Nat), c * 2 ^ w ≤ b → b ≤ c * 2 ^ w + 2 ^ w → ∃ n, Til (c * 2 ^ w) b n ∧ (n ≤ w ∨ (b = c * 2 ^ w + 2 ^ w ∧ n = 1))
  | 0, c, b, h1, h2 => by
    rw [Nat.pow_zero, Nat.mul_one] at *
    by_cases e : b = c
    · subst e
      exact ⟨0, .nil _, .inl (Nat.le_refl _)⟩
    · have e2 : b = c + 1 := by omega
      subst e2
      exact ⟨1, Til.one (j := 0) (by simp [Nat.mod_one]), .inr ⟨rfl, rfl⟩⟩
  | w + 1, c, b, h1, h2 => by
    by_cases e : b = c * 2 ^ (w + 1) + 2 ^ (w + 1)
    · subst e
      exact ⟨1, Til.one (al c (w + 1)), .inr ⟨rfl, rfl⟩⟩
    have e1 := mul_pw c w
    have e2 := pw_succ w
    have e3 : (2 * c + 1) * 2 ^ w = 2 * c * 2 ^ w + 2 ^ w := by rw [Nat.add_mul, Nat.one_mul]
    by_cases h : b ≤ 2 * c * 2 ^ w + 2 ^ w
    · obtain ⟨n, t, hn⟩ := til_pre w (2 * c) b (by omega) h
      refine ⟨n, ?_, .inl (by omega)⟩
      rw [e1]
      exact t
    · obtain ⟨n, t, hn⟩ := til_pre w (2 * c + 1) b (by omega) (by omega)
      have t2 : Til (2 * c * 2 ^ w) (2 * c * 2 ^ w + 2 ^ w) 1 := Til.one (al _ _)
      rw [e3] at t
      have t3 := t2.append t
      refine ⟨1 + n, ?_, .inl (by omega)⟩
      rw [e1]
      exact t3
theorem til_all : ∀ (w c a b : Nat), c * 2 ^ w ≤ a → a < b → b ≤ c * 2 ^ w + 2 ^ w → ∃ n, Til a b n ∧ (n ≤ 1 ∨ n ≤ 2 * w - 2)
  | 0, c, a, b, h1, h2, h3 => by
    rw [Nat.pow_zero, Nat.mul_one] at *
    have e1 : a = c := by omega
    have e2 : b = a + 2 ^ 0 := by
      rw [Nat.pow_zero]
      omega
    rw [e2]
    exact ⟨1, Til.one (by simp [Nat.mod_one]), .inl (Nat.le_refl _)⟩
  | w + 1, c, a, b, h1, h2, h3 => by
    have e1 := mul_pw c w
    have e2 := pw_succ w
    have e3 : (2 * c + 1) * 2 ^ w = 2 * c * 2 ^ w + 2 ^ w := by rw [Nat.add_mul, Nat.one_mul]
    by_cases ca : b ≤ 2 * c * 2 ^ w + 2 ^ w
    · obtain ⟨n, t, hn⟩ := til_all w (2 * c) a b (by omega) h2 ca
      exact ⟨n, t, by omega⟩
    by_cases cb : 2 * c * 2 ^ w + 2 ^ w ≤ a
    · obtain ⟨n, t, hn⟩ := til_all w (2 * c + 1) a b (by omega) h2 (by omega)
      exact ⟨n, t, by omega⟩
    obtain ⟨n1, t1, hn1⟩ := til_suf w (2 * c) a (by omega) (by omega)
    obtain ⟨n2, t2, hn2⟩ := til_pre w (2 * c + 1) b (by omega) (by omega)
    rw [e3] at t2 hn2
    by_cases full : a = c * 2 ^ (w + 1) ∧ b = c * 2 ^ (w + 1) + 2 ^ (w + 1)
    · obtain ⟨fa, fb⟩ := full
      subst fa fb
      exact ⟨1, Til.one (al c (w + 1)), .inl (Nat.le_refl _)⟩
    have z1 : n1 ≠ 0 := fun z => by
      subst z
      have := t1.zero
      omega
    have z2 : n2 ≠ 0 := fun z => by
      subst z
      have := t2.zero
      omega
    exact ⟨n1 + n2, t1.append t2, by omega⟩
theorem blocks_many {lo hi w : Nat} (hw : hi < 2 ^ w) (hl : lo ≤ hi) : (blocks w hi lo).length ≤ 1 ∨ (blocks w hi lo).length ≤ 2 * w - 2 := by
  obtain ⟨n, t, hn⟩ := til_all w 0 lo (hi + 1) (by omega) (by omega) (by omega)
  have := til_fewest hw hl t
  omega

/-! ### the table of the fewest -/
def Val (lo w k j : Nat) : Prop := 2 ^ j ≤ k ∧ j ≤ w ∧ (lo + k) % 2 ^ j = 0
theorem al_sub {a j : Nat} (h : 2 ^ j ≤ a) (ha : a % 2 ^ j = 0) : (a - 2 ^ j) % 2 ^ j = 0 := by
  obtain ⟨c, e⟩ := Nat.dvd_of_mod_eq_zero ha
  rw [e]
  have : 2 ^ j * c - 2 ^ j = 2 ^ j * (c - 1) := by rw [Nat.mul_sub, Nat.mul_one]
  rw [this]
  exact Nat.mul_mod_right _ _
theorem al_add {a j : Nat} (ha : a % 2 ^ j = 0) : (a + 2 ^ j) % 2 ^ j = 0 := by rw [Nat.add_mod_right]; exact ha
theorem dp_low {lo hi w : Nat} (hw : hi < 2 ^ w) (hl : lo ≤ hi) {d : Nat → Nat} (hs : ∀ k, 0 < k → k ≤ hi + 1 - lo → ∃ j, Val lo w k j ∧ d k = d (k - 2 ^ j) + 1) :
    ∀ n k, k ≤ n → k ≤ hi + 1 - lo → below (heads w hi lo) (lo + k) ≤ d k
  | 0, k, h1, _ => by
    have e : k = 0 := by omega
    subst e
    rw [Nat.add_zero, below_lo hw hl]
    exact Nat.zero_le _
  | n + 1, k, h1, h2 => by
    by_cases c : k = 0
    · subst c
      rw [Nat.add_zero, below_lo hw hl]
      exact Nat.zero_le _
    obtain ⟨j, ⟨v1, v2, v3⟩, e⟩ := hs k (by omega) h2
    have hp := pw_pos j
    have ih := dp_low hw hl hs n (k - 2 ^ j) (by omega) (by omega)
    have e2 : lo + k = lo + (k - 2 ^ j) + 2 ^ j := by omega
    have q := below_block hw hl (a := lo + (k - 2 ^ j)) (m := j) ⟨by
      have e3 : lo + (k - 2 ^ j) = lo + k - 2 ^ j := by omega
      rw [e3]
      exact al_sub (by omega) v3, by omega, by omega⟩
    rw [e2]
    omega
theorem dp_high {lo hi w : Nat} {d : Nat → Nat} (hs : ∀ k, 0 < k → k ≤ hi + 1 - lo → ∀ j, Val lo w k j → d k ≤ d (k - 2 ^ j) + 1) :
    ∀ low, low ≤ hi + 1 → lo ≤ low → d (hi + 1 - lo) ≤ d (low - lo) + (blocks w hi low).length := by
  refine blocks_ind (w := w) (high := hi) (C := fun low => lo ≤ low → d (hi + 1 - lo) ≤ d (low - lo) + (blocks w hi low).length) (fun _ => Nat.le_add_right _ _) ?_
  intro low k h1 h2 h3 h4 h5 _ ih hlo
  have hp := pw_pos k
  have i := ih (by omega)
  rw [blocks_step h1, h3, List.length_cons]
  have q := hs (low + 2 ^ k - lo) (by omega) (by omega) k ⟨by omega, h2, by
    have e : lo + (low + 2 ^ k - lo) = low + 2 ^ k := by omega
    rw [e]
    exact al_add h4⟩
  have e : low + 2 ^ k - lo - 2 ^ k = low - lo := by omega
  rw [e] at q
  show d (hi + 1 - lo) ≤ d (low - lo) + ((blocks w hi (low + 2 ^ k)).length + 1)
  omega
theorem dp_eq {lo hi w : Nat} (hw : hi < 2 ^ w) (hl : lo ≤ hi) {d : Nat → Nat} (h0 : d 0 = 0)
    (hs : ∀ k, 0 < k → k ≤ hi + 1 - lo → (∃ j, Val lo w k j ∧ d k = d (k - 2 ^ j) + 1) ∧ ∀ j, Val lo w k j → d k ≤ d (k - 2 ^ j) + 1) : d (hi + 1 - lo) = (blocks w hi lo).length := by
  have a := dp_low hw hl (fun k p q => (hs k p q).1) _ (hi + 1 - lo) (Nat.le_refl _) (Nat.le_refl _)
  have b := dp_high (fun k p q => (hs k p q).2) lo (by omega) (Nat.le_refl _)
  have e : lo + (hi + 1 - lo) = hi + 1 := by omega
  rw [e, below_end hw hl] at a
  rw [Nat.sub_self, h0] at b
  omega

/-! ### the least level at which two words are alike -/
def lvl : Nat → Nat → Nat → Nat
  | 0, _, _ => 0
  | f + 1, a, b => if a = b then 0 else lvl f (a / 2) (b / 2) + 1
theorem lvl_ok : ∀ (f a b : Nat), a + b ≤ f → a / 2 ^ lvl f a b = b / 2 ^ lvl f a b ∧ ∀ t, t < lvl f a b → a / 2 ^ t ≠ b / 2 ^ t
  | 0, a, b, h => by
    have e1 : a = 0 := by omega
    have e2 : b = 0 := by omega
    subst e1 e2
    exact ⟨rfl, fun t ht => absurd ht (Nat.not_lt_zero _)⟩
  | f + 1, a, b, h => by
    unfold lvl
    by_cases e : a = b
    · rw [if_pos e]
      subst e
      exact ⟨rfl, fun t ht => absurd ht (Nat.not_lt_zero _)⟩
    · rw [if_neg e]
      obtain ⟨i1, i2⟩ := lvl_ok f (a / 2) (b / 2) (by omega)
      refine ⟨?_, fun t ht => ?_⟩
      · rw [pw_succ, ← Nat.div_div_eq_div_mul, ← Nat.div_div_eq_div_mul]
        exact i1
      · cases t with
        | zero => rw [Nat.pow_zero, Nat.div_one, Nat.div_one]; exact e
        | succ t =>
          rw [pw_succ, ← Nat.div_div_eq_div_mul, ← Nat.div_div_eq_div_mul]
          exact i2 t (by omega)
def lv (a b : Nat) : Nat := lvl (a + b) a b
theorem lv_same (a b : Nat) : a / 2 ^ lv a b = b / 2 ^ lv a b := (lvl_ok _ a b (Nat.le_refl _)).1
theorem lv_other (a b : Nat) {t : Nat} (h : t < lv a b) : a / 2 ^ t ≠ b / 2 ^ t := (lvl_ok _ a b (Nat.le_refl _)).2 t h
/-- whether no block within the range holds both -/
def parted (lo hi a b : Nat) : Bool := decide (a / 2 ^ lv a b * 2 ^ lv a b < lo) || decide (hi < a / 2 ^ lv a b * 2 ^ lv a b + 2 ^ lv a b - 1)
theorem parted_of {lo hi a b : Nat} (h : ∀ c m, Win lo hi c m → c ≤ a → a < c + 2 ^ m → c ≤ b → b < c + 2 ^ m → False) : parted lo hi a b = true := by
  unfold parted
  have hp := pw_pos (lv a b)
  by_cases h1 : a / 2 ^ lv a b * 2 ^ lv a b < lo
  · rw [decide_eq_true h1]
    rfl
  by_cases h2 : hi < a / 2 ^ lv a b * 2 ^ lv a b + 2 ^ lv a b - 1
  · rw [decide_eq_true h2, Bool.or_true]
  exfalso
  have m1 := Nat.div_add_mod a (2 ^ lv a b)
  have m2 := Nat.div_add_mod b (2 ^ lv a b)
  have l1 := Nat.mod_lt a hp
  have l2 := Nat.mod_lt b hp
  rw [Nat.mul_comm] at m1 m2
  rw [← lv_same a b] at m2
  exact h (a / 2 ^ lv a b * 2 ^ lv a b) (lv a b) ⟨al _ _, by omega, by omega⟩ (by omega) (by omega) (by omega) (by omega)
/-- ascending, no two next ones in one block within the range -/
def asc (lo hi : Nat) : List Nat → Bool
  | x :: y :: r => (decide (x < y) && parted lo hi x y) && asc lo hi (y :: r)
  | _ => true
theorem asc_of {lo hi : Nat} : ∀ {l : List Nat}, l.Pairwise (fun x y => x < y ∧ parted lo hi x y = true) → asc lo hi l = true
  | [], _ => rfl
  | [_], _ => rfl
  | x :: y :: r, h => by
    obtain ⟨h1, h2⟩ := List.pairwise_cons.mp h
    obtain ⟨a, b⟩ := h1 y List.mem_cons_self
    unfold asc
    rw [decide_eq_true a, b, asc_of h2]
    rfl
/-- the first words of the blocks are marks -/
theorem heads_marks {lo hi w : Nat} (hw : hi < 2 ^ w) (hl : lo ≤ hi) : asc lo hi (heads w hi lo) = true := by
  refine asc_of (List.Pairwise.imp_of_mem (fun {x y} hx hy hxy => ⟨hxy, ?_⟩) (heads_asc hw hl))
  exact parted_of fun c m hW h1 _ _ h4 => heads_apart (heads_hd hw hl hy).2.2 hxy hW h1 h4
end K30

/-! K30: rules beside the layer's own: calls by keywords alone, repr of data, set of a list of ints. -/
namespace K30
open PySem PySem.Spec PyProof.Rows L2

/-! ### heaps -/
theorem same_new {H : Hp} {p : Addr} {o : HO} (h : H p = none) : Same H (upd H p o) := fun b x e =>
  (upd_ne (ne_of_none e h)).trans e
/-- all but what stands at J is as it was -/
def SameJ (J : Addr) (H H' : Hp) : Prop := ∀ b o, b ≠ J → H b = some o → H' b = some o
theorem SameJ.of {J : Addr} {H H' : Hp} (h : Same H H') : SameJ J H H' := fun b o _ e => h b o e
theorem SameJ.refl (J : Addr) (H : Hp) : SameJ J H H := fun _ _ _ e => e
theorem SameJ.trans {J : Addr} {H H1 H2 : Hp} (a : SameJ J H H1) (b : SameJ J H1 H2) : SameJ J H H2 := fun c o n e => b c o n (a c o n e)
theorem SameJ.upd {J : Addr} {H : Hp} (o : HO) : SameJ J H (upd H J o) := fun _ _ n e => (upd_ne n).trans e

/-! ### defs that are called where no guard of repr is on the stack -/
structure FnG (P : Program) (w : World) (K : PySem.W.Frag) (mg : Str → Option Value) (base : Heap) (CX : CXT) (k : Nat) (f : Addr) (fd : FuncData) (ps : List Str) (sp : Sp) : Prop where
  len : ∀ vs H Q E, sp vs H Q E → vs.length = ps.length
  go : ∀ (A : Around) (outer : List Env) (s : Shared) (H : Hp) (args : Args) (us : List Value) (vs : List V) (Q : VK) (E : XK), A.guards = some [] → Room k A → Env0 P w K mg base A outer s H →
    BindsTo s fd args (ps.zip us) → Vals vs us → sp vs H Q E → codeAny (model P w) A (.call (.ref f) args) (CR CX outer P w H s Q E) s
section
variable {P : Program} {w : World} {K : PySem.W.Frag} {mg : Str → Option Value} {base : Heap}
theorem FnG.of {CX : CXT} {k : Nat} {f : Addr} {fd : FuncData} {ps : List Str} {sp : Sp} (F : FnOk P w K mg base CX k f fd ps sp) : FnG P w K mg base CX k f fd ps sp :=
  ⟨F.len, fun A outer s H args us vs Q E _ r e b v q => F.run A outer s H args us vs Q E r e b v q⟩
/-- the rule for such a def: its body may lean on the guards -/
theorem fun_okG {x qual : Str} {st : Stmt} {f : Addr} {fd : FuncData} {N ps : List Str} {k : Nat} {sp : Sp} (F : Fun K x qual st f fd) (S : FnScope N ps (defScope st)) (len : ∀ vs H Q E, sp vs H Q E → vs.length = ps.length)
    (body : ∀ (cdv : Value) (A : Around) (outer : List Env) (s : Shared) (H : Hp) (vs : List V) (Q : VK) (E : XK), A.guards = some [] → Room k (A.deeper (envOfC qual (defScope st) s.heap.objs.size f cdv)) → sp vs H Q E →
      ∃ t, PSs (cxOf CX0 P w K mg base N qual (defScope st) f cdv A outer s H E).nox (defBody st) t ∧ t { nx := fun _ H' => Q .non H', rt := Q } (start N vs) H) : FnG P w K mg base CX0 (k + 1) f fd ps sp := by
  obtain ⟨_, _, kV, dc, pm, an, cdv, ct, _, rfl, lk, hc⟩ := F.ex
  refine ⟨len, fun A outer s H args us vs Q E gd hr e0 hb rv hsp => ?_⟩
  have lv := len _ _ _ _ hsp
  have KX : K.In s.heap := e0.mod.kin.keeps fun b o z => (e0.bs b o z).1
  have nl : s.heap.NoLimit := e0.mod.nolimit.keeps fun b o z => (e0.bs b o z).1
  have par : ∀ y ∈ ps.zip us, (defScope st).names.lookup y.1 = some .local ∨ ((defScope st).names.lookup y.1 = some .cell ∧ ((cellsFrom (s.heap.objs.size + 1) (defScope st).names []).lookup y.1).isSome = true) := by
    rintro ⟨n, v⟩ hy
    rcases S.par n (List.of_mem_zip hy).1 with z | z
    · exact .inl z
    · exact .inr ⟨z, PySem.W.cellsFrom_some _ _ _ (.inl z)⟩
  refine codeAny_call_function hr.depth (KX _ _ lk) rfl S.co S.gen rfl (PySem.W.codeRec_of KX hc) (hb _ _ _ _ (wpAny_newFunctionEnv_cells S.kind par fun env he s1 x => ?_))
  subst he
  refine ⟨nl.keeps x.toInCall.keep, codeAny_func ?_⟩
  obtain ⟨t, ht, hq⟩ := body cdv A outer s H vs Q E gd (hr.deeper _) hsp
  have I0 := inv_start (CX := CX0) (E := E) S hr.hd e0 lv rv x
  have fin : ∀ {σ' : L2.St} {H' : Hp} {v : V} {u : Value} {s' : Shared}, Inv (cxOf CX0 P w K mg base N qual (defScope st) f cdv A outer s H E) [] σ' H' s' → RelV v u → Q v H' → CE outer P w H s Q u s' :=
    fun J r q => ⟨_, _, J.os, J.bare, J.base, J.hok, r, q⟩
  refine wpAny_mono (ht.nox.run [] s1 (start N vs) H _ I0 hq) (fun fl s' hs => ?_) fun _ _ z => z
  cases fl with
  | next => exact let ⟨_, _, J, q⟩ := hs; fin (v := .non) (u := Value.none) J rfl q
  | ret u => exact let ⟨_, _, _, J, r, q⟩ := hs; fin J r q
  | brk => exact let ⟨_, _, _, q⟩ := hs; q.elim
  | cont => exact let ⟨_, _, _, q⟩ := hs; q.elim
end
section
variable {X : Cx} {CX : CXT} {k : Nat} {f : Addr} {fd : FuncData} {ps ks : List Str} {sp : Sp} {E : XK} {x : Str} {p pos : Pos} {e : Expr} {es : List Expr} {kws : List Keyword} {t tk : TA} {g : List Value → List Value → List Value} {gV : List V → List V → List V}
/-- f(e, ..) of such a def -/
theorem pe_callG (F : FnG X.prog X.w X.K X.mg X.base CX k f fd ps sp) (gd : X.A.guards = some []) (hr : Room k X.A) (hg : Gl X x) (hm : X.mg x = some (.ref f)) (hk : PySem.W.keepIn X.K (.ref f) = true) (hb : Binds X.K fd ps []) (hx : Passes CX X E)
    (ha : PA X (e :: es) t) (hdb : (x == ("__debug__" : Str)) = false := by decide) (he : starEach (e :: es) X.env = (false, eval e X.env) :: starEach es X.env := by rfl) (hpl : (backTo pos (starEach es X.env)).any (·.1) = false := by rfl) :
    PE X (.Call (.Name x p) (e :: es) [] pos) (tCall sp [] E t) := by
  constructor
  intro pins s σ H Q I h
  refine wpAny_Call_Name_kw (ld_glob I hg hm (PySem.W.callWith_K (h₀ := X.base) I.ok.mod.kin hk ?_ he hpl) hdb)
  refine thn (ha.run pos pins s σ H _ I h) fun us s1 hq => ?_
  obtain ⟨vs, H1, I1, r, q⟩ := hq
  refine ⟨I1.kIn, ?_⟩
  rw [List.append_nil] at q
  have lu : us.length = ps.length := by rw [← r.length]; exact F.len _ _ _ _ q
  have bd : BindsTo s1 fd ⟨us, []⟩ (ps.zip us) := by
    have z := hb s1 us I1.kIn (by rw [List.append_nil]; exact lu)
    rwa [List.append_nil] at z
  refine wpAny_call (codeAny_mono (F.go X.A X.stack s1 H1 ⟨us, []⟩ us vs Q E gd hr I1.env0 bd r q) fun o s' ho => ?_)
  rcases o with er | fl
  · exact hx pins σ H1 s1 er s' I1 ho
  · rcases fl with _ | u | _ | _ <;> first | exact I1.after ho | exact False.elim ho

/-! ### f(k = v, ..): keywords alone -/
theorem pe_callKw (F : FnOk X.prog X.w X.K X.mg X.base CX k f fd ps sp) (hr : Room k X.A) (hg : Gl X x) (hm : X.mg x = some (.ref f)) (hk : PySem.W.keepIn X.K (.ref f) = true)
    (hb : ∀ (s : Shared) (ws : List Value), ws.length = ks.length → BindsTo s fd ⟨[], ks.zip ws⟩ (ps.zip (g [] ws))) (hrel : ∀ {zs : List V} {ws : List Value}, Vals zs ws → Vals (gV [] zs) (g [] ws)) (hx : Passes CX X E)
    (hkw : PK X kws tk) (hall : (backToKw pos (keywordEach kws X.env)).all (·.1.isSome) = true := by rfl) (hks : (backToKw pos (keywordEach kws X.env)).filterMap (·.1) = ks := by rfl)
    (hdb : (x == ("__debug__" : Str)) = false := by decide) (hpl : ((backTo pos (starEach [] X.env)).any (·.1) || (backToKw pos (keywordEach kws X.env)).any (·.1.isNone)) = false := by rfl) :
    PE X (.Call (.Name x p) [] kws pos) (fun σ H Q => tk σ H fun zs H2 => zs.length = ks.length ∧ sp (gV [] zs) H2 Q E) := by
  constructor
  intro pins s σ H Q I h
  refine wpAny_Call_Name_kw (ld_glob I hg hm (PySem.W.callWith_KW0 (h₀ := X.base) I.ok.mod.kin hk hall ?_ hpl) hdb)
  refine thn (hkw.run pos pins s σ H _ I h) fun ws s2 hq => ?_
  obtain ⟨zs, H2, I2, rz, lz, q⟩ := hq
  refine ⟨I2.kIn, ?_⟩
  rw [hks]
  refine wpAny_call (codeAny_mono (F.run X.A X.stack s2 H2 ⟨[], ks.zip ws⟩ (g [] ws) (gV [] zs) Q E hr I2.env0 (hb s2 ws (rz.length.symm.trans lz)) (hrel rz) q) fun o s' ho => ?_)
  rcases o with er | fl
  · exact hx pins σ H2 s2 er s' I2 ho
  · rcases fl with _ | u | _ | _ <;> first | exact I2.after ho | exact False.elim ho
end

/-! ### repr of data -/
def rRepr (K : PySem.W.Frag) : List V → Hp → VK → Prop := fun xs H Q => ∃ (a : Addr) (d : PyData), xs = [.ref a] ∧ Dp K H (.ref a) d ∧ d.showable = true ∧ d.hasDict = false ∧ d.depth ≤ 10 ∧ d.shown.length ≤ sizeLine ∧ Q (.str d.shown) H
theorem call_repr {X : Cx} (gd : X.A.guards = some []) (hu : X.A.units + 64 < cLine) : CallR X (.builtin "repr") (rRepr X.K) := by
  intro pins s σ H xs us Q I r h
  obtain ⟨a, d, rfl, hd, hs, hn, hdep, hz, q⟩ := h
  rw [Vals.ref1 r]
  obtain ⟨as, hr⟩ := Dp.reads I d _ _ hd (show RelV (.ref a) (Value.ref a) from rfl)
  refine repr_of_reads' hr hs (PyData.noDict_hsm hn) gd (by omega) (fun _ _ e => e) (fun h' u tk hk => ?_) hz
  exact ⟨.str d.shown, H, I.kept hk, ⟨u, rfl⟩, q⟩
end K30

/-! K30: set of a list of ints, in the form that sorted asks for. -/
namespace K30
open PySem PySem.Spec PyProof.Rows L2

/-- a set as it is made, nothing in it -/
abbrev set0 (w : World) : Obj := { cls := .type "set", dict := none, data := .set #[] 0 (.fresh 0 0 (!w.params.followText "set-order")) }
/-- what stands behind set.__init__ of a list of ints -/
def AfterInit (w : World) (s : Shared) (ns : List Int) (r : Value) (s2 : Shared) : Prop :=
  r = .none ∧ ∃ (hp : Heap) (tk c : Nat), s2 = { s with heap := hp, toks := tk } ∧ SetR w hp s.heap.objs.size (fun j => decide (j ∈ ns)) c ∧ c ≤ ns.length ∧ ∀ b o, s.heap.get? b = some o → hp.get? b = some o
section
variable {P : Program} {w : World} {A : Around} {E : Value → Shared → Prop} {s : Shared}
/-- the init itself, from a heap that ends with the new set -/
theorem set_init_list {l : Addr} {items : Array Value} {ns : List Int} (hh : A.handled = none) (hl : s.heap.IsList l items) (hi : IntsAre items.toList ns) (hb : ns.length + 1 < scanBound) :
    codeAny (model P w) A (.call (.builtin "set.__init__") ⟨[.ref s.heap.objs.size, .ref l], []⟩) (wants (AfterInit w s ns) E) { s with heap := s.heap.push (set0 w) } := by
  have len : items.size = ns.length := by
    have z := IntsAre.length hi
    rwa [Array.length_toList] at z
  have at0 : (s.heap.push (set0 w)).get? s.heap.objs.size = some (set0 w) := Heap.get?_push_size _ rfl
  have isS : Shared.TypeIs { s with heap := s.heap.push (set0 w) } (.ref s.heap.objs.size) "set" := ⟨_, at0, rfl⟩
  refine codeAny_call_builtin F.called_set.init.plain F.entry_set_init (check_set_init_1 isS ?_)
  obtain ⟨⟨c0, d0, t0, sl0⟩, e0, ec, nl, ed⟩ := hl
  dsimp only at ec ed
  subst ec ed
  have e1 : (s.heap.push (set0 w)).get? l = some { cls := .type "list", dict := d0, data := .seq items nl, slots := sl0 } := Heap.get?_push_of_some _ e0
  have L1 : (s.heap.push (set0 w)).IsList l items := ⟨_, e1, rfl, nl, rfl⟩
  have f1 := F.sub_list_set
  have f2 := F.sub_list_frozenset
  have f3 : (Value.type "list" == Value.type "dict") = false := by decide
  unfold Builtin.«set.__init__» noKeywords Builtin.Frozenset.updateFrom
  generalize hPI : pyIter = PI
  wp_walk
  subst hPI
  have lt0 : l < s.heap.objs.size := Heap.lt_size e0
  have sz1 : (s.heap.push (set0 w)).objs.size = s.heap.objs.size + 1 := Heap.size_push ..
  refine wpAny_pyIter_list L1 (wpAny_bind (wpAny_runValue ?_))
  have hd3 : A.in1.in1.handled = none := hh
  have lne : l ≠ (s.heap.push (set0 w)).objs.size := by rw [sz1]; exact Nat.ne_of_lt (Nat.lt_succ_of_lt lt0)
  have apart : s.heap.objs.size ∉ [(s.heap.push (set0 w)).objs.size, l] := by
    rw [sz1]
    intro z
    rcases List.mem_cons.mp z with z | z
    · exact absurd z (Nat.ne_of_lt (Nat.lt_succ_self _))
    · exact absurd (List.mem_singleton.mp z) (Nat.ne_of_gt lt0)
  have vals : ∀ (i : Nat) (v : Value), items[i]? = some v → ∃ k t, ns[i]? = some k ∧ v = .int k t := fun i v hv => by
    have lt : i < ns.length := len ▸ (Array.getElem?_eq_some_iff.mp hv).1
    obtain ⟨t, z⟩ := IntsAre.int_at hi i v (by rw [Array.getElem?_toList]; exact hv)
    exact ⟨ns[i], t, List.getElem?_eq_getElem lt, by rw [z, List.getD_eq_getElem?_getD, List.getElem?_eq_getElem lt, Option.getD_some]⟩
  refine set_update_ints ((Walks.list hd3 _ l lne items).toS) s.heap.objs.size apart ns len hb vals (items.size - 0) 0 _ (by omega) (Nat.zero_le _)
    ?it ?start fun s2 c hm hc hS => ?_
  case it => exact ⟨⟨_, Heap.get?_push_size _ rfl, rfl, rfl⟩, L1.push _⟩
  case start =>
    exact ⟨0, Nat.le_refl 0, setR_new_at (Heap.get?_push_of_some _ at0)⟩
  obtain ⟨h2, g2, d2, tk, o2⟩ := s2
  obtain rfl : g2 = s.gens := hm.gens
  obtain rfl : d2 = s.drawn := hm.drawn
  obtain rfl : o2 = s.os := hm.os
  show wpAny _ _ _ _ _ _
  refine wpAny_pure ?_
  show wpAny _ _ (ret Value.none) _ _ _
  refine wpAny_pure ⟨rfl, h2, tk, c, rfl, hS, len ▸ hc, fun b o e => ?_⟩
  have lb : b < s.heap.objs.size := Heap.lt_size e
  refine hm.heap b o (fun z => ?_) (Heap.get?_push_of_some _ (Heap.get?_push_of_some _ e))
  rcases List.mem_cons.mp z with z | z
  · exact absurd z (Nat.ne_of_lt lb)
  · rw [List.mem_singleton.mp z, sz1] at lb
    exact absurd lb (Nat.not_lt.mpr (Nat.le_succ _))
/-- set(l) -/
theorem call_set_lstI {l : Addr} {items : Array Value} {ns : List Int} {Q : Value → Shared → Prop} (hh : A.handled = none) (hl : s.heap.IsList l items) (hi : IntsAre items.toList ns) (hb : ns.length + 1 < scanBound)
    (h : ∀ (hp : Heap) (tk c : Nat), SetR w hp s.heap.objs.size (fun j => decide (j ∈ ns)) c → c ≤ ns.length → (∀ b o, s.heap.get? b = some o → hp.get? b = some o) → Q (.ref s.heap.objs.size) { s with heap := hp, toks := tk }) :
    wpAny (model P w) A (call (.type "set") [.ref l]) Q E s := by
  have a1 := F.called_set.notType
  have a2 := F.called_set.canCreate
  have a3 := F.typeCall_set_1 (.ref l)
  have a4 := F.called_set.made
  have a5 := F.called_set.sub
  obtain ⟨c, tl, a6⟩ := F.called_set.mro
  refine wpAny_call (codeAny_of_tree ?_)
  show wpAny _ _ (callAny (.type "set") _) _ _ _
  refine wpAny_pure ⟨Code.quiet_builtin _ (by decide +kernel), codeAny_builtin F.entry_type_call ?_⟩
  rw [Around.under_plain (weight_type_call_type "set" [.ref l] []) rfl]
  repeat (any_goals (first | wp_step | assumption))
  refine codeAny_mono (code_set_led1 (.ref l) (E := E) (Q₁ := fun ob s1 => ob = .ref s.heap.objs.size ∧ s1 = { s with heap := s.heap.push (set0 w) }) ⟨rfl, rfl⟩) fun r s1 hr => ?_
  rcases r with er | fl
  · exact hr
  cases fl with
  | ret ob =>
    obtain ⟨rfl, rfl⟩ := hr
    have b1 := F.called_set.init.lookup
    have b2 := F.called_set.init.bind (.ref s.heap.objs.size)
    have b3 : Shared.TypeIs { s with heap := s.heap.push (set0 w) } (.ref s.heap.objs.size) "set" := ⟨_, Heap.get?_push_size _ rfl, rfl⟩
    repeat (any_goals (first | wp_step | assumption))
    refine codeAny_mono (set_init_list (E := E) (by first | exact hh | simp [hh]) hl hi hb) fun r2 s2 hr2 => ?_
    rcases r2 with er | fl2
    · exact hr2
    cases fl2 with
    | ret r3 =>
      obtain ⟨rfl, hp, tk, c, rfl, hS, hc, hk⟩ := hr2
      repeat (any_goals (first | wp_step | assumption))
      exact h _ _ _ hS hc hk
    | _ => exact hr2.elim
  | _ => exact hr.elim
end
/-- set(l): a new set of l's ints -/
def rSetL (K : PySem.W.Frag) (w : World) : List V → Hp → VK → Prop := fun xs H Q => ∃ (l : Addr) (ns : List Int), xs = [.ref l] ∧ SqL K H l (ns.map V.int) ∧ ns.length ≤ 1000 ∧
  ∀ p c, H p = none → c ≤ ns.length → Q (.ref p) (upd H p (SetO w p (fun j => decide (j ∈ ns)) c))
theorem cr_setL {X : Cx} (hc : X.calm = true) : CallR X (.type "set") (rSetL X.K X.w) := by
  intro pins s σ H xs us Q I r h
  obtain ⟨l, ns, rfl, hq, hz, q⟩ := h
  rw [Vals.ref1 r]
  obtain ⟨its, rv, pl, _⟩ := I.list hq
  refine call_set_lstI (I.ok.hd hc) pl.isList (by simpa using rv.ints) (by unfold scanBound; omega) fun hp tk c hS hcn k => ?_
  have free := I.hok.fresh (Nat.le_refl s.heap.objs.size)
  exact ⟨.ref s.heap.objs.size, _, I.laid (t' := tk) k (Nat.le_refl _) (setO_new hS), rfl, q _ c free hcn⟩
end K30

/-! K30: the text by its places; values of any kind. -/
namespace K30
open PySem PySem.Spec PyProof.Rows L2

/-! ### the text -/
def topS (i : Nat) : Stmt := PySem.Challenge.pw_switchstages_k30_whole_fewest_prefixes_a.main.body.getD i (.Pass ⟨0, 0, 0, 0⟩)
abbrev sWhole : Stmt := topS 5
abbrev sBetween : Stmt := topS 6
abbrev sPrefBy : Stmt := topS 8
abbrev sParted : Stmt := topS 9
abbrev sMarksBy : Stmt := topS 10
abbrev sCheck : Stmt := topS 13
abbrev sPrefOf : Stmt := topS 14
abbrev sMarks : Stmt := topS 15
abbrev sJar : Stmt := topS 17
abbrev sDraw : Stmt := topS 18
abbrev sOf : Stmt := topS 19
abbrev sSame : Stmt := topS 20
abbrev sLWhole : Stmt := topS 21
abbrev sTop : Stmt := topS 22
abbrev sOdd : Stmt := topS 23
abbrev sBent : Stmt := topS 24
abbrev sRange : Stmt := topS 25
abbrev sBlocks : Stmt := topS 26
abbrev sFewest : Stmt := topS 27
abbrev sLMarks : Stmt := topS 28
abbrev sThings : Stmt := topS 29
abbrev sAreRight : Stmt := topS 30
abbrev sRight : Stmt := topS 31
abbrev sLaw : Stmt := topS 32

theorem b_int : bootBuiltins "int" = some (.type "int") := by decide +kernel
theorem b_bool : bootBuiltins "bool" = some (.type "bool") := by decide +kernel
theorem b_tuple : bootBuiltins "tuple" = some (.type "tuple") := by decide +kernel
theorem b_list : bootBuiltins "list" = some (.type "list") := by decide +kernel
theorem b_set : bootBuiltins "set" = some (.type "set") := by decide +kernel
theorem b_all : bootBuiltins "all" = some (.builtin "all") := by decide +kernel
theorem b_len : bootBuiltins "len" = some (.builtin "len") := by decide +kernel
theorem b_abs : bootBuiltins "abs" = some (.builtin "abs") := by decide +kernel
theorem b_divmod : bootBuiltins "divmod" = some (.builtin "divmod") := by decide +kernel
theorem b_repr : bootBuiltins "repr" = some (.builtin "repr") := by decide +kernel
theorem b_min : bootBuiltins "min" = some (.builtin "min") := by decide +kernel
theorem b_max : bootBuiltins "max" = some (.builtin "max") := by decide +kernel
theorem b_sorted : bootBuiltins "sorted" = some (.builtin "sorted") := by decide +kernel
/-- the built-in names that the text leaves as they are -/
structure Bt (mg : Str → Option Value) : Prop where
  isi : mg "isinstance" = none
  int : mg "int" = none
  bool : mg "bool" = none
  tuple : mg "tuple" = none
  all : mg "all" = none
  zip : mg "zip" = none
  len : mg "len" = none
  abs : mg "abs" = none
  divmod : mg "divmod" = none
  repr : mg "repr" = none
  range : mg "range" = none
  list : mg "list" = none
  min : mg "min" = none
  max : mg "max" = none
  sorted : mg "sorted" = none
  set : mg "set" = none

/-! ### things of any kind -/
inductive Item (H : Hp) : V → Prop
  | non : Item H .non
  | bl (b : Bool) : Item H (.bl b)
  | int (i : Int) : Item H (.int i)
  | str (x : Str) : Item H (.str x)
  | lst {a : Addr} {xs : List V} (h : H a = some (.lst xs)) : Item H (.ref a)
  | tup {a : Addr} {xs : List V} (h : H a = some (.tup xs)) : Item H (.ref a)
  | dct {a : Addr} {xs : List (Key × V)} (h : H a = some (.dK xs)) : Item H (.ref a)
def intV : V → Bool
  | .int _ => true
  | .bl _ => true
  | _ => false
def boolV : V → Bool
  | .bl _ => true
  | _ => false
def wholeV : V → Bool
  | .int _ => true
  | _ => false
/-- what stands in a tuple, where it is one -/
def tupOf (H : Hp) : V → Option (List V)
  | .ref a => match H a with
    | some (.tup xs) => some xs
    | _ => none
  | _ => none
theorem tupOf_tup {H : Hp} {a : Addr} {xs : List V} (h : H a = some (.tup xs)) : tupOf H (.ref a) = some xs := by
  unfold tupOf
  dsimp only
  rw [h]
theorem of_tupOf {H : Hp} {x : V} {xs : List V} (h : tupOf H x = some xs) : ∃ a, x = .ref a ∧ H a = some (.tup xs) := by
  unfold tupOf at h
  split at h
  · rename_i a
    split at h
    · rename_i ys e
      cases h
      exact ⟨a, rfl, e⟩
    · cases h
  · cases h
section
variable {K : PySem.W.Frag} {H H' : Hp} {x : V} {Q : VK}
theorem Item.same (h : Item H x) (s : Same H H') : Item H' x := by
  cases h with
  | non => exact .non
  | bl b => exact .bl b
  | int i => exact .int i
  | str z => exact .str z
  | lst e => exact .lst (s _ _ e)
  | tup e => exact .tup (s _ _ e)
  | dct e => exact .dct (s _ _ e)
theorem tupOf_same (h : Item H x) (s : Same H H') : tupOf H' x = tupOf H x := by
  cases h with
  | lst e => unfold tupOf; dsimp only; rw [e, s _ _ e]
  | tup e => rw [tupOf_tup e, tupOf_tup (s _ _ e)]
  | dct e => unfold tupOf; dsimp only; rw [e, s _ _ e]
  | _ => rfl
theorem isi_int (h : Item H x) (q : Q (.bl (intV x)) H) : rIsi K [x, .ty "int"] H Q := by
  cases h with
  | non => exact ⟨_, _, _, _, _, rfl, .ty "int", .base .non, kit_ty (r := false) (by decide +kernel), q⟩
  | bl b => exact ⟨_, _, _, _, _, rfl, .ty "int", .base (.bl b), kit_ty (r := true) (by decide +kernel), q⟩
  | int i => exact ⟨_, _, _, _, _, rfl, .ty "int", .base (.int i), kit_ty (r := true) (by decide +kernel), q⟩
  | str z => exact ⟨_, _, _, _, _, rfl, .ty "int", .base (.str z), kit_ty (r := false) (by decide +kernel), q⟩
  | lst e => exact ⟨_, _, _, _, _, rfl, .ty "int", .base (.lst e), kit_ty (r := false) (by decide +kernel), q⟩
  | tup e => exact ⟨_, _, _, _, _, rfl, .ty "int", .base (.tup e), kit_ty (r := false) (by decide +kernel), q⟩
  | dct e => exact ⟨_, _, _, _, _, rfl, .ty "int", .base (.dK e), kit_ty (r := false) (by decide +kernel), q⟩
theorem isi_bool (h : Item H x) (q : Q (.bl (boolV x)) H) : rIsi K [x, .ty "bool"] H Q := by
  cases h with
  | non => exact ⟨_, _, _, _, _, rfl, .ty "bool", .base .non, kit_ty (r := false) (by decide +kernel), q⟩
  | bl b => exact ⟨_, _, _, _, _, rfl, .ty "bool", .base (.bl b), kit_ty (r := true) (by decide +kernel), q⟩
  | int i => exact ⟨_, _, _, _, _, rfl, .ty "bool", .base (.int i), kit_ty (r := false) (by decide +kernel), q⟩
  | str z => exact ⟨_, _, _, _, _, rfl, .ty "bool", .base (.str z), kit_ty (r := false) (by decide +kernel), q⟩
  | lst e => exact ⟨_, _, _, _, _, rfl, .ty "bool", .base (.lst e), kit_ty (r := false) (by decide +kernel), q⟩
  | tup e => exact ⟨_, _, _, _, _, rfl, .ty "bool", .base (.tup e), kit_ty (r := false) (by decide +kernel), q⟩
  | dct e => exact ⟨_, _, _, _, _, rfl, .ty "bool", .base (.dK e), kit_ty (r := false) (by decide +kernel), q⟩
theorem isi_tuple (h : Item H x) (q : Q (.bl (tupOf H x).isSome) H) : rIsi K [x, .ty "tuple"] H Q := by
  cases h with
  | non => exact ⟨_, _, _, _, _, rfl, .ty "tuple", .base .non, kit_ty (r := false) (by decide +kernel), q⟩
  | bl b => exact ⟨_, _, _, _, _, rfl, .ty "tuple", .base (.bl b), kit_ty (r := false) (by decide +kernel), q⟩
  | int i => exact ⟨_, _, _, _, _, rfl, .ty "tuple", .base (.int i), kit_ty (r := false) (by decide +kernel), q⟩
  | str z => exact ⟨_, _, _, _, _, rfl, .ty "tuple", .base (.str z), kit_ty (r := false) (by decide +kernel), q⟩
  | lst e =>
    unfold tupOf at q
    dsimp only at q
    rw [e] at q
    exact ⟨_, _, _, _, _, rfl, .ty "tuple", .base (.lst e), kit_ty (r := false) (by decide +kernel), q⟩
  | tup e =>
    rw [tupOf_tup e] at q
    exact ⟨_, _, _, _, _, rfl, .ty "tuple", .base (.tup e), kit_ty (r := true) (by decide +kernel), q⟩
  | dct e =>
    unfold tupOf at q
    dsimp only at q
    rw [e] at q
    exact ⟨_, _, _, _, _, rfl, .ty "tuple", .base (.dK e), kit_ty (r := false) (by decide +kernel), q⟩
end
/-- a built-in class as a value, isinstance of it -/
theorem pe_isi {X : Cx} {e : Expr} {te : TE} {c : Str} {n : String} {p q pos : Pos} (hg : Gl X "isinstance") (hm : X.mg "isinstance" = none) (he : PE X e te) (hc : Gl X c) (mc : X.mg c = none) (hv : bootBuiltins c = some (.type n))
    (hn : c ≠ "__name__" := by decide) (hd : (c == ("__debug__" : Str)) = false := by decide)
    (h1 : starEach [e, .Name c q] X.env = (false, eval e X.env) :: starEach [.Name c q] X.env := by rfl) (h2 : starEach [.Name c q] X.env = (false, eval (.Name c q) X.env) :: starEach [] X.env := by rfl)
    (hpl : (backTo pos (starEach [.Name c q] X.env)).any (·.1) = false := by rfl) : PE X (.Call (.Name "isinstance" p) [e, .Name c q] [] pos) (fun σ H Q => te σ H fun x H1 => rIsi X.K [x, .ty n] H1 Q) :=
  pe_callB call_isi hg hm (by decide +kernel) (pa_cons he (pa_cons (pe_bltn (v := .ty n) hc mc hv rfl hn hd) pa_nil h2) h1) (by decide) (by decide) h1 hpl
end K30

/-! K30: is_whole, is_between. -/
namespace K30
open PySem PySem.Spec PyProof.Rows L2

theorem scWhole : FnScope ["value"] ["value"] (defScope sWhole) := ⟨rfl, rfl, rfl, by decide +kernel, rfl, by decide +kernel, by decide +kernel⟩
theorem scBetween : FnScope ["value", "low", "high"] ["value", "low", "high"] (defScope sBetween) := ⟨rfl, rfl, rfl, by decide +kernel, rfl, by decide +kernel, by decide +kernel⟩
section
variable {P : Program} {w : World} {K : PySem.W.Frag} {mg : Str → Option Value} {base : Heap}
/-! ### is_whole -/
def spWhole : Sp := fun vs H Q _ => ∃ x, vs = [x] ∧ Item H x ∧ Q (.bl (wholeV x)) H
theorem ok_whole {f : Addr} {fd : FuncData} {k : Nat} (F : Fun K "is_whole" "is_whole" sWhole f fd) (B : Bt mg) : FnOk P w K mg base CX0 (k + 1) f fd ["value"] spWhole := by
  refine F.ok scWhole (fun vs H Q E h => ?_) (fun cdv A outer s H vs Q E hr h => ?_)
  · obtain ⟨x, rfl, _⟩ := h
    rfl
  · obtain ⟨x, rfl, hi, q⟩ := h
    refine ⟨_, pss_one (ps_ret (pe_and (pe_isi (by rfl) B.isi (pv 0) (by rfl) B.int b_int)
      (pe_one (pe_not (pe_isi (by rfl) B.isi (pv 0) (by rfl) B.bool b_bool))))), ?_⟩
    refine ⟨x, rfl, isi_int hi ⟨_, rfl, ?_⟩⟩
    refine ite2 (fun e => ⟨x, rfl, isi_bool hi ⟨_, rfl, ?_⟩⟩) (fun e => ?_)
    · cases hi <;> first | exact q | exact absurd e Bool.false_ne_true
    · cases hi <;> first | exact q | exact absurd rfl e
/-! ### is_between -/
def betV (lo hi : Int) : V → Bool
  | .int i => decide (lo ≤ i) && decide (i ≤ hi)
  | _ => false
def spBetween : Sp := fun vs H Q _ => ∃ x lo hi, vs = [x, .int lo, .int hi] ∧ Item H x ∧ Q (.bl (betV lo hi x)) H
theorem ok_between {f f1 : Addr} {fd fd1 : FuncData} {k : Nat} (F : Fun K "is_between" "is_between" sBetween f fd) (F1 : Fun K "is_whole" "is_whole" sWhole f1 fd1) (b1 : Binds K fd1 ["value"] []) (g1 : mg "is_whole" = some (.ref f1)) (B : Bt mg) :
    FnOk P w K mg base CX0 (k + 2) f fd ["value", "low", "high"] spBetween := by
  have G1 : FnOk P w K mg base CX0 (k + 1) f1 fd1 ["value"] spWhole := ok_whole F1 B
  refine F.ok scBetween (fun vs H Q E h => ?_) (fun cdv A outer s H vs Q E hr h => ?_)
  · obtain ⟨x, lo, hi, rfl, _⟩ := h
    rfl
  · obtain ⟨x, lo, hi, rfl, it, q⟩ := h
    refine ⟨_, pss_one (ps_ret (pe_and (pe_call G1 hr (by rfl) g1 F1.kp b1 .nil pass0 (pa_cons (pv 0) pa_nil)) (pe_one (pe_chain op_le op_le (pv 1) (pv 0) (pv 2))))), ?_⟩
    refine ⟨x, rfl, x, rfl, it, _, rfl, ?_⟩
    cases x with
    | int i =>
      have q : Q (.bl (decide (lo ≤ i) && decide (i ≤ hi))) H := q
      refine iteT ⟨.int lo, rfl, .int i, rfl, _, _, rfl, rfl, _, rfl, ?_⟩
      refine ite2 (fun e => ⟨.int hi, rfl, _, _, rfl, rfl, ?_⟩) (fun e => ?_)
      · rw [e, Bool.true_and] at q
        exact q
      · rw [Bool.eq_false_iff.mpr e, Bool.false_and] at q
        exact q
    | _ => exact iteF q
end
end K30

/-! K30: prefixes_by and _law_blocks: the blocks of a range. -/
namespace K30
open PySem PySem.Spec PyProof.Rows L2

/-! ### a while whose test is a value -/
theorem while_ans {c : TT} {tb : TS} {D : Ends} {σ : L2.St} {H : Hp} (W : Nat → L2.St → Hp → Prop) (m0 : Nat) (h0 : W m0 σ H)
    (hs : ∀ m σ H, W m σ H → ∃ b, Ans c σ H b ∧ (b = true → tb { D with nx := fun σ' H' => ∃ m', m' < m ∧ W m' σ' H', ct := fun σ' H' => ∃ m', m' < m ∧ W m' σ' H', bk := D.nx } σ H) ∧ (b = false → D.nx σ H)) : tWhile c tb D σ H := by
  refine ⟨W, ⟨m0, h0⟩, fun m σ H hW => ?_⟩
  obtain ⟨b, ha, h1, h2⟩ := hs m σ H hW
  refine ha _ ?_
  cases b with
  | true => exact iteT ⟨_, fun _ _ z => z, h1 rfl⟩
  | false => exact iteF (h2 rfl)

/-! ### rows of pairs of numbers -/
/-- the tuples at these places are these pairs -/
def Prs (H : Hp) (as : List Addr) (bs : List (Nat × Nat)) : Prop := Paired (fun (a : Addr) (b : Nat × Nat) => H a = some (.tup [.int b.1, .int b.2])) as bs
theorem Prs.same {H H' : Hp} {as : List Addr} {bs : List (Nat × Nat)} (h : Prs H as bs) (s : Same H H') : Prs H' as bs := Paired.mapP h fun _ _ e => s _ _ e
theorem Prs.ne {H H' : Hp} {J : Addr} {xs : List V} {as : List Addr} {bs : List (Nat × Nat)} (h : Prs H as bs) (hJ : H J = some (.lst xs)) (s : SameJ J H H') : Prs H' as bs :=
  Paired.mapP h fun a _ e => s _ _ (ne_of e hJ (fun z => by cases z)) e
theorem paired_app {α β : Type} {R : α → β → Prop} {x : α} {y : β} : ∀ {as : List α} {bs : List β}, Paired R as bs → R x y → Paired R (as ++ [x]) (bs ++ [y])
  | _, _, .nil, r => .cons r .nil
  | _, _, .cons q t, r => .cons q (paired_app t r)
theorem prs_len {H : Hp} {as : List Addr} {bs : List (Nat × Nat)} (h : Prs H as bs) : as.length = bs.length := Paired.length h
/-- a tuple of pairs -/
def TupB (H : Hp) (p : Addr) (bs : List (Nat × Nat)) : Prop := ∃ as : List Addr, H p = some (.tup (as.map V.ref)) ∧ Prs H as bs
theorem TupB.same {H H' : Hp} {p : Addr} {bs : List (Nat × Nat)} (h : TupB H p bs) (s : Same H H') : TupB H' p bs :=
  let ⟨as, e, q⟩ := h
  ⟨as, s _ _ e, q.same s⟩
theorem TupB.sameJ {H H' : Hp} {p J : Addr} {xs : List V} {bs : List (Nat × Nat)} (h : TupB H p bs) (hJ : H J = some (.lst xs)) (s : SameJ J H H') : TupB H' p bs :=
  let ⟨as, e, q⟩ := h
  ⟨as, s _ _ (ne_of e hJ fun z => by cases z) e, q.ne hJ s⟩

/-! ### the tests of numbers -/
theorem test_grow {pos size hi bits : Nat} : (decide ((0 : Int) < bits) && (decide (V.int ((pos : Int) % (2 * (size : Int))) = V.int 0) && decide ((pos : Int) + 2 * (size : Int) - 1 ≤ (hi : Int)))) =
    decide (0 < bits ∧ pos % (2 * size) = 0 ∧ pos + 2 * size ≤ hi + 1) := by
  have e : ((pos % (2 * size) : Nat) : Int) = (pos : Int) % (2 * (size : Int)) := by
    rw [Int.natCast_emod, Int.natCast_mul]
    rfl
  rw [Bool.eq_iff_iff]
  simp only [Bool.and_eq_true, decide_eq_true_eq, V.int.injEq]
  rw [← e]
  constructor
  · rintro ⟨h1, h2, h3⟩
    exact ⟨by omega, by omega, by omega⟩
  · rintro ⟨h1, h2, h3⟩
    exact ⟨by omega, by omega, by omega⟩
theorem grow_go {pos hi bits size : Nat} (h : 0 < bits ∧ pos % (2 * size) = 0 ∧ pos + 2 * size ≤ hi + 1) : grow pos hi bits size = grow pos hi (bits - 1) (2 * size) := by
  obtain ⟨h1, h2⟩ := h
  obtain ⟨b, rfl⟩ : ∃ b, bits = b + 1 := ⟨bits - 1, by omega⟩
  rw [grow, if_pos h2, Nat.add_sub_cancel]
theorem grow_end {pos hi bits size : Nat} (h : ¬ (0 < bits ∧ pos % (2 * size) = 0 ∧ pos + 2 * size ≤ hi + 1)) : grow pos hi bits size = (size, bits) := by
  cases bits with
  | zero => rfl
  | succ b => rw [grow, if_neg fun q => h ⟨Nat.succ_pos _, q⟩]

theorem scPrefBy : FnScope ["width", "low", "high", "found", "size", "bits"] ["width", "low", "high"] (defScope sPrefBy) := ⟨rfl, rfl, rfl, by decide +kernel, rfl, by decide +kernel, by decide +kernel⟩
section
variable {P : Program} {w : World} {K : PySem.W.Frag} {mg : Str → Option Value} {base : Heap}
/-- both defs: the range's blocks, a new tuple of new pairs -/
def spBlocks : Sp := fun vs H Q _ => ∃ wd lo hi : Nat, vs = [.int wd, .int lo, .int hi] ∧ lo ≤ hi ∧ hi < 2 ^ wd ∧ wd ≤ 32 ∧
  ∀ H' p, Same H H' → H p = none → TupB H' p (blocks wd hi lo) → Q (.ref p) H'
theorem few {wd hi pos : Nat} {as : List Addr} {bs all : List (Nat × Nat)} {H : Hp} (hp : Prs H as bs) (hall : all.length ≤ 1 ∨ all.length ≤ 2 * wd - 2) (hw : wd ≤ 32) (e : bs ++ blocks wd hi pos = all) : (as.map V.ref).length < 100 := by
  have q := prs_len hp
  have z := congrArg List.length e
  rw [List.length_append] at z
  rw [List.length_map]
  omega
theorem lt100 {n : Nat} (h : n < 100) : n < sizeLine := Nat.lt_of_lt_of_le h (by decide)
theorem ok_prefBy {f : Addr} {fd : FuncData} {k : Nat} (F : Fun K "prefixes_by" "prefixes_by" sPrefBy f fd) (B : Bt mg) : FnOk P w K mg base CX0 (k + 1) f fd ["width", "low", "high"] spBlocks := by
  refine F.ok scPrefBy (fun vs H Q E h => ?_) (fun cdv A outer s H vs Q E hr h => ?_)
  · obtain ⟨wd, lo, hi, rfl, _⟩ := h
    rfl
  · obtain ⟨wd, lo, hi, rfl, hl, hh, hw, q⟩ := h
    refine ⟨_, pss_cons (ps_set (i := 3) scPrefBy.nd rfl (.inl rfl) (pe_lst pa_nil))
      (pss_cons (ps_while PassesOwn.never (pt_cmpR op_le (pv 1) (pv 2) (nomark _))
        (pss_cons (ps_par (i := 4) (j := 5) (by rfl) scPrefBy.nd rfl rfl (by decide) rfl rfl (pa_cons pe_int (pa_cons (pv 0) pa_nil)) (by rfl))
        (pss_cons (ps_while PassesOwn.never (PW.pt (pw_and (pt_cmpR op_gt (pv 5) pe_int (nomark _)) (pw_and (pt_cmpR op_eq (pe_op op_mod (pv 1) (pe_op op_mul pe_int (pv 4))) pe_int (nomark _))
            (pw_and1 (pt_cmpR op_le (pe_op op_sub (pe_op op_add (pv 1) (pe_op op_mul pe_int (pv 4))) pe_int) (pv 2) (nomark _))))))
          (pss_one (ps_par (i := 4) (j := 5) (by rfl) scPrefBy.nd rfl rfl (by decide) rfl rfl (pa_cons (pe_op op_mul pe_int (pv 4)) (pa_cons (pe_op op_sub (pv 5) pe_int) pa_nil)) (by rfl))))
        (pss_cons (ps_expr (pe_bm PySem.F.plainAttrs_list PySem.F.slot_list_append PySem.F.type_list_append mt_append (pv 3) (pa_cons (pe_tup (pa_cons (pv 1) (pa_cons (pv 5) pa_nil))) pa_nil)))
        (pss_one (ps_set (i := 1) scPrefBy.nd rfl (.inl rfl) (pe_op op_add (pv 1) (pv 4))))))))
      (pss_one (ps_ret (pe_callTy call_tuple_of (by rfl) B.tuple b_tuple (pa_cons (pv 3) pa_nil))))), ?_⟩
    -- found = []
    refine ⟨Nat.zero_le _, fun F nF => ?_⟩
    have many := blocks_many hh hl
    refine while_ans (fun m σ H' => ∃ (pos : Nat) (as : List Addr) (bs : List (Nat × Nat)) (y4 y5 : Option V), σ = [some (.int wd), some (.int pos), some (.int hi), some (.ref F), y4, y5] ∧ m = hi + 1 - pos ∧ pos ≤ hi + 1 ∧
      Same H H' ∧ H' F = some (.lst (as.map V.ref)) ∧ Prs H' as bs ∧ bs ++ blocks wd hi pos = blocks wd hi lo) (hi + 1 - lo) ⟨lo, [], [], none, none, rfl, rfl, by omega, same_new nF, upd_same, .nil, rfl⟩ ?_
    rintro m σ H1 ⟨pos, as, bs, y4, y5, rfl, rfl, hpos, sm, hF, hp, hb⟩
    refine ⟨decide ((pos : Int) ≤ (hi : Int)), fun Q q => ⟨_, rfl, _, rfl, _, _, rfl, rfl, _, rfl, q⟩, fun e => ?_, fun e => ?_⟩
    · have hle : pos ≤ hi := by
        have := of_decide_eq_true e
        omega
      -- size, bits = 1, width
      refine ⟨_, rfl, _, _, rfl, ?_⟩
      refine while_ans (fun m σ H' => ∃ size bits : Nat, σ = [some (.int wd), some (.int pos), some (.int hi), some (.ref F), some (.int size), some (.int bits)] ∧ bits = m ∧ 0 < size ∧ grow pos hi bits size = grow pos hi wd 1 ∧ H' = H1) wd
        ⟨1, wd, rfl, rfl, by decide, rfl, rfl⟩ ?_
      rintro m σ H2 ⟨size, bits, rfl, rfl, hs, hg, rfl⟩
      refine ⟨_, ans_and2 (fun Q q => ⟨_, rfl, _, _, rfl, rfl, _, rfl, q⟩) (ans_and2 (fun Q q => ⟨_, rfl, _, rfl, _, _, rfl, rfl, .inl ⟨by decide, by decide⟩, _, _, rfl, rfl, by omega, rfl, _, rfl, q⟩)
        (fun Q q => ⟨_, rfl, _, rfl, _, _, rfl, rfl, .inl ⟨by decide, by decide⟩, _, _, rfl, rfl, _, _, rfl, rfl, _, rfl, _, _, rfl, rfl, _, rfl, q⟩)), ?_⟩
      dsimp only
      rw [test_grow]
      refine ⟨fun e => ?_, fun e => ?_⟩
      · have e := of_decide_eq_true e
        refine ⟨_, rfl, _, _, rfl, rfl, .inl ⟨by decide, by decide⟩, _, rfl, _, _, rfl, rfl, _, _, rfl, bits - 1, by omega, 2 * size, bits - 1, ?_, rfl, by omega, ?_, rfl⟩
        · have e1 : ((2 * size : Nat) : Int) = 2 * (size : Int) := by omega
          have e2 : ((bits - 1 : Nat) : Int) = (bits : Int) - 1 := by omega
          rw [e1, e2]
          rfl
        · rw [← grow_go e]
          exact hg
      · have e := of_decide_eq_false e
        rw [grow_end e] at hg
        -- found.append((low, bits))
        have hbs := blocks_step (w := wd) hle
        rw [← hg] at hbs
        refine ⟨_, rfl, .inl ⟨rfl, _, SqL.of hF⟩, _, rfl, _, rfl, (by show 2 ≤ sizeLine; decide), fun T nT => ?_⟩
        have neF : F ≠ T := ne_of_none hF nT
        refine ⟨F, _, _, rfl, rfl, (upd_ne neF).trans hF, lt100 (few hp many hw hb), ?_⟩
        have s2 : Same H (upd (upd H2 T (.tup [.int pos, .int bits])) F (.lst (as.map V.ref ++ [.ref T]))) := fun b o z => by
          rw [upd_ne (ne_of_none z nF)]
          exact same_new nT _ _ (sm _ _ z)
        -- low = low + size
        refine ⟨_, rfl, _, rfl, _, _, rfl, rfl, hi + 1 - (pos + size), ?_, pos + size, as ++ [T], bs ++ [(pos, bits)], some (.int size), some (.int bits), ?_, rfl, ?_, s2, ?_, ?_, ?_⟩
        · obtain ⟨k, _, e3, _, e4, _⟩ := turn (w := wd) hle
          rw [← hg] at e3
          have e5 := (Prod.mk.inj e3).1
          omega
        · have e1 : ((pos + size : Nat) : Int) = (pos : Int) + (size : Int) := by omega
          rw [e1]
          rfl
        · obtain ⟨k, _, e3, _, e4, _⟩ := turn (w := wd) hle
          rw [← hg] at e3
          have e5 := (Prod.mk.inj e3).1
          omega
        · rw [upd_same, List.map_append]
          rfl
        · refine paired_app (Paired.mapP hp fun a b z => ?_) ?_
          · rw [upd_ne (ne_of z hF fun y => by cases y)]
            exact same_new nT _ _ z
          · rw [upd_ne neF.symm, upd_same]
        · rw [List.append_assoc, ← hb, hbs]
          rfl
    · have hgt : hi < pos := by
        have := of_decide_eq_false e
        omega
      rw [blocks_stop hgt, List.append_nil] at hb
      subst hb
      -- return tuple(found)
      refine ⟨_, rfl, F, _, rfl, .inl ⟨SqL.of hF, fun p np => ?_⟩⟩
      refine q _ p (fun b o z => same_new np _ _ (sm _ _ z)) (sm.free np) ⟨as, upd_same, hp.same (same_new np)⟩
theorem scBlocks : FnScope ["_law_width", "_law_low", "_law_high", "_law_found", "_law_here", "_law_size", "_law_bits"] ["_law_width", "_law_low", "_law_high"] (defScope sBlocks) := ⟨rfl, rfl, rfl, by decide +kernel, rfl, by decide +kernel, by decide +kernel⟩
theorem ok_blocks {f : Addr} {fd : FuncData} {k : Nat} (F : Fun K "_law_blocks" "_law_blocks" sBlocks f fd) (B : Bt mg) : FnOk P w K mg base CX0 (k + 1) f fd ["_law_width", "_law_low", "_law_high"] spBlocks := by
  refine F.ok scBlocks (fun vs H Q E h => ?_) (fun cdv A outer s H vs Q E hr h => ?_)
  · obtain ⟨wd, lo, hi, rfl, _⟩ := h
    rfl
  · obtain ⟨wd, lo, hi, rfl, hl, hh, hw, q⟩ := h
    refine ⟨_, pss_cons (ps_par (i := 3) (j := 4) (by rfl) scBlocks.nd rfl rfl (by decide) rfl rfl (pa_cons (pe_lst pa_nil) (pa_cons (pv 1) pa_nil)) (by rfl))
      (pss_cons (ps_while PassesOwn.never (pt_cmpR op_le (pv 4) (pv 2) (nomark _))
        (pss_cons (ps_par (i := 5) (j := 6) (by rfl) scBlocks.nd rfl rfl (by decide) rfl rfl (pa_cons pe_int (pa_cons (pv 0) pa_nil)) (by rfl))
        (pss_cons (ps_while PassesOwn.never (PW.pt (pw_and (pt_cmpR op_gt (pv 6) pe_int (nomark _)) (pw_and (pt_cmpR op_eq (pe_op op_mod (pe_callTy call_int1 (by rfl) B.int b_int (pa_cons (pv 4) pa_nil)) (pe_op op_mul pe_int (pv 5))) pe_int (nomark _))
            (pw_and1 (pt_cmpR op_le (pe_op op_sub (pe_op op_add (pv 4) (pe_op op_mul pe_int (pv 5))) pe_int) (pv 2) (nomark _))))))
          (pss_one (ps_par (i := 5) (j := 6) (by rfl) scBlocks.nd rfl rfl (by decide) rfl rfl (pa_cons (pe_op op_mul pe_int (pv 5)) (pa_cons (pe_op op_sub (pv 6) pe_int) pa_nil)) (by rfl))))
        (pss_cons (ps_expr (pe_bm PySem.F.plainAttrs_list PySem.F.slot_list_append PySem.F.type_list_append mt_append (pv 3) (pa_cons (pe_tup (pa_cons (pv 4) (pa_cons (pv 6) pa_nil))) pa_nil)))
        (pss_one (ps_set (i := 4) scBlocks.nd rfl (.inl rfl) (pe_op op_add (pv 4) (pv 5))))))))
      (pss_one (ps_ret (pe_callTy call_tuple_of (by rfl) B.tuple b_tuple (pa_cons (pv 3) pa_nil))))), ?_⟩
    -- found = []
    refine ⟨Nat.zero_le _, fun F nF => ⟨_, rfl, _, _, rfl, ?_⟩⟩
    have many := blocks_many hh hl
    refine while_ans (fun m σ H' => ∃ (pos : Nat) (as : List Addr) (bs : List (Nat × Nat)) (y4 y5 : Option V), σ = [some (.int wd), some (.int lo), some (.int hi), some (.ref F), some (.int pos), y4, y5] ∧ m = hi + 1 - pos ∧ pos ≤ hi + 1 ∧
      Same H H' ∧ H' F = some (.lst (as.map V.ref)) ∧ Prs H' as bs ∧ bs ++ blocks wd hi pos = blocks wd hi lo) (hi + 1 - lo) ⟨lo, [], [], none, none, rfl, rfl, by omega, same_new nF, upd_same, .nil, rfl⟩ ?_
    rintro m σ H1 ⟨pos, as, bs, y4, y5, rfl, rfl, hpos, sm, hF, hp, hb⟩
    refine ⟨decide ((pos : Int) ≤ (hi : Int)), fun Q q => ⟨_, rfl, _, rfl, _, _, rfl, rfl, _, rfl, q⟩, fun e => ?_, fun e => ?_⟩
    · have hle : pos ≤ hi := by
        have := of_decide_eq_true e
        omega
      -- size, bits = 1, width
      refine ⟨_, rfl, _, _, rfl, ?_⟩
      refine while_ans (fun m σ H' => ∃ size bits : Nat, σ = [some (.int wd), some (.int lo), some (.int hi), some (.ref F), some (.int pos), some (.int size), some (.int bits)] ∧ bits = m ∧ 0 < size ∧ grow pos hi bits size = grow pos hi wd 1 ∧ H' = H1) wd
        ⟨1, wd, rfl, rfl, by decide, rfl, rfl⟩ ?_
      rintro m σ H2 ⟨size, bits, rfl, rfl, hs, hg, rfl⟩
      refine ⟨_, ans_and2 (fun Q q => ⟨_, rfl, _, _, rfl, rfl, _, rfl, q⟩) (ans_and2 (fun Q q => ⟨_, rfl, .inl ⟨_, rfl, _, rfl, _, _, rfl, rfl, .inl ⟨by decide, by decide⟩, _, _, rfl, rfl, by omega, rfl, _, rfl, q⟩⟩)
        (fun Q q => ⟨_, rfl, _, rfl, _, _, rfl, rfl, .inl ⟨by decide, by decide⟩, _, _, rfl, rfl, _, _, rfl, rfl, _, rfl, _, _, rfl, rfl, _, rfl, q⟩)), ?_⟩
      dsimp only
      rw [test_grow]
      refine ⟨fun e => ?_, fun e => ?_⟩
      · have e := of_decide_eq_true e
        refine ⟨_, rfl, _, _, rfl, rfl, .inl ⟨by decide, by decide⟩, _, rfl, _, _, rfl, rfl, _, _, rfl, bits - 1, by omega, 2 * size, bits - 1, ?_, rfl, by omega, ?_, rfl⟩
        · have e1 : ((2 * size : Nat) : Int) = 2 * (size : Int) := by omega
          have e2 : ((bits - 1 : Nat) : Int) = (bits : Int) - 1 := by omega
          rw [e1, e2]
          rfl
        · rw [← grow_go e]
          exact hg
      · have e := of_decide_eq_false e
        rw [grow_end e] at hg
        -- found.append((low, bits))
        have hbs := blocks_step (w := wd) hle
        rw [← hg] at hbs
        refine ⟨_, rfl, .inl ⟨rfl, _, SqL.of hF⟩, _, rfl, _, rfl, (by show 2 ≤ sizeLine; decide), fun T nT => ?_⟩
        have neF : F ≠ T := ne_of_none hF nT
        refine ⟨F, _, _, rfl, rfl, (upd_ne neF).trans hF, lt100 (few hp many hw hb), ?_⟩
        have s2 : Same H (upd (upd H2 T (.tup [.int pos, .int bits])) F (.lst (as.map V.ref ++ [.ref T]))) := fun b o z => by
          rw [upd_ne (ne_of_none z nF)]
          exact same_new nT _ _ (sm _ _ z)
        -- low = low + size
        refine ⟨_, rfl, _, rfl, _, _, rfl, rfl, hi + 1 - (pos + size), ?_, pos + size, as ++ [T], bs ++ [(pos, bits)], some (.int size), some (.int bits), ?_, rfl, ?_, s2, ?_, ?_, ?_⟩
        · obtain ⟨k, _, e3, _, e4, _⟩ := turn (w := wd) hle
          rw [← hg] at e3
          have e5 := (Prod.mk.inj e3).1
          omega
        · have e1 : ((pos + size : Nat) : Int) = (pos : Int) + (size : Int) := by omega
          rw [e1]
          rfl
        · obtain ⟨k, _, e3, _, e4, _⟩ := turn (w := wd) hle
          rw [← hg] at e3
          have e5 := (Prod.mk.inj e3).1
          omega
        · rw [upd_same, List.map_append]
          rfl
        · refine paired_app (Paired.mapP hp fun a b z => ?_) ?_
          · rw [upd_ne (ne_of z hF fun y => by cases y)]
            exact same_new nT _ _ z
          · rw [upd_ne neF.symm, upd_same]
        · rw [List.append_assoc, ← hb, hbs]
          rfl
    · have hgt : hi < pos := by
        have := of_decide_eq_false e
        omega
      rw [blocks_stop hgt, List.append_nil] at hb
      subst hb
      -- return tuple(found)
      refine ⟨_, rfl, F, _, rfl, .inl ⟨SqL.of hF, fun p np => ?_⟩⟩
      refine q _ p (fun b o z => same_new np _ _ (sm _ _ z)) (sm.free np) ⟨as, upd_same, hp.same (same_new np)⟩
end
end K30

/-! K30: is_parted. -/
namespace K30
open PySem PySem.Spec PyProof.Rows L2

theorem lv_le {a b : Nat} (ha : a < 2 ^ 32) (hb : b < 2 ^ 32) : lv a b ≤ 32 := by
  by_cases h : lv a b ≤ 32
  · exact h
  · exact absurd (by rw [Nat.div_eq_of_lt ha, Nat.div_eq_of_lt hb]) (lv_other a b (t := 32) (by omega))
theorem pw32 {t : Nat} (h : t ≤ 32) : 2 ^ t ≤ 4294967296 := by
  have := pw_le h
  omega
theorem divw {i : Int} {t : Nat} (h : t ≤ 32) : CDivW i ((2 ^ t : Nat) : Int) := by
  have hp := pw_pos t
  have hz := pw32 h
  refine wide_div (by omega) (b := 40) (by rw [Int.natAbs_natCast]; omega) (by decide) (by decide)
theorem mulw {i : Int} {t : Nat} (h : t ≤ 32) : CMul i ((2 ^ t : Nat) : Int) := by
  have hz := pw32 h
  have hp := pw_pos t
  exact .inr ⟨by omega, by omega⟩
theorem ne_test {a b t : Nat} : (!decide (V.int ((a : Int) / ((2 ^ t : Nat) : Int)) = V.int ((b : Int) / ((2 ^ t : Nat) : Int)))) = decide (a / 2 ^ t ≠ b / 2 ^ t) := by
  rw [← Int.natCast_ediv, ← Int.natCast_ediv, Bool.eq_iff_iff]
  simp only [Bool.not_eq_true', decide_eq_false_iff_not, decide_eq_true_eq, V.int.injEq, Ne]
  omega
theorem lv_go {a b t : Nat} (ht : t ≤ lv a b) (h : a / 2 ^ t ≠ b / 2 ^ t) : t + 1 ≤ lv a b := by
  by_cases e : t = lv a b
  · subst e
    exact absurd (lv_same a b) h
  · omega
theorem lv_end {a b t : Nat} (ht : t ≤ lv a b) (h : ¬ a / 2 ^ t ≠ b / 2 ^ t) : t = lv a b := by
  by_cases e : t = lv a b
  · exact e
  · exact absurd (lv_other a b (t := t) (by omega)) h
theorem cast_floor (a t : Nat) : (a : Int) / ((2 ^ t : Nat) : Int) * ((2 ^ t : Nat) : Int) = ((a / 2 ^ t * 2 ^ t : Nat) : Int) := by
  rw [Int.natCast_mul, Int.natCast_ediv]
theorem cast_dbl (t : Nat) : (2 : Int) * ((2 ^ t : Nat) : Int) = ((2 ^ (t + 1) : Nat) : Int) := by
  rw [pw_succ]
  omega

theorem scParted : FnScope ["one", "two", "low", "high", "size", "first"] ["one", "two", "low", "high"] (defScope sParted) := ⟨rfl, rfl, rfl, by decide +kernel, rfl, by decide +kernel, by decide +kernel⟩
section
variable {P : Program} {w : World} {K : PySem.W.Frag} {mg : Str → Option Value} {base : Heap}
def spParted : Sp := fun vs H Q _ => ∃ a b lo hi : Nat, vs = [.int a, .int b, .int lo, .int hi] ∧ a < 2 ^ 32 ∧ b < 2 ^ 32 ∧ Q (.bl (parted lo hi a b)) H
theorem ok_parted {f : Addr} {fd : FuncData} {k : Nat} (F : Fun K "is_parted" "is_parted" sParted f fd) : FnOk P w K mg base CX0 (k + 1) f fd ["one", "two", "low", "high"] spParted := by
  refine F.ok scParted (fun vs H Q E h => ?_) (fun cdv A outer s H vs Q E hr h => ?_)
  · obtain ⟨a, b, lo, hi, rfl, _⟩ := h
    rfl
  · obtain ⟨a, b, lo, hi, rfl, ha, hb, q⟩ := h
    refine ⟨_, pss_cons (ps_set (i := 4) scParted.nd rfl (.inl rfl) pe_int)
      (pss_cons (ps_while PassesOwn.never (pt_cmpR op_ne (pe_op op_fdivW (pv 0) (pv 4)) (pe_op op_fdivW (pv 1) (pv 4)) (nomark _))
        (pss_one (ps_set (i := 4) scParted.nd rfl (.inl rfl) (pe_op op_mul pe_int (pv 4)))))
      (pss_cons (ps_set (i := 5) scParted.nd rfl (.inl rfl) (pe_op op_mul (pe_op op_fdivW (pv 0) (pv 4)) (pv 4)))
      (pss_one (ps_ret (pe_or (pe_cmpR op_lt (pv 5) (pv 2) (nomark _)) (pe_one (pe_cmpR op_gt (pe_op op_sub (pe_op op_add (pv 5) (pv 4)) pe_int) (pv 3) (nomark _)))))))), ?_⟩
    have h32 := lv_le ha hb
    refine while_ans (fun m σ H' => ∃ t : Nat, σ = [some (.int a), some (.int b), some (.int lo), some (.int hi), some (.int ((2 ^ t : Nat) : Int)), none] ∧ t + m = lv a b ∧ H' = H) (lv a b)
      ⟨0, rfl, by omega, rfl⟩ ?_
    rintro m σ H1 ⟨t, rfl, hm, rfl⟩
    have t32 : t ≤ 32 := by omega
    refine ⟨_, fun Q q => ⟨_, rfl, _, rfl, _, _, rfl, rfl, divw t32, _, rfl, _, rfl, _, _, rfl, rfl, divw t32, rfl, _, rfl, q⟩, ?_⟩
    rw [ne_test]
    refine ⟨fun e => ?_, fun e => ?_⟩
    · have hl := lv_go (show t ≤ lv a b by omega) (of_decide_eq_true e)
      refine ⟨_, rfl, _, _, rfl, rfl, .inl ⟨by decide, by decide⟩, m - 1, by omega, t + 1, ?_, by omega, rfl⟩
      rw [← cast_dbl]
      rfl
    · have hl := lv_end (show t ≤ lv a b by omega) (of_decide_eq_false e)
      subst hl
      refine ⟨_, rfl, _, rfl, _, _, rfl, rfl, divw t32, _, rfl, _, _, rfl, rfl, mulw t32, ?_⟩
      dsimp only
      rw [cast_floor]
      have hp := pw_pos (lv a b)
      unfold parted at q
      generalize a / 2 ^ lv a b * 2 ^ lv a b = fl at *
      generalize 2 ^ lv a b = sz at *
      refine ⟨_, rfl, _, rfl, _, _, rfl, rfl, _, rfl, ite2 (fun e => ?_) (fun e => ?_)⟩
      · rw [decide_eq_true (show fl < lo by have := of_decide_eq_true e; omega), Bool.true_or] at q
        exact q
      · have e1 : ¬ fl < lo := fun z => e (decide_eq_true (by omega))
        rw [decide_eq_false e1, Bool.false_or] at q
        refine ⟨_, rfl, _, rfl, _, _, rfl, rfl, _, _, rfl, rfl, _, rfl, _, _, rfl, rfl, ?_⟩
        have e2 : decide ((hi : Int) < (fl : Int) + (sz : Int) - 1) = decide (hi < fl + sz - 1) := decide_eq_decide.mpr (by omega)
        show Q (.bl (decide ((hi : Int) < (fl : Int) + (sz : Int) - 1))) H1
        rw [e2]
        exact q
end
end K30

/-! K30: are_marks_by. -/
namespace K30
open PySem PySem.Spec PyProof.Rows L2

/-! ### slices of tuples, whatever is left of them -/
theorem cut_whole {xs : List V} {lo hi : Option Int} (h : HT.sIx xs.length 0 lo = 0 ∧ HT.sIx xs.length xs.length hi = xs.length) : cutV xs lo hi = xs := by
  unfold cutV
  rw [h.1, h.2, List.drop_zero, Nat.sub_zero, List.take_length]
theorem slA_any {K : PySem.W.Frag} {H : Hp} {a : Addr} {xs : List V} {lo hi : Option Int} {Q : VK} (h : H a = some (.tup xs)) (q : ∀ p H', Same H H' → H' p = some (.tup (cutV xs lo hi)) → Q (.ref p) H') : rSlA K (.ref a) lo hi H Q := by
  refine ⟨a, xs, rfl, SqT.of h, fun z => ?_, fun _ p np => q p _ (same_new np) upd_same⟩
  exact q a H (Same.refl H) (by rw [cut_whole z]; exact h)
theorem catA_any {K : PySem.W.Frag} {H : Hp} {a b : Addr} {xs ys : List V} {Q : VK} (h : H a = some (.tup xs)) (h' : H b = some (.tup ys)) (hz : xs.length + ys.length ≤ sizeLine) (q : ∀ p H', Same H H' → H' p = some (.tup (xs ++ ys)) → Q (.ref p) H') :
    rCatA K (.ref a) (.ref b) H Q := by
  refine ⟨a, b, xs, ys, rfl, rfl, SqT.of h, SqT.of h', hz, fun z => ?_, fun _ z => ?_, fun _ _ p np => q p _ (same_new np) upd_same⟩
  · subst z
    exact q b H (Same.refl H) h'
  · subst z
    exact q a H (Same.refl H) (by rw [List.append_nil]; exact h)
theorem cut_from1 (xs : List V) : cutV xs (some 1) none = xs.drop 1 := by
  unfold cutV
  rw [show HT.sIx xs.length 0 (some 1) = min 1 xs.length from HT.sIx_nat xs.length 0 1, HT.sIx_none]
  cases xs with
  | nil => rfl
  | cons x r =>
    have e : min 1 (x :: r).length = 1 := by rw [List.length_cons]; omega
    rw [e]
    exact List.take_of_length_le (by rw [List.length_drop]; exact Nat.le_refl _)
/-- a comprehension without tests -/
theorem yes_if {σ : L2.St} {H : Hp} {A B : Hp → Prop} (h : A H) : tYes σ H (fun b H3 => if b = true then A H3 else B H3) := by
  show (if true = true then A H else B H)
  rw [if_pos rfl]
  exact h
/-- zip of two tuples as a walk -/
theorem walk_zipT {K : PySem.W.Frag} {a b : Addr} {xs ys : List V} {n : Nat} (hn : n = min xs.length ys.length) : Walk (RZ.ItzT K a b) n (fun H => SqT K H a xs ∧ SqT K H b ys) (YPair (fun i => xs[i]?) (fun i => ys[i]?)) := by
  subst hn
  constructor
  · rintro i H hi ⟨q1, q2⟩
    have l1 : i < xs.length := by omega
    have l2 : i < ys.length := by omega
    exact ⟨xs, ys, xs[i], ys[i], q1, q2, List.getElem?_eq_getElem l1, List.getElem?_eq_getElem l2⟩
  · rintro H ⟨q1, q2⟩
    exact ⟨xs, ys, q1, q2, by omega⟩
  · rintro i H v H' _ ⟨q1, q2⟩ ⟨T, x, y, h1, h2, h3, h4, h5⟩
    exact ⟨T, x, y, h1, h2, h3, h4 xs q1, h5 ys q2⟩

/-! ### what are_marks tells -/
def natV : V → Nat
  | .int i => i.toNat
  | _ => 0
def marksL (lo hi : Nat) (xs : List V) : Bool := xs.all (betV lo hi) && asc lo hi (xs.map natV)
def marksV (lo hi : Nat) (H : Hp) (x : V) : Bool := match tupOf H x with
  | some xs => marksL lo hi xs
  | none => false
def intN (n : Nat) : V := .int n
theorem nat_of_bet {lo hi : Nat} {x : V} (h : betV lo hi x = true) : x = intN (natV x) ∧ lo ≤ natV x ∧ natV x ≤ hi := by
  cases x with
  | int i =>
    have h : (decide ((lo : Int) ≤ i) && decide (i ≤ (hi : Int))) = true := h
    rw [Bool.and_eq_true] at h
    have h1 := of_decide_eq_true h.1
    have h2 := of_decide_eq_true h.2
    refine ⟨?_, ?_, ?_⟩
    · show V.int i = .int ((i.toNat : Nat) : Int)
      rw [Int.toNat_of_nonneg (by omega)]
    · show lo ≤ i.toNat
      omega
    · show i.toNat ≤ hi
      omega
  | _ => exact absurd (show false = true from h) Bool.false_ne_true
theorem nats_of {lo hi : Nat} : ∀ {xs : List V}, xs.all (betV lo hi) = true → ∃ ns : List Nat, xs = ns.map intN ∧ ∀ n ∈ ns, lo ≤ n ∧ n ≤ hi
  | [], _ => ⟨[], rfl, fun _ h => absurd h List.not_mem_nil⟩
  | x :: xs, h => by
    rw [List.all_cons, Bool.and_eq_true] at h
    obtain ⟨ns, e, hn⟩ := nats_of h.2
    obtain ⟨e1, e2⟩ := nat_of_bet h.1
    refine ⟨natV x :: ns, by rw [List.map_cons, ← e1, e], fun n m => ?_⟩
    rcases List.mem_cons.mp m with z | m
    · rw [z]; exact e2
    · exact hn n m
theorem natV_intN (ns : List Nat) : (ns.map intN).map natV = ns := by
  rw [List.map_map]
  have e : natV ∘ intN = id := funext fun n => by
    show (n : Int).toNat = n
    omega
  rw [e, List.map_id]
theorem bets_of {lo hi : Nat} {ns : List Nat} (h : ∀ n ∈ ns, lo ≤ n ∧ n ≤ hi) : (ns.map intN).all (betV lo hi) = true := by
  rw [List.all_map, List.all_eq_true]
  intro n hn
  have := h n hn
  show (decide ((lo : Int) ≤ (n : Int)) && decide ((n : Int) ≤ (hi : Int))) = true
  rw [decide_eq_true (by omega), decide_eq_true (by omega)]
  rfl
/-- link by link -/
def links (lo hi : Nat) : List Nat → List Bool
  | x :: y :: r => (decide (x < y) && parted lo hi x y) :: links lo hi (y :: r)
  | _ => []
theorem links_len (lo hi : Nat) : ∀ ns : List Nat, (links lo hi ns).length = ns.length - 1
  | [] => rfl
  | [_] => rfl
  | x :: y :: r => by
    show (links lo hi (y :: r)).length + 1 = r.length + 1 + 1 - 1
    rw [links_len lo hi (y :: r), List.length_cons]
    omega
theorem links_at (lo hi : Nat) : ∀ (ns : List Nat) (i : Nat) (x y : Nat), ns[i]? = some x → ns[i + 1]? = some y → (links lo hi ns)[i]? = some (decide (x < y) && parted lo hi x y)
  | [], i, _, _, h, _ => by simp at h
  | [_], i, _, _, _, h => by simp at h
  | a :: b :: r, 0, x, y, h, h2 => by
    cases h
    cases h2
    rfl
  | a :: b :: r, i + 1, x, y, h, h2 => links_at lo hi (b :: r) i x y h h2
theorem links_all (lo hi : Nat) : ∀ ns : List Nat, (links lo hi ns).all id = asc lo hi ns
  | [] => rfl
  | [_] => rfl
  | x :: y :: r => by
    unfold links asc
    rw [List.all_cons, links_all lo hi (y :: r)]
    rfl
theorem marksL_of {lo hi : Nat} {ns : List Nat} (h : ∀ n ∈ ns, lo ≤ n ∧ n ≤ hi) : marksL lo hi (ns.map intN) = (links lo hi ns).all id := by
  unfold marksL
  rw [bets_of h, natV_intN, links_all]
  rfl
/-- a thing: itself and, where it is a tuple, all in it of known kinds -/
def Thing (H : Hp) (x : V) : Prop := Item H x ∧ ∀ xs, tupOf H x = some xs → (∀ y ∈ xs, Item H y) ∧ xs.length ≤ 1000
theorem lt1000 {n : Nat} (h : n ≤ 1000) : n < sizeLine := Nat.lt_of_le_of_lt h (by decide)

theorem scMarksBy : FnScope ["low", "high", "value", "each", "one", "two"] ["low", "high", "value"] (defScope sMarksBy) := ⟨rfl, rfl, rfl, by decide +kernel, rfl, by decide +kernel, by decide +kernel⟩
section
variable {P : Program} {w : World} {K : PySem.W.Frag} {mg : Str → Option Value} {base : Heap}
def spMarksBy : Sp := fun vs H Q _ => ∃ (lo hi : Nat) (x : V), vs = [.int lo, .int hi, x] ∧ hi < 2 ^ 32 ∧ Thing H x ∧ ∀ H', Same H H' → Q (.bl (marksV lo hi H x)) H'
theorem ok_marksBy {f f1 f2 : Addr} {fd fd1 fd2 : FuncData} {k : Nat} (F : Fun K "are_marks_by" "are_marks_by" sMarksBy f fd) (G1 : FnOk P w K mg base CX0 (k + 1) f1 fd1 ["value", "low", "high"] spBetween) (k1 : PySem.W.keepIn K (.ref f1) = true) (b1 : Binds K fd1 ["value", "low", "high"] [])
    (g1 : mg "is_between" = some (.ref f1)) (G2 : FnOk P w K mg base CX0 (k + 1) f2 fd2 ["one", "two", "low", "high"] spParted) (k2 : PySem.W.keepIn K (.ref f2) = true) (b2 : Binds K fd2 ["one", "two", "low", "high"] []) (g2 : mg "is_parted" = some (.ref f2)) (B : Bt mg) :
    FnOk P w K mg base CX0 (k + 2) f fd ["low", "high", "value"] spMarksBy := by
  refine F.ok scMarksBy (fun vs H Q E h => ?_) (fun cdv A outer s H vs Q E hr h => ?_)
  · obtain ⟨lo, hi, x, rfl, _⟩ := h
    rfl
  · obtain ⟨lo, hi, x, rfl, h32, ht, q⟩ := h
    refine ⟨_, pss_cons (ps_if (PW.pt (pw_or (pt_not (pt_val (pe_isi (by rfl) B.isi (pv 2) (by rfl) B.tuple b_tuple))) (pw_or1 (pt_not (pt_val (pe_callB (cr_all rfl) (by rfl) B.all b_all
          (pa_cons (pe_lc (own := [("each", 3)]) (g := gName 3) (tt := tYes) rfl scMarksBy.nd (pi_tup (pv 2)) (blkOk_by (N := ["low", "high", "value", "each", "one", "two"]) (sc := defScope sMarksBy) (by decide +kernel))
            (fun _ _ _ _ _ => pg_name (i := 3) scMarksBy.nd rfl (Or.inl rfl)) (fun _ _ _ _ _ => pts_nil) (fun _ _ _ _ _ => pe_call G1 hr (by rfl) g1 k1 b1 .nil pass0 (pa_cons (pv 3) (pa_cons (pv 0) (pa_cons (pv 1) pa_nil))))) pa_nil)))))))
        (pss_one (ps_ret pe_bl)) pss_nil)
      (pss_one (ps_ret (pe_callB (cr_all rfl) (by rfl) B.all b_all
          (pa_cons (pe_lc (own := [("one", 4), ("two", 5)]) (g := gTup K 2 (gCons (gName 4) (gCons (gName 5) gNil))) (tt := tYes) rfl scMarksBy.nd
            (RZ.pi_zipA (by rfl) B.zip (pa_cons (pv 2) (pa_cons (pe_slice sl_tupA (pv 2) (po_some pe_int) po_none) pa_nil))) (blkOk_by (N := ["low", "high", "value", "each", "one", "two"]) (sc := defScope sMarksBy) (by decide +kernel))
            (fun _ _ _ _ _ => pg_tup rfl (pgs_cons (pg_name (i := 4) scMarksBy.nd rfl (Or.inl rfl)) (pgs_cons (pg_name (i := 5) scMarksBy.nd rfl (Or.inl rfl)) pgs_nil))) (fun _ _ _ _ _ => pts_nil)
            (fun _ _ _ _ _ => pe_and (pe_cmpR op_lt (pv 4) (pv 5) (nomark _)) (pe_one (pe_call G2 hr (by rfl) g2 k2 b2 .nil pass0 (pa_cons (pv 4) (pa_cons (pv 5) (pa_cons (pv 0) (pa_cons (pv 1) pa_nil)))))))) pa_nil)))), ?_⟩
    refine ⟨x, rfl, isi_tuple ht.1 ⟨_, rfl, ?_⟩⟩
    cases htu : tupOf H x with
    | none =>
      have e : marksV lo hi H x = false := by unfold marksV; rw [htu]
      rw [e] at q
      exact iteT (iteT (q H (Same.refl H)))
    | some xs =>
      obtain ⟨hit, hlen⟩ := ht.2 xs htu
      obtain ⟨a, rfl, ha⟩ := of_tupOf htu
      have e : marksV lo hi H (.ref a) = marksL lo hi xs := by unfold marksV; rw [htu]
      rw [e] at q
      refine iteF ⟨.ref a, rfl, a, rfl, ⟨xs, SqT.of ha⟩, fun D nD => ?_⟩
      refine lc_tup (xs := xs) (fun i H' => Same H H' ∧ H' D = some (.lst ((xs.take i).map fun y => V.bl (betV lo hi y)))) ⟨same_new nD, upd_same⟩ (fun i H' _ p => SqT.of (p.1 _ _ ha)) (fun i y H' hy p => ?_) (fun H2 p => ?_)
      · obtain ⟨sm, hD⟩ := p
        refine ⟨rfl, yes_if ?_⟩
        refine ⟨y, rfl, .int lo, rfl, .int hi, rfl, y, lo, hi, rfl, (hit y (List.mem_of_getElem? hy)).same sm, _, hD, ?_, ?_, ?_⟩
        · rw [List.length_map, List.length_take]
          exact lt1000 (by omega)
        · exact fun b o z => by rw [upd_ne (ne_of_none z nD)]; exact sm _ _ z
        · rw [upd_same, List.take_add_one, hy, List.map_append]
          rfl
      · obtain ⟨sm, hD⟩ := p
        rw [List.take_length] at hD
        refine ⟨D, xs.map fun y => betV lo hi y, rfl, SqL.of (by rw [List.map_map]; exact hD), _, rfl, ?_⟩
        have e2 : (xs.map fun y => betV lo hi y).all id = xs.all (betV lo hi) := by rw [List.all_map]; rfl
        rw [e2]
        cases hall : xs.all (betV lo hi) with
        | false =>
          unfold marksL at q
          rw [hall, Bool.false_and] at q
          exact iteT (q H2 sm)
        | true =>
          obtain ⟨ns, rfl, hb⟩ := nats_of hall
          rw [marksL_of hb] at q
          have ha2 : H2 a = some (.tup (ns.map intN)) := sm _ _ ha
          refine iteF ⟨.ref a, rfl, .ref a, rfl, 1, rfl, ?_⟩
          dsimp only [tNoPart]
          refine slA_any ha2 fun c H3 s3 hc => ?_
          rw [cut_from1] at hc
          have ha3 := s3 _ _ ha2
          refine ⟨a, c, ns.map intN, _, rfl, .inr ⟨SqT.of ha3, SqT.of hc, fun D2 nD2 => ?_⟩⟩
          have hn : ns.length - 1 = min (ns.map intN).length ((ns.map intN).drop 1).length := by
            rw [List.length_drop, List.length_map]
            omega
          refine lc_it (walk_zipT (xs := ns.map intN) (ys := (ns.map intN).drop 1) hn) (fun i H' => Same H3 H' ∧ H' D2 = some (.lst (((links lo hi ns).take i).map V.bl))) ⟨same_new nD2, upd_same⟩
            (fun i H' _ p => ⟨SqT.of (p.1 _ _ ha3), SqT.of (p.1 _ _ hc)⟩) (fun i v H' H5 hi' p y => ?_) (fun H4 p => ?_)
          · obtain ⟨sm4, hD4⟩ := p
            obtain ⟨T, y1, y2, rfl, nT, rfl, hy1, hy2⟩ := y
            have hy1 : (ns.map intN)[i]? = some y1 := hy1
            have hy2 : ((ns.map intN).drop 1)[i]? = some y2 := hy2
            rw [List.getElem?_map] at hy1
            rw [List.getElem?_drop, List.getElem?_map, Nat.add_comm] at hy2
            cases g1 : ns[i]? with
            | none => rw [g1] at hy1; cases hy1
            | some n1 =>
              cases g2 : ns[i + 1]? with
              | none => rw [g2] at hy2; cases hy2
              | some n2 =>
                rw [g1] at hy1
                rw [g2] at hy2
                cases hy1
                cases hy2
                have l1 := (hb n1 (List.mem_of_getElem? g1)).2
                have l2 := (hb n2 (List.mem_of_getElem? g2)).2
                have lk := links_at lo hi ns i n1 n2 g1 g2
                have neD : D2 ≠ T := ne_of_none hD4 nT
                have fin : ∀ b : Bool, b = (decide (n1 < n2) && parted lo hi n1 n2) → ∃ acc, upd H' T (.tup [intN n1, intN n2]) D2 = some (.lst acc) ∧ acc.length < sizeLine ∧
                    Same H3 (upd (upd H' T (.tup [intN n1, intN n2])) D2 (.lst (acc ++ [V.bl b]))) ∧ upd (upd H' T (.tup [intN n1, intN n2])) D2 (.lst (acc ++ [V.bl b])) D2 = some (.lst (((links lo hi ns).take (i + 1)).map V.bl)) := fun b hb' => by
                  refine ⟨_, (upd_ne neD).trans hD4, ?_, fun b o z => ?_, ?_⟩
                  · rw [List.length_map, List.length_take, links_len]
                    rw [List.length_map] at hlen
                    exact lt1000 (by omega)
                  · rw [upd_ne (ne_of_none z nD2)]
                    exact same_new nT _ _ (sm4 _ _ z)
                  · rw [upd_same, List.take_add_one, lk, List.map_append, hb']
                    rfl
                refine ⟨T, [intN n1, intN n2], rfl, SqT.of upd_same, rfl, _, _, rfl, _, _, rfl, rfl, rfl, yes_if ?_⟩
                refine ⟨_, rfl, _, rfl, _, _, rfl, rfl, _, rfl, ite2 (fun z => ?_) (fun z => ?_)⟩
                · refine ⟨_, rfl, _, rfl, _, rfl, _, rfl, n1, n2, lo, hi, rfl, by omega, by omega, fin _ ?_⟩
                  rw [decide_eq_true (show n1 < n2 by have := of_decide_eq_true z; omega), Bool.true_and]
                · refine fin _ ?_
                  rw [decide_eq_false (show ¬ n1 < n2 from fun y => z (decide_eq_true (by omega))), Bool.false_and]
          · obtain ⟨sm4, hD4⟩ := p
            rw [List.take_of_length_le (by rw [links_len]; exact Nat.le_refl _)] at hD4
            exact ⟨D2, links lo hi ns, rfl, SqL.of hD4, q H4 (sm.trans (s3.trans sm4))⟩
end
end K30

/-! K30: check_range, prefixes_of, are_marks. -/
namespace K30
open PySem PySem.Spec PyProof.Rows L2

theorem scCheck : FnScope ["width", "low", "high"] ["width", "low", "high"] (defScope sCheck) := ⟨rfl, rfl, rfl, by decide +kernel, rfl, by decide +kernel, by decide +kernel⟩
theorem scPrefOf : FnScope ["width", "low", "high"] ["width", "low", "high"] (defScope sPrefOf) := ⟨rfl, rfl, rfl, by decide +kernel, rfl, by decide +kernel, by decide +kernel⟩
theorem scMarks : FnScope ["width", "low", "high", "value"] ["width", "low", "high", "value"] (defScope sMarks) := ⟨rfl, rfl, rfl, by decide +kernel, rfl, by decide +kernel, by decide +kernel⟩
/-- a width and a range of its words -/
structure Rng (wd lo hi : Nat) : Prop where
  w1 : 1 ≤ wd
  w32 : wd ≤ 32
  le : lo ≤ hi
  lt : hi < 2 ^ wd
theorem Rng.lt32 {wd lo hi : Nat} (r : Rng wd lo hi) : hi < 2 ^ 32 := Nat.lt_of_lt_of_le r.lt (pw_le r.w32)
theorem bet_yes {lo hi x : Int} (h1 : lo ≤ x) (h2 : x ≤ hi) : betV lo hi (.int x) = true := by
  show (decide (lo ≤ x) && decide (x ≤ hi)) = true
  rw [decide_eq_true h1, decide_eq_true h2]
  rfl
theorem pw_int (k : Nat) : (2 : Int) ^ k = ((2 ^ k : Nat) : Int) := by
  rw [Int.natCast_pow]
  rfl
section
variable {P : Program} {w : World} {K : PySem.W.Frag} {mg : Str → Option Value} {base : Heap}
def spCheck : Sp := fun vs H Q _ => ∃ wd lo hi : Nat, vs = [.int wd, .int lo, .int hi] ∧ Rng wd lo hi ∧ Q .non H
theorem ok_check {f f1 : Addr} {fd fd1 : FuncData} {k : Nat} {t : Tok} (F : Fun K "check_range" "check_range" sCheck f fd) (G1 : FnOk P w K mg base CX0 (k + 1) f1 fd1 ["value", "low", "high"] spBetween) (k1 : PySem.W.keepIn K (.ref f1) = true) (b1 : Binds K fd1 ["value", "low", "high"] [])
    (g1 : mg "is_between" = some (.ref f1)) (gW : mg "MOST_WIDTH" = some (.int 32 t)) : FnOk P w K mg base CX0 (k + 2) f fd ["width", "low", "high"] spCheck := by
  refine F.ok scCheck (fun vs H Q E h => ?_) (fun cdv A outer s H vs Q E hr h => ?_)
  · obtain ⟨wd, lo, hi, rfl, _⟩ := h
    rfl
  · obtain ⟨wd, lo, hi, rfl, r, q⟩ := h
    refine ⟨_, pss_cons (ps_if (pt_not (pt_val (pe_call G1 hr (by rfl) g1 k1 b1 .nil pass0 (pa_cons (pv 0) (pa_cons pe_int (pa_cons (pe_glob (v := .int 32) (by rfl) gW ⟨_, rfl⟩) pa_nil)))))) pss_never pss_nil)
      (pss_cons (ps_if (pt_not (pt_val (pe_call G1 hr (by rfl) g1 k1 b1 .nil pass0 (pa_cons (pv 1) (pa_cons pe_int (pa_cons (pe_op op_sub (pe_op op_oneShl pe_int (pv 0)) pe_int) pa_nil)))))) pss_never pss_nil)
      (pss_one (ps_if (pt_not (pt_val (pe_call G1 hr (by rfl) g1 k1 b1 .nil pass0 (pa_cons (pv 2) (pa_cons (pv 1) (pa_cons (pe_op op_sub (pe_op op_oneShl pe_int (pv 0)) pe_int) pa_nil)))))) pss_never pss_nil))), ?_⟩
    have r1 := r.w1
    have r2 := r.w32
    have r3 := r.le
    have r4 := r.lt
    have ew := pw_int wd
    refine ⟨_, rfl, .int wd, 1, 32, rfl, .int _, _, rfl, ?_⟩
    rw [bet_yes (by omega) (by omega)]
    refine ⟨_, rfl, _, rfl, wd, rfl, rfl, by omega, _, _, rfl, rfl, .int lo, 0, 2 ^ wd - 1, rfl, .int _, _, rfl, ?_⟩
    rw [bet_yes (by omega) (by omega)]
    refine ⟨_, rfl, _, rfl, _, rfl, wd, rfl, rfl, by omega, _, _, rfl, rfl, .int hi, lo, 2 ^ wd - 1, rfl, .int _, _, rfl, ?_⟩
    rw [bet_yes (by omega) (by omega)]
    exact q
/-- prefixes_of: like the blocks -/
def spPrefOf : Sp := fun vs H Q _ => ∃ wd lo hi : Nat, vs = [.int wd, .int lo, .int hi] ∧ Rng wd lo hi ∧ ∀ H' p, Same H H' → H p = none → TupB H' p (blocks wd hi lo) → Q (.ref p) H'
theorem ok_prefOf {f f1 f2 : Addr} {fd fd1 fd2 : FuncData} {k : Nat} (F : Fun K "prefixes_of" "prefixes_of" sPrefOf f fd) (G1 : FnOk P w K mg base CX0 (k + 1) f1 fd1 ["width", "low", "high"] spCheck) (k1 : PySem.W.keepIn K (.ref f1) = true) (b1 : Binds K fd1 ["width", "low", "high"] [])
    (g1 : mg "check_range" = some (.ref f1)) (G2 : FnOk P w K mg base CX0 (k + 1) f2 fd2 ["width", "low", "high"] spBlocks) (k2 : PySem.W.keepIn K (.ref f2) = true) (b2 : Binds K fd2 ["width", "low", "high"] []) (g2 : mg "prefixes_by" = some (.ref f2)) :
    FnOk P w K mg base CX0 (k + 2) f fd ["width", "low", "high"] spPrefOf := by
  refine F.ok scPrefOf (fun vs H Q E h => ?_) (fun cdv A outer s H vs Q E hr h => ?_)
  · obtain ⟨wd, lo, hi, rfl, _⟩ := h
    rfl
  · obtain ⟨wd, lo, hi, rfl, r, q⟩ := h
    refine ⟨_, pss_cons (ps_expr (pe_call G1 hr (by rfl) g1 k1 b1 .nil pass0 (pa_cons (pv 0) (pa_cons (pv 1) (pa_cons (pv 2) pa_nil)))))
      (pss_one (ps_ret (pe_call G2 hr (by rfl) g2 k2 b2 .nil pass0 (pa_cons (pv 0) (pa_cons (pv 1) (pa_cons (pv 2) pa_nil)))))), ?_⟩
    exact ⟨_, rfl, _, rfl, _, rfl, wd, lo, hi, rfl, r, _, rfl, _, rfl, _, rfl, wd, lo, hi, rfl, r.le, r.lt, r.w32, q⟩
/-- are_marks -/
def spMarks : Sp := fun vs H Q _ => ∃ (wd lo hi : Nat) (x : V), vs = [.int wd, .int lo, .int hi, x] ∧ Rng wd lo hi ∧ Thing H x ∧ ∀ H', Same H H' → Q (.bl (marksV lo hi H x)) H'
theorem ok_marks {f f1 f2 : Addr} {fd fd1 fd2 : FuncData} {k : Nat} (F : Fun K "are_marks" "are_marks" sMarks f fd) (G1 : FnOk P w K mg base CX0 (k + 1) f1 fd1 ["width", "low", "high"] spCheck) (k1 : PySem.W.keepIn K (.ref f1) = true) (b1 : Binds K fd1 ["width", "low", "high"] [])
    (g1 : mg "check_range" = some (.ref f1)) (G2 : FnOk P w K mg base CX0 (k + 1) f2 fd2 ["low", "high", "value"] spMarksBy) (k2 : PySem.W.keepIn K (.ref f2) = true) (b2 : Binds K fd2 ["low", "high", "value"] []) (g2 : mg "are_marks_by" = some (.ref f2)) :
    FnOk P w K mg base CX0 (k + 2) f fd ["width", "low", "high", "value"] spMarks := by
  refine F.ok scMarks (fun vs H Q E h => ?_) (fun cdv A outer s H vs Q E hr h => ?_)
  · obtain ⟨wd, lo, hi, x, rfl, _⟩ := h
    rfl
  · obtain ⟨wd, lo, hi, x, rfl, r, ht, q⟩ := h
    refine ⟨_, pss_cons (ps_expr (pe_call G1 hr (by rfl) g1 k1 b1 .nil pass0 (pa_cons (pv 0) (pa_cons (pv 1) (pa_cons (pv 2) pa_nil)))))
      (pss_one (ps_ret (pe_call G2 hr (by rfl) g2 k2 b2 .nil pass0 (pa_cons (pv 1) (pa_cons (pv 2) (pa_cons (pv 3) pa_nil)))))), ?_⟩
    exact ⟨_, rfl, _, rfl, _, rfl, wd, lo, hi, rfl, r, _, rfl, _, rfl, _, rfl, lo, hi, x, rfl, r.lt32, ht, q⟩
end
end K30

/-! K30: _law_jar, _law_draw, _law_of. -/
namespace K30
open PySem PySem.Spec PyProof.Rows L2

/-- at J stands a list of three ints -/
def JarAt (H : Hp) (J : Addr) : Prop := ∃ a b c : Int, H J = some (.lst [.int a, .int b, .int c])
theorem JarAt.same {H H' : Hp} {J : Addr} (h : JarAt H J) (s : Same H H') : JarAt H' J :=
  let ⟨a, b, c, e⟩ := h
  ⟨a, b, c, s _ _ e⟩
theorem cut_mem {xs : List V} {lo hi : Option Int} {y : V} (h : y ∈ cutV xs lo hi) : y ∈ xs := List.mem_of_mem_drop (List.mem_of_mem_take h)
theorem emod6007 (x : Int) : -(2 ^ 64) < x % 6007 + 20011 ∧ x % 6007 + 20011 < 2 ^ 64 := by omega
theorem divp_small {i m : Int} (h0 : 0 < m) (h1 : m ≤ 2 ^ 40) : CDivP i m := by
  refine ⟨h0, PyProof.noPylong_of_log2 ?_⟩
  exact Nat.lt_of_lt_of_le (PySem.Flt.log2_lt_of (k := 41) (by decide) (by omega)) (by decide)

theorem scJar : FnScope ["_law_script", "_law_turn", "_law_mixed", "_law_cell", "_law_own"] ["_law_script", "_law_turn"] (defScope sJar) := ⟨rfl, rfl, rfl, by decide +kernel, rfl, by decide +kernel, by decide +kernel⟩
theorem scDraw : FnScope ["_law_jar_here", "_law_many", "_law_figure", "_law_stirred"] ["_law_jar_here", "_law_many"] (defScope sDraw) := ⟨rfl, rfl, rfl, by decide +kernel, rfl, by decide +kernel, by decide +kernel⟩
theorem scOf : FnScope ["_law_jar_here", "_law_some"] ["_law_jar_here", "_law_some"] (defScope sOf) := ⟨rfl, rfl, rfl, by decide +kernel, rfl, by decide +kernel, by decide +kernel⟩
section
variable {P : Program} {w : World} {K : PySem.W.Frag} {mg : Str → Option Value} {base : Heap}
def spJar (K : PySem.W.Frag) : Sp := fun vs H Q _ => ∃ (a : Addr) (ns : List Int) (t : Nat), vs = [.ref a, .int t] ∧ SqL K H a (ns.map V.int) ∧ ∀ H' p, Same H H' → H p = none → JarAt H' p → Q (.ref p) H'
theorem ok_jar {f : Addr} {fd : FuncData} {k : Nat} (F : Fun K "_law_jar" "_law_jar" sJar f fd) (B : Bt mg) : FnOk P w K mg base CX0 (k + 1) f fd ["_law_script", "_law_turn"] (spJar K) := by
  refine F.ok scJar (fun vs H Q E h => ?_) (fun cdv A outer s H vs Q E hr h => ?_)
  · obtain ⟨a, ns, t, rfl, _⟩ := h
    rfl
  · obtain ⟨a, ns, t, rfl, hS, q⟩ := h
    refine ⟨_, pss_cons (ps_set (i := 2) scJar.nd rfl (.inl rfl) (pe_op op_add pe_int (pe_op op_mul pe_int (pv 1))))
      (pss_cons (ps_for PassesOwn.never rfl (pi_list (pe_slice sl_list (pv 0) po_none (po_some pe_int))) (pg_name (i := 3) scJar.nd rfl (.inl rfl))
        (pss_one (ps_set (i := 2) scJar.nd rfl (.inl rfl) (pe_op op_mod (pe_callTy call_int1 (by rfl) B.int b_int (pa_cons (pe_op op_add (pe_op op_add (pe_op op_mul (pv 2) pe_int)
          (pe_op op_mul (pe_op op_mod (pe_callTy call_int1 (by rfl) B.int b_int (pa_cons (pv 3) pa_nil)) pe_int) pe_int)) pe_int) pa_nil)) pe_int))))
      (pss_cons (ps_set (i := 4) scJar.nd rfl (.inl rfl) (pe_ifExp (pt_cmpR op_lt (pv 1) (pe_callB call_len_seq (by rfl) B.len b_len (pa_cons (pv 0) pa_nil)) (nomark _))
        (pe_callTy call_int1 (by rfl) B.int b_int (pa_cons (pe_ix ix_list (pv 0) (pv 1) (fun _ _ => rfl)) pa_nil)) pe_int))
      (pss_cons (ps_set (i := 2) scJar.nd rfl (.inl rfl) (pe_op op_mod (pe_callTy call_int1 (by rfl) B.int b_int (pa_cons (pe_op op_add (pe_op op_add (pe_op op_mul (pv 2) pe_int)
          (pe_op op_mul (pe_op op_mod (pe_callTy call_int1 (by rfl) B.int b_int (pa_cons (pv 4) pa_nil)) pe_int) pe_int)) pe_int) pa_nil)) pe_int))
      (pss_one (ps_ret (pe_lst (pa_cons (pe_ifExp (PW.pt (pw_or (pt_cmpR op_lt (pv 4) pe_int (nomark _)) (pw_or1 (pt_cmpR op_ge (pv 4) (pe_op op_pow pe_int pe_int) (nomark _)))))
        (pe_callB call_abs (by rfl) B.abs b_abs (pa_cons (pv 4) pa_nil)) pe_int) (pa_cons (pv 2) (pa_cons pe_int pa_nil))))))))), ?_⟩
    refine ⟨_, rfl, _, _, rfl, rfl, .inl ⟨by decide, by decide⟩, _, _, rfl, rfl, ?_⟩
    -- the loop over script[:9]
    refine ⟨.ref a, rfl, ?_⟩
    dsimp only [tNoPart]
    refine ⟨9, rfl, a, _, rfl, hS, fun c nc => ?_⟩
    have hC : SqL K (upd H c (.lst (cutV (ns.map V.int) none (some 9)))) c (cutV (ns.map V.int) none (some 9)) := SqL.of upd_same
    refine ⟨c, rfl, ⟨_, hC⟩, ?_⟩
    refine for_list (D := ⟨_, _, fun _ _ => False, fun _ _ => False⟩) (fun i σ H' => ∃ (m : Int) (y3 : Option V), σ = [some (.ref a), some (.int t), some (.int m), y3, none] ∧ H' = upd H c (.lst (cutV (ns.map V.int) none (some 9)))) ⟨_, _, rfl, rfl⟩
      (fun i σ H' _ p => by obtain ⟨_, _, _, rfl⟩ := p; exact hC) (fun i x σ H' hx p => ?_) (fun σ H' p => ?_)
    · obtain ⟨m, y3, rfl, rfl⟩ := p
      obtain ⟨k, _, rfl⟩ := List.mem_map.mp (cut_mem (List.mem_of_getElem? hx))
      exact ⟨_, rfl, _, _, rfl, rfl, .inr ⟨by decide, by decide⟩, _, rfl, .inl ⟨_, rfl, _, _, rfl, rfl, (by show (0 : Int) < _; decide), _, _, rfl, rfl, .inr ⟨by decide, by decide⟩, _, _, rfl, rfl, _, _, rfl, rfl,
        .inl ⟨_, rfl, _, _, rfl, rfl, (by show (0 : Int) < _; decide), _, _, rfl, rfl⟩⟩⟩
    · obtain ⟨m, y3, rfl, rfl⟩ := p
      have s1 : Same H (upd H c (.lst (cutV (ns.map V.int) none (some 9)))) := same_new nc
      generalize upd H c (.lst (cutV (ns.map V.int) none (some 9))) = H1 at s1 ⊢
      have hS1 := s1.seq hS
      -- the rest, whatever own is
      have rest : ∀ own : Int, tSeq (tAsg (tOp (rI (fun _ j => 0 < j) fun i j => .int (i % j)) (tCB (fun xs H Q => (∃ i, xs = [.int i] ∧ Q (.int i) H) ∨ ∃ k, xs = [.bl k] ∧ Q (.int (if k then 1 else 0)) H)
          (tCons (tOp (rI0 fun i j => .int (i + j)) (tOp (rI0 fun i j => .int (i + j)) (tOp (rI CMul fun i j => .int (i * j)) (tVar 2) (tC (.int 41)))
            (tOp (rI CMul fun i j => .int (i * j)) (tOp (rI (fun _ j => 0 < j) fun i j => .int (i % j)) (tCB (fun xs H Q => (∃ i, xs = [.int i] ∧ Q (.int i) H) ∨ ∃ k, xs = [.bl k] ∧ Q (.int (if k then 1 else 0)) H) (tCons (tVar 4) tNil)) (tC (.int 2147483477))) (tC (.int 30013)))) (tC (.int 5))) tNil)) (tC (.int 2147483477))) (gName 2))
          (tRet (tLst (tCons (tIf (tOr (tTest (tOp (rI0 fun i j => .bl (decide (i < j))) (tVar 4) (tC (.int 0)))) (tTest (tOp (rI0 fun i j => .bl (decide (j ≤ i))) (tVar 4) (tOp (rI CPow fun i j => .int (i ^ j.toNat)) (tC (.int 10)) (tC (.int 15))))))
            (tCB (fun xs H Q => ∃ i, xs = [.int i] ∧ Q (.int (if i < 0 then -i else i)) H) (tCons (tVar 4) tNil)) (tC (.int 0))) (tCons (tVar 2) (tCons (tC (.int 0)) tNil)))))
          { nx := fun _ H' => Q .non H', rt := Q } [some (.ref a), some (.int t), some (.int m), y3, some (.int own)] H1 := fun own => by
        refine ⟨_, rfl, _, _, rfl, rfl, .inr ⟨by decide, by decide⟩, _, rfl, .inl ⟨_, rfl, _, _, rfl, rfl, (by show (0 : Int) < _; decide), _, _, rfl, rfl, .inr ⟨by decide, by decide⟩, _, _, rfl, rfl, _, _, rfl, rfl,
          .inl ⟨_, rfl, _, _, rfl, rfl, (by show (0 : Int) < _; decide), ?_⟩⟩⟩
        have fin : ∀ z y : Int, ∀ p : Addr, H1 p = none → Q (.ref p) (upd H1 p (.lst [.int z, .int y, .int 0])) := fun z y p np =>
          q _ p (s1.trans (same_new np)) (s1.free np) ⟨_, _, _, upd_same⟩
        refine ⟨_, rfl, _, _, rfl, rfl, _, rfl, ite2 (fun e => ?_) (fun e => ?_)⟩
        · exact ⟨_, rfl, _, rfl, _, rfl, by show 3 ≤ sizeLine; decide, fun p np => fin _ _ p np⟩
        · refine ⟨_, rfl, _, _, rfl, rfl, ⟨by decide, by decide, by decide⟩, _, _, rfl, rfl, _, rfl, ?_⟩
          refine ite2 (fun e => ?_) (fun e => ?_)
          · exact ⟨_, rfl, _, rfl, _, rfl, by show 3 ≤ sizeLine; decide, fun p np => fin _ _ p np⟩
          · exact ⟨_, rfl, by show 3 ≤ sizeLine; decide, fun p np => fin _ _ p np⟩
      -- own = int(script[turn]) if turn < len(script) else 0
      refine ⟨_, rfl, _, rfl, a, _, rfl, .inl hS1, _, _, rfl, rfl, _, rfl, ite2 (fun e => ?_) (fun e => ?_)⟩
      · have lt : t < ns.length := by
          have z := of_decide_eq_true e
          rw [List.length_map] at z
          omega
        have g : (ns.map V.int)[t]? = some (.int ns[t]) := by rw [List.getElem?_map, List.getElem?_eq_getElem lt]; rfl
        exact ⟨_, rfl, _, rfl, a, _, _, _, rfl, rfl, hS1, atI_nat g, .inl ⟨_, rfl, rest _⟩⟩
      · exact rest _
/-! ### _law_draw -/
def spDraw : Sp := fun vs H Q _ => ∃ (J : Addr) (m : Int), vs = [.ref J, .int m] ∧ JarAt H J ∧ 0 < m ∧ m ≤ 2 ^ 40 ∧ ∀ H' r, SameJ J H H' → JarAt H' J → 0 ≤ r → r < m → Q (.int r) H'
theorem ok_draw {f : Addr} {fd : FuncData} {k : Nat} (F : Fun K "_law_draw" "_law_draw" sDraw f fd) (B : Bt mg) : FnOk P w K mg base CX0 (k + 1) f fd ["_law_jar_here", "_law_many"] spDraw := by
  refine F.ok scDraw (fun vs H Q E h => ?_) (fun cdv A outer s H vs Q E hr h => ?_)
  · obtain ⟨J, m, rfl, _⟩ := h
    rfl
  · obtain ⟨J, m, rfl, ⟨x, y, z, hJ⟩, h0, h1, q⟩ := h
    refine ⟨_, pss_cons (ps_if (pt_cmpR op_gt (pe_ix ix_list (pv 0) pe_int (fun _ _ => rfl)) pe_int (nomark _))
        (pss_cons (ps_asg (pe_callB call_divmodW (by rfl) B.divmod b_divmod (pa_cons (pe_ix ix_list (pv 0) pe_int (fun _ _ => rfl)) (pa_cons (pv 1) pa_nil)))
            (pg_tup rfl (pgs_cons (pg_sub (pv 0) pe_int set_list) (pgs_cons (pg_name (i := 2) scDraw.nd rfl (.inl rfl)) pgs_nil))))
          (pss_one (ps_ret (pv 2)))) pss_nil)
      (pss_cons (ps_asg (pe_op op_add (pe_ix ix_list (pv 0) pe_int (fun _ _ => rfl)) pe_int) (pg_sub (pv 0) pe_int set_list))
      (pss_cons (ps_set (i := 3) scDraw.nd rfl (.inl rfl) (pe_op op_mod (pe_callTy call_int1 (by rfl) B.int b_int (pa_cons (pe_op op_add (pe_op op_add (pe_op op_mul (pe_ix ix_list (pv 0) pe_int (fun _ _ => rfl)) pe_int)
          (pe_op op_mul (pe_ix ix_list (pv 0) pe_int (fun _ _ => rfl)) pe_int)) pe_int) pa_nil)) pe_int))
      (pss_cons (ps_asg (pv 3) (pg_sub (pv 0) pe_int set_list))
      (pss_one (ps_ret (pe_op op_mod (pe_callTy call_int1 (by rfl) B.int b_int (pa_cons (pe_op op_fdiv (pe_op op_mod (pe_callTy call_int1 (by rfl) B.int b_int (pa_cons (pe_op op_mul (pv 3)
          (pe_op op_add (pe_op op_mod (pe_callTy call_int1 (by rfl) B.int b_int (pa_cons (pv 3) pa_nil)) pe_int) pe_int)) pa_nil)) pe_int) pe_int) pa_nil)) (pv 1))))))), ?_⟩
    refine ⟨_, rfl, J, _, 0, .int x, rfl, rfl, SqL.of hJ, atI_nat (j := 0) rfl, _, _, rfl, rfl, _, rfl, ite2 (fun e => ?_) (fun e => ?_)⟩
    · refine ⟨_, rfl, J, _, 0, .int x, rfl, rfl, SqL.of hJ, atI_nat (j := 0) rfl, _, rfl, _, _, rfl, divp_small h0 h1, fun T nT => ?_⟩
      have neT : J ≠ T := ne_of_none hJ nT
      refine ⟨T, _, rfl, SqT.of upd_same, rfl, _, _, rfl, ?_⟩
      refine ⟨_, rfl, J, _, 0, 0, rfl, rfl, (upd_ne neT).trans hJ, rfl, ?_⟩
      refine ⟨_, _, rfl, rfl, _, rfl, ?_⟩
      refine q _ _ (fun b o n z => ?_) ⟨_, _, _, upd_same⟩ (Int.emod_nonneg _ (by omega)) (Int.emod_lt_of_pos _ h0)
      rw [upd_ne n]
      exact same_new nT _ _ z
    · refine ⟨_, rfl, J, _, 2, .int z, rfl, rfl, SqL.of hJ, atI_nat (j := 2) rfl, _, _, rfl, rfl, _, rfl, J, _, 2, 2, rfl, rfl, hJ, rfl, ?_⟩
      refine ⟨_, rfl, J, _, 1, .int y, rfl, rfl, SqL.of upd_same, atI_nat (j := 1) rfl, _, _, rfl, rfl, .inr ⟨by decide, by decide⟩, _, rfl, J, _, 2, .int (z + 1), rfl, rfl, SqL.of upd_same, atI_nat (j := 2) rfl, _, _, rfl, rfl, .inr ⟨by decide, by decide⟩,
        _, _, rfl, rfl, _, _, rfl, rfl, .inl ⟨_, rfl, _, _, rfl, rfl, (by show (0 : Int) < _; decide), ?_⟩⟩
      refine ⟨_, rfl, _, rfl, J, _, 1, 1, rfl, rfl, upd_same, rfl, ?_⟩
      refine ⟨_, rfl, _, rfl, .inl ⟨_, rfl, _, _, rfl, rfl, (by show (0 : Int) < _; decide), _, _, rfl, rfl, _, _, rfl, rfl, .inr (emod6007 _), .inl ⟨_, rfl, _, _, rfl, rfl, (by show (0 : Int) < _; decide), _, _, rfl, rfl, ⟨by decide, by decide⟩, .inl ⟨_, rfl, _, rfl, _, _, rfl, rfl, h0, ?_⟩⟩⟩⟩
      refine q _ _ (fun b o n e => ?_) ⟨_, _, _, upd_same⟩ (Int.emod_nonneg _ (by omega)) (Int.emod_lt_of_pos _ h0)
      rw [upd_ne n, upd_ne n]
      exact e
/-! ### _law_of -/
def spOf : Sp := fun vs H Q _ => ∃ (J p : Addr) (xs : List V), vs = [.ref J, .ref p] ∧ JarAt H J ∧ H p = some (.tup xs) ∧ xs ≠ [] ∧ xs.length ≤ 1000 ∧ ∀ H' x, SameJ J H H' → JarAt H' J → x ∈ xs → Q x H'
theorem ok_of {f f1 : Addr} {fd fd1 : FuncData} {k : Nat} (F : Fun K "_law_of" "_law_of" sOf f fd) (G1 : FnOk P w K mg base CX0 (k + 1) f1 fd1 ["_law_jar_here", "_law_many"] spDraw) (k1 : PySem.W.keepIn K (.ref f1) = true) (b1 : Binds K fd1 ["_law_jar_here", "_law_many"] [])
    (g1 : mg "_law_draw" = some (.ref f1)) (B : Bt mg) : FnOk P w K mg base CX0 (k + 2) f fd ["_law_jar_here", "_law_some"] spOf := by
  refine F.ok scOf (fun vs H Q E h => ?_) (fun cdv A outer s H vs Q E hr h => ?_)
  · obtain ⟨J, p, xs, rfl, _⟩ := h
    rfl
  · obtain ⟨J, p, xs, rfl, hJ, hp, hne, hlen, q⟩ := h
    refine ⟨_, pss_one (ps_ret (pe_ix ix_tup (pv 1) (pe_call G1 hr (by rfl) g1 k1 b1 .nil pass0 (pa_cons (pv 0) (pa_cons (pe_callB call_len_seq (by rfl) B.len b_len (pa_cons (pv 1) pa_nil)) pa_nil))) (fun _ _ => rfl))), ?_⟩
    have pos : 0 < xs.length := List.length_pos_iff.mpr hne
    have np : p ≠ J := by
      obtain ⟨_, _, _, z⟩ := hJ
      exact ne_of hp z fun y => by cases y
    refine ⟨_, rfl, _, rfl, _, rfl, p, _, rfl, .inr (SqT.of hp), J, _, rfl, hJ, by omega, by omega, fun H' r sm hJ' h0 h1 => ?_⟩
    have lt : r.toNat < xs.length := by omega
    have e : r = ((r.toNat : Nat) : Int) := by omega
    refine ⟨p, xs, r, xs[r.toNat], rfl, rfl, SqT.of (sm _ _ np hp), at_of e (List.getElem?_eq_getElem lt), q H' _ sm hJ' (List.getElem_mem lt)⟩
end
end K30

/-! K30: _law_same, _law_is_whole, _law_top, _law_range. -/
namespace K30
open PySem PySem.Spec PyProof.Rows L2

theorem scSame : FnScope ["_law_told", "_law_due"] ["_law_told", "_law_due"] (defScope sSame) := ⟨rfl, rfl, rfl, by decide +kernel, rfl, by decide +kernel, by decide +kernel⟩
theorem scLWhole : FnScope ["_law_thing", "_law_low", "_law_high"] ["_law_thing", "_law_low", "_law_high"] (defScope sLWhole) := ⟨rfl, rfl, rfl, by decide +kernel, rfl, by decide +kernel, by decide +kernel⟩
theorem scTop : FnScope ["_law_width", "_law_found", "_law_turn"] ["_law_width"] (defScope sTop) := ⟨rfl, rfl, rfl, by decide +kernel, rfl, by decide +kernel, by decide +kernel⟩
theorem scRange : FnScope ["_law_jar_here", "_law_width", "_law_top_here", "_law_one", "_law_two"] ["_law_jar_here", "_law_width"] (defScope sRange) := ⟨rfl, rfl, rfl, by decide +kernel, rfl, by decide +kernel, by decide +kernel⟩
/-- data that repr can show -/
structure Shows (d : PyData) : Prop where
  sh : d.showable = true
  nd : d.hasDict = false
  dp : d.depth ≤ 10
  sz : d.shown.length ≤ sizeLine
section
variable {P : Program} {w : World} {K : PySem.W.Frag} {mg : Str → Option Value} {base : Heap}
def spSame (K : PySem.W.Frag) : Sp := fun vs H Q _ => ∃ (a b : Addr) (d : PyData), vs = [.ref a, .ref b] ∧ Dp K H (.ref a) d ∧ Dp K H (.ref b) d ∧ Shows d ∧ Q (.bl true) H
theorem ok_same {f : Addr} {fd : FuncData} {k : Nat} (F : Fun K "_law_same" "_law_same" sSame f fd) (B : Bt mg) : FnG P w K mg base CX0 (k + 1) f fd ["_law_told", "_law_due"] (spSame K) := by
  refine fun_okG F scSame (fun vs H Q E h => ?_) (fun cdv A outer s H vs Q E gd hr h => ?_)
  · obtain ⟨a, b, d, rfl, _⟩ := h
    rfl
  · obtain ⟨a, b, d, rfl, ha, hb, S, q⟩ := h
    refine ⟨_, pss_one (ps_ret (pe_cmpR op_eq (pe_callB (call_repr gd hr.units) (by rfl) B.repr b_repr (pa_cons (pv 0) pa_nil)) (pe_callB (call_repr gd hr.units) (by rfl) B.repr b_repr (pa_cons (pv 1) pa_nil)) (nomark _))), ?_⟩
    refine ⟨_, rfl, a, d, rfl, ha, S.sh, S.nd, S.dp, S.sz, _, rfl, b, d, rfl, hb, S.sh, S.nd, S.dp, S.sz, rfl, ?_⟩
    show Q (.bl (decide (V.str d.shown = V.str d.shown))) H
    rw [decide_eq_true rfl]
    exact q
/-! ### _law_is_whole -/
theorem ok_lwhole {f : Addr} {fd : FuncData} {k : Nat} (F : Fun K "_law_is_whole" "_law_is_whole" sLWhole f fd) (B : Bt mg) : FnOk P w K mg base CX0 (k + 1) f fd ["_law_thing", "_law_low", "_law_high"] spBetween := by
  refine F.ok scLWhole (fun vs H Q E h => ?_) (fun cdv A outer s H vs Q E hr h => ?_)
  · obtain ⟨x, lo, hi, rfl, _⟩ := h
    rfl
  · obtain ⟨x, lo, hi, rfl, it, q⟩ := h
    refine ⟨_, pss_one (ps_ret (pe_and (pe_isi (by rfl) B.isi (pv 0) (by rfl) B.int b_int) (pe_and (pe_not (pe_isi (by rfl) B.isi (pv 0) (by rfl) B.bool b_bool)) (pe_one (pe_chain op_le op_le (pv 1) (pv 0) (pv 2)))))), ?_⟩
    refine ⟨x, rfl, isi_int it ⟨_, rfl, ?_⟩⟩
    cases x with
    | int i =>
      have q : Q (.bl (decide (lo ≤ i) && decide (i ≤ hi))) H := q
      refine iteT ⟨.int i, rfl, isi_bool it ⟨_, rfl, _, rfl, ?_⟩⟩
      refine iteT ⟨.int lo, rfl, .int i, rfl, _, _, rfl, rfl, _, rfl, ?_⟩
      refine ite2 (fun e => ⟨.int hi, rfl, _, _, rfl, rfl, ?_⟩) (fun e => ?_)
      · rw [e, Bool.true_and] at q
        exact q
      · rw [Bool.eq_false_iff.mpr e, Bool.false_and] at q
        exact q
    | bl b => exact iteT ⟨.bl b, rfl, isi_bool it ⟨_, rfl, _, rfl, iteF q⟩⟩
    | _ => exact iteF q
/-! ### _law_top -/
def spTop : Sp := fun vs H Q _ => ∃ n : Nat, vs = [.int n] ∧ n ≤ 32 ∧ Q (.int ((2 ^ n : Nat) : Int)) H
theorem ok_top {f : Addr} {fd : FuncData} {k : Nat} (F : Fun K "_law_top" "_law_top" sTop f fd) (B : Bt mg) : FnOk P w K mg base CX0 (k + 1) f fd ["_law_width"] spTop := by
  refine F.ok scTop (fun vs H Q E h => ?_) (fun cdv A outer s H vs Q E hr h => ?_)
  · obtain ⟨n, rfl, _⟩ := h
    rfl
  · obtain ⟨n, rfl, hn, q⟩ := h
    refine ⟨_, pss_cons (ps_set (i := 1) scTop.nd rfl (.inl rfl) pe_int)
      (pss_cons (ps_for PassesOwn.never rfl (pi_range1 (by rfl) B.range (pa_cons (pv 0) pa_nil)) (pg_name (i := 2) scTop.nd rfl (.inl rfl)) (pss_one (ps_set (i := 1) scTop.nd rfl (.inl rfl) (pe_op op_mul (pv 1) pe_int))))
      (pss_one (ps_ret (pv 1)))), ?_⟩
    refine ⟨_, rfl, (n : Int), rfl, by omega, by omega, ?_⟩
    rw [Int.toNat_natCast]
    refine for_range (D := ⟨_, _, fun _ _ => False, fun _ _ => False⟩) (fun i σ H' => ∃ y2 : Option V, σ = [some (.int n), some (.int ((2 ^ i : Nat) : Int)), y2] ∧ H' = H) ⟨_, rfl, rfl⟩ (fun i σ H' hi p => ?_) (fun σ H' p => ?_)
    · obtain ⟨y2, rfl, rfl⟩ := p
      refine ⟨_, rfl, _, _, rfl, rfl, .inr ⟨by decide, by decide⟩, some (.int (0 + (i : Int))), ?_, rfl⟩
      have e : ((2 ^ (i + 1) : Nat) : Int) = ((2 ^ i : Nat) : Int) * 2 := by
        rw [pw_succ]
        omega
      rw [e]
      rfl
    · obtain ⟨y2, rfl, rfl⟩ := p
      exact ⟨_, rfl, q⟩
/-! ### _law_range -/
def spRange : Sp := fun vs H Q _ => ∃ (J : Addr) (wd : Nat), vs = [.ref J, .int wd] ∧ JarAt H J ∧ 1 ≤ wd ∧ wd ≤ 32 ∧
  ∀ (H' : Hp) (p : Addr) (lo hi : Nat), SameJ J H H' → JarAt H' J → H' p = some (.tup [.int lo, .int hi]) → Rng wd lo hi → Q (.ref p) H'
/-- numbers from 0 to t -/
def Upto (t : Int) (x : V) : Prop := ∃ z : Int, x = .int z ∧ 0 ≤ z ∧ z ≤ t
theorem ok_range {f f1 f2 f3 : Addr} {fd fd1 fd2 fd3 : FuncData} {k : Nat} (F : Fun K "_law_range" "_law_range" sRange f fd) (G1 : FnOk P w K mg base CX0 (k + 2) f1 fd1 ["_law_jar_here", "_law_many"] spDraw) (k1 : PySem.W.keepIn K (.ref f1) = true) (b1 : Binds K fd1 ["_law_jar_here", "_law_many"] [])
    (g1 : mg "_law_draw" = some (.ref f1)) (G2 : FnOk P w K mg base CX0 (k + 2) f2 fd2 ["_law_jar_here", "_law_some"] spOf) (k2 : PySem.W.keepIn K (.ref f2) = true) (b2 : Binds K fd2 ["_law_jar_here", "_law_some"] []) (g2 : mg "_law_of" = some (.ref f2))
    (G3 : FnOk P w K mg base CX0 (k + 2) f3 fd3 ["_law_width"] spTop) (k3 : PySem.W.keepIn K (.ref f3) = true) (b3 : Binds K fd3 ["_law_width"] []) (g3 : mg "_law_top" = some (.ref f3)) (B : Bt mg) : FnOk P w K mg base CX0 (k + 3) f fd ["_law_jar_here", "_law_width"] spRange := by
  refine F.ok scRange (fun vs H Q E h => ?_) (fun cdv A outer s H vs Q E hr h => ?_)
  · obtain ⟨J, wd, rfl, _⟩ := h
    rfl
  · obtain ⟨J, wd, rfl, hJ, w1, w32, q⟩ := h
    refine ⟨_, pss_cons (ps_set (i := 2) scRange.nd rfl (.inl rfl) (pe_op op_sub (pe_call G3 hr (by rfl) g3 k3 b3 .nil pass0 (pa_cons (pv 1) pa_nil)) pe_int))
      (pss_cons (ps_set (i := 3) scRange.nd rfl (.inl rfl) (pe_call G2 hr (by rfl) g2 k2 b2 .nil pass0 (pa_cons (pv 0) (pa_cons (pe_tup (pa_cons pe_int (pa_cons (pv 2)
          (pa_cons (pe_call G1 hr (by rfl) g1 k1 b1 .nil pass0 (pa_cons (pv 0) (pa_cons (pe_op op_add (pv 2) pe_int) pa_nil))) (pa_cons (pe_call G1 hr (by rfl) g1 k1 b1 .nil pass0 (pa_cons (pv 0) (pa_cons (pe_op op_add (pv 2) pe_int) pa_nil)))
          (pa_cons (pe_callB (call_min2 rfl) (by rfl) B.min b_min (pa_cons pe_int (pa_cons (pv 2) pa_nil))) (pa_cons (pe_callB (call_max2 rfl) (by rfl) B.max b_max (pa_cons pe_int (pa_cons (pe_op op_sub (pv 2) pe_int) pa_nil))) pa_nil))))))) pa_nil))))
      (pss_cons (ps_set (i := 4) scRange.nd rfl (.inl rfl) (pe_call G2 hr (by rfl) g2 k2 b2 .nil pass0 (pa_cons (pv 0) (pa_cons (pe_tup (pa_cons (pv 3) (pa_cons (pv 2) (pa_cons pe_int
          (pa_cons (pe_call G1 hr (by rfl) g1 k1 b1 .nil pass0 (pa_cons (pv 0) (pa_cons (pe_op op_add (pv 2) pe_int) pa_nil))) (pa_cons (pe_call G1 hr (by rfl) g1 k1 b1 .nil pass0 (pa_cons (pv 0) (pa_cons (pe_op op_add (pv 2) pe_int) pa_nil))) pa_nil)))))) pa_nil))))
      (pss_one (ps_ret (pe_tup (pa_cons (pe_callB (call_min2 rfl) (by rfl) B.min b_min (pa_cons (pv 3) (pa_cons (pv 4) pa_nil))) (pa_cons (pe_callB (call_max2 rfl) (by rfl) B.max b_max (pa_cons (pv 3) (pa_cons (pv 4) pa_nil))) pa_nil))))))), ?_⟩
    have hz := pw32 w32
    have hp := pw_pos wd
    have h2 : 2 ≤ 2 ^ wd := pw_le w1
    have hlt : ∀ z : Int, 0 ≤ z → z ≤ ((2 ^ wd : Nat) : Int) - 1 → z.toNat < 2 ^ wd := fun z a b => by omega
    generalize hN : 2 ^ wd = N at hz hp h2 hlt
    refine ⟨_, rfl, wd, rfl, w32, _, _, rfl, rfl, ?_⟩
    rw [hN]
    have pos : (0 : Int) < (N : Int) - 1 + 1 ∧ (N : Int) - 1 + 1 ≤ 2 ^ 40 := ⟨by omega, by omega⟩
    -- one
    refine ⟨_, rfl, _, rfl, _, rfl, _, rfl, _, _, rfl, rfl, J, _, rfl, hJ, pos.1, pos.2, fun H1 r1 s1 J1 a1 a2 => ?_⟩
    refine ⟨_, rfl, _, rfl, _, _, rfl, rfl, J, _, rfl, J1, pos.1, pos.2, fun H2 r2 s2 J2 a3 a4 => ?_⟩
    refine ⟨_, rfl, _, _, rfl, _, rfl, _, _, rfl, rfl, _, _, rfl, by show 6 ≤ sizeLine; decide, fun p1 n1 => ?_⟩
    refine ⟨J, p1, _, rfl, J2.same (same_new n1), upd_same, List.cons_ne_nil _ _, by show 6 ≤ 1000; decide, fun H3 x s3 J3 hx => ?_⟩
    have ux : Upto ((N : Int) - 1) x := by
      simp only [List.mem_cons, List.not_mem_nil, or_false] at hx
      rcases hx with rfl | rfl | rfl | rfl | rfl | rfl
      · exact ⟨_, rfl, by omega, by omega⟩
      · exact ⟨_, rfl, by omega, by omega⟩
      · exact ⟨_, rfl, by omega, by omega⟩
      · exact ⟨_, rfl, by omega, by omega⟩
      · exact ⟨_, rfl, by split <;> omega, by split <;> omega⟩
      · exact ⟨_, rfl, by split <;> omega, by split <;> omega⟩
    obtain ⟨o, rfl, o1, o2⟩ := ux
    have t3 : SameJ J H H3 := ((s1.trans s2).trans (.of (same_new n1))).trans s3
    -- two
    refine ⟨_, rfl, _, rfl, _, rfl, _, rfl, _, rfl, _, _, rfl, rfl, J, _, rfl, J3, pos.1, pos.2, fun H4 r4 s4 J4 a5 a6 => ?_⟩
    refine ⟨_, rfl, _, rfl, _, _, rfl, rfl, J, _, rfl, J4, pos.1, pos.2, fun H5 r5 s5 J5 a7 a8 => ?_⟩
    refine ⟨by show 5 ≤ sizeLine; decide, fun p2 n2 => ?_⟩
    refine ⟨J, p2, _, rfl, J5.same (same_new n2), upd_same, List.cons_ne_nil _ _, by show 5 ≤ 1000; decide, fun H6 y s6 J6 hy => ?_⟩
    have uy : Upto ((N : Int) - 1) y := by
      simp only [List.mem_cons, List.not_mem_nil, or_false] at hy
      rcases hy with rfl | rfl | rfl | rfl | rfl
      · exact ⟨_, rfl, by omega, by omega⟩
      · exact ⟨_, rfl, by omega, by omega⟩
      · exact ⟨_, rfl, by omega, by omega⟩
      · exact ⟨_, rfl, by omega, by omega⟩
      · exact ⟨_, rfl, by omega, by omega⟩
    obtain ⟨u, rfl, u1, u2⟩ := uy
    have t6 : SameJ J H H6 := (((t3.trans s4).trans s5).trans (.of (same_new n2))).trans s6
    -- the pair
    refine ⟨_, rfl, _, rfl, _, _, rfl, _, rfl, _, rfl, _, _, rfl, by show 2 ≤ sizeLine; decide, fun p3 n3 => ?_⟩
    have e1 : (if u < o then u else o) = (((if u < o then u else o).toNat : Nat) : Int) := by split <;> omega
    have e2 : (if u > o then u else o) = (((if u > o then u else o).toNat : Nat) : Int) := by split <;> omega
    refine q _ p3 (if u < o then u else o).toNat (if u > o then u else o).toNat (t6.trans (.of (same_new n3))) (J6.same (same_new n3)) ?_ ⟨w1, w32, ?_, ?_⟩
    · rw [upd_same, ← e1, ← e2]
    · split <;> split <;> omega
    · rw [hN]
      split <;> omega
end
end K30

/-! K30: _law_odd, _law_bent. -/
namespace K30
open PySem PySem.Spec PyProof.Rows L2

/-! ### things stay things -/
section
variable {H H' : Hp} {x : V} {J a : Addr} {xs : List V}
theorem Item.jar (h : Item H x) (hJ : JarAt H J) (s : SameJ J H H') (hJ' : JarAt H' J) : Item H' x := by
  obtain ⟨_, _, _, eJ⟩ := hJ
  obtain ⟨_, _, _, eJ'⟩ := hJ'
  cases h with
  | non => exact .non
  | bl b => exact .bl b
  | int i => exact .int i
  | str z => exact .str z
  | @lst a xs e =>
    by_cases c : a = J
    · subst c
      exact .lst eJ'
    · exact .lst (s _ _ c e)
  | tup e => exact .tup (s _ _ (ne_of e eJ fun z => by cases z) e)
  | dct e => exact .dct (s _ _ (ne_of e eJ fun z => by cases z) e)
theorem tupOf_jar (h : Item H x) (hJ : JarAt H J) (s : SameJ J H H') (hJ' : JarAt H' J) : tupOf H' x = tupOf H x := by
  obtain ⟨_, _, _, eJ⟩ := hJ
  obtain ⟨_, _, _, eJ'⟩ := hJ'
  cases h with
  | @lst a xs e =>
    by_cases c : a = J
    · subst c
      unfold tupOf
      dsimp only
      rw [eJ, eJ']
    · unfold tupOf
      dsimp only
      rw [e, s _ _ c e]
  | tup e => rw [tupOf_tup e, tupOf_tup (s _ _ (ne_of e eJ fun z => by cases z) e)]
  | dct e =>
    have e' := s _ _ (ne_of e eJ fun z => by cases z) e
    unfold tupOf
    dsimp only
    rw [e, e']
  | _ => rfl
theorem Thing.jar (h : Thing H x) (hJ : JarAt H J) (s : SameJ J H H') (hJ' : JarAt H' J) : Thing H' x :=
  ⟨h.1.jar hJ s hJ', fun xs e => by
    rw [tupOf_jar h.1 hJ s hJ'] at e
    exact ⟨fun y hy => ((h.2 xs e).1 y hy).jar hJ s hJ', (h.2 xs e).2⟩⟩
theorem Thing.same (h : Thing H x) (s : Same H H') : Thing H' x :=
  ⟨h.1.same s, fun xs e => by
    rw [tupOf_same h.1 s] at e
    exact ⟨fun y hy => ((h.2 xs e).1 y hy).same s, (h.2 xs e).2⟩⟩
theorem Thing.tup (h : H a = some (.tup xs)) (hx : ∀ y ∈ xs, Item H y) (hz : xs.length ≤ 1000) : Thing H (.ref a) :=
  ⟨.tup h, fun ys e => by
    rw [tupOf_tup h] at e
    cases e
    exact ⟨hx, hz⟩⟩
theorem Thing.lst (h : H a = some (.lst xs)) : Thing H (.ref a) :=
  ⟨.lst h, fun ys e => by
    obtain ⟨b, e1, e2⟩ := of_tupOf e
    cases e1
    rw [h] at e2
    cases e2⟩
theorem Thing.dct {kv : List (Key × V)} (h : H a = some (.dK kv)) : Thing H (.ref a) :=
  ⟨.dct h, fun ys e => by
    obtain ⟨b, e1, e2⟩ := of_tupOf e
    cases e1
    rw [h] at e2
    cases e2⟩
theorem Thing.of (h : Item H x) (n : tupOf H x = none) : Thing H x := ⟨h, fun ys e => by rw [n] at e; cases e⟩
theorem Thing.int (i : Int) : Thing H (.int i) := .of (.int i) rfl
end
/-- all of them are things -/
def Things (H : Hp) (xs : List V) : Prop := ∀ x ∈ xs, Thing H x
theorem Things.nil (H : Hp) : Things H [] := fun _ h => absurd h List.not_mem_nil
theorem Things.cons {H : Hp} {x : V} {xs : List V} (h : Thing H x) (t : Things H xs) : Things H (x :: xs) := fun y hy => (List.mem_cons.mp hy).elim (fun e => e ▸ h) (t y)
theorem Things.snoc {H : Hp} {x : V} {xs : List V} (h : Thing H x) (t : Things H xs) : Things H (xs ++ [x]) := fun y hy => (List.mem_append.mp hy).elim (t y) (fun z => List.mem_singleton.mp z ▸ h)
theorem Things.app {H : Hp} {xs ys : List V} (h : Things H xs) (t : Things H ys) : Things H (xs ++ ys) := fun y hy => (List.mem_append.mp hy).elim (h y) (t y)
theorem Things.same {H H' : Hp} {xs : List V} (h : Things H xs) (s : Same H H') : Things H' xs := fun y hy => (h y hy).same s
theorem Things.jar {H H' : Hp} {xs : List V} {J : Addr} (h : Things H xs) (hJ : JarAt H J) (s : SameJ J H H') (hJ' : JarAt H' J) : Things H' xs := fun y hy => (h y hy).jar hJ s hJ'
def Items (H : Hp) (xs : List V) : Prop := ∀ x ∈ xs, Item H x
theorem Items.nil (H : Hp) : Items H [] := fun _ h => absurd h List.not_mem_nil
theorem Items.cons {H : Hp} {x : V} {xs : List V} (h : Item H x) (t : Items H xs) : Items H (x :: xs) := fun y hy => (List.mem_cons.mp hy).elim (fun e => e ▸ h) (t y)

/-- a new object in a heap that need not be told further -/
theorem newT {H : Hp} {xs : List V} {Q : VK} (h : ∀ p H', Same H H' → H' p = some (.tup xs) → Q (.ref p) H') : ∀ p, H p = none → Q (.ref p) (upd H p (.tup xs)) := fun p np => h p _ (same_new np) upd_same
theorem newL {H : Hp} {xs : List V} {Q : VK} (h : ∀ p H', Same H H' → H' p = some (.lst xs) → Q (.ref p) H') : ∀ p, H p = none → Q (.ref p) (upd H p (.lst xs)) := fun p np => h p _ (same_new np) upd_same
theorem newD {H : Hp} {Q : VK} (h : ∀ p H', Same H H' → H' p = some (.dK []) → Q (.ref p) H') : ∀ p, H p = none → Q (.ref p) (upd H p (.dK [])) := fun p np => h p _ (same_new np) upd_same
theorem new_at {H : Hp} {p : Addr} {o : HO} (_ : H p = none) : upd H p o p = some o := upd_same
theorem z0 : 0 ≤ sizeLine := Nat.zero_le _
theorem z1 : 1 ≤ sizeLine := by decide
theorem z2 : 2 ≤ sizeLine := by decide
theorem z3 : 3 ≤ sizeLine := by decide

theorem scOdd : FnScope ["_law_jar_here", "_law_some"] ["_law_jar_here"] (defScope sOdd) := ⟨rfl, rfl, rfl, by decide +kernel, rfl, by decide +kernel, by decide +kernel⟩
section
variable {P : Program} {w : World} {K : PySem.W.Frag} {mg : Str → Option Value} {base : Heap}
/-- some thing or other -/
def spOdd : Sp := fun vs H Q _ => ∃ J : Addr, vs = [.ref J] ∧ JarAt H J ∧ ∀ H' x, SameJ J H H' → JarAt H' J → Thing H' x → Q x H'
theorem ok_odd {f f1 : Addr} {fd fd1 : FuncData} {k : Nat} (F : Fun K "_law_odd" "_law_odd" sOdd f fd) (G1 : FnOk P w K mg base CX0 (k + 2) f1 fd1 ["_law_jar_here", "_law_some"] spOf) (k1 : PySem.W.keepIn K (.ref f1) = true) (b1 : Binds K fd1 ["_law_jar_here", "_law_some"] [])
    (g1 : mg "_law_of" = some (.ref f1)) : FnOk P w K mg base CX0 (k + 3) f fd ["_law_jar_here"] spOdd := by
  refine F.ok scOdd (fun vs H Q E h => ?_) (fun cdv A outer s H vs Q E hr h => ?_)
  · obtain ⟨J, rfl, _⟩ := h
    rfl
  · obtain ⟨J, rfl, hJ, q⟩ := h
    refine ⟨_, pss_cons (ps_set (i := 1) scOdd.nd rfl (.inl rfl) (pe_tup (pa_cons pe_non (pa_cons pe_bl (pa_cons pe_bl (pa_cons pe_int (pa_cons pe_int (pa_cons (pe_un un_neg pe_int) (pa_cons pe_int (pa_cons pe_int (pa_cons (pe_op op_pow pe_int pe_int)
        (pa_cons pe_str (pa_cons pe_str (pa_cons pe_str (pa_cons pe_str (pa_cons (pe_tup pa_nil) (pa_cons (pe_tup (pa_cons pe_int pa_nil)) (pa_cons (pe_tup (pa_cons pe_int (pa_cons pe_int pa_nil))) (pa_cons (pe_tup (pa_cons pe_int (pa_cons pe_int pa_nil))) pa_nil)))))))))))))))))))
      (pss_cons (ps_set (i := 1) scOdd.nd rfl (.inl rfl) (pe_op op_catA (pv 1) (pe_tup (pa_cons (pe_tup (pa_cons pe_bl (pa_cons pe_int pa_nil))) (pa_cons (pe_lst pa_nil) (pa_cons (pe_lst (pa_cons pe_int (pa_cons pe_int pa_nil))) (pa_cons pe_dnewK
        (pa_cons (pe_tup (pa_cons pe_str (pa_cons pe_int pa_nil))) (pa_cons (pe_tup (pa_cons pe_str (pa_cons pe_int pa_nil))) (pa_cons (pe_tup (pa_cons (pe_tup (pa_cons pe_str (pa_cons pe_int pa_nil))) pa_nil))
        (pa_cons (pe_tup (pa_cons (pe_tup (pa_cons pe_int pa_nil)) (pa_cons pe_str (pa_cons (pe_tup pa_nil) pa_nil)))) (pa_cons (pe_tup (pa_cons pe_int (pa_cons pe_int (pa_cons pe_int pa_nil)))) pa_nil))))))))))))
      (pss_one (ps_ret (pe_call G1 hr (by rfl) g1 k1 b1 .nil pass0 (pa_cons (pv 0) (pa_cons (pv 1) pa_nil)))))), ?_⟩
    refine ⟨1, rfl, _, _, rfl, rfl, ⟨by decide, by decide, by decide⟩, z0, fun p1 n1 => ⟨z1, fun p2 n2 => ⟨z2, fun p3 n3 => ⟨z2, fun p4 n4 => ⟨by show 17 ≤ sizeLine; decide, fun p5 n5 => ?_⟩⟩⟩⟩⟩
    refine ⟨_, rfl, z2, fun q1 m1 => ⟨z0, fun q2 m2 => ⟨z2, fun q3 m3 q4 m4 => ⟨z2, fun q5 m5 => ⟨z2, fun q6 m6 => ⟨z2, fun q7 m7 => ⟨z1, fun q8 m8 => ⟨z1, fun q9 m9 => ⟨z0, fun qa ma => ⟨z3, fun qb mb => ⟨z3, fun qc mc =>
      ⟨by show 9 ≤ sizeLine; decide, fun qd md => ?_⟩⟩⟩⟩⟩⟩⟩⟩⟩⟩⟩⟩
    have S1 := same_new (o := .tup []) n1
    have S2 := same_new (o := .tup [.int 0]) n2
    have S3 := same_new (o := .tup [.int 0, .int 1]) n3
    have S4 := same_new (o := .tup [.int 1, .int 0]) n4
    have S5 := same_new (o := .tup [.non, .bl true, .bl false, .int 0, .int 1, .int (-1), .int 2, .int 33, .int (10 ^ (12 : Int).toNat), .str "", .str "send", .str "exact", .str "if", .ref p1, .ref p2, .ref p3, .ref p4]) n5
    have E1 := new_at (o := .tup []) n1
    have E2 := new_at (o := .tup [.int 0]) n2
    have E3 := new_at (o := .tup [.int 0, .int 1]) n3
    have E4 := new_at (o := .tup [.int 1, .int 0]) n4
    have E5 := new_at (o := .tup [.non, .bl true, .bl false, .int 0, .int 1, .int (-1), .int 2, .int 33, .int (10 ^ (12 : Int).toNat), .str "", .str "send", .str "exact", .str "if", .ref p1, .ref p2, .ref p3, .ref p4]) n5
    have R1 := same_new (o := .tup [.bl true, .int 1]) m1
    have R2 := same_new (o := .lst []) m2
    have R3 := same_new (o := .lst [.int 0, .int 1]) m3
    have R4 := same_new (o := .dK []) m4
    have R5 := same_new (o := .tup [.str "exact", .int 3]) m5
    have R6 := same_new (o := .tup [.str "range", .int 0]) m6
    have R7 := same_new (o := .tup [.str "exact", .int 3]) m7
    have R8 := same_new (o := .tup [.ref q7]) m8
    have R9 := same_new (o := .tup [.int 0]) m9
    have Ra := same_new (o := .tup []) ma
    have Rb := same_new (o := .tup [.ref q9, .str "a", .ref qa]) mb
    have Rc := same_new (o := .tup [.int 0, .int 0, .int 0]) mc
    have Rd := same_new (o := .tup [.ref q1, .ref q2, .ref q3, .ref q4, .ref q5, .ref q6, .ref q8, .ref qb, .ref qc]) md
    have D1 := new_at (o := .tup [.bl true, .int 1]) m1
    have D2 := new_at (o := .lst []) m2
    have D3 := new_at (o := .lst [.int 0, .int 1]) m3
    have D4 := new_at (o := .dK []) m4
    have D5 := new_at (o := .tup [.str "exact", .int 3]) m5
    have D6 := new_at (o := .tup [.str "range", .int 0]) m6
    have D7 := new_at (o := .tup [.str "exact", .int 3]) m7
    have D8 := new_at (o := .tup [.ref q7]) m8
    have D9 := new_at (o := .tup [.int 0]) m9
    have Da := new_at (o := .tup []) ma
    have Db := new_at (o := .tup [.ref q9, .str "a", .ref qa]) mb
    have Dc := new_at (o := .tup [.int 0, .int 0, .int 0]) mc
    have Dd := new_at (o := .tup [.ref q1, .ref q2, .ref q3, .ref q4, .ref q5, .ref q6, .ref q8, .ref qb, .ref qc]) md
    have T1 := Things.cons (.tup E1 (Items.nil _) (by decide)) (Things.nil _)
    have T2 := Things.snoc (.tup E2 (Items.cons (.int 0) (Items.nil _)) (by show 1 ≤ 1000; decide)) (T1.same S2)
    have T3 := Things.snoc (.tup E3 (Items.cons (.int 0) (Items.cons (.int 1) (Items.nil _))) (by show 2 ≤ 1000; decide)) (T2.same S3)
    have T4 := Things.snoc (.tup E4 (Items.cons (.int 1) (Items.cons (.int 0) (Items.nil _))) (by show 2 ≤ 1000; decide)) (T3.same S4)
    have S14 := ((S1.trans S2).trans S3).trans S4
    have flat : ∀ H4 : Hp, Things H4 [.non, .bl true, .bl false, .int 0, .int 1, .int (-1), .int 2, .int 33, .int (10 ^ (12 : Int).toNat), .str "", .str "send", .str "exact", .str "if"] :=
      fun _ => .cons (.of .non rfl) (.cons (.of (.bl _) rfl) (.cons (.of (.bl _) rfl) (.cons (.int _) (.cons (.int _) (.cons (.int _) (.cons (.int _) (.cons (.int _) (.cons (.int _) (.cons (.of (.str _) rfl) (.cons (.of (.str _) rfl) (.cons (.of (.str _) rfl) (.cons (.of (.str _) rfl) (.nil _)))))))))))))
    have T5 := ((flat _).app T4).same S5
    have U1 := Things.snoc (.tup D1 (Items.cons (.bl true) (Items.cons (.int 1) (Items.nil _))) (by show 2 ≤ 1000; decide)) (Things.nil _)
    have U2 := Things.snoc (.lst D2) (U1.same R2)
    have U3 := Things.snoc (.lst D3) (U2.same R3)
    have U4 := Things.snoc (.dct D4) (U3.same R4)
    have U5 := Things.snoc (.tup D5 (Items.cons (.str _) (Items.cons (.int 3) (Items.nil _))) (by show 2 ≤ 1000; decide)) (U4.same R5)
    have U6 := Things.snoc (.tup D6 (Items.cons (.str _) (Items.cons (.int 0) (Items.nil _))) (by show 2 ≤ 1000; decide)) (U5.same R6)
    have U8 := Things.snoc (.tup D8 (Items.cons (.tup (R8 _ _ D7)) (Items.nil _)) (by show 1 ≤ 1000; decide)) (U6.same (R7.trans R8))
    have Ub := Things.snoc (.tup Db (Items.cons (.tup ((Ra.trans Rb) _ _ D9)) (Items.cons (.str _) (Items.cons (.tup (Rb _ _ Da)) (Items.nil _)))) (by show 3 ≤ 1000; decide)) (U8.same ((R9.trans Ra).trans Rb))
    have Uc := (Things.snoc (.tup Dc (Items.cons (.int 0) (Items.cons (.int 0) (Items.cons (.int 0) (Items.nil _)))) (by show 3 ≤ 1000; decide)) (Ub.same Rc)).same Rd
    have S5d := (((((((((((R1.trans R2).trans R3).trans R4).trans R5).trans R6).trans R7).trans R8).trans R9).trans Ra).trans Rb).trans Rc).trans Rd
    have T5d := T5.same S5d
    refine catA_any (S5d _ _ E5) Dd (by show 17 + 9 ≤ sizeLine; decide) fun pe Ge Re De => ?_
    have SH : Same H Ge := (((S14.trans S5).trans S5d).trans Re)
    have UU := (Uc.same Re)
    have TT := (T5d.same Re)
    refine ⟨_, rfl, _, rfl, J, pe, _, rfl, hJ.same SH, De, List.cons_ne_nil _ _, by show 26 ≤ 1000; decide, fun Gf x sf Jf hx => ?_⟩
    refine q Gf x ((SameJ.of SH).trans sf) Jf (Thing.jar ?_ (hJ.same SH) sf Jf)
    rcases List.mem_append.mp hx with hx | hx
    · exact TT x hx
    · exact UU x hx
end
end K30

/-! K30: _law_bent. -/
namespace K30
open PySem PySem.Spec PyProof.Rows L2

/-- ints, all of them -/
def Nums (xs : List V) : Prop := ∀ y ∈ xs, ∃ i, y = V.int i
theorem Nums.of (ns : List Nat) : Nums (ns.map intN) := fun y hy => by
  obtain ⟨n, _, rfl⟩ := List.mem_map.mp hy
  exact ⟨_, rfl⟩
theorem Nums.cut {xs : List V} (h : Nums xs) (lo hi : Option Int) : Nums (cutV xs lo hi) := fun y hy => h y (cut_mem hy)
theorem Nums.items {xs : List V} (h : Nums xs) (H : Hp) : Items H xs := fun y hy => by
  obtain ⟨i, rfl⟩ := h y hy
  exact .int i
theorem Items.app {H : Hp} {xs ys : List V} (h : Items H xs) (t : Items H ys) : Items H (xs ++ ys) := fun y hy => (List.mem_append.mp hy).elim (h y) (t y)
theorem JarAt.ne {H : Hp} {J a : Addr} {xs : List V} (h : JarAt H J) (e : H a = some (.tup xs)) : a ≠ J := by
  obtain ⟨_, _, _, z⟩ := h
  exact ne_of e z fun y => by cases y

/-- an if whose test is open and changes but the jar -/
theorem ifS_by {c : TT} {t u : TS} {D : Ends} {σ : L2.St} {H : Hp} (S : Hp → Prop) (hc : ∀ R : Bool → Hp → Prop, (∀ b H1, S H1 → R b H1) → c σ H R) (ht : ∀ H1, S H1 → t D σ H1) (hu : ∀ H1, S H1 → u D σ H1) : tIfS c t u D σ H :=
  hc _ fun b H1 s => by
    cases b with
    | true => exact iteT (ht H1 s)
    | false => exact iteF (hu H1 s)
def intD (n : Nat) : PyData := .int n
theorem dp_nats {K : PySem.W.Frag} {H : Hp} : ∀ ns : List Nat, DpAll K H (ns.map intN) (ns.map intD)
  | [] => .nil
  | n :: ns => .cons (.int _) (dp_nats ns)
theorem lay_nats : ∀ ns : List Nat, PyData.canLayAll0 (ns.map intD) = true
  | [] => by simp only [List.map_nil, PyData.canLayAll0]
  | n :: ns => by
    simp only [List.map_cons, PyData.canLayAll0, intD, PyData.canLay0, Bool.true_and]
    exact lay_nats ns
theorem depth_nats : ∀ ns : List Nat, PyData.depthAll (ns.map intD) = 0
  | [] => by simp only [List.map_nil, PyData.depthAll]
  | n :: ns => by
    have e := depth_nats ns
    simp only [List.map_cons, PyData.depthAll, intD, PyData.depth, Nat.zero_max]
    exact e
theorem shaped_nats (ns : List Nat) : SeqAt.shaped (.tuple (ns.map intD)) = true := by
  unfold SeqAt.shaped
  simp only [PyData.canLay0, PyData.depth, lay_nats, depth_nats]
  rfl
theorem scBent : FnScope ["_law_jar_here", "_law_thing", "_law_deep", "_law_at", "_law_way"] ["_law_jar_here", "_law_thing", "_law_deep"] (defScope sBent) := ⟨rfl, rfl, rfl, by decide +kernel, rfl, by decide +kernel, by decide +kernel⟩
section
variable {P : Program} {w : World} {K : PySem.W.Frag} {mg : Str → Option Value} {base : Heap}
/-- of an int -/
def spBent0 : Sp := fun vs H Q _ => ∃ (J : Addr) (i : Int), vs = [.ref J, .int i, .int 0] ∧ JarAt H J ∧ ∀ H' x, SameJ J H H' → JarAt H' J → Thing H' x → Q x H'
theorem ok_bent0 {f f1 f2 : Addr} {fd fd1 fd2 : FuncData} {k : Nat} (F : Fun K "_law_bent" "_law_bent" sBent f fd) (G1 : FnOk P w K mg base CX0 (k + 3) f1 fd1 ["_law_jar_here", "_law_many"] spDraw) (k1 : PySem.W.keepIn K (.ref f1) = true) (b1 : Binds K fd1 ["_law_jar_here", "_law_many"] [])
    (g1 : mg "_law_draw" = some (.ref f1)) (G2 : FnOk P w K mg base CX0 (k + 3) f2 fd2 ["_law_jar_here"] spOdd) (k2 : PySem.W.keepIn K (.ref f2) = true) (b2 : Binds K fd2 ["_law_jar_here"] []) (g2 : mg "_law_odd" = some (.ref f2)) (B : Bt mg) :
    FnOk P w K mg base CX0 (k + 4) f fd ["_law_jar_here", "_law_thing", "_law_deep"] spBent0 := by
  refine F.ok scBent (fun vs H Q E h => ?_) (fun cdv A outer s H vs Q E hr h => ?_)
  · obtain ⟨J, i, rfl, _⟩ := h
    rfl
  · obtain ⟨J, i, rfl, hJ, q⟩ := h
    refine ⟨_, pss_cons (ps_if (PW.pt (pw_or (pt_not (pt_val (pe_isi (by rfl) B.isi (pv 1) (by rfl) B.tuple b_tuple))) (pw_or (pt_cmpR (op_eqD hr.units) (pv 1) (pe_tup pa_nil) (nomark _)) (pw_or (pt_cmpR op_eq (pv 2) pe_int (nomark _))
          (pw_or1 (pt_cmpR op_eq (pe_call G1 hr (by rfl) g1 k1 b1 .nil pass0 (pa_cons (pv 0) (pa_cons pe_int pa_nil))) pe_int (nomark _)))))))
        (pss_cons (ps_if (PW.pt (pw_and (pt_val (pe_isi (by rfl) B.isi (pv 1) (by rfl) B.int b_int)) (pw_and1 (pt_cmpR op_eq (pe_call G1 hr (by rfl) g1 k1 b1 .nil pass0 (pa_cons (pv 0) (pa_cons pe_int pa_nil))) pe_int (nomark _)))))
            (pss_one (ps_ret (pe_op op_add (pv 1) (pe_ifExp (pt_cmpR op_eq (pe_call G1 hr (by rfl) g1 k1 b1 .nil pass0 (pa_cons (pv 0) (pa_cons pe_int pa_nil))) pe_int (nomark _)) pe_int (pe_un un_neg pe_int))))) pss_nil)
          (pss_one (ps_ret (pe_ifExp (PW.pt (pw_and (pt_val (pe_isi (by rfl) B.isi (pv 1) (by rfl) B.tuple b_tuple)) (pw_and1 (pt_cmpR op_eq (pe_call G1 hr (by rfl) g1 k1 b1 .nil pass0 (pa_cons (pv 0) (pa_cons pe_int pa_nil))) pe_int (nomark _)))))
            (pe_callTy call_list_of (by rfl) B.list b_list (pa_cons (pv 1) pa_nil)) (pe_call G2 hr (by rfl) g2 k2 b2 .nil pass0 (pa_cons (pv 0) pa_nil)))))) pss_nil)
      pss_never, ?_⟩
    refine ⟨_, rfl, isi_tuple (.int i) ⟨_, rfl, ?_⟩⟩
    show if (!false) = true then _ else _
    refine iteT ?_
    refine iteT ⟨_, rfl, isi_int (.int i) ⟨_, rfl, ?_⟩⟩
    refine iteT ⟨_, rfl, J, 2, rfl, hJ, by decide, by decide, fun H1 r1 s1 J1 _ _ => ?_⟩
    refine ⟨rfl, _, rfl, ite2 (fun e => ?_) (fun e => ?_)⟩
    · refine ⟨_, rfl, _, rfl, J, 2, rfl, J1, by decide, by decide, fun H2 r2 s2 J2 _ _ => ⟨rfl, _, rfl, ite2 (fun e => ?_) (fun e => ?_)⟩⟩
      · exact ⟨_, _, rfl, rfl, q _ _ (s1.trans s2) J2 (.int _)⟩
      · exact ⟨_, rfl, _, _, rfl, rfl, q _ _ (s1.trans s2) J2 (.int _)⟩
    · refine ⟨_, rfl, isi_tuple (.int i) ⟨_, rfl, iteF ?_⟩⟩
      exact ⟨_, rfl, J, rfl, J1, fun H2 x s2 J2 hx => q _ _ (s1.trans s2) J2 hx⟩
/-- of a tuple of words -/
def spBent : Sp := fun vs H Q _ => ∃ (J a : Addr) (ns : List Nat), vs = [.ref J, .ref a, .int 1] ∧ JarAt H J ∧ H a = some (.tup (ns.map intN)) ∧ ns ≠ [] ∧ ns.length ≤ 100 ∧ ∀ H' x, SameJ J H H' → JarAt H' J → Thing H' x → Q x H'
theorem ok_bent {f f1 f2 : Addr} {fd fd1 fd2 : FuncData} {k : Nat} (F : Fun K "_law_bent" "_law_bent" sBent f fd) (G1 : FnOk P w K mg base CX0 (k + 4) f1 fd1 ["_law_jar_here", "_law_many"] spDraw) (k1 : PySem.W.keepIn K (.ref f1) = true) (b1 : Binds K fd1 ["_law_jar_here", "_law_many"] [])
    (g1 : mg "_law_draw" = some (.ref f1)) (G2 : FnOk P w K mg base CX0 (k + 4) f2 fd2 ["_law_jar_here"] spOdd) (k2 : PySem.W.keepIn K (.ref f2) = true) (b2 : Binds K fd2 ["_law_jar_here"] []) (g2 : mg "_law_odd" = some (.ref f2))
    (G3 : FnOk P w K mg base CX0 (k + 4) f fd ["_law_jar_here", "_law_thing", "_law_deep"] spBent0) (b3 : Binds K fd ["_law_jar_here", "_law_thing", "_law_deep"] []) (g3 : mg "_law_bent" = some (.ref f)) (B : Bt mg) :
    FnOk P w K mg base CX0 (k + 5) f fd ["_law_jar_here", "_law_thing", "_law_deep"] spBent := by
  refine F.ok scBent (fun vs H Q E h => ?_) (fun cdv A outer s H vs Q E hr h => ?_)
  · obtain ⟨J, a, ns, rfl, _⟩ := h
    rfl
  · obtain ⟨J, a, ns, rfl, hJ, ha, hne, hlen, q⟩ := h
    refine ⟨_, pss_cons (ps_if (PW.pt (pw_or (pt_not (pt_val (pe_isi (by rfl) B.isi (pv 1) (by rfl) B.tuple b_tuple))) (pw_or (pt_cmpR (op_eqD hr.units) (pv 1) (pe_tup pa_nil) (nomark _)) (pw_or (pt_cmpR op_eq (pv 2) pe_int (nomark _))
          (pw_or1 (pt_cmpR op_eq (pe_call G1 hr (by rfl) g1 k1 b1 .nil pass0 (pa_cons (pv 0) (pa_cons pe_int pa_nil))) pe_int (nomark _)))))))
        (pss_cons (ps_if (PW.pt (pw_and (pt_val (pe_isi (by rfl) B.isi (pv 1) (by rfl) B.int b_int)) (pw_and1 (pt_cmpR op_eq (pe_call G1 hr (by rfl) g1 k1 b1 .nil pass0 (pa_cons (pv 0) (pa_cons pe_int pa_nil))) pe_int (nomark _)))))
            (pss_one (ps_ret (pe_op op_add (pv 1) (pe_ifExp (pt_cmpR op_eq (pe_call G1 hr (by rfl) g1 k1 b1 .nil pass0 (pa_cons (pv 0) (pa_cons pe_int pa_nil))) pe_int (nomark _)) pe_int (pe_un un_neg pe_int))))) pss_nil)
          (pss_one (ps_ret (pe_ifExp (PW.pt (pw_and (pt_val (pe_isi (by rfl) B.isi (pv 1) (by rfl) B.tuple b_tuple)) (pw_and1 (pt_cmpR op_eq (pe_call G1 hr (by rfl) g1 k1 b1 .nil pass0 (pa_cons (pv 0) (pa_cons pe_int pa_nil))) pe_int (nomark _)))))
            (pe_callTy call_list_of (by rfl) B.list b_list (pa_cons (pv 1) pa_nil)) (pe_call G2 hr (by rfl) g2 k2 b2 .nil pass0 (pa_cons (pv 0) pa_nil)))))) pss_nil)
      (pss_cons (ps_par (i := 3) (j := 4) (by rfl) scBent.nd rfl rfl (by decide) rfl rfl (pa_cons (pe_call G1 hr (by rfl) g1 k1 b1 .nil pass0 (pa_cons (pv 0) (pa_cons (pe_callB call_len_seq (by rfl) B.len b_len (pa_cons (pv 1) pa_nil)) pa_nil)))
          (pa_cons (pe_call G1 hr (by rfl) g1 k1 b1 .nil pass0 (pa_cons (pv 0) (pa_cons pe_int pa_nil))) pa_nil)) (by rfl))
      (pss_cons (ps_if (pt_cmpR op_eq (pv 4) pe_int (nomark _)) (pss_one (ps_ret (pe_op op_catA (pe_slice sl_tupA (pv 1) po_none (po_some (pv 3))) (pe_slice sl_tupA (pv 1) (po_some (pe_op op_add (pv 3) pe_int)) po_none)))) pss_nil)
      (pss_cons (ps_if (pt_cmpR op_eq (pv 4) pe_int (nomark _)) (pss_one (ps_ret (pe_op op_catA (pe_op op_catA (pe_slice sl_tupA (pv 1) po_none (po_some (pv 3))) (pe_tup (pa_cons (pe_ix ix_tup (pv 1) (pv 3) (fun _ _ => rfl)) pa_nil)))
          (pe_slice sl_tupA (pv 1) (po_some (pv 3)) po_none)))) pss_nil)
      (pss_one (ps_ret (pe_op op_catA (pe_op op_catA (pe_slice sl_tupA (pv 1) po_none (po_some (pv 3))) (pe_tup (pa_cons (pe_call G3 hr (by rfl) g3 F.kp b3 .nil pass0 (pa_cons (pv 0) (pa_cons (pe_ix ix_tup (pv 1) (pv 3) (fun _ _ => rfl)) (pa_cons (pe_op op_sub (pv 2) pe_int) pa_nil)))) pa_nil)))
          (pe_slice sl_tupA (pv 1) (po_some (pe_op op_add (pv 3) pe_int)) po_none))))))), ?_⟩
    have na := hJ.ne ha
    have keep : ∀ H1, SameJ J H H1 → H1 a = some (.tup (ns.map intN)) := fun H1 s => s _ _ na ha
    have pos : 0 < ns.length := List.length_pos_iff.mpr hne
    refine ifS_by (fun H1 => SameJ J H H1 ∧ JarAt H1 J) (fun R hR => ?_) (fun H1 p => ?_) (fun H1 p => ?_)
    · refine ⟨_, rfl, isi_tuple (.tup ha) ⟨_, rfl, ?_⟩⟩
      rw [tupOf_tup ha]
      refine iteF ⟨_, rfl, z0, fun p0 n0 => ⟨.tuple (ns.map intD), .tuple [], .tup (SqT.of (same_new n0 _ _ ha)) (dp_nats ns), .tup (SqT.of upd_same) .nil, shaped_nats ns, rfl, _, rfl, ite2 (fun _ => ?_) (fun _ => ?_)⟩⟩
      · exact hR _ _ ⟨.of (same_new n0), hJ.same (same_new n0)⟩
      · refine ⟨_, rfl, rfl, _, rfl, ite2 (fun _ => hR _ _ ⟨.of (same_new n0), hJ.same (same_new n0)⟩) (fun _ => ?_)⟩
        exact ⟨_, rfl, J, 6, rfl, hJ.same (same_new n0), by decide, by decide, fun H2 r s2 J2 _ _ => ⟨rfl, _, rfl, hR _ _ ⟨(SameJ.of (same_new n0)).trans s2, J2⟩⟩⟩
    · obtain ⟨s1, J1⟩ := p
      have a1 := keep H1 s1
      refine ⟨_, rfl, isi_int (.tup a1) ⟨_, rfl, ?_⟩⟩
      refine iteF (iteF ?_)
      refine ⟨_, rfl, isi_tuple (.tup a1) ⟨_, rfl, ?_⟩⟩
      rw [tupOf_tup a1]
      refine iteT ⟨_, rfl, J, 3, rfl, J1, by decide, by decide, fun H2 r s2 J2 _ _ => ⟨rfl, _, rfl, ite2 (fun _ => ?_) (fun _ => ?_)⟩⟩
      · exact ⟨_, rfl, a, _, rfl, .inr (SqT.of (s2 _ _ (J1.ne a1) a1)), fun l nl => q _ _ ((s1.trans s2).trans (.of (same_new nl))) (J2.same (same_new nl)) (.lst upd_same)⟩
      · exact ⟨_, rfl, J, rfl, J2, fun H3 x s3 J3 hx => q _ _ ((s1.trans s2).trans s3) J3 hx⟩
    · obtain ⟨s1, J1⟩ := p
      have a1 := keep H1 s1
      have len : (ns.map intN).length = ns.length := List.length_map ..
      refine ⟨_, rfl, _, rfl, a, _, rfl, .inr (SqT.of a1), J, _, rfl, J1, by omega, by omega, fun H2 at' s2 J2 h0 h1 => ?_⟩
      refine ⟨_, rfl, J, 8, rfl, J2, by decide, by decide, fun H3 way s3 J3 _ _ => ⟨_, _, rfl, ?_⟩⟩
      have a3 := keep H3 ((s1.trans s2).trans s3)
      have t3 := (s1.trans s2).trans s3
      have N := Nums.of ns
      have cl := fun lo hi => cutV_length (ns.map intN) lo hi
      have lt : at'.toNat < ns.length := by omega
      have ea : at' = ((at'.toNat : Nat) : Int) := by omega
      have ix : (ns.map intN)[at'.toNat]? = some (intN ns[at'.toNat]) := by rw [List.getElem?_map, List.getElem?_eq_getElem lt]; rfl
      have small : ∀ n : Nat, n ≤ 1000 → n ≤ sizeLine := fun n h => Nat.le_of_lt (lt1000 h)
      refine ⟨_, rfl, rfl, _, rfl, ite2 (fun _ => ?_) (fun _ => ?_)⟩
      · -- one left out
        refine ⟨_, rfl, ?_⟩
        dsimp only [tNoPart]
        refine ⟨_, rfl, _, rfl, slA_any a3 fun p1 H4 s4 e1 => ⟨_, rfl, _, rfl, _, _, rfl, rfl, _, rfl, ?_⟩⟩
        dsimp only [tNoPart]
        refine slA_any (s4 _ _ a3) fun p2 H5 s5 e2 => ?_
        refine catA_any (s5 _ _ e1) e2 ?_ fun p3 H6 s6 e3 => ?_
        · have c1 := cl none (some at')
          have c2 := cl (some (at' + 1)) none
          exact small _ (by omega)
        · refine q _ _ (t3.trans (.of ((s4.trans s5).trans s6))) (J3.same ((s4.trans s5).trans s6)) (.tup e3 (((N.cut _ _).items _).app ((N.cut _ _).items _)) ?_)
          have c1 := cl none (some at')
          have c2 := cl (some (at' + 1)) none
          rw [List.length_append]
          omega
      · refine ⟨_, rfl, rfl, _, rfl, ite2 (fun _ => ?_) (fun _ => ?_)⟩
        · -- one told twice
          refine ⟨_, rfl, ?_⟩
          dsimp only [tNoPart]
          refine ⟨_, rfl, _, rfl, slA_any a3 fun p1 H4 s4 e1 => ?_⟩
          refine ⟨_, rfl, _, rfl, a, _, at', _, rfl, rfl, SqT.of (s4 _ _ a3), at_of ea ix, z1, fun p2 n2 => ?_⟩
          have s5 := same_new (o := .tup [intN ns[at'.toNat]]) n2
          have e2 := new_at (o := .tup [intN ns[at'.toNat]]) n2
          refine catA_any (s5 _ _ e1) e2 ?_ fun p3 H6 s6 e3 => ⟨_, rfl, _, rfl, _, rfl, ?_⟩
          · have c1 := cl none (some at')
            exact small _ (by show _ + 1 ≤ 1000; omega)
          · dsimp only [tNoPart]
            refine slA_any ((s4.trans (s5.trans s6)) _ _ a3) fun p4 H7 s7 e4 => ?_
            refine catA_any (s7 _ _ e3) e4 ?_ fun p5 H8 s8 e5 => ?_
            · have c1 := cl none (some at')
              have c2 := cl (some at') none
              rw [List.length_append]
              exact small _ (by show _ + 1 + _ ≤ 1000; omega)
            · refine q _ _ (t3.trans (.of ((s4.trans (s5.trans s6)).trans (s7.trans s8)))) (J3.same ((s4.trans (s5.trans s6)).trans (s7.trans s8))) (.tup e5 ((((N.cut _ _).items _).app (Items.cons (.int _) (Items.nil _))).app ((N.cut _ _).items _)) ?_)
              have c1 := cl none (some at')
              have c2 := cl (some at') none
              rw [List.length_append, List.length_append]
              show _ + 1 + _ ≤ 1000
              omega
        · -- one changed
          refine ⟨_, rfl, ?_⟩
          dsimp only [tNoPart]
          refine ⟨_, rfl, _, rfl, slA_any a3 fun p1 H4 s4 e1 => ?_⟩
          refine ⟨_, rfl, _, rfl, _, rfl, a, _, at', _, rfl, rfl, SqT.of (s4 _ _ a3), at_of ea ix, _, rfl, _, _, rfl, rfl, J, _, rfl, J3.same s4, fun H5 x s5 J5 hx => ?_⟩
          have e1' := s5 _ _ ((J3.same s4).ne e1) e1
          have a5 := s5 _ _ ((J3.same s4).ne (s4 _ _ a3)) (s4 _ _ a3)
          refine ⟨z1, fun p2 n2 => ?_⟩
          have s6 := same_new (o := .tup [x]) n2
          have e2 := new_at (o := .tup [x]) n2
          refine catA_any (s6 _ _ e1') e2 ?_ fun p3 H7 s7 e3 => ⟨_, rfl, _, rfl, _, _, rfl, rfl, _, rfl, ?_⟩
          · have c1 := cl none (some at')
            exact small _ (by show _ + 1 ≤ 1000; omega)
          · dsimp only [tNoPart]
            refine slA_any ((s6.trans s7) _ _ a5) fun p4 H8 s8 e4 => ?_
            refine catA_any (s8 _ _ e3) e4 ?_ fun p5 H9 s9 e5 => ?_
            · have c1 := cl none (some at')
              have c2 := cl (some (at' + 1)) none
              rw [List.length_append]
              exact small _ (by show _ + 1 + _ ≤ 1000; omega)
            · have sz := (s6.trans s7).trans (s8.trans s9)
              refine q _ _ ((t3.trans (.of s4)).trans (s5.trans (.of sz))) (J5.same sz) (.tup e5 ((((N.cut _ _).items _).app (Items.cons (hx.1.same sz) (Items.nil _))).app ((N.cut _ _).items _)) ?_)
              have c1 := cl none (some at')
              have c2 := cl (some (at' + 1)) none
              rw [List.length_append, List.length_append]
              show _ + 1 + _ ≤ 1000
              omega
end
end K30

/-! K30: _law_fewest. -/
namespace K30
open PySem PySem.Spec PyProof.Rows L2

/-- the table so far -/
structure Tab (lo w : Nat) (ds : List Nat) (i : Nat) : Prop where
  len : ds.length = i + 1
  zero : ds.getD 0 0 = 0
  step : ∀ k, 0 < k → k ≤ i → (∃ j, Val lo w k j ∧ ds.getD k 0 = ds.getD (k - 2 ^ j) 0 + 1) ∧ ∀ j, Val lo w k j → ds.getD k 0 ≤ ds.getD (k - 2 ^ j) 0 + 1
theorem getD_old {ds : List Nat} {b k : Nat} (h : k < ds.length) : (ds ++ [b]).getD k 0 = ds.getD k 0 := by
  rw [List.getD_eq_getElem?_getD, List.getD_eq_getElem?_getD, List.getElem?_append_left h]
theorem getD_new {ds : List Nat} {b : Nat} : (ds ++ [b]).getD ds.length 0 = b := by
  rw [List.getD_eq_getElem?_getD, List.getElem?_append_right (Nat.le_refl _), Nat.sub_self]
  rfl
theorem Tab.snoc {lo w : Nat} {ds : List Nat} {i b : Nat} (T : Tab lo w ds i) (h1 : ∃ j, Val lo w (i + 1) j ∧ b = ds.getD (i + 1 - 2 ^ j) 0 + 1) (h2 : ∀ j, Val lo w (i + 1) j → b ≤ ds.getD (i + 1 - 2 ^ j) 0 + 1) : Tab lo w (ds ++ [b]) (i + 1) := by
  have l := T.len
  have new : (ds ++ [b]).getD (i + 1) 0 = b := by rw [← l]; exact getD_new
  have old : ∀ j, (ds ++ [b]).getD (i + 1 - 2 ^ j) 0 = ds.getD (i + 1 - 2 ^ j) 0 := fun j => getD_old (by have := pw_pos j; omega)
  refine ⟨by rw [List.length_append, l]; rfl, by rw [getD_old (by omega)]; exact T.zero, fun k h0 hk => ?_⟩
  by_cases c : k = i + 1
  · subst c
    rw [new]
    obtain ⟨j, v, e⟩ := h1
    exact ⟨⟨j, v, by rw [old]; exact e⟩, fun j v => by rw [old]; exact h2 j v⟩
  · have o : ∀ m, m ≤ k → (ds ++ [b]).getD m 0 = ds.getD m 0 := fun m hm => getD_old (by omega)
    obtain ⟨⟨j, v, e⟩, h⟩ := T.step k h0 (by omega)
    rw [o k (Nat.le_refl _)]
    exact ⟨⟨j, v, by rw [o _ (Nat.sub_le _ _)]; exact e⟩, fun j v => by rw [o _ (Nat.sub_le _ _)]; exact h j v⟩
theorem Tab.one (lo w : Nat) : Tab lo w [0] 0 := ⟨rfl, rfl, fun k h0 hk => by omega⟩
/-- the best of the blocks below a level -/
structure Best (lo w : Nat) (ds : List Nat) (k t : Nat) (best : Option Nat) : Prop where
  all : ∀ j, j < t → Val lo w k j → ∃ b, best = some b ∧ b ≤ ds.getD (k - 2 ^ j) 0 + 1
  some_ : ∀ b, best = some b → ∃ j, Val lo w k j ∧ b = ds.getD (k - 2 ^ j) 0 + 1
theorem Best.none (lo w : Nat) (ds : List Nat) (k : Nat) : Best lo w ds k 0 Option.none := ⟨fun j h => by omega, fun b h => by cases h⟩
theorem Best.skip {lo w : Nat} {ds : List Nat} {k t : Nat} {best : Option Nat} (B : Best lo w ds k t best) (h : ¬ Val lo w k t) : Best lo w ds k (t + 1) best :=
  ⟨fun j hj v => by
    by_cases c : j = t
    · subst c
      exact absurd v h
    · exact B.all j (by omega) v, B.some_⟩
theorem Best.first {lo w : Nat} {ds : List Nat} {k t : Nat} (B : Best lo w ds k t Option.none) (h : Val lo w k t) : Best lo w ds k (t + 1) (some (ds.getD (k - 2 ^ t) 0 + 1)) := by
  refine ⟨fun j hj v => ?_, fun b e => ?_⟩
  · by_cases c : j = t
    · subst c
      exact ⟨_, rfl, Nat.le_refl _⟩
    · obtain ⟨b, e, _⟩ := B.all j (by omega) v
      cases e
  · cases e
    exact ⟨t, h, rfl⟩
theorem Best.min {lo w : Nat} {ds : List Nat} {k t b : Nat} (B : Best lo w ds k t (some b)) (h : Val lo w k t) : Best lo w ds k (t + 1) (some (if ds.getD (k - 2 ^ t) 0 + 1 < b then ds.getD (k - 2 ^ t) 0 + 1 else b)) := by
  refine ⟨fun j hj v => ?_, fun b' e => ?_⟩
  · by_cases c : j = t
    · subst c
      exact ⟨_, rfl, by split <;> omega⟩
    · obtain ⟨b', e, hb⟩ := B.all j (by omega) v
      cases e
      exact ⟨_, rfl, by split <;> omega⟩
  · have e := Option.some.inj e
    by_cases c : ds.getD (k - 2 ^ t) 0 + 1 < b
    · rw [if_pos c] at e
      exact ⟨t, h, e.symm⟩
    · rw [if_neg c] at e
      obtain ⟨j, v, e2⟩ := B.some_ b rfl
      exact ⟨j, v, e.symm.trans e2⟩
theorem Best.done {lo w : Nat} {ds : List Nat} {k t : Nat} {best : Option Nat} (B : Best lo w ds k t best) (hk : 0 < k) (h : ¬ (2 ^ t ≤ k ∧ t ≤ w)) :
    ∃ b, best = some b ∧ (∃ j, Val lo w k j ∧ b = ds.getD (k - 2 ^ j) 0 + 1) ∧ ∀ j, Val lo w k j → b ≤ ds.getD (k - 2 ^ j) 0 + 1 := by
  have lt : ∀ j, Val lo w k j → j < t := fun j v => by
    by_cases c : j < t
    · exact c
    · have := pw_le (show t ≤ j by omega)
      exact absurd ⟨by have := v.1; omega, by have := v.2.1; omega⟩ h
  have v0 : Val lo w k 0 := ⟨by rw [Nat.pow_zero]; exact hk, Nat.zero_le _, by rw [Nat.pow_zero]; exact Nat.mod_one _⟩
  obtain ⟨b, e, _⟩ := B.all 0 (lt 0 v0) v0
  refine ⟨b, e, B.some_ b e, fun j v => ?_⟩
  obtain ⟨b', e', hb⟩ := B.all j (lt j v) v
  rw [e] at e'
  cases e'
  exact hb
def optV : Option Nat → V
  | none => .non
  | some b => intN b

theorem scFewest : FnScope ["_law_width", "_law_low", "_law_high", "_law_fewest_here", "_law_word", "_law_best", "_law_size", "_law_many"] ["_law_width", "_law_low", "_law_high"] (defScope sFewest) := ⟨rfl, rfl, rfl, by decide +kernel, rfl, by decide +kernel, by decide +kernel⟩
section
variable {P : Program} {w : World} {K : PySem.W.Frag} {mg : Str → Option Value} {base : Heap}
def spFewest : Sp := fun vs H Q _ => ∃ wd lo hi : Nat, vs = [.int wd, .int lo, .int hi] ∧ Rng wd lo hi ∧ hi + 1 - lo ≤ 1000 ∧ ∀ H', Same H H' → Q (.int (blocks wd hi lo).length) H'
theorem ok_fewest {f f1 : Addr} {fd fd1 : FuncData} {k : Nat} (F : Fun K "_law_fewest" "_law_fewest" sFewest f fd) (G1 : FnOk P w K mg base CX0 (k + 1) f1 fd1 ["_law_width"] spTop) (k1 : PySem.W.keepIn K (.ref f1) = true) (b1 : Binds K fd1 ["_law_width"] [])
    (g1 : mg "_law_top" = some (.ref f1)) (B : Bt mg) : FnOk P w K mg base CX0 (k + 2) f fd ["_law_width", "_law_low", "_law_high"] spFewest := by
  refine F.ok scFewest (fun vs H Q E h => ?_) (fun cdv A outer s H vs Q E hr h => ?_)
  · obtain ⟨wd, lo, hi, rfl, _⟩ := h
    rfl
  · obtain ⟨wd, lo, hi, rfl, r, hz, q⟩ := h
    refine ⟨_, pss_cons (ps_set (i := 3) scFewest.nd rfl (.inl rfl) (pe_lst (pa_cons pe_int pa_nil)))
      (pss_cons (ps_for PassesOwn.never rfl (pi_range2 (by rfl) B.range (pa_cons (pv 1) (pa_cons (pe_op op_add (pv 2) pe_int) pa_nil))) (pg_name (i := 4) scFewest.nd rfl (.inl rfl))
        (pss_cons (ps_asg (pe_tup (pa_cons pe_non (pa_cons pe_int pa_nil))) (pg_tup rfl (pgs_cons (pg_name (i := 5) scFewest.nd rfl (.inl rfl)) (pgs_cons (pg_name (i := 6) scFewest.nd rfl (.inl rfl)) pgs_nil))))
        (pss_cons (ps_while PassesOwn.never (PW.pt (pw_and (pt_cmpR op_le (pv 6) (pe_op op_add (pe_op op_sub (pv 4) (pv 1)) pe_int) (nomark _)) (pw_and1 (pt_cmpR op_le (pv 6) (pe_call G1 hr (by rfl) g1 k1 b1 .nil pass0 (pa_cons (pv 0) pa_nil)) (nomark _)))))
          (pss_cons (ps_if (pt_cmpR op_eq (pe_op op_mod (pe_callTy call_int1 (by rfl) B.int b_int (pa_cons (pe_op op_add (pv 4) pe_int) pa_nil)) (pv 6)) pe_int (nomark _))
              (pss_cons (ps_set (i := 7) scFewest.nd rfl (.inl rfl) (pe_op op_add (pe_ix ix_list (pv 3) (pe_op op_sub (pe_op op_sub (pe_op op_add (pv 4) pe_int) (pv 6)) (pv 1)) (fun _ _ => rfl)) pe_int))
              (pss_one (ps_set (i := 5) scFewest.nd rfl (.inl rfl) (pe_ifExp (pt_cmpR op_isN (pv 5) pe_non (nomark _)) (pv 7) (pe_callB (call_min2 rfl) (by rfl) B.min b_min (pa_cons (pv 5) (pa_cons (pv 7) pa_nil))))))) pss_nil)
          (pss_one (ps_set (i := 6) scFewest.nd rfl (.inl rfl) (pe_op op_mul pe_int (pv 6))))))
        (pss_one (ps_expr (pe_bm PySem.F.plainAttrs_list PySem.F.slot_list_append PySem.F.type_list_append mt_append (pv 3) (pa_cons (pv 5) pa_nil)))))))
      (pss_one (ps_ret (pe_ix ix_list (pv 3) (pe_un un_neg pe_int) (fun _ _ => rfl))))), ?_⟩
    have r2 := r.w32
    have r3 := r.le
    have r4 := r.lt
    have hp := pw_pos wd
    have hz32 := pw32 r2
    -- fewest_here = [0]
    refine ⟨by show 1 ≤ sizeLine; decide, fun F nF => ?_⟩
    refine ⟨_, rfl, _, rfl, _, _, rfl, rfl, _, _, rfl, ⟨by omega, by omega, by omega, by omega⟩, ?_⟩
    have en : ((hi : Int) + 1 - (lo : Int)).toNat = hi + 1 - lo := by omega
    rw [en]
    refine for_range (D := ⟨_, _, fun _ _ => False, fun _ _ => False⟩) (fun i σ H' => ∃ (ds : List Nat) (y4 y5 y6 y7 : Option V), σ = [some (.int wd), some (.int lo), some (.int hi), some (.ref F), y4, y5, y6, y7] ∧ Same H H' ∧
      H' F = some (.lst (ds.map intN)) ∧ Tab lo wd ds i) ⟨[0], none, none, none, none, rfl, same_new nF, upd_same, Tab.one lo wd⟩ (fun i σ H1 hi' p => ?_) (fun σ H1 p => ?_)
    · obtain ⟨ds, y4, y5, y6, y7, rfl, sm, hF, T⟩ := p
      have tl := T.len
      -- best, size = None, 1
      refine ⟨by show 2 ≤ sizeLine; decide, fun T0 nT => ⟨T0, _, rfl, SqT.of upd_same, rfl, _, _, rfl, _, _, rfl, rfl, ?_⟩⟩
      replace sm := sm.trans (same_new (o := .tup [.non, .int 1]) nT)
      replace hF := (upd_ne (o := .tup [.non, .int 1]) (ne_of_none hF nT)).trans hF
      generalize upd H1 T0 (.tup [.non, .int 1]) = H1 at sm hF ⊢
      refine while_ans (fun m σ H' => ∃ (t : Nat) (best : Option Nat) (y7 : Option V), σ = [some (.int wd), some (.int lo), some (.int hi), some (.ref F), some (.int ((lo : Int) + (i : Int))), some (optV best), some (.int ((2 ^ t : Nat) : Int)), y7] ∧
        m = wd + 1 - t ∧ t ≤ wd + 1 ∧ Best lo wd ds (i + 1) t best ∧ H' = H1) (wd + 1) ⟨0, none, y7, rfl, by omega, by omega, Best.none _ _ _ _, rfl⟩ ?_
      rintro m σ H2 ⟨t, best, y7, rfl, rfl, ht, hb, rfl⟩
      have pt := pw_pos t
      refine ⟨_, ans_and2 (fun Q q => ⟨_, rfl, _, rfl, _, rfl, _, _, rfl, rfl, _, _, rfl, rfl, _, _, rfl, rfl, _, rfl, q⟩) (fun Q q => ⟨_, rfl, _, rfl, wd, rfl, r2, _, _, rfl, rfl, _, rfl, q⟩), fun e => ?_, fun e => ?_⟩
      · rw [Bool.and_eq_true] at e
        have e1 := of_decide_eq_true e.1
        have e2 := of_decide_eq_true e.2
        have tw : t ≤ wd := pw_le_iff (show 2 ^ t ≤ 2 ^ wd by omega)
        have tk : 2 ^ t ≤ i + 1 := by omega
        have md : ((lo : Int) + (i : Int) + 1) % ((2 ^ t : Nat) : Int) = (((lo + (i + 1)) % 2 ^ t : Nat) : Int) := by
          rw [Int.natCast_emod]
          congr 1
        have go : ∀ (best' : Option Nat) (y : Option V), Best lo wd ds (i + 1) (t + 1) best' → ∃ m', m' < wd + 1 - t ∧ ∃ (t' : Nat) (b : Option Nat) (y7 : Option V), [some (V.int wd), some (.int lo), some (.int hi), some (.ref F), some (.int ((lo : Int) + (i : Int))), some (optV best'), some (.int (2 * ((2 ^ t : Nat) : Int))), y] =
            [some (V.int wd), some (.int lo), some (.int hi), some (.ref F), some (.int ((lo : Int) + (i : Int))), some (optV b), some (.int ((2 ^ t' : Nat) : Int)), y7] ∧ m' = wd + 1 - t' ∧ t' ≤ wd + 1 ∧ Best lo wd ds (i + 1) t' b ∧ H2 = H2 := fun best' y hb' =>
          ⟨wd + 1 - (t + 1), by omega, t + 1, best', y, by rw [cast_dbl], rfl, by omega, hb', rfl⟩
        refine ⟨_, rfl, _, _, rfl, rfl, .inl ⟨_, rfl, _, rfl, _, _, rfl, rfl, by show (0 : Int) < _; omega, rfl, _, rfl, ite2 (fun e3 => ?_) (fun e3 => ?_)⟩⟩
        · have e3 : ((lo : Int) + (i : Int) + 1) % ((2 ^ t : Nat) : Int) = 0 := V.int.inj (of_decide_eq_true e3)
          rw [md] at e3
          have v : Val lo wd (i + 1) t := ⟨tk, tw, by omega⟩
          have lt : i + 1 - 2 ^ t < ds.length := by omega
          have ix : (ds.map intN)[i + 1 - 2 ^ t]? = some (intN (ds.getD (i + 1 - 2 ^ t) 0)) := by
            rw [List.getElem?_map, List.getD_eq_getElem?_getD, List.getElem?_eq_getElem lt]
            rfl
          have ei : (lo : Int) + (i : Int) + 1 - ((2 ^ t : Nat) : Int) - (lo : Int) = ((i + 1 - 2 ^ t : Nat) : Int) := by omega
          refine ⟨_, rfl, _, rfl, _, _, rfl, rfl, _, rfl, _, _, rfl, rfl, _, rfl, _, _, rfl, rfl, F, _, _, _, rfl, rfl, SqL.of hF, at_of ei ix, _, _, rfl, rfl, ?_⟩
          generalize hd : ds.getD (i + 1 - 2 ^ t) 0 = d at *
          have many : V.int ((d : Int) + 1) = intN (d + 1) := by
            show V.int _ = V.int _
            congr 1
          refine ⟨_, rfl, rfl, _, rfl, ?_⟩
          cases best with
          | none =>
            refine iteT ⟨_, rfl, _, rfl, _, _, rfl, rfl, .inl ⟨by decide, by decide⟩, ?_⟩
            have g := hb.first v
            rw [hd] at g
            have z := go (some (d + 1)) (some (.int ((d : Int) + 1))) g
            exact z
          | some b =>
            refine iteF ⟨_, rfl, _, rfl, _, _, rfl, ?_⟩
            refine ⟨_, rfl, _, _, rfl, rfl, .inl ⟨by decide, by decide⟩, ?_⟩
            have g := hb.min v
            rw [hd] at g
            have e4 : V.int (if (d : Int) + 1 < (b : Int) then (d : Int) + 1 else (b : Int)) = optV (some (if d + 1 < b then d + 1 else b)) := by
              show V.int _ = V.int _
              congr 1
              by_cases c : d + 1 < b
              · rw [if_pos c, if_pos (by omega)]
                rfl
              · rw [if_neg c, if_neg (by omega)]
            have z := go _ (some (.int ((d : Int) + 1))) g
            rw [← e4] at z
            exact z
        · have e3 : ¬ (lo + (i + 1)) % 2 ^ t = 0 := fun z => e3 (decide_eq_true (by show V.int (((lo : Int) + (i : Int) + 1) % ((2 ^ t : Nat) : Int)) = V.int 0; rw [md, z]; rfl))
          refine ⟨_, rfl, _, _, rfl, rfl, .inl ⟨by decide, by decide⟩, ?_⟩
          exact go best y7 (hb.skip fun v => e3 v.2.2)
      · rw [Bool.and_eq_false_iff] at e
        have no : ¬ (2 ^ t ≤ i + 1 ∧ t ≤ wd) := by
          rintro ⟨a, b⟩
          have := pw_le b
          rcases e with e | e
          · have := of_decide_eq_false e
            omega
          · have := of_decide_eq_false e
            omega
        obtain ⟨b, rfl, h1, h2⟩ := hb.done (by omega) no
        refine ⟨_, rfl, .inl ⟨rfl, _, SqL.of hF⟩, _, rfl, F, _, _, rfl, rfl, hF, ?_, ?_⟩
        · rw [List.length_map]
          exact lt1000 (by omega)
        · refine ⟨ds ++ [b], _, _, _, _, rfl, fun c o z => ?_, ?_, T.snoc h1 h2⟩
          · rw [upd_ne (ne_of_none z nF)]
            exact sm _ _ z
          · rw [upd_same, List.map_append]
            rfl
    · obtain ⟨ds, y4, y5, y6, y7, rfl, sm, hF, T⟩ := p
      have tl := T.len
      have key := dp_eq (d := fun k => ds.getD k 0) r4 r3 T.zero T.step
      have ne : ds ≠ [] := fun z => by
        rw [z] at tl
        cases tl
      have eds : ds = ds.dropLast ++ [ds.getLast ne] := (List.dropLast_concat_getLast ne).symm
      have el : ds.dropLast.length = hi + 1 - lo := by rw [List.length_dropLast, tl]; rfl
      have eb : ds.getLast ne = (blocks wd hi lo).length := by
        rw [← key]
        show _ = ds.getD (hi + 1 - lo) 0
        rw [← el]
        conv => rhs; arg 1; rw [eds]
        exact getD_new.symm
      refine ⟨_, rfl, 1, rfl, F, _, -1, intN (ds.getLast ne), rfl, rfl, SqL.of hF, ?_, ?_⟩
      · have e : ds.map intN = ds.dropLast.map intN ++ [intN (ds.getLast ne)] := by
          conv => lhs; rw [eds, List.map_append]
          rfl
        rw [e]
        exact atI_last _ _
      · rw [eb]
        exact q _ sm
end
end K30

/-! K30: _law_are_marks. -/
namespace K30
open PySem PySem.Spec PyProof.Rows L2

theorem all_no {l : List Bool} {i : Nat} (h : l[i]? = some false) : l.all id = false := by
  rw [List.all_eq_false]
  exact ⟨false, List.mem_of_getElem? h, Bool.false_ne_true⟩
theorem all_yes {l : List Bool} (h : ∀ b ∈ l, b = true) : l.all id = true := List.all_eq_true.mpr h
theorem parted_test {lo hi fl sz : Nat} (hp : 0 < sz) : (decide ((lo : Int) ≤ (fl : Int)) && decide ((fl : Int) + (sz : Int) - 1 ≤ (hi : Int))) = !(decide (fl < lo) || decide (hi < fl + sz - 1)) := by
  by_cases a : fl < lo
  · have a' : ¬ (lo : Int) ≤ (fl : Int) := by omega
    rw [decide_eq_true a, decide_eq_false a', Bool.true_or, Bool.false_and]
    rfl
  · have a' : (lo : Int) ≤ (fl : Int) := by omega
    rw [decide_eq_false a, decide_eq_true a', Bool.false_or, Bool.true_and]
    by_cases b : hi < fl + sz - 1
    · have b' : ¬ (fl : Int) + (sz : Int) - 1 ≤ (hi : Int) := by omega
      rw [decide_eq_true b, decide_eq_false b']
      rfl
    · have b' : (fl : Int) + (sz : Int) - 1 ≤ (hi : Int) := by omega
      rw [decide_eq_false b, decide_eq_true b']
      rfl
theorem cast_next (a t : Nat) : ((a : Int) / ((2 ^ t : Nat) : Int) + 1) * ((2 ^ t : Nat) : Int) = ((a / 2 ^ t * 2 ^ t : Nat) : Int) + ((2 ^ t : Nat) : Int) := by
  rw [Int.add_mul, Int.one_mul, cast_floor]

theorem scLMarks : FnScope ["_law_width", "_law_low", "_law_high", "_law_thing", "_law_one", "_law_two", "_law_size", "_law_word"] ["_law_width", "_law_low", "_law_high", "_law_thing"] (defScope sLMarks) := ⟨rfl, rfl, rfl, by decide +kernel, rfl, by decide +kernel, by decide +kernel⟩
section
variable {P : Program} {w : World} {K : PySem.W.Frag} {mg : Str → Option Value} {base : Heap}
theorem ok_lmarks {f f1 : Addr} {fd fd1 : FuncData} {k : Nat} (F : Fun K "_law_are_marks" "_law_are_marks" sLMarks f fd) (G1 : FnOk P w K mg base CX0 (k + 1) f1 fd1 ["_law_thing", "_law_low", "_law_high"] spBetween) (k1 : PySem.W.keepIn K (.ref f1) = true)
    (b1 : Binds K fd1 ["_law_thing", "_law_low", "_law_high"] []) (g1 : mg "_law_is_whole" = some (.ref f1)) (B : Bt mg) : FnOk P w K mg base CX0 (k + 2) f fd ["_law_width", "_law_low", "_law_high", "_law_thing"] spMarks := by
  refine F.ok scLMarks (fun vs H Q E h => ?_) (fun cdv A outer s H vs Q E hr h => ?_)
  · obtain ⟨wd, lo, hi, x, rfl, _⟩ := h
    rfl
  · obtain ⟨wd, lo, hi, x, rfl, r, ht, q⟩ := h
    have h32 := r.lt32
    refine ⟨_, pss_cons (ps_if (PW.pt (pw_or (pt_not (pt_val (pe_isi (by rfl) B.isi (pv 3) (by rfl) B.tuple b_tuple))) (pw_or1 (pt_not (pt_val (pe_callB (cr_all rfl) (by rfl) B.all b_all
          (pa_cons (pe_lc (own := [("_law_word", 7)]) (g := gName 7) (tt := tYes) rfl scLMarks.nd (pi_tup (pv 3)) (blkOk_by (N := ["_law_width", "_law_low", "_law_high", "_law_thing", "_law_one", "_law_two", "_law_size", "_law_word"]) (sc := defScope sLMarks) (by decide +kernel))
            (fun _ _ _ _ _ => pg_name (i := 7) scLMarks.nd rfl (Or.inl rfl)) (fun _ _ _ _ _ => pts_nil) (fun _ _ _ _ _ => pe_call G1 hr (by rfl) g1 k1 b1 .nil pass0 (pa_cons (pv 7) (pa_cons (pv 1) (pa_cons (pv 2) pa_nil))))) pa_nil)))))))
        (pss_one (ps_ret pe_bl)) pss_nil)
      (pss_cons (ps_for PassesOwn.never rfl (RZ.pi_zipA (by rfl) B.zip (pa_cons (pv 3) (pa_cons (pe_slice sl_tupA (pv 3) (po_some pe_int) po_none) pa_nil)))
          (pg_tup rfl (pgs_cons (pg_name (i := 4) scLMarks.nd rfl (Or.inl rfl)) (pgs_cons (pg_name (i := 5) scLMarks.nd rfl (Or.inl rfl)) pgs_nil)))
        (pss_cons (ps_if (pt_cmpR op_ge (pv 4) (pv 5) (nomark _)) (pss_one (ps_ret pe_bl)) pss_nil)
        (pss_cons (ps_set (i := 6) scLMarks.nd rfl (.inl rfl) pe_int)
        (pss_cons (ps_while PassesOwn.never (pt_cmpR op_ne (pe_op op_fdivW (pv 4) (pv 6)) (pe_op op_fdivW (pv 5) (pv 6)) (nomark _)) (pss_one (ps_set (i := 6) scLMarks.nd rfl (.inl rfl) (pe_op op_mul pe_int (pv 6)))))
        (pss_one (ps_if (PW.pt (pw_and (pt_cmpR op_ge (pe_op op_mul (pe_op op_fdivW (pv 4) (pv 6)) (pv 6)) (pv 1) (nomark _)) (pw_and1 (pt_cmpR op_le (pe_op op_sub (pe_op op_mul (pe_op op_add (pe_op op_fdivW (pv 4) (pv 6)) pe_int) (pv 6)) pe_int) (pv 2) (nomark _)))))
          (pss_one (ps_ret pe_bl)) pss_nil))))))
      (pss_one (ps_ret pe_bl))), ?_⟩
    refine ⟨x, rfl, isi_tuple ht.1 ⟨_, rfl, ?_⟩⟩
    cases htu : tupOf H x with
    | none =>
      have e : marksV lo hi H x = false := by unfold marksV; rw [htu]
      rw [e] at q
      exact iteT (iteT (q H (Same.refl H)))
    | some xs =>
      obtain ⟨hit, hlen⟩ := ht.2 xs htu
      obtain ⟨a, rfl, ha⟩ := of_tupOf htu
      have e : marksV lo hi H (.ref a) = marksL lo hi xs := by unfold marksV; rw [htu]
      rw [e] at q
      refine iteF ⟨.ref a, rfl, a, rfl, ⟨xs, SqT.of ha⟩, fun D nD => ?_⟩
      refine lc_tup (xs := xs) (fun i H' => Same H H' ∧ H' D = some (.lst ((xs.take i).map fun y => V.bl (betV lo hi y)))) ⟨same_new nD, upd_same⟩ (fun i H' _ p => SqT.of (p.1 _ _ ha)) (fun i y H' hy p => ?_) (fun H2 p => ?_)
      · obtain ⟨sm, hD⟩ := p
        refine ⟨rfl, yes_if ?_⟩
        refine ⟨y, rfl, .int lo, rfl, .int hi, rfl, y, lo, hi, rfl, (hit y (List.mem_of_getElem? hy)).same sm, _, hD, ?_, ?_, ?_⟩
        · rw [List.length_map, List.length_take]
          exact lt1000 (by omega)
        · exact fun b o z => by rw [upd_ne (ne_of_none z nD)]; exact sm _ _ z
        · rw [upd_same, List.take_add_one, hy, List.map_append]
          rfl
      · obtain ⟨sm, hD⟩ := p
        rw [List.take_length] at hD
        refine ⟨D, xs.map fun y => betV lo hi y, rfl, SqL.of (by rw [List.map_map]; exact hD), _, rfl, ?_⟩
        have e2 : (xs.map fun y => betV lo hi y).all id = xs.all (betV lo hi) := by rw [List.all_map]; rfl
        rw [e2]
        cases hall : xs.all (betV lo hi) with
        | false =>
          unfold marksL at q
          rw [hall, Bool.false_and] at q
          exact iteT (q H2 sm)
        | true =>
          obtain ⟨ns, rfl, hb⟩ := nats_of hall
          rw [marksL_of hb] at q
          have ha2 : H2 a = some (.tup (ns.map intN)) := sm _ _ ha
          refine iteF ⟨.ref a, rfl, .ref a, rfl, 1, rfl, ?_⟩
          dsimp only [tNoPart]
          refine slA_any ha2 fun c H3 s3 hc => ?_
          rw [cut_from1] at hc
          have ha3 := s3 _ _ ha2
          refine ⟨a, c, ns.map intN, _, rfl, .inr ⟨SqT.of ha3, SqT.of hc, ?_⟩⟩
          have hn : ns.length - 1 = min (ns.map intN).length ((ns.map intN).drop 1).length := by
            rw [List.length_drop, List.length_map]
            omega
          have s03 : Same H H3 := sm.trans s3
          refine for_it (D := ⟨_, _, fun _ _ => False, fun _ _ => False⟩) (walk_zipT (xs := ns.map intN) (ys := (ns.map intN).drop 1) hn) (fun i σ H' => ∃ y4 y5 y6 : Option V, σ = [some (.int wd), some (.int lo), some (.int hi), some (.ref a), y4, y5, y6, none] ∧ Same H3 H' ∧ ∀ b ∈ (links lo hi ns).take i, b = true)
            ⟨none, none, none, rfl, Same.refl _, fun b hb => by rw [List.take_zero] at hb; cases hb⟩ (fun i σ H' _ p => by obtain ⟨_, _, _, _, p, _⟩ := p; exact ⟨SqT.of (p _ _ ha3), SqT.of (p _ _ hc)⟩) (fun i v σ H' H5 hi' p y => ?_) (fun σ H4 p => ?_)
          · obtain ⟨y4, y5, y6, rfl, sm4, hyes⟩ := p
            obtain ⟨T, v1, v2, rfl, nT, rfl, hy1, hy2⟩ := y
            have hy1 : (ns.map intN)[i]? = some v1 := hy1
            have hy2 : ((ns.map intN).drop 1)[i]? = some v2 := hy2
            rw [List.getElem?_map] at hy1
            rw [List.getElem?_drop, List.getElem?_map, Nat.add_comm] at hy2
            cases g1 : ns[i]? with
            | none => rw [g1] at hy1; cases hy1
            | some n1 =>
              cases g2 : ns[i + 1]? with
              | none => rw [g2] at hy2; cases hy2
              | some n2 =>
                rw [g1] at hy1
                rw [g2] at hy2
                cases hy1
                cases hy2
                have l1 := (hb n1 (List.mem_of_getElem? g1)).2
                have l2 := (hb n2 (List.mem_of_getElem? g2)).2
                have lk := links_at lo hi ns i n1 n2 g1 g2
                have sT : Same H3 (upd H' T (.tup [intN n1, intN n2])) := sm4.trans (same_new nT)
                have qf : (decide (n1 < n2) && parted lo hi n1 n2) = false → Q (.bl false) (upd H' T (.tup [intN n1, intN n2])) := fun z => by
                  rw [z] at lk
                  rw [all_no lk] at q
                  exact q _ (s03.trans sT)
                refine ⟨T, [intN n1, intN n2], rfl, SqT.of upd_same, rfl, _, _, rfl, _, _, rfl, rfl, ?_⟩
                generalize upd H' T (.tup [intN n1, intN n2]) = H6 at sT qf ⊢
                refine ⟨_, rfl, _, rfl, _, _, rfl, rfl, _, rfl, ite2 (fun z => ?_) (fun z => ?_)⟩
                · refine qf ?_
                  rw [decide_eq_false (show ¬ n1 < n2 by have := of_decide_eq_true z; omega), Bool.false_and]
                · have lt : n1 < n2 := by
                    by_cases c : n1 < n2
                    · exact c
                    · exact absurd (decide_eq_true (by omega)) z
                  rw [decide_eq_true lt, Bool.true_and] at lk qf
                  have b32 := lv_le (a := n1) (b := n2) (by omega) (by omega)
                  refine while_ans (fun m σ H' => ∃ t : Nat, σ = [some (.int wd), some (.int lo), some (.int hi), some (.ref a), some (intN n1), some (intN n2), some (.int ((2 ^ t : Nat) : Int)), none] ∧ t + m = lv n1 n2 ∧ H' = H6) (lv n1 n2) ⟨0, rfl, by omega, rfl⟩ ?_
                  rintro m σ H7 ⟨t, rfl, hm, rfl⟩
                  have t32 : t ≤ 32 := by omega
                  refine ⟨_, fun Q q => ⟨_, rfl, _, rfl, _, _, rfl, rfl, divw t32, _, rfl, _, rfl, _, _, rfl, rfl, divw t32, rfl, _, rfl, q⟩, ?_⟩
                  rw [ne_test]
                  refine ⟨fun e => ?_, fun e => ?_⟩
                  · have hl := lv_go (show t ≤ lv n1 n2 by omega) (of_decide_eq_true e)
                    refine ⟨_, rfl, _, _, rfl, rfl, .inl ⟨by decide, by decide⟩, m - 1, by omega, t + 1, ?_, by omega, rfl⟩
                    rw [← cast_dbl]
                    rfl
                  · have hl := lv_end (show t ≤ lv n1 n2 by omega) (of_decide_eq_false e)
                    subst hl
                    have hp := pw_pos (lv n1 n2)
                    have pt := parted_test (lo := lo) (hi := hi) (fl := n1 / 2 ^ lv n1 n2 * 2 ^ lv n1 n2) hp
                    have ea : Ans (tAnd (tTest (tOp (rI0 fun i j => .bl (decide (j ≤ i))) (tOp (rI CMul fun i j => .int (i * j)) (tOp (rI CDivW fun i j => .int (i / j)) (tVar 4) (tVar 6)) (tVar 6)) (tVar 1)))
                        (tTest (tOp (rI0 fun i j => .bl (decide (i ≤ j))) (tOp (rI0 fun i j => .int (i - j)) (tOp (rI CMul fun i j => .int (i * j)) (tOp (rI0 fun i j => .int (i + j)) (tOp (rI CDivW fun i j => .int (i / j)) (tVar 4) (tVar 6)) (tC (.int 1))) (tVar 6)) (tC (.int 1))) (tVar 2))))
                        [some (.int wd), some (.int lo), some (.int hi), some (.ref a), some (intN n1), some (intN n2), some (.int ((2 ^ lv n1 n2 : Nat) : Int)), none] H7 (!parted lo hi n1 n2) := by
                      unfold parted
                      rw [← pt]
                      refine ans_and2 (fun Q q => ?_) (fun Q q => ?_)
                      · refine ⟨_, rfl, _, rfl, _, _, rfl, rfl, divw t32, _, rfl, _, _, rfl, rfl, mulw t32, _, rfl, _, _, rfl, rfl, _, rfl, ?_⟩
                        rw [cast_floor]
                        exact q
                      · refine ⟨_, rfl, _, rfl, _, _, rfl, rfl, divw t32, _, _, rfl, rfl, _, rfl, _, _, rfl, rfl, mulw t32, _, _, rfl, rfl, _, rfl, _, _, rfl, rfl, _, rfl, ?_⟩
                        rw [cast_next]
                        exact q
                    refine ea _ ?_
                    cases hpt : parted lo hi n1 n2 with
                    | false => exact iteT (qf hpt)
                    | true =>
                      refine iteF ⟨_, _, _, rfl, sT, fun b hb' => ?_⟩
                      rw [List.take_add_one, lk, hpt] at hb'
                      rcases List.mem_append.mp hb' with z | z
                      · exact hyes b z
                      · exact List.mem_singleton.mp z
          · obtain ⟨y4, y5, y6, rfl, sm4, hyes⟩ := p
            rw [List.take_of_length_le (by rw [links_len]; exact Nat.le_refl _)] at hyes
            rw [all_yes hyes] at q
            exact q H4 (s03.trans sm4)
end
end K30

/-! K30: _law_things. -/
namespace K30
open PySem PySem.Spec PyProof.Rows L2

theorem prs_at {H : Hp} : ∀ {as : List Addr} {bs : List (Nat × Nat)} {i : Nat} {x : V}, Prs H as bs → (as.map V.ref)[i]? = some x → ∃ A b, x = .ref A ∧ bs[i]? = some b ∧ H A = some (.tup [.int b.1, .int b.2])
  | _, _, _, _, .nil, h => by simp at h
  | _, _, 0, _, .cons r _, h => by
    cases h
    exact ⟨_, _, rfl, rfl, r⟩
  | _, _, i + 1, _, .cons _ t, h => prs_at (i := i) t h
theorem heads_few {wd lo hi : Nat} (r : Rng wd lo hi) : (heads wd hi lo).length ≤ 100 := by
  have h := blocks_many r.lt r.le
  have w := r.w32
  have e : (heads wd hi lo).length = (blocks wd hi lo).length := List.length_map ..
  omega
theorem heads_ne {wd lo hi : Nat} (r : Rng wd lo hi) : heads wd hi lo ≠ [] := by
  unfold heads
  rw [blocks_step r.le]
  exact fun z => by cases z
theorem bits_of {wd lo hi : Nat} (r : Rng wd lo hi) {b : Nat × Nat} (h : b ∈ blocks wd hi lo) : ∃ k : Nat, k ≤ 32 ∧ (wd : Int) - (b.2 : Int) = (k : Int) := by
  obtain ⟨_, _, _, k, hk, e, _⟩ := (heads_spec r.lt lo (by have := r.le; omega) (Nat.le_refl _) (hd_lo lo hi)).1 b h
  have w := r.w32
  exact ⟨k, by omega, by omega⟩
theorem Thing.tup_of {H : Hp} {p : Addr} {xs : List V} (h : H p = some (.tup xs)) (n : Nums xs) (l : xs.length ≤ 1000) : Thing H (.ref p) := .tup h (n.items H) l
theorem lists_ne {H : Hp} {J p : Addr} (hJ : JarAt H J) (n : H p = none) : p ≠ J := by
  obtain ⟨_, _, _, z⟩ := hJ
  exact (ne_of_none z n).symm

theorem scThings : FnScope ["_law_jar_here", "_law_width", "_law_low", "_law_high", "_law_heads", "_law_some", "_law_lasts", "_law_word", "_law_bits", "_law_turn"] ["_law_jar_here", "_law_width", "_law_low", "_law_high"] (defScope sThings) := ⟨rfl, rfl, rfl, by decide +kernel, rfl, by decide +kernel, by decide +kernel⟩
section
variable {P : Program} {w : World} {K : PySem.W.Frag} {mg : Str → Option Value} {base : Heap}
def spThings : Sp := fun vs H Q _ => ∃ (J : Addr) (wd lo hi : Nat), vs = [.ref J, .int wd, .int lo, .int hi] ∧ JarAt H J ∧ Rng wd lo hi ∧ ∀ H' p xs, SameJ J H H' → JarAt H' J → H' p = some (.lst xs) → Things H' xs → xs.length ≤ 10 → Q (.ref p) H'
theorem ok_things {f f1 f2 f3 f4 f5 : Addr} {fd fd1 fd2 fd3 fd4 fd5 : FuncData} {k : Nat} (F : Fun K "_law_things" "_law_things" sThings f fd)
    (G1 : FnOk P w K mg base CX0 (k + 1) f1 fd1 ["_law_width", "_law_low", "_law_high"] spBlocks) (k1 : PySem.W.keepIn K (.ref f1) = true) (b1 : Binds K fd1 ["_law_width", "_law_low", "_law_high"] []) (g1 : mg "_law_blocks" = some (.ref f1))
    (G2 : FnOk P w K mg base CX0 (k + 1) f2 fd2 ["_law_jar_here", "_law_many"] spDraw) (k2 : PySem.W.keepIn K (.ref f2) = true) (b2 : Binds K fd2 ["_law_jar_here", "_law_many"] []) (g2 : mg "_law_draw" = some (.ref f2))
    (G3 : FnOk P w K mg base CX0 (k + 1) f3 fd3 ["_law_width"] spTop) (k3 : PySem.W.keepIn K (.ref f3) = true) (b3 : Binds K fd3 ["_law_width"] []) (g3 : mg "_law_top" = some (.ref f3))
    (G4 : FnOk P w K mg base CX0 (k + 1) f4 fd4 ["_law_jar_here", "_law_thing", "_law_deep"] spBent) (k4 : PySem.W.keepIn K (.ref f4) = true) (b4 : Binds K fd4 ["_law_jar_here", "_law_thing", "_law_deep"] []) (g4 : mg "_law_bent" = some (.ref f4))
    (G5 : FnOk P w K mg base CX0 (k + 1) f5 fd5 ["_law_jar_here"] spOdd) (k5 : PySem.W.keepIn K (.ref f5) = true) (b5 : Binds K fd5 ["_law_jar_here"] []) (g5 : mg "_law_odd" = some (.ref f5)) (B : Bt mg) :
    FnOk P w K mg base CX0 (k + 2) f fd ["_law_jar_here", "_law_width", "_law_low", "_law_high"] spThings := by
  refine F.ok scThings (fun vs H Q E h => ?_) (fun cdv A outer s H vs Q E hr h => ?_)
  · obtain ⟨J, wd, lo, hi, rfl, _⟩ := h
    rfl
  · obtain ⟨J, wd, lo, hi, rfl, hJ, r, q⟩ := h
    refine ⟨_, pss_cons (ps_set (i := 4) scThings.nd rfl (.inl rfl) (pe_callTy call_tuple_of (by rfl) B.tuple b_tuple (pa_cons
          (pe_lc (own := [("_law_word", 7), ("_law_bits", 8)]) (g := gTup K 2 (gCons (gName 7) (gCons (gName 8) gNil))) (tt := tYes) rfl scThings.nd (pi_tup (pe_call G1 hr (by rfl) g1 k1 b1 .nil pass0 (pa_cons (pv 1) (pa_cons (pv 2) (pa_cons (pv 3) pa_nil)))))
            (blkOk_by (N := ["_law_jar_here", "_law_width", "_law_low", "_law_high", "_law_heads", "_law_some", "_law_lasts", "_law_word", "_law_bits", "_law_turn"]) (sc := defScope sThings) (by decide +kernel))
            (fun _ _ _ _ _ => pg_tup rfl (pgs_cons (pg_name (i := 7) scThings.nd rfl (Or.inl rfl)) (pgs_cons (pg_name (i := 8) scThings.nd rfl (Or.inl rfl)) pgs_nil))) (fun _ _ _ _ _ => pts_nil) (fun _ _ _ _ _ => pv 7)) pa_nil)))
      (pss_cons (ps_set (i := 5) scThings.nd rfl (.inl rfl) (pe_callB (cr_sortedSet rfl) (by rfl) B.sorted b_sorted (pa_cons (pe_callTy (cr_setL rfl) (by rfl) B.set b_set (pa_cons
          (pe_lc (own := [("_law_turn", 9)]) (g := gName 9) (tt := tYes) rfl scThings.nd (pi_range1 (by rfl) B.range (pa_cons (pe_call G2 hr (by rfl) g2 k2 b2 .nil pass0 (pa_cons (pv 0) (pa_cons pe_int pa_nil))) pa_nil))
            (blkOk_by (N := ["_law_jar_here", "_law_width", "_law_low", "_law_high", "_law_heads", "_law_some", "_law_lasts", "_law_word", "_law_bits", "_law_turn"]) (sc := defScope sThings) (by decide +kernel))
            (fun _ _ _ _ _ => pg_name (i := 9) scThings.nd rfl (Or.inl rfl)) (fun _ _ _ _ _ => pts_nil)
            (fun _ _ _ _ _ => pe_op op_add (pv 2) (pe_call G2 hr (by rfl) g2 k2 b2 .nil pass0 (pa_cons (pv 0) (pa_cons (pe_op op_add (pe_op op_sub (pv 3) (pv 2)) pe_int) pa_nil))))) pa_nil)) pa_nil)))
      (pss_cons (ps_set (i := 6) scThings.nd rfl (.inl rfl) (pe_callTy call_tuple_of (by rfl) B.tuple b_tuple (pa_cons
          (pe_lc (own := [("_law_word", 7), ("_law_bits", 8)]) (g := gTup K 2 (gCons (gName 7) (gCons (gName 8) gNil))) (tt := tYes) rfl scThings.nd (pi_tup (pe_call G1 hr (by rfl) g1 k1 b1 .nil pass0 (pa_cons (pv 1) (pa_cons (pv 2) (pa_cons (pv 3) pa_nil)))))
            (blkOk_by (N := ["_law_jar_here", "_law_width", "_law_low", "_law_high", "_law_heads", "_law_some", "_law_lasts", "_law_word", "_law_bits", "_law_turn"]) (sc := defScope sThings) (by decide +kernel))
            (fun _ _ _ _ _ => pg_tup rfl (pgs_cons (pg_name (i := 7) scThings.nd rfl (Or.inl rfl)) (pgs_cons (pg_name (i := 8) scThings.nd rfl (Or.inl rfl)) pgs_nil))) (fun _ _ _ _ _ => pts_nil)
            (fun _ _ _ _ _ => pe_op op_sub (pe_op op_add (pv 7) (pe_call G3 hr (by rfl) g3 k3 b3 .nil pass0 (pa_cons (pe_op op_sub (pv 1) (pv 8)) pa_nil))) pe_int)) pa_nil)))
      (pss_one (ps_ret (pe_lst (pa_cons (pv 4) (pa_cons (pv 6) (pa_cons (pe_callTy call_tuple_of (by rfl) B.tuple b_tuple (pa_cons (pv 5) pa_nil))
          (pa_cons (pe_call G4 hr (by rfl) g4 k4 b4 .nil pass0 (pa_cons (pv 0) (pa_cons (pv 4) (pa_cons pe_int pa_nil)))) (pa_cons (pe_call G4 hr (by rfl) g4 k4 b4 .nil pass0 (pa_cons (pv 0) (pa_cons (pv 4) (pa_cons pe_int pa_nil))))
          (pa_cons (pe_callTy call_list_of (by rfl) B.list b_list (pa_cons (pv 4) pa_nil)) (pa_cons (pe_call G5 hr (by rfl) g5 k5 b5 .nil pass0 (pa_cons (pv 0) pa_nil)) pa_nil)))))))))))), ?_⟩
    have hlen : (heads wd hi lo).length = (blocks wd hi lo).length := List.length_map ..
    have hfew := heads_few r
    have small : ∀ n : Nat, n ≤ 1000 → n < sizeLine := fun n h => lt1000 h
    -- heads
    refine ⟨_, rfl, _, rfl, _, rfl, wd, lo, hi, rfl, r.le, r.lt, r.w32, fun H1 p s1 np hB => ?_⟩
    obtain ⟨as, hp, hprs⟩ := hB
    refine ⟨p, rfl, ⟨_, SqT.of hp⟩, fun D nD => ?_⟩
    refine lc_tup (xs := as.map V.ref) (fun i H' => Same H1 H' ∧ H' D = some (.lst (((heads wd hi lo).take i).map intN))) ⟨same_new nD, upd_same⟩ (fun i H' _ pp => SqT.of (pp.1 _ _ hp)) (fun i x H' hx pp => ?_) (fun H2 pp => ?_)
    · obtain ⟨sm, hD⟩ := pp
      obtain ⟨A, b, rfl, hb, hA⟩ := prs_at hprs hx
      refine ⟨A, _, rfl, SqT.of (sm _ _ hA), rfl, _, _, rfl, _, _, rfl, rfl, rfl, yes_if ?_⟩
      refine ⟨_, rfl, _, hD, ?_, fun c o z => ?_, ?_⟩
      · rw [List.length_map, List.length_take]
        exact small _ (by omega)
      · rw [upd_ne (ne_of_none z nD)]
        exact sm _ _ z
      · have hh : (heads wd hi lo)[i]? = some b.1 := by
          unfold heads
          rw [List.getElem?_map, hb]
          rfl
        rw [upd_same, List.take_add_one, hh, List.map_append]
        rfl
    obtain ⟨sm2, hD⟩ := pp
    have la : (as.map V.ref).length = (heads wd hi lo).length := by rw [List.length_map, prs_len hprs, hlen]
    rw [la, List.take_length] at hD
    refine ⟨D, _, rfl, .inl ⟨SqL.of hD, fun p1 np1 => ?_⟩⟩
    have t3 : Same H (upd H2 p1 (.tup ((heads wd hi lo).map intN))) := (s1.trans sm2).trans (same_new np1)
    have e3 : upd H2 p1 (.tup ((heads wd hi lo).map intN)) p1 = some (.tup ((heads wd hi lo).map intN)) := upd_same
    generalize upd H2 p1 (.tup ((heads wd hi lo).map intN)) = H3 at t3 e3 ⊢
    have J3 := hJ.same t3
    have pos : (0 : Int) < (hi : Int) - (lo : Int) + 1 ∧ (hi : Int) - (lo : Int) + 1 ≤ 2 ^ 40 := by
      have := r.le
      have := r.lt32
      exact ⟨by omega, by omega⟩
    -- some
    refine ⟨_, rfl, J, 4, rfl, J3, by decide, by decide, fun H4 n s4 J4 n0 n4 => ?_⟩
    refine ⟨n, rfl, by omega, by omega, fun D2 nD2 => ?_⟩
    have neD2 := lists_ne J4 nD2
    refine lc_range (lo := 0) (n := n.toNat) (fun i H' => SameJ J H4 H' ∧ JarAt H' J ∧ ∃ ns : List Int, ns.length = i ∧ H' D2 = some (.lst (ns.map V.int))) ⟨.of (same_new nD2), J4.same (same_new nD2), [], rfl, upd_same⟩ (fun i H' hi' pp => ?_) (fun H5 pp => ?_)
    · obtain ⟨sm, J', ns, ln, hD2⟩ := pp
      refine ⟨rfl, yes_if ?_⟩
      refine ⟨_, rfl, _, rfl, _, rfl, _, rfl, _, _, rfl, rfl, _, _, rfl, rfl, J, _, rfl, J', pos.1, pos.2, fun H6 z s6 J6 z0 z1 => ⟨_, _, rfl, rfl, _, s6 _ _ neD2 hD2, ?_, fun c o nc e => ?_, ?_, ns ++ [(lo : Int) + z], ?_, ?_⟩⟩
      · rw [List.length_map]
        exact small _ (by omega)
      · rw [upd_ne (ne_of_none e nD2)]
        exact s6 _ _ nc (sm _ _ nc e)
      · obtain ⟨x, y, v, e⟩ := J6
        exact ⟨x, y, v, (upd_ne neD2.symm).trans e⟩
      · rw [List.length_append, ln]
        rfl
      · rw [upd_same, List.map_append]
        rfl
    obtain ⟨sm5, J5, ns, ln, hD2⟩ := pp
    refine ⟨D2, ns, rfl, SqL.of hD2, by omega, fun p2 c np2 hc => ?_⟩
    refine ⟨p2, _, _, rfl, upd_same, by omega, fun ns2 p3 _ _ ln2 np3 => ?_⟩
    have s57 : Same H5 (upd (upd H5 p2 (SetO w p2 (fun j => decide (j ∈ ns)) c)) p3 (.lst (ns2.map V.int))) := (same_new np2).trans (same_new np3)
    have e7 : upd (upd H5 p2 (SetO w p2 (fun j => decide (j ∈ ns)) c)) p3 (.lst (ns2.map V.int)) p3 = some (.lst (ns2.map V.int)) := upd_same
    -- lasts
    refine ⟨_, rfl, _, rfl, _, rfl, wd, lo, hi, rfl, r.le, r.lt, r.w32, fun H8 p s8 np hB => ?_⟩
    have s58 : Same H5 H8 := s57.trans s8
    have e78 : H8 p3 = some (.lst (ns2.map V.int)) := s8 _ _ e7
    have t8 : SameJ J H H8 := (((SameJ.of t3).trans s4).trans sm5).trans (.of s58)
    have J8 := J5.same s58
    have e38 : H8 p1 = some (.tup ((heads wd hi lo).map intN)) := s58 _ _ (sm5 _ _ (J3.ne e3) (s4 _ _ (J3.ne e3) e3))
    obtain ⟨as, hp, hprs⟩ := hB
    refine ⟨p, rfl, ⟨_, SqT.of hp⟩, fun D3 nD3 => ?_⟩
    refine lc_tup (xs := as.map V.ref) (fun i H' => Same H8 H' ∧ ∃ zs : List V, Nums zs ∧ zs.length = i ∧ H' D3 = some (.lst zs)) ⟨same_new nD3, [], (fun y hy => absurd hy List.not_mem_nil), rfl, upd_same⟩ (fun i H' _ pp => SqT.of (pp.1 _ _ hp)) (fun i x H' hx pp => ?_) (fun H9 pp => ?_)
    · obtain ⟨sm, zs, nz, lz, hD3⟩ := pp
      have hi1 : i < (as.map V.ref).length := (List.getElem?_eq_some_iff.mp hx).1
      obtain ⟨A, b, rfl, hb, hA⟩ := prs_at hprs hx
      obtain ⟨kk, hk, ek⟩ := bits_of r (List.mem_of_getElem? hb)
      refine ⟨A, _, rfl, SqT.of (sm _ _ hA), rfl, _, _, rfl, _, _, rfl, rfl, rfl, yes_if ?_⟩
      refine ⟨_, rfl, _, rfl, _, rfl, _, _, rfl, rfl, ?_⟩
      refine ⟨kk, ?_, hk, _, _, rfl, rfl, _, _, rfl, rfl, _, hD3, ?_, fun c o z => ?_, _, ?_, ?_, upd_same⟩
      · show [V.int ((wd : Int) - (b.2 : Int))] = [V.int (kk : Int)]
        rw [ek]
      · rw [List.length_map, prs_len hprs] at hi1
        exact small _ (by omega)
      · rw [upd_ne (ne_of_none z nD3)]
        exact sm _ _ z
      · intro y hy
        rcases List.mem_append.mp hy with z | z
        · exact nz y z
        · exact ⟨_, List.mem_singleton.mp z⟩
      · rw [List.length_append, lz]
        rfl
    obtain ⟨sm9, zs, nz, lz, hD3⟩ := pp
    have lz2 : zs.length ≤ 1000 := by
      rw [lz, List.length_map, prs_len hprs]
      omega
    refine ⟨D3, _, rfl, .inl ⟨SqL.of hD3, fun p4 np4 => ?_⟩⟩
    have s8a : Same H8 (upd H9 p4 (.tup zs)) := sm9.trans (same_new np4)
    have ea : upd H9 p4 (.tup zs) p4 = some (.tup zs) := upd_same
    generalize upd H9 p4 (.tup zs) = Ha at s8a ea ⊢
    have ta : SameJ J H Ha := t8.trans (.of s8a)
    have Ja := J8.same s8a
    have e3a := s8a _ _ e38
    have e7a := s8a _ _ e78
    -- the list
    refine ⟨_, rfl, _, rfl, _, rfl, p3, _, rfl, .inl ⟨SqL.of e7a, fun p5 np5 => ?_⟩⟩
    have sb : Same Ha (upd Ha p5 (.tup (ns2.map V.int))) := same_new np5
    have eb : upd Ha p5 (.tup (ns2.map V.int)) p5 = some (.tup (ns2.map V.int)) := upd_same
    generalize upd Ha p5 (.tup (ns2.map V.int)) = Hb at sb eb ⊢
    have Jb := Ja.same sb
    have e3b := sb _ _ e3a
    have n2 : Nums (ns2.map V.int) := fun y hy => by
      obtain ⟨z, _, rfl⟩ := List.mem_map.mp hy
      exact ⟨z, rfl⟩
    have T3 : Things Hb [.ref p1, .ref p4, .ref p5] := .cons (.tup_of e3b (.of _) (by rw [List.length_map]; omega)) (.cons (.tup_of (sb _ _ ea) nz lz2) (.cons (.tup_of eb n2 (by rw [List.length_map]; omega)) (.nil _)))
    refine ⟨_, rfl, _, rfl, J, p1, _, rfl, Jb, e3b, heads_ne r, hfew, fun Hc x4 sc Jc hx4 => ?_⟩
    have e3c := sc _ _ (Jb.ne e3b) e3b
    have T4 := (T3.jar Jb sc Jc).app (.cons hx4 (.nil _))
    refine ⟨_, rfl, _, rfl, J, p1, _, rfl, Jc, e3c, heads_ne r, hfew, fun Hd x5 sd Jd hx5 => ?_⟩
    have e3d := sd _ _ (Jc.ne e3c) e3c
    have T5 := (T4.jar Jc sd Jd).app (.cons hx5 (.nil _))
    refine ⟨_, rfl, p1, _, rfl, .inr (SqT.of e3d), fun p6 np6 => ?_⟩
    have se := same_new (o := .lst ((heads wd hi lo).map intN)) np6
    have T6 := (T5.same se).app (.cons (.lst (new_at (o := .lst ((heads wd hi lo).map intN)) np6)) (.nil _))
    have Je := Jd.same se
    refine ⟨_, rfl, J, rfl, Je, fun Hf x7 sf Jf hx7 => ?_⟩
    have T7 := (T6.jar Je sf Jf).app (.cons hx7 (.nil _))
    refine ⟨by show 7 ≤ sizeLine; decide, fun p7 np7 => ?_⟩
    have sg := same_new (o := .lst [.ref p1, .ref p4, .ref p5, x4, x5, .ref p6, x7]) np7
    refine q _ p7 _ (((((ta.trans (.of sb)).trans sc).trans sd).trans (.of se)).trans (sf.trans (.of sg))) (Jf.same sg) upd_same (T7.same sg) (by show 7 ≤ 10; decide)
end
end K30

/-! K30: data that repr can show. -/
namespace K30
open PySem PySem.Spec PyProof.Rows L2

def dP (b : Nat × Nat) : PyData := .tuple [.int (b.1 : Int), .int (b.2 : Int)]
def dB (bs : List (Nat × Nat)) : PyData := .tuple (bs.map dP)
/-- small numbers in all of them -/
def SmallB (bs : List (Nat × Nat)) : Prop := ∀ b ∈ bs, b.1 < 2 ^ 32 ∧ b.2 < 2 ^ 32
theorem small_log {n : Nat} (h : n < 2 ^ 32) : n.log2 < 32 := PySem.Flt.log2_lt_of (by decide) h
theorem int_sh {n : Nat} (h : n < 2 ^ 32) : PyData.showable (.int (n : Int)) = true := by
  simp only [PyData.showable, Int.natAbs_natCast]
  exact decide_eq_true (Nat.lt_of_lt_of_le (small_log h) (by decide))
theorem int_short {n : Nat} (h : n < 2 ^ 32) : PyData.leavesShort 40 (.int (n : Int)) = true := by
  simp only [PyData.leavesShort, PyData.shown]
  refine decide_eq_true ?_
  have e := int_text_length_le (a := (n : Int)) (k := 32) (by decide) (by rw [Int.natAbs_natCast]; exact small_log h)
  have e2 : ((toString (n : Int) : String) : Str).length = (toString (n : Int)).length := by
    exact PySem.ofString_length _
  omega
theorem int_weight {n : Nat} (h : n < 2 ^ 32) : PyData.weight (.int (n : Int)) ≤ 33 := by
  simp only [PyData.weight, Int.natAbs_natCast]
  have := small_log h
  split <;> omega
theorem bs_sh : ∀ {bs : List (Nat × Nat)}, SmallB bs → PyData.showableAll (bs.map dP) = true
  | [], _ => by simp only [List.map_nil, PyData.showableAll]
  | b :: bs, h => by
    have hb := h b List.mem_cons_self
    have t := bs_sh (bs := bs) fun c hc => h c (List.mem_cons_of_mem _ hc)
    simp only [List.map_cons, PyData.showableAll, dP, PyData.showable] at t ⊢
    have i1 := int_sh hb.1
    have i2 := int_sh hb.2
    simp only [PyData.showable] at i1 i2
    rw [i1, i2]
    simpa using t
theorem bs_nd : ∀ bs : List (Nat × Nat), PyData.hasDictAll (bs.map dP) = false
  | [] => by simp only [List.map_nil, PyData.hasDictAll]
  | b :: bs => by
    have t := bs_nd bs
    simp only [List.map_cons, PyData.hasDictAll, dP, PyData.hasDict, Bool.or_false, Bool.false_or] at t ⊢
    exact t
theorem bs_dp : ∀ bs : List (Nat × Nat), PyData.depthAll (bs.map dP) ≤ 1
  | [] => by simp only [List.map_nil, PyData.depthAll]; omega
  | b :: bs => by
    have t := bs_dp bs
    simp only [List.map_cons, PyData.depthAll, dP, PyData.depth] at t ⊢
    omega
theorem bs_short : ∀ {bs : List (Nat × Nat)}, SmallB bs → PyData.leavesShortAll 40 (bs.map dP) = true
  | [], _ => by simp only [List.map_nil, PyData.leavesShortAll]
  | b :: bs, h => by
    have hb := h b List.mem_cons_self
    have t := bs_short (bs := bs) fun c hc => h c (List.mem_cons_of_mem _ hc)
    rw [List.map_cons, PyData.leavesShortAll, t, Bool.and_true]
    simp only [dP, PyData.leavesShort, PyData.leavesShortAll]
    have i1 := int_short hb.1
    have i2 := int_short hb.2
    simp only [PyData.leavesShort] at i1 i2
    rw [i1, i2]
    rfl
theorem bs_weight : ∀ {bs : List (Nat × Nat)}, SmallB bs → PyData.weightAll (bs.map dP) ≤ 80 * bs.length
  | [], _ => by simp only [List.map_nil, PyData.weightAll]; omega
  | b :: bs, h => by
    have hb := h b List.mem_cons_self
    have t := bs_weight (bs := bs) fun c hc => h c (List.mem_cons_of_mem _ hc)
    have i1 := int_weight hb.1
    have i2 := int_weight hb.2
    rw [List.map_cons, PyData.weightAll, List.length_cons]
    have e : (dP b).weight = PyData.weight (.int (b.1 : Int)) + 1 + (PyData.weight (.int (b.2 : Int)) + 1 + 0) := by
      simp only [dP, PyData.weight, PyData.weightAll]
    omega
theorem line_ge : 4000000 ≤ sizeLine := by rw [sizeLine_eq]; decide
/-- a list of two such tuples -/
theorem shows_two {bs : List (Nat × Nat)} (h : SmallB bs) (hl : bs.length ≤ 100) : Shows (.list [dB bs, dB bs]) := by
  have w := bs_weight h
  have lg := line_ge
  refine ⟨?_, ?_, ?_, ?_⟩
  · simp only [PyData.showable, PyData.showableAll, dB, bs_sh h]
    rfl
  · simp only [PyData.hasDict, PyData.hasDictAll, dB, bs_nd bs]
    rfl
  · have d := bs_dp bs
    simp only [PyData.depth, PyData.depthAll, dB]
    omega
  · have z := PyData.shown_le 40 (by decide) (.list [dB bs, dB bs]) (by simp only [PyData.leavesShort, PyData.leavesShortAll, dB, bs_short h]; rfl)
    have e : PyData.weight (.list [dB bs, dB bs]) = PyData.weightAll (bs.map dP) + 1 + (PyData.weightAll (bs.map dP) + 1 + 0) := by
      simp only [dB, PyData.weight, PyData.weightAll]
    rw [e] at z
    omega
/-- a list of two truth values -/
theorem shows_bools (m : Bool) : Shows (.list [.bool m, .bool m]) := by
  have lg := line_ge
  refine ⟨?_, ?_, ?_, ?_⟩
  · simp only [PyData.showable, PyData.showableAll]
    rfl
  · simp only [PyData.hasDict, PyData.hasDictAll]
    rfl
  · simp only [PyData.depth, PyData.depthAll]
    omega
  · have z := PyData.shown_le 40 (by decide) (.list [.bool m, .bool m]) (by simp only [PyData.leavesShort, PyData.leavesShortAll]; rfl)
    have e : PyData.weight (.list [.bool m, .bool m]) = 2 := by
      simp only [PyData.weight, PyData.weightAll]
    rw [e] at z
    omega
theorem dp_prs {K : PySem.W.Frag} {H : Hp} : ∀ {as : List Addr} {bs : List (Nat × Nat)}, Prs H as bs → DpAll K H (as.map V.ref) (bs.map dP)
  | _, _, .nil => .nil
  | _, _, .cons r t => .cons (.tup (SqT.of r) (.cons (.int _) (.cons (.int _) .nil))) (dp_prs t)
theorem TupB.dp {K : PySem.W.Frag} {H : Hp} {p : Addr} {bs : List (Nat × Nat)} (h : TupB H p bs) : Dp K H (.ref p) (dB bs) :=
  let ⟨_, e, q⟩ := h
  .tup (SqT.of e) (dp_prs q)
theorem small_blocks {wd lo hi : Nat} (r : Rng wd lo hi) : SmallB (blocks wd hi lo) := fun b hb => by
  obtain ⟨_, h1, _, k, hk, e, _⟩ := (heads_spec r.lt lo (by have := r.le; omega) (Nat.le_refl _) (hd_lo lo hi)).1 b hb
  have w := r.w32
  have := r.lt32
  exact ⟨by omega, by omega⟩
theorem few_blocks {wd lo hi : Nat} (r : Rng wd lo hi) : (blocks wd hi lo).length ≤ 100 := by
  have h := blocks_many r.lt r.le
  have w := r.w32
  omega
end K30

/-! K30: _law_are_right. -/
namespace K30
open PySem PySem.Spec PyProof.Rows L2

theorem Prs.jar {H H' : Hp} {J : Addr} (hJ : JarAt H J) (s : SameJ J H H') : ∀ {as : List Addr} {bs : List (Nat × Nat)}, Prs H as bs → Prs H' as bs
  | _, _, .nil => .nil
  | _, _, .cons r t => .cons (s _ _ (hJ.ne r) r) (Prs.jar hJ s t)
theorem TupB.jar {H H' : Hp} {J p : Addr} {bs : List (Nat × Nat)} (h : TupB H p bs) (hJ : JarAt H J) (s : SameJ J H H') : TupB H' p bs :=
  let ⟨as, e, q⟩ := h
  ⟨as, s _ _ (hJ.ne e) e, Prs.jar hJ s q⟩
theorem marksV_same {lo hi : Nat} {H H' : Hp} {x : V} (h : Item H x) (s : Same H H') : marksV lo hi H' x = marksV lo hi H x := by
  unfold marksV
  rw [tupOf_same h s]
theorem heads_in {wd lo hi : Nat} (r : Rng wd lo hi) : ∀ n ∈ heads wd hi lo, lo ≤ n ∧ n ≤ hi := fun n hn => by
  unfold heads at hn
  obtain ⟨b, hb, rfl⟩ := List.mem_map.mp hn
  obtain ⟨h1, h2, _⟩ := (heads_spec r.lt lo (by have := r.le; omega) (Nat.le_refl _) (hd_lo lo hi)).1 b hb
  exact ⟨h1, h2⟩
theorem marks_heads {wd lo hi : Nat} (r : Rng wd lo hi) {H : Hp} {q : Addr} (h : H q = some (.tup ((heads wd hi lo).map intN))) : marksV lo hi H (.ref q) = true := by
  unfold marksV
  rw [tupOf_tup h]
  show marksL lo hi _ = true
  rw [marksL_of (heads_in r), links_all]
  exact heads_marks r.lt r.le
/-- an if whose test is false, whatever it lays beside -/
theorem ifS_no {c : TT} {t u : TS} {D : Ends} {σ : L2.St} {H : Hp} (S : Hp → Prop) (hc : ∀ R : Bool → Hp → Prop, (∀ H1, S H1 → R false H1) → c σ H R) (hu : ∀ H1, S H1 → u D σ H1) : tIfS c t u D σ H :=
  hc _ fun H1 s => iteF (hu H1 s)
/-- how a call by keywords alone binds, the keywords told from behind -/
def KwRev (fd : FuncData) (ps : List Str) : Prop := ∀ (s : Shared) (ws : List Value), ws.length = ps.reverse.length → BindsTo s fd ⟨[], ps.reverse.zip ws⟩ (ps.zip ws.reverse)

theorem scAreRight : FnScope ["_law_jar_here", "_law_width", "_law_low", "_law_high", "_law_due", "_law_told", "_law_thing", "_law_is_due", "_law_word", "_law_bits"] ["_law_jar_here", "_law_width", "_law_low", "_law_high"] (defScope sAreRight) := ⟨rfl, rfl, rfl, by decide +kernel, rfl, by decide +kernel, by decide +kernel⟩
section
variable {P : Program} {w : World} {K : PySem.W.Frag} {mg : Str → Option Value} {base : Heap}
def spAreRight : Sp := fun vs H Q _ => ∃ (J : Addr) (wd lo hi : Nat), vs = [.ref J, .int wd, .int lo, .int hi] ∧ JarAt H J ∧ Rng wd lo hi ∧ ∀ H', SameJ J H H' → JarAt H' J → Q (.bl true) H'
theorem ok_areRight {f f1 f2 f3 f4 f5 f6 : Addr} {fd fd1 fd2 fd3 fd4 fd5 fd6 : FuncData} {k : Nat} (F : Fun K "_law_are_right" "_law_are_right" sAreRight f fd)
    (G1 : FnOk P w K mg base CX0 (k + 1) f1 fd1 ["_law_width", "_law_low", "_law_high"] spBlocks) (k1 : PySem.W.keepIn K (.ref f1) = true) (b1 : Binds K fd1 ["_law_width", "_law_low", "_law_high"] []) (g1 : mg "_law_blocks" = some (.ref f1))
    (G2 : FnOk P w K mg base CX0 (k + 1) f2 fd2 ["width", "low", "high"] spPrefOf) (k2 : PySem.W.keepIn K (.ref f2) = true) (b2 : Binds K fd2 ["width", "low", "high"] []) (w2 : KwRev fd2 ["width", "low", "high"]) (g2 : mg "prefixes_of" = some (.ref f2))
    (G3 : FnG P w K mg base CX0 (k + 1) f3 fd3 ["_law_told", "_law_due"] (spSame K)) (k3 : PySem.W.keepIn K (.ref f3) = true) (b3 : Binds K fd3 ["_law_told", "_law_due"] []) (g3 : mg "_law_same" = some (.ref f3))
    (G4 : FnOk P w K mg base CX0 (k + 1) f4 fd4 ["_law_jar_here", "_law_width", "_law_low", "_law_high"] spThings) (k4 : PySem.W.keepIn K (.ref f4) = true) (b4 : Binds K fd4 ["_law_jar_here", "_law_width", "_law_low", "_law_high"] []) (g4 : mg "_law_things" = some (.ref f4))
    (G5 : FnOk P w K mg base CX0 (k + 1) f5 fd5 ["_law_width", "_law_low", "_law_high", "_law_thing"] spMarks) (k5 : PySem.W.keepIn K (.ref f5) = true) (b5 : Binds K fd5 ["_law_width", "_law_low", "_law_high", "_law_thing"] []) (g5 : mg "_law_are_marks" = some (.ref f5))
    (G6 : FnOk P w K mg base CX0 (k + 1) f6 fd6 ["width", "low", "high", "value"] spMarks) (k6 : PySem.W.keepIn K (.ref f6) = true) (b6 : Binds K fd6 ["width", "low", "high", "value"] []) (w6 : KwRev fd6 ["width", "low", "high", "value"]) (g6 : mg "are_marks" = some (.ref f6)) (B : Bt mg) :
    FnG P w K mg base CX0 (k + 2) f fd ["_law_jar_here", "_law_width", "_law_low", "_law_high"] spAreRight := by
  refine fun_okG F scAreRight (fun vs H Q E h => ?_) (fun cdv A outer s H vs Q E gd hr h => ?_)
  · obtain ⟨J, wd, lo, hi, rfl, _⟩ := h
    rfl
  · obtain ⟨J, wd, lo, hi, rfl, hJ, r, q⟩ := h
    refine ⟨_, pss_cons (ps_set (i := 4) scAreRight.nd rfl (.inl rfl) (pe_call G1 hr (by rfl) g1 k1 b1 .nil pass0 (pa_cons (pv 1) (pa_cons (pv 2) (pa_cons (pv 3) pa_nil)))))
      (pss_cons (ps_set (i := 5) scAreRight.nd rfl (.inl rfl) (pe_lst (pa_cons (pe_call G2 hr (by rfl) g2 k2 b2 .nil pass0 (pa_cons (pv 1) (pa_cons (pv 2) (pa_cons (pv 3) pa_nil))))
          (pa_cons (pe_callKw (g := fun _ ws => ws.reverse) (gV := fun _ zs => zs.reverse) G2 hr (by rfl) g2 k2 w2 Vals.reverse pass0 (pk_cons (pv 3) (pk_cons (pv 2) (pk_cons (pv 1) pk_nil)))) pa_nil))))
      (pss_cons (ps_if (PW.pt (pw_or (pt_not (pt_val (pe_callG G3 gd hr (by rfl) g3 k3 b3 pass0 (pa_cons (pv 5) (pa_cons (pe_lst (pa_cons (pv 4) (pa_cons (pv 4) pa_nil))) pa_nil)))))
          (pw_or1 (PW.pt (pw_and (pt_cmpR op_gt (pv 1) pe_int (nomark _)) (pw_and1 (pt_cmpR op_gt (pe_callB call_len_seq (by rfl) B.len b_len (pa_cons (pv 4) pa_nil)) (pe_op op_sub (pe_op op_mul pe_int (pv 1)) pe_int) (nomark _))))))))
        (pss_one (ps_ret pe_bl)) pss_nil)
      (pss_cons (ps_for PassesOwn.never rfl (pi_list (pe_op op_cat (pe_call G4 hr (by rfl) g4 k4 b4 .nil pass0 (pa_cons (pv 0) (pa_cons (pv 1) (pa_cons (pv 2) (pa_cons (pv 3) pa_nil)))))
          (pe_lst (pa_cons (pe_tup pa_nil) (pa_cons (pe_tup (pa_cons (pv 2) (pa_cons (pv 3) pa_nil))) pa_nil))))) (pg_name (i := 6) scAreRight.nd rfl (.inl rfl))
        (pss_cons (ps_set (i := 7) scAreRight.nd rfl (.inl rfl) (pe_call G5 hr (by rfl) g5 k5 b5 .nil pass0 (pa_cons (pv 1) (pa_cons (pv 2) (pa_cons (pv 3) (pa_cons (pv 6) pa_nil))))))
        (pss_cons (ps_set (i := 5) scAreRight.nd rfl (.inl rfl) (pe_lst (pa_cons (pe_call G6 hr (by rfl) g6 k6 b6 .nil pass0 (pa_cons (pv 1) (pa_cons (pv 2) (pa_cons (pv 3) (pa_cons (pv 6) pa_nil)))))
            (pa_cons (pe_callKw (g := fun _ ws => ws.reverse) (gV := fun _ zs => zs.reverse) G6 hr (by rfl) g6 k6 w6 Vals.reverse pass0 (pk_cons (pv 6) (pk_cons (pv 3) (pk_cons (pv 2) (pk_cons (pv 1) pk_nil))))) pa_nil))))
        (pss_one (ps_if (pt_not (pt_val (pe_callG G3 gd hr (by rfl) g3 k3 b3 pass0 (pa_cons (pv 5) (pa_cons (pe_lst (pa_cons (pv 7) (pa_cons (pv 7) pa_nil))) pa_nil)))))
          (pss_one (ps_ret pe_bl)) pss_nil)))))
      (pss_one (ps_ret (pe_cmpR op_isBl (pe_call G6 hr (by rfl) g6 k6 b6 .nil pass0 (pa_cons (pv 1) (pa_cons (pv 2) (pa_cons (pv 3) (pa_cons (pe_callTy call_tuple_of (by rfl) B.tuple b_tuple (pa_cons
          (pe_lc (own := [("_law_word", 8), ("_law_bits", 9)]) (g := gTup K 2 (gCons (gName 8) (gCons (gName 9) gNil))) (tt := tYes) rfl scAreRight.nd (pi_tup (pv 4))
            (blkOk_by (N := ["_law_jar_here", "_law_width", "_law_low", "_law_high", "_law_due", "_law_told", "_law_thing", "_law_is_due", "_law_word", "_law_bits"]) (sc := defScope sAreRight) (by decide +kernel))
            (fun _ _ _ _ _ => pg_tup rfl (pgs_cons (pg_name (i := 8) scAreRight.nd rfl (Or.inl rfl)) (pgs_cons (pg_name (i := 9) scAreRight.nd rfl (Or.inl rfl)) pgs_nil))) (fun _ _ _ _ _ => pts_nil) (fun _ _ _ _ _ => pv 8)) pa_nil)) pa_nil))))) pe_bl (nomark _))))))), ?_⟩
    have few := few_blocks r
    have small := small_blocks r
    have many := blocks_many r.lt r.le
    have w1 := r.w1
    refine ⟨_, rfl, _, rfl, _, rfl, wd, lo, hi, rfl, r.le, r.lt, r.w32, fun H1 p s1 np hB => ?_⟩
    refine ⟨_, rfl, _, rfl, _, rfl, wd, lo, hi, rfl, r, fun H2 p2 s2 np2 hB2 => ?_⟩
    refine ⟨_, rfl, _, rfl, _, rfl, rfl, wd, lo, hi, rfl, r, fun H3 p3 s3 np3 hB3 => ?_⟩
    refine ⟨by show 2 ≤ sizeLine; decide, fun p4 n4 => ?_⟩
    have s4 := same_new (o := .lst [.ref p2, .ref p3]) n4
    have e4 := new_at (o := .lst [.ref p2, .ref p3]) n4
    have no : ¬ (wd > 1 ∧ (blocks wd hi lo).length > 2 * wd - 2) := by omega
    have nx4 := s3.trans s4
    have B2 := hB2.same nx4
    have B3 := hB3.same s4
    have B1 := hB.same (s2.trans nx4)
    have J4 := hJ.same (s1.trans (s2.trans nx4))
    have t4 : Same H _ := s1.trans (s2.trans nx4)
    generalize upd H3 p4 (.lst [.ref p2, .ref p3]) = H4 at e4 B1 B2 B3 J4 t4 ⊢
    dsimp only [gName]
    refine ifS_no (fun H5 => Same H4 H5) (fun R hR => ?_) (fun H5 s5 => ?_)
    · refine ⟨_, rfl, _, rfl, _, rfl, by show 2 ≤ sizeLine; decide, fun p5 n5 => ?_⟩
      have s5 := same_new (o := .lst [.ref p, .ref p]) n5
      have e5 := new_at (o := .lst [.ref p, .ref p]) n5
      refine ⟨p4, p5, .list [dB (blocks wd hi lo), dB (blocks wd hi lo)], rfl, .lst (SqL.of (s5 _ _ e4)) (.cons (B2.same s5).dp (.cons (B3.same s5).dp .nil)),
        .lst (SqL.of e5) (.cons (B1.same s5).dp (.cons (B1.same s5).dp .nil)), shows_two small few, _, rfl, iteF ?_⟩
      have B15 := B1.same s5
      generalize upd H4 p5 (.lst [.ref p, .ref p]) = H5 at s5 B15 ⊢
      obtain ⟨as, hp, hprs⟩ := B15
      have lenB : (as.map V.ref).length = (blocks wd hi lo).length := by rw [List.length_map, prs_len hprs]
      refine ⟨_, rfl, _, _, rfl, rfl, _, rfl, ite2 (fun e => ?_) (fun e => hR _ s5)⟩
      refine ⟨_, rfl, p, _, rfl, .inr (SqT.of hp), _, rfl, _, _, rfl, rfl, .inl ⟨by decide, by decide⟩, _, _, rfl, rfl, _, _, rfl, rfl, _, rfl, ?_⟩
      have e := of_decide_eq_true e
      rw [decide_eq_false (by rw [lenB]; omega)]
      exact hR _ s5
    have J5 := J4.same s5
    have B5 := B1.same s5
    have t5 : SameJ J H H5 := .of (t4.trans s5)
    clear s5 t4 J4 B1 B2 B3 e4
    -- the things
    refine ⟨_, rfl, _, rfl, _, rfl, _, rfl, J, wd, lo, hi, rfl, J5, r, fun H6 l xs s6 J6 hl hx lx => ?_⟩
    have B6 := B5.jar J5 s6
    have t6 := t5.trans s6
    refine ⟨by show 0 ≤ sizeLine; decide, fun a1 na1 => ?_⟩
    have sa1 := same_new (o := .tup []) na1
    have ea1 := new_at (o := .tup []) na1
    refine ⟨_, rfl, _, rfl, by show 2 ≤ sizeLine; decide, fun a2 na2 => ?_⟩
    have sa2 := same_new (o := .tup [.int lo, .int hi]) na2
    have ea2 := new_at (o := .tup [.int lo, .int hi]) na2
    refine ⟨by show 2 ≤ sizeLine; decide, fun a3 na3 => ?_⟩
    have sa3 := same_new (o := .lst [.ref a1, .ref a2]) na3
    have ea3 := new_at (o := .lst [.ref a1, .ref a2]) na3
    refine ⟨l, a3, xs, _, rfl, rfl, (sa1.trans (sa2.trans sa3)) _ _ hl, ea3, by show xs.length + 2 ≤ sizeLine; exact Nat.le_of_lt (lt1000 (by omega)), fun a4 na4 => ?_⟩
    have sa4 := same_new (o := .lst (xs ++ [.ref a1, .ref a2])) na4
    have ea4 := new_at (o := .lst (xs ++ [.ref a1, .ref a2])) na4
    have s7 := sa1.trans (sa2.trans (sa3.trans sa4))
    have X1 : Thing _ (.ref a1) := .tup ea1 (Items.nil _) (by show 0 ≤ 1000; decide)
    have X2 : Thing _ (.ref a2) := .tup ea2 (Items.cons (.int _) (Items.cons (.int _) (Items.nil _))) (by show 2 ≤ 1000; decide)
    have X7 := (hx.same s7).app (.cons (X1.same (sa2.trans (sa3.trans sa4))) (.cons (X2.same (sa3.trans sa4)) (.nil _)))
    have B7 := B6.same s7
    have J7 := J6.same s7
    have t7 := t6.trans (.of s7)
    generalize upd (upd (upd (upd H6 a1 (.tup [])) a2 (.tup [.int lo, .int hi])) a3 (.lst [.ref a1, .ref a2])) a4 (.lst (xs ++ [.ref a1, .ref a2])) = H7 at s7 ea4 X7 B7 J7 t7 ⊢
    generalize xs ++ [.ref a1, .ref a2] = ys at ea4 X7 ⊢
    clear sa1 sa2 sa3 sa4 s7 X1 X2 ea1 ea2 ea3 B6 J6 t6 B5 J5 t5
    refine ⟨a4, rfl, ⟨_, SqL.of ea4⟩, ?_⟩
    refine for_list (D := ⟨_, _, fun _ _ => False, fun _ _ => False⟩) (xs := ys) (fun i σ H' => ∃ (y5 y6 y7 : Option V), σ = [some (.ref J), some (.int wd), some (.int lo), some (.int hi), some (.ref p), y5, y6, y7, none, none] ∧ Same H7 H') ⟨_, _, _, rfl, Same.refl _⟩
      (fun i σ H' _ p => by obtain ⟨_, _, _, rfl, sm⟩ := p; exact SqL.of (sm _ _ ea4)) (fun i x σ H' hx' pp => ?_) (fun σ H8 pp => ?_)
    · obtain ⟨y5, y6, y7, rfl, sm⟩ := pp
      have hX := (X7 x (List.mem_of_getElem? hx')).same sm
      refine ⟨_, rfl, _, rfl, _, rfl, _, rfl, wd, lo, hi, x, rfl, r, hX, fun H8 s8 => ?_⟩
      have X8 := hX.same s8
      refine ⟨_, rfl, _, rfl, _, rfl, _, rfl, wd, lo, hi, x, rfl, r, X8, fun H9 s9 => ?_⟩
      refine ⟨_, rfl, _, rfl, _, rfl, _, rfl, rfl, wd, lo, hi, x, rfl, r, X8.same s9, fun Ha sa => ?_⟩
      rw [marksV_same X8.1 s9, marksV_same hX.1 s8]
      generalize marksV lo hi H' x = m
      refine ⟨by show 2 ≤ sizeLine; decide, fun q1 n1 => ?_⟩
      have sb := same_new (o := .lst [.bl m, .bl m]) n1
      have eb := new_at (o := .lst [.bl m, .bl m]) n1
      dsimp only [gName]
      refine ifS_no (fun H5 => Same Ha H5) (fun R hR => ?_) (fun H5 s5 => ?_)
      · refine ⟨_, rfl, _, rfl, _, rfl, by show 2 ≤ sizeLine; decide, fun q2 n2 => ?_⟩
        have sc := same_new (o := .lst [.bl m, .bl m]) n2
        have ec := new_at (o := .lst [.bl m, .bl m]) n2
        exact ⟨q1, q2, .list [.bool m, .bool m], rfl, .lst (SqL.of (sc _ _ eb)) (.cons (.bl m) (.cons (.bl m) .nil)), .lst (SqL.of ec) (.cons (.bl m) (.cons (.bl m) .nil)), shows_bools m, _, rfl, hR _ (sb.trans sc)⟩
      · exact ⟨_, _, _, rfl, ((sm.trans s8).trans (s9.trans sa)).trans s5⟩
    · obtain ⟨y5, y6, y7, rfl, sm⟩ := pp
      have B8 := B7.same sm
      have t8 := t7.trans (.of sm)
      have J8 := J7.same sm
      clear sm B7 t7 J7 X7 ea4
      obtain ⟨as, hp, hprs⟩ := B8
      have hlen : (heads wd hi lo).length = (blocks wd hi lo).length := List.length_map ..
      have hfew := heads_few r
      refine ⟨_, rfl, _, rfl, _, rfl, .ref p, rfl, p, rfl, ⟨_, SqT.of hp⟩, fun D nD => ?_⟩
      refine lc_tup (xs := as.map V.ref) (fun i H' => Same H8 H' ∧ H' D = some (.lst (((heads wd hi lo).take i).map intN))) ⟨same_new nD, upd_same⟩ (fun i H' _ pp => SqT.of (pp.1 _ _ hp)) (fun i x H' hx pp => ?_) (fun H2 pp => ?_)
      · obtain ⟨sm, hD⟩ := pp
        obtain ⟨A, b, rfl, hb, hA⟩ := prs_at hprs hx
        refine ⟨A, _, rfl, SqT.of (sm _ _ hA), rfl, _, _, rfl, _, _, rfl, rfl, rfl, yes_if ?_⟩
        refine ⟨_, rfl, _, hD, ?_, fun c o z => ?_, ?_⟩
        · rw [List.length_map, List.length_take]
          exact lt1000 (by omega)
        · rw [upd_ne (ne_of_none z nD)]
          exact sm _ _ z
        · have hh : (heads wd hi lo)[i]? = some b.1 := by
            unfold heads
            rw [List.getElem?_map, hb]
            rfl
          rw [upd_same, List.take_add_one, hh, List.map_append]
          rfl
      obtain ⟨sm2, hD⟩ := pp
      have la : (as.map V.ref).length = (heads wd hi lo).length := by rw [List.length_map, prs_len hprs, hlen]
      rw [la, List.take_length] at hD
      refine ⟨D, _, rfl, .inl ⟨SqL.of hD, fun q1 n1 => ?_⟩⟩
      have s3 := same_new (o := .tup ((heads wd hi lo).map intN)) n1
      have e3 := new_at (o := .tup ((heads wd hi lo).map intN)) n1
      refine ⟨wd, lo, hi, _, rfl, r, .tup_of e3 (.of _) (by rw [List.length_map]; omega), fun H9 s9 => ?_⟩
      rw [marks_heads r e3]
      refine ⟨true, true, rfl, rfl, ?_⟩
      exact q _ (t8.trans (.of ((sm2.trans s3).trans s9))) (J8.same ((sm2.trans s3).trans s9))
end
end K30

/-! K30: _law_right. -/
namespace K30
open PySem PySem.Spec PyProof.Rows L2

theorem scRight : FnScope ["_law_jar_here", "_law_width", "_law_low", "_law_high", "_law_wide"] ["_law_jar_here"] (defScope sRight) := ⟨rfl, rfl, rfl, by decide +kernel, rfl, by decide +kernel, by decide +kernel⟩
section
variable {P : Program} {w : World} {K : PySem.W.Frag} {mg : Str → Option Value} {base : Heap}
def spRight : Sp := fun vs H Q _ => ∃ J : Addr, vs = [.ref J] ∧ JarAt H J ∧ ∀ H', SameJ J H H' → JarAt H' J → Q (.bl true) H'
theorem ok_right {f f1 f2 f3 f4 f5 : Addr} {fd fd1 fd2 fd3 fd4 fd5 : FuncData} {k : Nat} (F : Fun K "_law_right" "_law_right" sRight f fd)
    (G1 : FnOk P w K mg base CX0 (k + 1) f1 fd1 ["_law_jar_here", "_law_many"] spDraw) (k1 : PySem.W.keepIn K (.ref f1) = true) (b1 : Binds K fd1 ["_law_jar_here", "_law_many"] []) (g1 : mg "_law_draw" = some (.ref f1))
    (G2 : FnOk P w K mg base CX0 (k + 1) f2 fd2 ["_law_jar_here", "_law_width"] spRange) (k2 : PySem.W.keepIn K (.ref f2) = true) (b2 : Binds K fd2 ["_law_jar_here", "_law_width"] []) (g2 : mg "_law_range" = some (.ref f2))
    (G3 : FnG P w K mg base CX0 (k + 1) f3 fd3 ["_law_jar_here", "_law_width", "_law_low", "_law_high"] spAreRight) (k3 : PySem.W.keepIn K (.ref f3) = true) (b3 : Binds K fd3 ["_law_jar_here", "_law_width", "_law_low", "_law_high"] []) (g3 : mg "_law_are_right" = some (.ref f3))
    (G4 : FnOk P w K mg base CX0 (k + 1) f4 fd4 ["width", "low", "high"] spPrefOf) (k4 : PySem.W.keepIn K (.ref f4) = true) (b4 : Binds K fd4 ["width", "low", "high"] []) (g4 : mg "prefixes_of" = some (.ref f4))
    (G5 : FnOk P w K mg base CX0 (k + 1) f5 fd5 ["_law_width", "_law_low", "_law_high"] spFewest) (k5 : PySem.W.keepIn K (.ref f5) = true) (b5 : Binds K fd5 ["_law_width", "_law_low", "_law_high"] []) (g5 : mg "_law_fewest" = some (.ref f5)) (B : Bt mg) :
    FnG P w K mg base CX0 (k + 2) f fd ["_law_jar_here"] spRight := by
  refine fun_okG F scRight (fun vs H Q E h => ?_) (fun cdv A outer s H vs Q E gd hr h => ?_)
  · obtain ⟨J, rfl, _⟩ := h
    rfl
  · obtain ⟨J, rfl, hJ, q⟩ := h
    refine ⟨_, pss_cons (ps_set (i := 1) scRight.nd rfl (.inl rfl) (pe_op op_add pe_int (pe_call G1 hr (by rfl) g1 k1 b1 .nil pass0 (pa_cons (pv 0) (pa_cons pe_int pa_nil)))))
      (pss_cons (ps_asg (pe_call G2 hr (by rfl) g2 k2 b2 .nil pass0 (pa_cons (pv 0) (pa_cons (pv 1) pa_nil))) (pg_tup rfl (pgs_cons (pg_name (i := 2) scRight.nd rfl (.inl rfl)) (pgs_cons (pg_name (i := 3) scRight.nd rfl (.inl rfl)) pgs_nil))))
      (pss_cons (ps_if (pt_not (pt_val (pe_callG G3 gd hr (by rfl) g3 k3 b3 pass0 (pa_cons (pv 0) (pa_cons (pv 1) (pa_cons (pv 2) (pa_cons (pv 3) pa_nil))))))) (pss_one (ps_ret pe_bl)) pss_nil)
      (pss_cons (ps_if (pt_cmpR op_ne (pe_callB call_len_seq (by rfl) B.len b_len (pa_cons (pe_call G4 hr (by rfl) g4 k4 b4 .nil pass0 (pa_cons (pv 1) (pa_cons (pv 2) (pa_cons (pv 3) pa_nil)))) pa_nil))
          (pe_call G5 hr (by rfl) g5 k5 b5 .nil pass0 (pa_cons (pv 1) (pa_cons (pv 2) (pa_cons (pv 3) pa_nil)))) (nomark _)) (pss_one (ps_ret pe_bl)) pss_nil)
      (pss_cons (ps_set (i := 4) scRight.nd rfl (.inl rfl) (pe_op op_add pe_int (pe_call G1 hr (by rfl) g1 k1 b1 .nil pass0 (pa_cons (pv 0) (pa_cons pe_int pa_nil)))))
      (pss_cons (ps_asg (pe_call G2 hr (by rfl) g2 k2 b2 .nil pass0 (pa_cons (pv 0) (pa_cons (pv 4) pa_nil))) (pg_tup rfl (pgs_cons (pg_name (i := 2) scRight.nd rfl (.inl rfl)) (pgs_cons (pg_name (i := 3) scRight.nd rfl (.inl rfl)) pgs_nil))))
      (pss_one (ps_ret (pe_callG G3 gd hr (by rfl) g3 k3 b3 pass0 (pa_cons (pv 0) (pa_cons (pv 4) (pa_cons (pv 2) (pa_cons (pv 3) pa_nil)))))))))))), ?_⟩
    refine ⟨_, rfl, J, 7, rfl, hJ, by decide, by decide, fun H1 z s1 J1 z0 z1 => ?_⟩
    obtain ⟨wd, rfl⟩ : ∃ n : Nat, z = n := ⟨z.toNat, by omega⟩
    have ew : (1 : Int) + (wd : Int) = ((1 + wd : Nat) : Int) := by omega
    refine ⟨_, _, rfl, rfl, _, rfl, _, rfl, J, 1 + wd, ?_, J1, by omega, by omega, fun H2 p lo hi s2 J2 hp r => ?_⟩
    · rw [← ew]
      rfl
    have w7 : 1 + wd ≤ 7 := by omega
    refine ⟨p, _, rfl, SqT.of hp, rfl, _, _, rfl, _, _, rfl, rfl, ?_⟩
    refine ⟨_, rfl, _, rfl, _, rfl, _, rfl, J, 1 + wd, lo, hi, ?_, J2, r, fun H3 s3 J3 => ⟨_, rfl, iteF ?_⟩⟩
    · rw [← ew]
      rfl
    refine ⟨_, rfl, _, rfl, _, rfl, 1 + wd, lo, hi, ?_, r, fun H4 p4 s4 n4 hB4 => ?_⟩
    · rw [← ew]
      rfl
    obtain ⟨as, hp4, hprs⟩ := hB4
    have len4 : (as.map V.ref).length = (blocks (1 + wd) hi lo).length := by rw [List.length_map, prs_len hprs]
    refine ⟨p4, _, rfl, .inr (SqT.of hp4), _, rfl, _, rfl, _, rfl, 1 + wd, lo, hi, ?_, r, ?_, fun H5 s5 => ?_⟩
    · rw [← ew]
      rfl
    · have a := r.lt
      have b : 2 ^ (1 + wd) ≤ 2 ^ 7 := pw_le w7
      have c : (2 : Nat) ^ 7 = 128 := by decide
      omega
    refine ⟨rfl, _, rfl, ?_⟩
    rw [len4, decide_eq_true rfl]
    refine iteF ?_
    -- the wide one
    have J5 := J3.same (s4.trans s5)
    have t5 := ((s1.trans s2).trans s3).trans (.of (s4.trans s5))
    refine ⟨_, rfl, J, 32, rfl, J5, by decide, by decide, fun H6 z s6 J6 z2 z3 => ?_⟩
    obtain ⟨wi, rfl⟩ : ∃ n : Nat, z = n := ⟨z.toNat, by omega⟩
    have ei : (1 : Int) + (wi : Int) = ((1 + wi : Nat) : Int) := by omega
    refine ⟨_, _, rfl, rfl, _, rfl, _, rfl, J, 1 + wi, ?_, J6, by omega, by omega, fun H7 p7 lo hi s7 J7 hp7 r7 => ?_⟩
    · rw [← ei]
      rfl
    refine ⟨p7, _, rfl, SqT.of hp7, rfl, _, _, rfl, _, _, rfl, rfl, ?_⟩
    refine ⟨_, rfl, _, rfl, _, rfl, _, rfl, J, 1 + wi, lo, hi, ?_, J7, r7, fun H8 s8 J8 => ?_⟩
    · rw [← ei]
      rfl
    exact q _ (((t5.trans s6).trans s7).trans s8) J8
end
end K30

/-! K30: law. -/
namespace K30
open PySem PySem.Spec PyProof.Rows L2

theorem same_of_jar {H H1 H2 : Hp} {p : Addr} (s : Same H H1) (n : H p = none) (j : SameJ p H1 H2) : Same H H2 := fun b o e => j b o (ne_of_none e n) (s b o e)
theorem all_true (n : Nat) : (List.replicate n true).all id = true := List.all_eq_true.mpr fun b hb => (List.mem_replicate.mp hb).2

theorem scLaw : FnScope ["_law_script", "_law_turn"] ["_law_script"] (defScope sLaw) := ⟨rfl, rfl, rfl, by decide +kernel, rfl, by decide +kernel, by decide +kernel⟩
section
variable {P : Program} {w : World} {K : PySem.W.Frag} {mg : Str → Option Value} {base : Heap}
def spLaw (K : PySem.W.Frag) : Sp := fun vs H Q _ => ∃ (a : Addr) (ns : List Int), vs = [.ref a] ∧ SqL K H a (ns.map V.int) ∧ ∀ H', Q (.bl true) H'
theorem ok_law {f f1 f2 : Addr} {fd fd1 fd2 : FuncData} {k : Nat} (F : Fun K "law" "law" sLaw f fd)
    (G1 : FnOk P w K mg base CX0 (k + 1) f1 fd1 ["_law_script", "_law_turn"] (spJar K)) (k1 : PySem.W.keepIn K (.ref f1) = true) (b1 : Binds K fd1 ["_law_script", "_law_turn"] []) (g1 : mg "_law_jar" = some (.ref f1))
    (G2 : FnG P w K mg base CX0 (k + 1) f2 fd2 ["_law_jar_here"] spRight) (k2 : PySem.W.keepIn K (.ref f2) = true) (b2 : Binds K fd2 ["_law_jar_here"] []) (g2 : mg "_law_right" = some (.ref f2)) (B : Bt mg) :
    FnG P w K mg base CX0 (k + 2) f fd ["_law_script"] (spLaw K) := by
  refine fun_okG F scLaw (fun vs H Q E h => ?_) (fun cdv A outer s H vs Q E gd hr h => ?_)
  · obtain ⟨a, ns, rfl, _⟩ := h
    rfl
  · obtain ⟨a, ns, rfl, hS, q⟩ := h
    refine ⟨_, pss_one (ps_ret (pe_callB (cr_all rfl) (by rfl) B.all b_all (pa_cons
          (pe_lc (own := [("_law_turn", 1)]) (g := gName 1) (tt := tYes) rfl scLaw.nd (pi_range1 (by rfl) B.range (pa_cons (pe_callB (call_max2 rfl) (by rfl) B.max b_max (pa_cons pe_int (pa_cons
              (pe_callB (call_min2 rfl) (by rfl) B.min b_min (pa_cons (pe_callB call_len_seq (by rfl) B.len b_len (pa_cons (pv 0) pa_nil)) (pa_cons pe_int pa_nil))) pa_nil))) pa_nil))
            (blkOk_by (N := ["_law_script", "_law_turn"]) (sc := defScope sLaw) (by decide +kernel))
            (fun _ _ _ _ _ => pg_name (i := 1) scLaw.nd rfl (Or.inl rfl)) (fun _ _ _ _ _ => pts_nil)
            (fun _ _ _ _ _ => pe_callG G2 gd hr (by rfl) g2 k2 b2 pass0 (pa_cons (pe_call G1 hr (by rfl) g1 k1 b1 .nil pass0 (pa_cons (pv 0) (pa_cons (pv 1) pa_nil))) pa_nil))) pa_nil))), ?_⟩
    refine ⟨_, rfl, a, _, rfl, .inl hS, _, _, rfl, ?_⟩
    refine ⟨_, _, rfl, ?_⟩
    have n0 : ∀ L : Int, -(2 ^ 63) ≤ (if (if (6 : Int) < L then 6 else L) > 2 then (if (6 : Int) < L then 6 else L) else 2) ∧ (if (if (6 : Int) < L then 6 else L) > 2 then (if (6 : Int) < L then 6 else L) else 2) ≤ 6 := fun L => by
      split <;> split <;> omega
    have n1 := n0 ((ns.map V.int).length : Int)
    refine ⟨_, rfl, by omega, by omega, fun D nD => ?_⟩
    generalize (if (if (6 : Int) < ((ns.map V.int).length : Int) then 6 else ((ns.map V.int).length : Int)) > 2 then (if (6 : Int) < ((ns.map V.int).length : Int) then 6 else ((ns.map V.int).length : Int)) else 2) = n at n1 ⊢
    refine lc_range (lo := 0) (n := n.toNat) (fun i H' => Same H H' ∧ H' D = some (.lst ((List.replicate i true).map V.bl))) ⟨same_new nD, upd_same⟩ (fun i H' hi' pp => ?_) (fun H2 pp => ?_)
    · obtain ⟨sm, hD⟩ := pp
      refine ⟨rfl, yes_if ?_⟩
      refine ⟨_, rfl, _, rfl, a, ns, i, ?_, sm.seq hS, fun H3 J s3 nJ hJ => ?_⟩
      · rw [Int.zero_add]
        rfl
      refine ⟨J, rfl, hJ, fun H4 s4 J4 => ?_⟩
      have neD : D ≠ J := ne_of_none hD nJ
      have t4 := same_of_jar s3 nJ s4
      refine ⟨_, t4 _ _ hD, ?_, fun b o e => ?_, ?_⟩
      · rw [List.length_map, List.length_replicate]
        exact lt1000 (by omega)
      · rw [upd_ne (ne_of_none e nD)]
        exact t4 _ _ (sm _ _ e)
      · rw [upd_same, List.replicate_succ', List.map_append]
        rfl
    · obtain ⟨sm, hD⟩ := pp
      refine ⟨D, _, rfl, SqL.of hD, ?_⟩
      rw [all_true]
      exact q _
end
end K30

/-! K30: the law's call where no guard of repr stands. -/
namespace K30
open PySem PySem.Spec PyProof.Rows L2

/-- the script alone is known, unless the text itself owns it -/
def Lone (K : PySem.W.Frag) (o : Obj) (a : Addr) (xs : List V) : Hp := fun b => if b = a ∧ (K.lookup a).isNone = true then some (.frz o (.lst xs)) else none
section
variable {P : Program} {w : World} {K : PySem.W.Frag} {o : Obj} {a b : Addr} {xs : List V} {u : HO}
theorem Lone.none_of (h : b = a → K.lookup a = none → False) : Lone K o a xs b = none := if_neg fun z => h z.1 (Option.isNone_iff_eq_none.mp z.2)
theorem Lone.some_of (h : Lone K o a xs b = some u) : b = a ∧ K.lookup a = none ∧ u = .frz o (.lst xs) := by
  unfold Lone at h
  split at h
  · rename_i z
    exact ⟨z.1, Option.isNone_iff_eq_none.mp z.2, (Option.some.inj h).symm⟩
  · cases h
theorem Lone.seq {us : List Value} (h : ∀ q, K.lookup a = some q → q = { cls := .type "list", data := .seq us.toArray }) (r : Vals xs us) (l : us.length ≤ sizeLine) : SqL K (Lone K o a xs) a xs := by
  cases e : K.lookup a with
  | none => exact .inl (.inr ⟨o, if_pos ⟨rfl, by rw [e]; rfl⟩⟩)
  | some q =>
    rw [h q e] at e
    exact .inr ⟨_, _, _, e, rfl, rfl, rfl, by rw [List.size_toArray]; exact l, by rw [List.toList_toArray]; exact r⟩
theorem Lone.kin {s : Shared} (hK : K.In s.heap) : K.In (hidT s.heap (Lone K o a xs)) := fun c q e => hidT_get (hK c q e) (none_of fun z n => by
  rw [z, n] at e
  cases e)
theorem Lone.ns {s : Shared} {us : List Value} {c : Addr} {m : Str → Option Value} (ha : s.heap.get? a = some { cls := .type "list", data := .seq us.toArray }) (n : s.heap.Ns c m) : (hidT s.heap (Lone K o a xs)).Ns c m := by
  obtain ⟨q, es, ep, e, d, r⟩ := n
  refine ⟨q, es, ep, hidT_get e (none_of fun z _ => ?_), d, r⟩
  rw [z, ha] at e
  rw [← Option.some.inj e] at d
  exact absurd (show Data.seq us.toArray _ = Data.dict es ep from d) fun y => by cases y
end
theorem law_callG {P : Program} {w : World} {K : PySem.W.Frag} {mg mb : Str → Option Value} {k : Nat} {fa a : Addr} {fd : FuncData} {x : Str} {s : Shared} {us : List Value} {ns : List Int} (hK : K.In s.heap) (g : s.heap.Ns mainGlobals mg)
    (b : s.heap.Ns builtinsNs mb) (bb : ∀ y : Str, y ≠ "__name__" → mb y = bootBuiltins y) (nl : s.heap.NoLimit) (ng : s.gens = #[]) (ha : s.heap.get? a = some { cls := .type "list", data := .seq us.toArray }) (hi : IntsAre us ns) (hl : ns.length ≤ sizeLine)
    (hr : Room k callerA) (F : ∀ base : Heap, K.In base → base.Ns mainGlobals mg → FnG P w K mg base CX0 k fa fd [x] (spLaw K)) (bd : ∀ (s : Shared) (u : Value), BindsTo s fd ⟨[u], []⟩ [(x, u)]) :
    codeAny (model P w) callerA (.call (.ref fa) ⟨[.ref a], []⟩) (fun r s2 => r = .ok (.ret (.bool true)) ∧ OldK s.heap s2.heap ∧ s2.os = s.os ∧ AllBare s2.gens) s := by
  have rv := vals_ints hi
  have lu := rv.length
  rw [List.length_map] at lu
  have S : SqL K (Lone K { cls := .type "list", data := .seq us.toArray } a (ns.map V.int)) a (ns.map V.int) := Lone.seq (fun q e => by rw [hK a q e] at ha; exact Option.some.inj ha) rv (by omega)
  have kb := Lone.kin (o := { cls := .type "list", data := .seq us.toArray }) (a := a) (xs := ns.map V.int) hK
  have gb := Lone.ns (K := K) (o := { cls := .type "list", data := .seq us.toArray }) (xs := ns.map V.int) ha g
  have bdb := Lone.ns (K := K) (o := { cls := .type "list", data := .seq us.toArray }) (xs := ns.map V.int) ha b
  have hok : HOk P w (Lone K { cls := .type "list", data := .seq us.toArray } a (ns.map V.int)) s.heap := fun c u e => by
    obtain ⟨rfl, _, rfl⟩ := Lone.some_of e
    exact ⟨ha, by rw [List.length_map]; exact hl, us, _, rv, ha⟩
  have nb : (hidT s.heap (Lone K { cls := .type "list", data := .seq us.toArray } a (ns.map V.int))).NoLimit := by
    obtain ⟨mc, h1, h2⟩ := nl
    exact ⟨mc, Lone.ns ha h1, h2⟩
  have fz : ∀ c u, Lone K { cls := .type "list", data := .seq us.toArray } a (ns.map V.int) c = some u → ∃ q ys, u = .frz q (.lst ys) := fun c u e => ⟨_, _, (Lone.some_of e).2.2⟩
  generalize Lone K { cls := .type "list", data := .seq us.toArray } a (ns.map V.int) = H at S kb gb bdb hok nb fz
  have nofr : ∀ c : Addr, c ∉ frs [] := fun c h => by simp [frs] at h
  have e0 : Env0 P w K mg (hidT s.heap H) callerA [] s H :=
    { frames := rfl
      mod := ⟨kb, gb, ⟨mb, bdb, bb⟩, nb⟩
      bs := fun c q e => of_hidT e
      bsz := by rw [hidT_size]; exact Nat.le_refl _
      funs := trivial
      frf := fun c h => absurd h (nofr c)
      hok := hok
      bare := .of_eq ng }
  have R := (F _ kb gb).go callerA [] s H ⟨[.ref a], []⟩ [.ref a] [.ref a] (fun v _ => v = .bl true) (fun _ _ _ => False) rfl hr e0 (bd s _) (.cons rfl .nil) ⟨a, ns, rfl, S, fun _ => rfl⟩
  refine codeAny_mono R fun out s2 h => ?_
  match out, h with
  | .ok (.ret ret), h =>
    obtain ⟨v, H2, h1, h2, h3, h4, h5, h6⟩ := h
    rw [show v = V.bl true from h6] at h5
    rw [show ret = Value.bool true from h5]
    refine ⟨rfl, .of_keep fun c q e => ?_, h1, h2⟩
    cases t : H c with
    | none => exact h3.keep c q e t (nofr c) List.not_mem_nil
    | some u =>
      obtain ⟨q1, ys, rfl⟩ := fz c u t
      have y1 := (hok c _ t).1
      have y2 := (h4 c _ (h3.frzs c q1 _ t)).1
      rw [Option.some.inj (e.symm.trans y1)]
      exact y2
end K30

/-! K30: all defs of the text as they stand behind the top, and the statement. -/
namespace K30
open PySem PySem.Spec PyProof.Rows L2

theorem FnG.mono {P : Program} {w : World} {K : PySem.W.Frag} {mg : Str → Option Value} {base : Heap} {CX : CXT} {i k : Nat} {f : Addr} {fd : FuncData} {ps : List Str} {sp : Sp} (F : FnG P w K mg base CX i f fd ps sp) (h : i ≤ k) : FnG P w K mg base CX k f fd ps sp :=
  ⟨F.len, fun A outer s H args us vs Q E gd r => F.go A outer s H args us vs Q E gd (r.mono h)⟩
theorem walk_G {l : PySem.W.OpenLaw} {n k : Nat} {q : Program} {loose : List Str} {XP : (Str → Option Value) → Heap → Prop} {YP : World → Heap → Prop} {d : DefRec} {K : Params → PySem.W.Frag} {x : Str} (most : l.most = some n) (line : n ≤ sizeLine)
    (plain : d.params.defaults = []) (room : Room k callerA) (inK : ∀ (w : World) (h : Heap), YP w h → (K w.params).In h)
    (text : ∀ (w : World) (mg : Str → Option Value) (fa : Addr) (h : Heap), (K w.params).In h → h.Ns mainGlobals mg → mg d.name = some (.ref fa) → ∃ fd : FuncData, (∀ (s : Shared) (u : Value), BindsTo s fd ⟨[u], []⟩ [(x, u)]) ∧
      ∀ base : Heap, (K w.params).In base → base.Ns mainGlobals mg → FnG l.prog w (K w.params) mg base CX0 k fa fd [x] (spLaw (K w.params))) :
    PySem.W.WalkO q loose XP YP l.row.toRowW d [] (fun f vs => PySem.call f vs) := Att.attach_call most plain fun w _ s mg mb fa _ _ _ _ a us ns G Y _ _ _ at_law at_list numbers many none_runs => by
  obtain ⟨fd, bd, F⟩ := text w mg fa _ (inK w _ Y) G.T.g at_law
  exact law_callG (inK w _ Y) G.T.g G.T.b G.T.builtins G.T.nolimit none_runs at_list numbers (Nat.le_trans many line) room F bd
theorem text_all {P : Program} {w : World} {K : PySem.W.Frag} {h : Heap} {mg : Str → Option Value} {fa : Addr} (X : K.In h) (G : h.Ns mainGlobals mg) (at_law : mg "law" = some (.ref fa))
    {f5 : Addr} {od5 an5 : Option Addr} {sl5 : Array (Option Value)} {oc5 kV5 dc5 pm5 cd5 ct5 : Value}
    (a5 : PySem.W.nsIn K mainGlobals "is_whole" = some (some (.ref f5))) (l5 : K.lookup f5 = some ⟨oc5, od5, .func (PySem.W.fnOf "is_whole" "is_whole" (defArgs sWhole) (defBody sWhole) (defScope sWhole) .none kV5 dc5 pm5 an5 cd5 ct5), sl5⟩)
    (c5 : PySem.W.codeIn K cd5 "is_whole" = true) (k5 : PySem.W.keepIn K (.ref f5) = true)
    {f6 : Addr} {od6 an6 : Option Addr} {sl6 : Array (Option Value)} {oc6 kV6 dc6 pm6 cd6 ct6 : Value}
    (a6 : PySem.W.nsIn K mainGlobals "is_between" = some (some (.ref f6))) (l6 : K.lookup f6 = some ⟨oc6, od6, .func (PySem.W.fnOf "is_between" "is_between" (defArgs sBetween) (defBody sBetween) (defScope sBetween) .none kV6 dc6 pm6 an6 cd6 ct6), sl6⟩)
    (c6 : PySem.W.codeIn K cd6 "is_between" = true) (k6 : PySem.W.keepIn K (.ref f6) = true)
    {f8 : Addr} {od8 an8 : Option Addr} {sl8 : Array (Option Value)} {oc8 kV8 dc8 pm8 cd8 ct8 : Value}
    (a8 : PySem.W.nsIn K mainGlobals "prefixes_by" = some (some (.ref f8))) (l8 : K.lookup f8 = some ⟨oc8, od8, .func (PySem.W.fnOf "prefixes_by" "prefixes_by" (defArgs sPrefBy) (defBody sPrefBy) (defScope sPrefBy) .none kV8 dc8 pm8 an8 cd8 ct8), sl8⟩)
    (c8 : PySem.W.codeIn K cd8 "prefixes_by" = true) (k8 : PySem.W.keepIn K (.ref f8) = true)
    {f9 : Addr} {od9 an9 : Option Addr} {sl9 : Array (Option Value)} {oc9 kV9 dc9 pm9 cd9 ct9 : Value}
    (a9 : PySem.W.nsIn K mainGlobals "is_parted" = some (some (.ref f9))) (l9 : K.lookup f9 = some ⟨oc9, od9, .func (PySem.W.fnOf "is_parted" "is_parted" (defArgs sParted) (defBody sParted) (defScope sParted) .none kV9 dc9 pm9 an9 cd9 ct9), sl9⟩)
    (c9 : PySem.W.codeIn K cd9 "is_parted" = true) (k9 : PySem.W.keepIn K (.ref f9) = true)
    {f10 : Addr} {od10 an10 : Option Addr} {sl10 : Array (Option Value)} {oc10 kV10 dc10 pm10 cd10 ct10 : Value}
    (a10 : PySem.W.nsIn K mainGlobals "are_marks_by" = some (some (.ref f10))) (l10 : K.lookup f10 = some ⟨oc10, od10, .func (PySem.W.fnOf "are_marks_by" "are_marks_by" (defArgs sMarksBy) (defBody sMarksBy) (defScope sMarksBy) .none kV10 dc10 pm10 an10 cd10 ct10), sl10⟩)
    (c10 : PySem.W.codeIn K cd10 "are_marks_by" = true) (k10 : PySem.W.keepIn K (.ref f10) = true)
    {f13 : Addr} {od13 an13 : Option Addr} {sl13 : Array (Option Value)} {oc13 kV13 dc13 pm13 cd13 ct13 : Value}
    (a13 : PySem.W.nsIn K mainGlobals "check_range" = some (some (.ref f13))) (l13 : K.lookup f13 = some ⟨oc13, od13, .func (PySem.W.fnOf "check_range" "check_range" (defArgs sCheck) (defBody sCheck) (defScope sCheck) .none kV13 dc13 pm13 an13 cd13 ct13), sl13⟩)
    (c13 : PySem.W.codeIn K cd13 "check_range" = true) (k13 : PySem.W.keepIn K (.ref f13) = true)
    {f14 : Addr} {od14 an14 : Option Addr} {sl14 : Array (Option Value)} {oc14 kV14 dc14 pm14 cd14 ct14 : Value}
    (a14 : PySem.W.nsIn K mainGlobals "prefixes_of" = some (some (.ref f14))) (l14 : K.lookup f14 = some ⟨oc14, od14, .func (PySem.W.fnOf "prefixes_of" "prefixes_of" (defArgs sPrefOf) (defBody sPrefOf) (defScope sPrefOf) .none kV14 dc14 pm14 an14 cd14 ct14), sl14⟩)
    (c14 : PySem.W.codeIn K cd14 "prefixes_of" = true) (k14 : PySem.W.keepIn K (.ref f14) = true)
    {f15 : Addr} {od15 an15 : Option Addr} {sl15 : Array (Option Value)} {oc15 kV15 dc15 pm15 cd15 ct15 : Value}
    (a15 : PySem.W.nsIn K mainGlobals "are_marks" = some (some (.ref f15))) (l15 : K.lookup f15 = some ⟨oc15, od15, .func (PySem.W.fnOf "are_marks" "are_marks" (defArgs sMarks) (defBody sMarks) (defScope sMarks) .none kV15 dc15 pm15 an15 cd15 ct15), sl15⟩)
    (c15 : PySem.W.codeIn K cd15 "are_marks" = true) (k15 : PySem.W.keepIn K (.ref f15) = true)
    {f17 : Addr} {od17 an17 : Option Addr} {sl17 : Array (Option Value)} {oc17 kV17 dc17 pm17 cd17 ct17 : Value}
    (a17 : PySem.W.nsIn K mainGlobals "_law_jar" = some (some (.ref f17))) (l17 : K.lookup f17 = some ⟨oc17, od17, .func (PySem.W.fnOf "_law_jar" "_law_jar" (defArgs sJar) (defBody sJar) (defScope sJar) .none kV17 dc17 pm17 an17 cd17 ct17), sl17⟩)
    (c17 : PySem.W.codeIn K cd17 "_law_jar" = true) (k17 : PySem.W.keepIn K (.ref f17) = true)
    {f18 : Addr} {od18 an18 : Option Addr} {sl18 : Array (Option Value)} {oc18 kV18 dc18 pm18 cd18 ct18 : Value}
    (a18 : PySem.W.nsIn K mainGlobals "_law_draw" = some (some (.ref f18))) (l18 : K.lookup f18 = some ⟨oc18, od18, .func (PySem.W.fnOf "_law_draw" "_law_draw" (defArgs sDraw) (defBody sDraw) (defScope sDraw) .none kV18 dc18 pm18 an18 cd18 ct18), sl18⟩)
    (c18 : PySem.W.codeIn K cd18 "_law_draw" = true) (k18 : PySem.W.keepIn K (.ref f18) = true)
    {f19 : Addr} {od19 an19 : Option Addr} {sl19 : Array (Option Value)} {oc19 kV19 dc19 pm19 cd19 ct19 : Value}
    (a19 : PySem.W.nsIn K mainGlobals "_law_of" = some (some (.ref f19))) (l19 : K.lookup f19 = some ⟨oc19, od19, .func (PySem.W.fnOf "_law_of" "_law_of" (defArgs sOf) (defBody sOf) (defScope sOf) .none kV19 dc19 pm19 an19 cd19 ct19), sl19⟩)
    (c19 : PySem.W.codeIn K cd19 "_law_of" = true) (k19 : PySem.W.keepIn K (.ref f19) = true)
    {f20 : Addr} {od20 an20 : Option Addr} {sl20 : Array (Option Value)} {oc20 kV20 dc20 pm20 cd20 ct20 : Value}
    (a20 : PySem.W.nsIn K mainGlobals "_law_same" = some (some (.ref f20))) (l20 : K.lookup f20 = some ⟨oc20, od20, .func (PySem.W.fnOf "_law_same" "_law_same" (defArgs sSame) (defBody sSame) (defScope sSame) .none kV20 dc20 pm20 an20 cd20 ct20), sl20⟩)
    (c20 : PySem.W.codeIn K cd20 "_law_same" = true) (k20 : PySem.W.keepIn K (.ref f20) = true)
    {f21 : Addr} {od21 an21 : Option Addr} {sl21 : Array (Option Value)} {oc21 kV21 dc21 pm21 cd21 ct21 : Value}
    (a21 : PySem.W.nsIn K mainGlobals "_law_is_whole" = some (some (.ref f21))) (l21 : K.lookup f21 = some ⟨oc21, od21, .func (PySem.W.fnOf "_law_is_whole" "_law_is_whole" (defArgs sLWhole) (defBody sLWhole) (defScope sLWhole) .none kV21 dc21 pm21 an21 cd21 ct21), sl21⟩)
    (c21 : PySem.W.codeIn K cd21 "_law_is_whole" = true) (k21 : PySem.W.keepIn K (.ref f21) = true)
    {f22 : Addr} {od22 an22 : Option Addr} {sl22 : Array (Option Value)} {oc22 kV22 dc22 pm22 cd22 ct22 : Value}
    (a22 : PySem.W.nsIn K mainGlobals "_law_top" = some (some (.ref f22))) (l22 : K.lookup f22 = some ⟨oc22, od22, .func (PySem.W.fnOf "_law_top" "_law_top" (defArgs sTop) (defBody sTop) (defScope sTop) .none kV22 dc22 pm22 an22 cd22 ct22), sl22⟩)
    (c22 : PySem.W.codeIn K cd22 "_law_top" = true) (k22 : PySem.W.keepIn K (.ref f22) = true)
    {f23 : Addr} {od23 an23 : Option Addr} {sl23 : Array (Option Value)} {oc23 kV23 dc23 pm23 cd23 ct23 : Value}
    (a23 : PySem.W.nsIn K mainGlobals "_law_odd" = some (some (.ref f23))) (l23 : K.lookup f23 = some ⟨oc23, od23, .func (PySem.W.fnOf "_law_odd" "_law_odd" (defArgs sOdd) (defBody sOdd) (defScope sOdd) .none kV23 dc23 pm23 an23 cd23 ct23), sl23⟩)
    (c23 : PySem.W.codeIn K cd23 "_law_odd" = true) (k23 : PySem.W.keepIn K (.ref f23) = true)
    {f24 : Addr} {od24 an24 : Option Addr} {sl24 : Array (Option Value)} {oc24 kV24 dc24 pm24 cd24 ct24 : Value}
    (a24 : PySem.W.nsIn K mainGlobals "_law_bent" = some (some (.ref f24))) (l24 : K.lookup f24 = some ⟨oc24, od24, .func (PySem.W.fnOf "_law_bent" "_law_bent" (defArgs sBent) (defBody sBent) (defScope sBent) .none kV24 dc24 pm24 an24 cd24 ct24), sl24⟩)
    (c24 : PySem.W.codeIn K cd24 "_law_bent" = true) (k24 : PySem.W.keepIn K (.ref f24) = true)
    {f25 : Addr} {od25 an25 : Option Addr} {sl25 : Array (Option Value)} {oc25 kV25 dc25 pm25 cd25 ct25 : Value}
    (a25 : PySem.W.nsIn K mainGlobals "_law_range" = some (some (.ref f25))) (l25 : K.lookup f25 = some ⟨oc25, od25, .func (PySem.W.fnOf "_law_range" "_law_range" (defArgs sRange) (defBody sRange) (defScope sRange) .none kV25 dc25 pm25 an25 cd25 ct25), sl25⟩)
    (c25 : PySem.W.codeIn K cd25 "_law_range" = true) (k25 : PySem.W.keepIn K (.ref f25) = true)
    {f26 : Addr} {od26 an26 : Option Addr} {sl26 : Array (Option Value)} {oc26 kV26 dc26 pm26 cd26 ct26 : Value}
    (a26 : PySem.W.nsIn K mainGlobals "_law_blocks" = some (some (.ref f26))) (l26 : K.lookup f26 = some ⟨oc26, od26, .func (PySem.W.fnOf "_law_blocks" "_law_blocks" (defArgs sBlocks) (defBody sBlocks) (defScope sBlocks) .none kV26 dc26 pm26 an26 cd26 ct26), sl26⟩)
    (c26 : PySem.W.codeIn K cd26 "_law_blocks" = true) (k26 : PySem.W.keepIn K (.ref f26) = true)
    {f27 : Addr} {od27 an27 : Option Addr} {sl27 : Array (Option Value)} {oc27 kV27 dc27 pm27 cd27 ct27 : Value}
    (a27 : PySem.W.nsIn K mainGlobals "_law_fewest" = some (some (.ref f27))) (l27 : K.lookup f27 = some ⟨oc27, od27, .func (PySem.W.fnOf "_law_fewest" "_law_fewest" (defArgs sFewest) (defBody sFewest) (defScope sFewest) .none kV27 dc27 pm27 an27 cd27 ct27), sl27⟩)
    (c27 : PySem.W.codeIn K cd27 "_law_fewest" = true) (k27 : PySem.W.keepIn K (.ref f27) = true)
    {f28 : Addr} {od28 an28 : Option Addr} {sl28 : Array (Option Value)} {oc28 kV28 dc28 pm28 cd28 ct28 : Value}
    (a28 : PySem.W.nsIn K mainGlobals "_law_are_marks" = some (some (.ref f28))) (l28 : K.lookup f28 = some ⟨oc28, od28, .func (PySem.W.fnOf "_law_are_marks" "_law_are_marks" (defArgs sLMarks) (defBody sLMarks) (defScope sLMarks) .none kV28 dc28 pm28 an28 cd28 ct28), sl28⟩)
    (c28 : PySem.W.codeIn K cd28 "_law_are_marks" = true) (k28 : PySem.W.keepIn K (.ref f28) = true)
    {f29 : Addr} {od29 an29 : Option Addr} {sl29 : Array (Option Value)} {oc29 kV29 dc29 pm29 cd29 ct29 : Value}
    (a29 : PySem.W.nsIn K mainGlobals "_law_things" = some (some (.ref f29))) (l29 : K.lookup f29 = some ⟨oc29, od29, .func (PySem.W.fnOf "_law_things" "_law_things" (defArgs sThings) (defBody sThings) (defScope sThings) .none kV29 dc29 pm29 an29 cd29 ct29), sl29⟩)
    (c29 : PySem.W.codeIn K cd29 "_law_things" = true) (k29 : PySem.W.keepIn K (.ref f29) = true)
    {f30 : Addr} {od30 an30 : Option Addr} {sl30 : Array (Option Value)} {oc30 kV30 dc30 pm30 cd30 ct30 : Value}
    (a30 : PySem.W.nsIn K mainGlobals "_law_are_right" = some (some (.ref f30))) (l30 : K.lookup f30 = some ⟨oc30, od30, .func (PySem.W.fnOf "_law_are_right" "_law_are_right" (defArgs sAreRight) (defBody sAreRight) (defScope sAreRight) .none kV30 dc30 pm30 an30 cd30 ct30), sl30⟩)
    (c30 : PySem.W.codeIn K cd30 "_law_are_right" = true) (k30 : PySem.W.keepIn K (.ref f30) = true)
    {f31 : Addr} {od31 an31 : Option Addr} {sl31 : Array (Option Value)} {oc31 kV31 dc31 pm31 cd31 ct31 : Value}
    (a31 : PySem.W.nsIn K mainGlobals "_law_right" = some (some (.ref f31))) (l31 : K.lookup f31 = some ⟨oc31, od31, .func (PySem.W.fnOf "_law_right" "_law_right" (defArgs sRight) (defBody sRight) (defScope sRight) .none kV31 dc31 pm31 an31 cd31 ct31), sl31⟩)
    (c31 : PySem.W.codeIn K cd31 "_law_right" = true) (k31 : PySem.W.keepIn K (.ref f31) = true)
    {f32 : Addr} {od32 an32 : Option Addr} {sl32 : Array (Option Value)} {oc32 kV32 dc32 pm32 cd32 ct32 : Value}
    (a32 : PySem.W.nsIn K mainGlobals "law" = some (some (.ref f32))) (l32 : K.lookup f32 = some ⟨oc32, od32, .func (PySem.W.fnOf "law" "law" (defArgs sLaw) (defBody sLaw) (defScope sLaw) .none kV32 dc32 pm32 an32 cd32 ct32), sl32⟩)
    (c32 : PySem.W.codeIn K cd32 "law" = true) (k32 : PySem.W.keepIn K (.ref f32) = true)
    {t12 : Tok} (a12 : PySem.W.nsIn K mainGlobals "MOST_WIDTH" = some (some (.int 32 t12)))
    (z_isi : PySem.W.nsIn K mainGlobals "isinstance" = some none)
    (z_int : PySem.W.nsIn K mainGlobals "int" = some none)
    (z_bool : PySem.W.nsIn K mainGlobals "bool" = some none)
    (z_tuple : PySem.W.nsIn K mainGlobals "tuple" = some none)
    (z_all : PySem.W.nsIn K mainGlobals "all" = some none)
    (z_zip : PySem.W.nsIn K mainGlobals "zip" = some none)
    (z_len : PySem.W.nsIn K mainGlobals "len" = some none)
    (z_abs : PySem.W.nsIn K mainGlobals "abs" = some none)
    (z_divmod : PySem.W.nsIn K mainGlobals "divmod" = some none)
    (z_repr : PySem.W.nsIn K mainGlobals "repr" = some none)
    (z_range : PySem.W.nsIn K mainGlobals "range" = some none)
    (z_list : PySem.W.nsIn K mainGlobals "list" = some none)
    (z_min : PySem.W.nsIn K mainGlobals "min" = some none)
    (z_max : PySem.W.nsIn K mainGlobals "max" = some none)
    (z_sorted : PySem.W.nsIn K mainGlobals "sorted" = some none)
    (z_set : PySem.W.nsIn K mainGlobals "set" = some none)
    : ∃ fd : FuncData, (∀ (s : Shared) (u : Value), BindsTo s fd ⟨[u], []⟩ [("_law_script", u)]) ∧ ∀ base : Heap, K.In base → base.Ns mainGlobals mg → FnG P w K mg base CX0 9 fa fd ["_law_script"] (spLaw K) := by
  have B : Bt mg := ⟨PySem.W.mg_none_of X G z_isi, PySem.W.mg_none_of X G z_int, PySem.W.mg_none_of X G z_bool, PySem.W.mg_none_of X G z_tuple, PySem.W.mg_none_of X G z_all, PySem.W.mg_none_of X G z_zip, PySem.W.mg_none_of X G z_len, PySem.W.mg_none_of X G z_abs, PySem.W.mg_none_of X G z_divmod, PySem.W.mg_none_of X G z_repr, PySem.W.mg_none_of X G z_range, PySem.W.mg_none_of X G z_list, PySem.W.mg_none_of X G z_min, PySem.W.mg_none_of X G z_max, PySem.W.mg_none_of X G z_sorted, PySem.W.mg_none_of X G z_set⟩
  have most := PySem.W.mg_of X G a12
  cases at_law.symm.trans (PySem.W.mg_of X G a32)
  have F5 := fun_mk (st := sWhole) l5 c5 k5
  have g5 := PySem.W.mg_of X G a5
  have b5 := F5.binds (ps := ["value"]) fun _ _ _ _ _ _ us hl => match us, hl with | [_], _ => rfl
  have F6 := fun_mk (st := sBetween) l6 c6 k6
  have g6 := PySem.W.mg_of X G a6
  have b6 := F6.binds (ps := ["value", "low", "high"]) fun _ _ _ _ _ _ us hl => match us, hl with | [_, _, _], _ => rfl
  have F8 := fun_mk (st := sPrefBy) l8 c8 k8
  have g8 := PySem.W.mg_of X G a8
  have b8 := F8.binds (ps := ["width", "low", "high"]) fun _ _ _ _ _ _ us hl => match us, hl with | [_, _, _], _ => rfl
  have F9 := fun_mk (st := sParted) l9 c9 k9
  have g9 := PySem.W.mg_of X G a9
  have b9 := F9.binds (ps := ["one", "two", "low", "high"]) fun _ _ _ _ _ _ us hl => match us, hl with | [_, _, _, _], _ => rfl
  have F10 := fun_mk (st := sMarksBy) l10 c10 k10
  have g10 := PySem.W.mg_of X G a10
  have b10 := F10.binds (ps := ["low", "high", "value"]) fun _ _ _ _ _ _ us hl => match us, hl with | [_, _, _], _ => rfl
  have F13 := fun_mk (st := sCheck) l13 c13 k13
  have g13 := PySem.W.mg_of X G a13
  have b13 := F13.binds (ps := ["width", "low", "high"]) fun _ _ _ _ _ _ us hl => match us, hl with | [_, _, _], _ => rfl
  have F14 := fun_mk (st := sPrefOf) l14 c14 k14
  have g14 := PySem.W.mg_of X G a14
  have b14 := F14.binds (ps := ["width", "low", "high"]) fun _ _ _ _ _ _ us hl => match us, hl with | [_, _, _], _ => rfl
  have F15 := fun_mk (st := sMarks) l15 c15 k15
  have g15 := PySem.W.mg_of X G a15
  have b15 := F15.binds (ps := ["width", "low", "high", "value"]) fun _ _ _ _ _ _ us hl => match us, hl with | [_, _, _, _], _ => rfl
  have F17 := fun_mk (st := sJar) l17 c17 k17
  have g17 := PySem.W.mg_of X G a17
  have b17 := F17.binds (ps := ["_law_script", "_law_turn"]) fun _ _ _ _ _ _ us hl => match us, hl with | [_, _], _ => rfl
  have F18 := fun_mk (st := sDraw) l18 c18 k18
  have g18 := PySem.W.mg_of X G a18
  have b18 := F18.binds (ps := ["_law_jar_here", "_law_many"]) fun _ _ _ _ _ _ us hl => match us, hl with | [_, _], _ => rfl
  have F19 := fun_mk (st := sOf) l19 c19 k19
  have g19 := PySem.W.mg_of X G a19
  have b19 := F19.binds (ps := ["_law_jar_here", "_law_some"]) fun _ _ _ _ _ _ us hl => match us, hl with | [_, _], _ => rfl
  have F20 := fun_mk (st := sSame) l20 c20 k20
  have g20 := PySem.W.mg_of X G a20
  have b20 := F20.binds (ps := ["_law_told", "_law_due"]) fun _ _ _ _ _ _ us hl => match us, hl with | [_, _], _ => rfl
  have F21 := fun_mk (st := sLWhole) l21 c21 k21
  have g21 := PySem.W.mg_of X G a21
  have b21 := F21.binds (ps := ["_law_thing", "_law_low", "_law_high"]) fun _ _ _ _ _ _ us hl => match us, hl with | [_, _, _], _ => rfl
  have F22 := fun_mk (st := sTop) l22 c22 k22
  have g22 := PySem.W.mg_of X G a22
  have b22 := F22.binds (ps := ["_law_width"]) fun _ _ _ _ _ _ us hl => match us, hl with | [_], _ => rfl
  have F23 := fun_mk (st := sOdd) l23 c23 k23
  have g23 := PySem.W.mg_of X G a23
  have b23 := F23.binds (ps := ["_law_jar_here"]) fun _ _ _ _ _ _ us hl => match us, hl with | [_], _ => rfl
  have F24 := fun_mk (st := sBent) l24 c24 k24
  have g24 := PySem.W.mg_of X G a24
  have b24 := F24.binds (ps := ["_law_jar_here", "_law_thing", "_law_deep"]) fun _ _ _ _ _ _ us hl => match us, hl with | [_, _, _], _ => rfl
  have F25 := fun_mk (st := sRange) l25 c25 k25
  have g25 := PySem.W.mg_of X G a25
  have b25 := F25.binds (ps := ["_law_jar_here", "_law_width"]) fun _ _ _ _ _ _ us hl => match us, hl with | [_, _], _ => rfl
  have F26 := fun_mk (st := sBlocks) l26 c26 k26
  have g26 := PySem.W.mg_of X G a26
  have b26 := F26.binds (ps := ["_law_width", "_law_low", "_law_high"]) fun _ _ _ _ _ _ us hl => match us, hl with | [_, _, _], _ => rfl
  have F27 := fun_mk (st := sFewest) l27 c27 k27
  have g27 := PySem.W.mg_of X G a27
  have b27 := F27.binds (ps := ["_law_width", "_law_low", "_law_high"]) fun _ _ _ _ _ _ us hl => match us, hl with | [_, _, _], _ => rfl
  have F28 := fun_mk (st := sLMarks) l28 c28 k28
  have g28 := PySem.W.mg_of X G a28
  have b28 := F28.binds (ps := ["_law_width", "_law_low", "_law_high", "_law_thing"]) fun _ _ _ _ _ _ us hl => match us, hl with | [_, _, _, _], _ => rfl
  have F29 := fun_mk (st := sThings) l29 c29 k29
  have g29 := PySem.W.mg_of X G a29
  have b29 := F29.binds (ps := ["_law_jar_here", "_law_width", "_law_low", "_law_high"]) fun _ _ _ _ _ _ us hl => match us, hl with | [_, _, _, _], _ => rfl
  have F30 := fun_mk (st := sAreRight) l30 c30 k30
  have g30 := PySem.W.mg_of X G a30
  have b30 := F30.binds (ps := ["_law_jar_here", "_law_width", "_law_low", "_law_high"]) fun _ _ _ _ _ _ us hl => match us, hl with | [_, _, _, _], _ => rfl
  have F31 := fun_mk (st := sRight) l31 c31 k31
  have g31 := PySem.W.mg_of X G a31
  have b31 := F31.binds (ps := ["_law_jar_here"]) fun _ _ _ _ _ _ us hl => match us, hl with | [_], _ => rfl
  have F32 := fun_mk (st := sLaw) l32 c32 k32
  have w14 : KwRev _ ["width", "low", "high"] := fun s ws hl => match ws, hl with | [_, _, _], _ => .of_eq (fd := PySem.W.fnOf "prefixes_of" "prefixes_of" (defArgs sPrefOf) (defBody sPrefOf) (defScope sPrefOf) .none kV14 dc14 pm14 an14 cd14 ct14) rfl
  have w15 : KwRev _ ["width", "low", "high", "value"] := fun s ws hl => match ws, hl with | [_, _, _, _], _ => .of_eq (fd := PySem.W.fnOf "are_marks" "are_marks" (defArgs sMarks) (defBody sMarks) (defScope sMarks) .none kV15 dc15 pm15 an15 cd15 ct15) rfl
  refine ⟨_, fun s u => .of_eq (fd := PySem.W.fnOf "law" "law" (defArgs sLaw) (defBody sLaw) (defScope sLaw) .none kV32 dc32 pm32 an32 cd32 ct32) rfl, fun base _ _ => ?_⟩
  have G5 := ok_whole (k := 0) (P := P) (w := w) (mg := mg) (base := base) F5 B
  have G6 := ok_between (k := 0) (P := P) (w := w) (mg := mg) (base := base) F6 F5 b5 g5 B
  have G8 := ok_prefBy (k := 0) (P := P) (w := w) (mg := mg) (base := base) F8 B
  have G9 := ok_parted (k := 0) (P := P) (w := w) (mg := mg) (base := base) F9
  have G10 := ok_marksBy (k := 1) (P := P) (w := w) (mg := mg) (base := base) F10 (G6.mono (show _ ≤ 2 by decide)) F6.kp b6 g6 (G9.mono (show _ ≤ 2 by decide)) F9.kp b9 g9 B
  have G13 := ok_check (k := 1) (P := P) (w := w) (mg := mg) (base := base) F13 (G6.mono (show _ ≤ 2 by decide)) F6.kp b6 g6 most
  have G14 := ok_prefOf (k := 2) (P := P) (w := w) (mg := mg) (base := base) F14 (G13.mono (show _ ≤ 3 by decide)) F13.kp b13 g13 (G8.mono (show _ ≤ 3 by decide)) F8.kp b8 g8
  have G15 := ok_marks (k := 2) (P := P) (w := w) (mg := mg) (base := base) F15 (G13.mono (show _ ≤ 3 by decide)) F13.kp b13 g13 (G10.mono (show _ ≤ 3 by decide)) F10.kp b10 g10
  have G17 := ok_jar (k := 0) (P := P) (w := w) (mg := mg) (base := base) F17 B
  have G18 := ok_draw (k := 0) (P := P) (w := w) (mg := mg) (base := base) F18 B
  have G19 := ok_of (k := 0) (P := P) (w := w) (mg := mg) (base := base) F19 (G18.mono (show _ ≤ 1 by decide)) F18.kp b18 g18 B
  have G20 := ok_same (k := 0) (P := P) (w := w) (mg := mg) (base := base) F20 B
  have G21 := ok_lwhole (k := 0) (P := P) (w := w) (mg := mg) (base := base) F21 B
  have G22 := ok_top (k := 0) (P := P) (w := w) (mg := mg) (base := base) F22 B
  have G23 := ok_odd (k := 0) (P := P) (w := w) (mg := mg) (base := base) F23 (G19.mono (show _ ≤ 2 by decide)) F19.kp b19 g19
  have G24z := ok_bent0 (k := 0) (P := P) (w := w) (mg := mg) (base := base) F24 (G18.mono (show _ ≤ 3 by decide)) F18.kp b18 g18 (G23.mono (show _ ≤ 3 by decide)) F23.kp b23 g23 B
  have G24 := ok_bent (k := 0) (P := P) (w := w) (mg := mg) (base := base) F24 (G18.mono (show _ ≤ 4 by decide)) F18.kp b18 g18 (G23.mono (show _ ≤ 4 by decide)) F23.kp b23 g23 G24z b24 g24 B
  have G25 := ok_range (k := 0) (P := P) (w := w) (mg := mg) (base := base) F25 (G18.mono (show _ ≤ 2 by decide)) F18.kp b18 g18 (G19.mono (show _ ≤ 2 by decide)) F19.kp b19 g19 (G22.mono (show _ ≤ 2 by decide)) F22.kp b22 g22 B
  have G26 := ok_blocks (k := 0) (P := P) (w := w) (mg := mg) (base := base) F26 B
  have G27 := ok_fewest (k := 0) (P := P) (w := w) (mg := mg) (base := base) F27 (G22.mono (show _ ≤ 1 by decide)) F22.kp b22 g22 B
  have G28 := ok_lmarks (k := 0) (P := P) (w := w) (mg := mg) (base := base) F28 (G21.mono (show _ ≤ 1 by decide)) F21.kp b21 g21 B
  have G29 := ok_things (k := 4) (P := P) (w := w) (mg := mg) (base := base) F29 (G26.mono (show _ ≤ 5 by decide)) F26.kp b26 g26 (G18.mono (show _ ≤ 5 by decide)) F18.kp b18 g18 (G22.mono (show _ ≤ 5 by decide)) F22.kp b22 g22 (G24.mono (show _ ≤ 5 by decide)) F24.kp b24 g24 (G23.mono (show _ ≤ 5 by decide)) F23.kp b23 g23 B
  have G30 := ok_areRight (k := 5) (P := P) (w := w) (mg := mg) (base := base) F30 (G26.mono (show _ ≤ 6 by decide)) F26.kp b26 g26 (G14.mono (show _ ≤ 6 by decide)) F14.kp b14 w14 g14 (G20.mono (show _ ≤ 6 by decide)) F20.kp b20 g20 (G29.mono (show _ ≤ 6 by decide)) F29.kp b29 g29 (G28.mono (show _ ≤ 6 by decide)) F28.kp b28 g28 (G15.mono (show _ ≤ 6 by decide)) F15.kp b15 w15 g15 B
  have G31 := ok_right (k := 6) (P := P) (w := w) (mg := mg) (base := base) F31 (G18.mono (show _ ≤ 7 by decide)) F18.kp b18 g18 (G25.mono (show _ ≤ 7 by decide)) F25.kp b25 g25 (G30.mono (show _ ≤ 7 by decide)) F30.kp b30 g30 (G14.mono (show _ ≤ 7 by decide)) F14.kp b14 g14 (G27.mono (show _ ≤ 7 by decide)) F27.kp b27 g27 B
  exact ok_law (k := 7) F32 (G17.mono (show _ ≤ 8 by decide)) F17.kp b17 g17 (G31.mono (show _ ≤ 8 by decide)) F31.kp b31 g31 B
end K30
open PySem PySem.W PyProof.Rows
set_option maxHeartbeats 0 in
theorem PySem.Challenge.cw_switchstages_k30_whole_fewest_prefixes_a_holds : PySem.Challenge.rw_switchstages_k30_whole_fewest_prefixes_a.Holds := by
  w_on; o_law; k_head; (case hw => w_witness2)
  k_fill
  refine K30.walk_G (l := PySem.Challenge.rw_switchstages_k30_whole_fewest_prefixes_a) (n := 63) (k := 9) (x := "_law_script") rfl (by decide) rfl ⟨rfl, by decide, by decide⟩ (fun w h Y => PySem.W.kIn_of Y) ?text
  case text =>
    intro w mg fa h KX G at_law
    refine' K30.text_all KX G at_law ?a5 ?l5 ?c5 ?k5 ?a6 ?l6 ?c6 ?k6 ?a8 ?l8 ?c8 ?k8 ?a9 ?l9 ?c9 ?k9 ?a10 ?l10 ?c10 ?k10 ?a13 ?l13 ?c13 ?k13 ?a14 ?l14 ?c14 ?k14 ?a15 ?l15 ?c15 ?k15 ?a17 ?l17 ?c17 ?k17 ?a18 ?l18 ?c18 ?k18 ?a19 ?l19 ?c19 ?k19 ?a20 ?l20 ?c20 ?k20 ?a21 ?l21 ?c21 ?k21 ?a22 ?l22 ?c22 ?k22 ?a23 ?l23 ?c23 ?k23 ?a24 ?l24 ?c24 ?k24 ?a25 ?l25 ?c25 ?k25 ?a26 ?l26 ?c26 ?k26 ?a27 ?l27 ?c27 ?k27 ?a28 ?l28 ?c28 ?k28 ?a29 ?l29 ?c29 ?k29 ?a30 ?l30 ?c30 ?k30 ?a31 ?l31 ?c31 ?k31 ?a32 ?l32 ?c32 ?k32 ?a12 ?z_isi ?z_int ?z_bool ?z_tuple ?z_all ?z_zip ?z_len ?z_abs ?z_divmod ?z_repr ?z_range ?z_list ?z_min ?z_max ?z_sorted ?z_set
    (case a5 => k_is); (case l5 => k_is); (case c5 => k_is); (case k5 => k_is); (case a6 => k_is); (case l6 => k_is); (case c6 => k_is); (case k6 => k_is)
    (case a8 => k_is); (case l8 => k_is); (case c8 => k_is); (case k8 => k_is); (case a9 => k_is); (case l9 => k_is); (case c9 => k_is); (case k9 => k_is)
    (case a10 => k_is); (case l10 => k_is); (case c10 => k_is); (case k10 => k_is); (case a13 => k_is); (case l13 => k_is); (case c13 => k_is); (case k13 => k_is)
    (case a14 => k_is); (case l14 => k_is); (case c14 => k_is); (case k14 => k_is); (case a15 => k_is); (case l15 => k_is); (case c15 => k_is); (case k15 => k_is)
    (case a17 => k_is); (case l17 => k_is); (case c17 => k_is); (case k17 => k_is); (case a18 => k_is); (case l18 => k_is); (case c18 => k_is); (case k18 => k_is)
    (case a19 => k_is); (case l19 => k_is); (case c19 => k_is); (case k19 => k_is); (case a20 => k_is); (case l20 => k_is); (case c20 => k_is); (case k20 => k_is)
    (case a21 => k_is); (case l21 => k_is); (case c21 => k_is); (case k21 => k_is); (case a22 => k_is); (case l22 => k_is); (case c22 => k_is); (case k22 => k_is)
    (case a23 => k_is); (case l23 => k_is); (case c23 => k_is); (case k23 => k_is); (case a24 => k_is); (case l24 => k_is); (case c24 => k_is); (case k24 => k_is)
    (case a25 => k_is); (case l25 => k_is); (case c25 => k_is); (case k25 => k_is); (case a26 => k_is); (case l26 => k_is); (case c26 => k_is); (case k26 => k_is)
    (case a27 => k_is); (case l27 => k_is); (case c27 => k_is); (case k27 => k_is); (case a28 => k_is); (case l28 => k_is); (case c28 => k_is); (case k28 => k_is)
    (case a29 => k_is); (case l29 => k_is); (case c29 => k_is); (case k29 => k_is); (case a30 => k_is); (case l30 => k_is); (case c30 => k_is); (case k30 => k_is)
    (case a31 => k_is); (case l31 => k_is); (case c31 => k_is); (case k31 => k_is); (case a32 => k_is); (case l32 => k_is); (case c32 => k_is); (case k32 => k_is)
    (case a12 => k_is); (case z_isi => k_is); (case z_int => k_is); (case z_bool => k_is); (case z_tuple => k_is); (case z_all => k_is); (case z_zip => k_is); (case z_len => k_is)
    (case z_abs => k_is); (case z_divmod => k_is); (case z_repr => k_is); (case z_range => k_is); (case z_list => k_is); (case z_min => k_is); (case z_max => k_is); (case z_sorted => k_is)
    (case z_set => k_is)
