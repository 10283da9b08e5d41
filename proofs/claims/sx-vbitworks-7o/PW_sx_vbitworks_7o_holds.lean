import PyProof.Rows.All
import Wide.All
import OpenK.AllK
import Wide.FinOn
import Lean
import PySem.Challenge.RW_sx_vbitworks_7o
set_option Elab.async false
set_option maxRecDepth 100000
set_option maxHeartbeats 8000000
section
set_option autoImplicit false
namespace Mine
open PySem

/-- the squares of a board, rising -/
def sqs (b : Nat) : List Nat := (List.range 64).filter (fun i => b.testBit i)
def up (l : List Nat) : List Int := l.map (fun i : Nat => (i : Int))

theorem sorted_ext : ∀ {l l' : List Int}, l.Pairwise (· < ·) → l'.Pairwise (· < ·) → (∀ x, x ∈ l ↔ x ∈ l') → l = l'
  | [], [], _, _, _ => rfl
  | [], y :: r, _, _, e => absurd ((e y).mpr (List.mem_cons_self)) (List.not_mem_nil)
  | x :: r, [], _, _, e => absurd ((e x).mp (List.mem_cons_self)) (List.not_mem_nil)
  | x :: r, y :: r', h, h', e => by
    have hx := List.pairwise_cons.mp h
    have hy := List.pairwise_cons.mp h'
    have exy : x = y := by
      rcases List.mem_cons.mp ((e x).mp List.mem_cons_self) with q | q
      · exact q
      · rcases List.mem_cons.mp ((e y).mpr List.mem_cons_self) with q' | q'
        · exact q'.symm
        · have h1 := hy.1 x q
          have h2 := hx.1 y q'
          omega
    subst exy
    congr 1
    refine sorted_ext hx.2 hy.2 fun z => ?_
    constructor
    · intro hz
      rcases List.mem_cons.mp ((e z).mp (List.mem_cons_of_mem _ hz)) with q | q
      · have := hx.1 z hz; omega
      · exact q
    · intro hz
      rcases List.mem_cons.mp ((e z).mpr (List.mem_cons_of_mem _ hz)) with q | q
      · have := hy.1 z hz; omega
      · exact q

theorem mem_sqs {b n : Nat} : n ∈ sqs b ↔ n < 64 ∧ b.testBit n = true := by
  simp [sqs]
theorem mem_up {l : List Nat} {x : Int} : x ∈ up l ↔ ∃ n ∈ l, (n : Int) = x := by
  simp [up]
theorem mem_up_sqs {b : Nat} {x : Int} : x ∈ up (sqs b) ↔ 0 ≤ x ∧ x < 64 ∧ b.testBit x.toNat = true := by
  rw [mem_up]
  constructor
  · rintro ⟨n, hn, rfl⟩
    have := mem_sqs.mp hn
    refine ⟨by omega, by omega, ?_⟩
    simpa using this.2
  · rintro ⟨h0, h1, h2⟩
    exact ⟨x.toNat, mem_sqs.mpr ⟨by omega, h2⟩, by omega⟩
theorem sqs_sorted (b : Nat) : (up (sqs b)).Pairwise (· < ·) := by
  unfold up sqs
  refine List.Pairwise.map _ (R := fun a b : Nat => a < b) ?_ (List.Pairwise.filter _ List.pairwise_lt_range)
  intro a b h
  omega

/-! the shift -/
def firstCol : Nat := 72340172838076673
def stay : Nat → Int → Nat
  | 0, _ => 0
  | k + 1, c => if 0 ≤ (k : Int) + c ∧ (k : Int) + c ≤ 7 then stay k c ||| (firstCol <<< k) else stay k c
def shiftN (b : Nat) (r c : Int) : Nat :=
  if 0 ≤ 8 * r + c then ((b &&& stay 8 c) <<< (8 * r + c).toNat) &&& (2 ^ 64 - 1) else (b &&& stay 8 c) >>> (-(8 * r + c)).toNat

theorem stay_bits0 : ∀ c' : Fin 15, ∀ s : Fin 72, (stay 8 ((c'.val : Int) - 7)).testBit s.val = decide (s.val < 64 ∧ 0 ≤ ((s.val % 8 : Nat) : Int) + ((c'.val : Int) - 7) ∧ ((s.val % 8 : Nat) : Int) + ((c'.val : Int) - 7) ≤ 7) := by
  decide +kernel
theorem stay_lt0 : ∀ c' : Fin 15, stay 8 ((c'.val : Int) - 7) < 2 ^ 64 := by decide +kernel
theorem stay_lt {c : Int} (h0 : -7 ≤ c) (h1 : c ≤ 7) : stay 8 c < 2 ^ 64 := by
  have h := stay_lt0 ⟨(c + 7).toNat, by omega⟩
  have e : ((c + 7).toNat : Int) - 7 = c := by omega
  simpa only [e] using h
theorem stay_bits {c : Int} (h0 : -7 ≤ c) (h1 : c ≤ 7) (s : Nat) : (stay 8 c).testBit s = decide (s < 64 ∧ 0 ≤ ((s % 8 : Nat) : Int) + c ∧ ((s % 8 : Nat) : Int) + c ≤ 7) := by
  by_cases hs : s < 64
  · have h := stay_bits0 ⟨(c + 7).toNat, by omega⟩ ⟨s, by omega⟩
    have e : ((c + 7).toNat : Int) - 7 = c := by omega
    simpa only [e] using h
  · rw [Nat.testBit_lt_two_pow (Nat.lt_of_lt_of_le (stay_lt h0 h1) (Nat.pow_le_pow_right (by decide) (by omega)))]
    simp [hs]

theorem shift_bits {b : Nat} {r c : Int} (hc0 : -7 ≤ c) (hc1 : c ≤ 7) (n : Nat) :
    (shiftN b r c).testBit n = true ↔ ∃ s : Nat, s < 64 ∧ b.testBit s = true ∧ 0 ≤ ((s % 8 : Nat) : Int) + c ∧ ((s % 8 : Nat) : Int) + c ≤ 7 ∧ (n : Int) = s + (8 * r + c) ∧ (0 ≤ 8 * r + c → n < 64) := by
  unfold shiftN
  by_cases hd : 0 ≤ 8 * r + c
  · rw [if_pos hd, Nat.testBit_and, Nat.testBit_two_pow_sub_one, Nat.testBit_shiftLeft, Nat.testBit_and, stay_bits hc0 hc1]
    simp only [Bool.and_eq_true, decide_eq_true_eq]
    constructor
    · rintro ⟨⟨h1, h2, h3, h4, h5⟩, h6⟩
      exact ⟨_, h3, h2, h4, h5, by omega, fun _ => h6⟩
    · rintro ⟨s, h1, h2, h3, h4, h5, h6⟩
      have e : n - (8 * r + c).toNat = s := by omega
      rw [e]
      exact ⟨⟨by omega, h2, h1, h3, h4⟩, h6 hd⟩
  · rw [if_neg hd, Nat.testBit_shiftRight, Nat.testBit_and, stay_bits hc0 hc1]
    simp only [Bool.and_eq_true, decide_eq_true_eq]
    constructor
    · rintro ⟨h2, h3, h4, h5⟩
      exact ⟨_, h3, h2, h4, h5, by omega, fun h => absurd h hd⟩
    · rintro ⟨s, h1, h2, h3, h4, h5, h6⟩
      have e : (-(8 * r + c)).toNat + n = s := by omega
      rw [e]
      exact ⟨h2, h1, h3, h4⟩
theorem shift_lt {b : Nat} {r c : Int} (hc0 : -7 ≤ c) (hc1 : c ≤ 7) : shiftN b r c < 2 ^ 64 := by
  refine Nat.lt_pow_two_of_testBit _ fun n hn => ?_
  cases h : (shiftN b r c).testBit n with
  | false => rfl
  | true =>
    obtain ⟨s, h1, h2, h3, h4, h5, h6⟩ := (shift_bits hc0 hc1 n).mp h
    by_cases hd : 0 ≤ 8 * r + c
    · have := h6 hd; omega
    · omega

def moveOne (r c s : Int) : Option Int := if 0 ≤ s / 8 + r ∧ s / 8 + r ≤ 7 ∧ 0 ≤ s % 8 + c ∧ s % 8 + c ≤ 7 then some (8 * (s / 8 + r) + (s % 8 + c)) else none
def movedL (r c : Int) (l : List Int) : List Int := l.filterMap (moveOne r c)
theorem moveOne_some {r c s x : Int} : moveOne r c s = some x ↔ (0 ≤ s / 8 + r ∧ s / 8 + r ≤ 7 ∧ 0 ≤ s % 8 + c ∧ s % 8 + c ≤ 7) ∧ x = s + (8 * r + c) := by
  unfold moveOne
  split
  · rename_i h
    constructor
    · intro e
      cases e
      exact ⟨h, by omega⟩
    · rintro ⟨_, rfl⟩
      congr 1
      omega
  · rename_i h
    constructor
    · intro e; cases e
    · intro e; exact absurd e.1 h
theorem moved_sqs {b : Nat} {r c : Int} (hc0 : -7 ≤ c) (hc1 : c ≤ 7) : movedL r c (up (sqs b)) = up (sqs (shiftN b r c)) := by
  refine sorted_ext ?_ (sqs_sorted _) fun x => ?_
  · refine List.Pairwise.filterMap _ ?_ (sqs_sorted b)
    intro a a' h x hx y hy
    have h1 := moveOne_some.mp hx
    have h2 := moveOne_some.mp hy
    omega
  · unfold movedL
    rw [List.mem_filterMap, mem_up_sqs]
    constructor
    · rintro ⟨s, hs, e⟩
      obtain ⟨h1, h2⟩ := moveOne_some.mp e
      obtain ⟨h3, h4, h5⟩ := mem_up_sqs.mp hs
      refine ⟨by omega, by omega, ?_⟩
      exact (shift_bits hc0 hc1 _).mpr ⟨s.toNat, by omega, h5, by omega, by omega, by omega, fun _ => by omega⟩
    · rintro ⟨h0, h1, h2⟩
      obtain ⟨s, h3, h4, h5, h6, h7, h8⟩ := (shift_bits hc0 hc1 _).mp h2
      refine ⟨(s : Int), mem_up_sqs.mpr ⟨by omega, by omega, by simpa using h4⟩, moveOne_some.mpr ⟨?_, by omega⟩⟩
      omega

/-! the moves -/
def knightSteps : List (Int × Int) := [(-2, -1), (-2, 1), (-1, -2), (-1, 2), (1, -2), (1, 2), (2, -1), (2, 1)]
def kingSteps : List (Int × Int) := [(-1, -1), (-1, 0), (-1, 1), (0, -1), (0, 1), (1, -1), (1, 0), (1, 1)]
def movesN (steps : List (Int × Int)) (q : Nat) : Nat := steps.foldl (fun b p => b ||| shiftN (2 ^ q) p.1 p.2) 0
abbrev ab (x : Int) : Int := if x < 0 then -x else x
def reachOk (kind q : Int) (s : Int) : Bool :=
  (kind == 0 && ab (s.fdiv 8 - q.fdiv 8) * ab (s.fmod 8 - q.fmod 8) == 2) || (kind == 1 && (if ab (s.fmod 8 - q.fmod 8) > ab (s.fdiv 8 - q.fdiv 8) then ab (s.fmod 8 - q.fmod 8) else ab (s.fdiv 8 - q.fdiv 8)) == 1)
def reachL (kind q : Int) : List Int := (up (List.range 64)).filter (reachOk kind q)
theorem knight_ok0 : ∀ q : Fin 64, reachL 0 (q.val : Int) = up (sqs (movesN knightSteps q.val)) := by decide +kernel
theorem king_ok0 : ∀ q : Fin 64, reachL 1 (q.val : Int) = up (sqs (movesN kingSteps q.val)) := by decide +kernel
theorem knight_lt0 : ∀ q : Fin 64, movesN knightSteps q.val < 2 ^ 64 := by decide +kernel
theorem king_lt0 : ∀ q : Fin 64, movesN kingSteps q.val < 2 ^ 64 := by decide +kernel
end Mine
end
section
set_option autoImplicit false
namespace Mine
open PySem PyProof.Rows

/-! the lowest one -/
theorem odd_low {b N : Nat} (ho : b % 2 = 1) (hd : N / 2 = b / 2) (e : N % 2 = 0) : b - N = 1 := by omega
theorem even_low {b N M P : Nat} (ho : b % 2 = 0) (hd : N / 2 = M) (e : N % 2 = 0) (h3 : b / 2 - M = P) : b - N = P * 2 := by omega
theorem not_odd {n : Nat} (h : ¬ n % 2 = 1) : n % 2 = 0 := (Nat.mod_two_eq_zero_or_one n).resolve_right h
theorem pred_odd {b : Nat} (h : b % 2 = 1) : (b - 1) / 2 = b / 2 ∧ ¬ (b - 1) % 2 = 1 := by omega
theorem pred_even {b : Nat} (h0 : 0 < b) (h : b % 2 = 0) : (b - 1) / 2 = b / 2 - 1 := by omega
theorem half_le {b n : Nat} (h1 : b ≤ n + 1) (h2 : 0 < b) : b / 2 ≤ n := by omega
theorem half_pos {b : Nat} (h : b % 2 = 0) (h2 : 0 < b) : 0 < b / 2 := by omega
theorem low_nat : ∀ (n b : Nat), b ≤ n → 0 < b → ∃ k, b - (b &&& (b - 1)) = 2 ^ k ∧ b.testBit k = true ∧ ∀ j, j < k → b.testBit j = false := by
  intro n
  induction n with
  | zero => intro b h1 h2; exact absurd h2 (Nat.not_lt.mpr h1)
  | succ n ih =>
    intro b h1 h2
    have hd := @Nat.and_div_two b (b - 1)
    have hm := @Nat.and_mod_two_eq_one b (b - 1)
    by_cases ho : b % 2 = 1
    · refine ⟨0, ?_, by simp [Nat.testBit_zero, ho], fun j hj => absurd hj (Nat.not_lt_zero j)⟩
      rw [(pred_odd ho).1, Nat.and_self] at hd
      exact odd_low ho hd (not_odd fun h => (pred_odd ho).2 (hm.mp h).2)
    · have he := not_odd ho
      obtain ⟨k, h3, h4, h5⟩ := ih (b / 2) (half_le h1 h2) (half_pos he h2)
      refine ⟨k + 1, ?_, ?_, ?_⟩
      · rw [pred_even h2 he] at hd
        rw [Nat.pow_succ]
        exact even_low he hd (not_odd fun h => ho (hm.mp h).1) h3
      · rw [Nat.testBit_succ]; exact h4
      · intro j hj
        cases j with
        | zero => simp [Nat.testBit_zero, he]
        | succ j => rw [Nat.testBit_succ]; exact h5 j (Nat.lt_of_succ_lt_succ hj)
def lowK (b : Nat) : Nat := Nat.log2 (b - (b &&& (b - 1)))
theorem low_spec {b : Nat} (h : 0 < b) : b - (b &&& (b - 1)) = 2 ^ lowK b ∧ b.testBit (lowK b) = true ∧ ∀ j, j < lowK b → b.testBit j = false := by
  obtain ⟨k, h1, h2, h3⟩ := low_nat b b (Nat.le_refl _) h
  have e : lowK b = k := by unfold lowK; rw [h1, Nat.log2_two_pow]
  rw [e]
  exact ⟨h1, h2, h3⟩
theorem low_int {b : Nat} (h : 0 < b) : Builtin.bitAnd (b : Int) (-(b : Int)) = ((2 ^ lowK b : Nat) : Int) := by
  rw [bitAnd_pn (by omega) (by omega)]
  have e : (Builtin.bitNot (-(b : Int))).toNat = b - 1 := by unfold Builtin.bitNot; omega
  rw [e, Int.toNat_natCast, ← (low_spec h).1]
  have : b &&& (b - 1) ≤ b := Nat.and_le_left
  omega
theorem bits_two_pow (k : Nat) : (Builtin.Int.intBits ((2 ^ k : Nat) : Int) : Int) - 1 = (k : Int) := by
  unfold Builtin.Int.intBits
  have hp : 0 < 2 ^ k := Nat.two_pow_pos k
  have hne : ((((2 ^ k : Nat) : Int)) == 0) = false := by
    rw [beq_eq_false_iff_ne]
    omega
  rw [hne]
  simp only [Bool.false_eq_true, if_false, Int.natAbs_natCast, Nat.log2_two_pow]
  omega
theorem bit_pair : ∀ p q : Fin 2, (p.val ||| q.val) + (p.val &&& q.val) = p.val + q.val ∧ (p.val ^^^ q.val) + 2 * (p.val &&& q.val) = p.val + q.val := by decide
theorem bit_par (a b : Nat) : (a ||| b) % 2 + (a &&& b) % 2 = a % 2 + b % 2 ∧ (a ^^^ b) % 2 + 2 * ((a &&& b) % 2) = a % 2 + b % 2 := by
  have h := bit_pair ⟨a % 2, Nat.mod_lt _ (by decide)⟩ ⟨b % 2, Nat.mod_lt _ (by decide)⟩
  have e1 : (a ||| b) % 2 = a % 2 ||| b % 2 := Nat.or_mod_two_pow (n := 1)
  have e2 : (a &&& b) % 2 = a % 2 &&& b % 2 := Nat.and_mod_two_pow (n := 1)
  have e3 : (a ^^^ b) % 2 = a % 2 ^^^ b % 2 := Nat.xor_mod_two_pow (n := 1)
  rw [e1, e2, e3]
  exact h
theorem glue1 {O N A B O' N' A' B' o n a b : Nat} (hO : 2 * O' + o = O) (hN : 2 * N' + n = N) (hA : 2 * A' + a = A) (hB : 2 * B' + b = B) (h1 : O' + N' = A' + B') (h2 : o + n = a + b) : O + N = A + B := by omega
theorem glue2 {O N A B O' N' A' B' o n a b : Nat} (hO : 2 * O' + o = O) (hN : 2 * N' + n = N) (hA : 2 * A' + a = A) (hB : 2 * B' + b = B) (h1 : O' + 2 * N' = A' + B') (h2 : o + 2 * n = a + b) : O + 2 * N = A + B := by omega
theorem half_le0 {a n : Nat} (h : a ≤ n + 1) : a / 2 ≤ n := by omega
theorem or_and_nat : ∀ (n a b : Nat), a ≤ n → (a ||| b) + (a &&& b) = a + b ∧ (a ^^^ b) + 2 * (a &&& b) = a + b := by
  intro n
  induction n with
  | zero =>
    intro a b h
    have : a = 0 := Nat.le_zero.mp h
    subst this
    simp
  | succ n ih =>
    intro a b h
    obtain ⟨h1, h2⟩ := ih (a / 2) (b / 2) (half_le0 h)
    rw [← Nat.or_div_two, ← Nat.and_div_two] at h1
    rw [← Nat.xor_div_two, ← Nat.and_div_two] at h2
    exact ⟨glue1 (Nat.div_add_mod _ 2) (Nat.div_add_mod _ 2) (Nat.div_add_mod _ 2) (Nat.div_add_mod _ 2) h1 (bit_par a b).1,
      glue2 (Nat.div_add_mod _ 2) (Nat.div_add_mod _ 2) (Nat.div_add_mod _ 2) (Nat.div_add_mod _ 2) h2 (bit_par a b).2⟩
theorem xor_int_nat (a b : Nat) : Builtin.bitXor (a : Int) (b : Int) = ((a ^^^ b : Nat) : Int) := by
  have h := or_and_nat a a b (Nat.le_refl _)
  unfold Builtin.bitXor
  rw [bitOr_and, bitAnd_pp (by omega) (by omega), Int.toNat_natCast, Int.toNat_natCast]
  omega
theorem or_int_nat (a b : Nat) : Builtin.bitOr (a : Int) (b : Int) = ((a ||| b : Nat) : Int) := by
  have h := or_and_nat a a b (Nat.le_refl _)
  rw [bitOr_and, bitAnd_pp (by omega) (by omega), Int.toNat_natCast, Int.toNat_natCast]
  omega
theorem and_int_nat (a b : Nat) : Builtin.bitAnd (a : Int) (b : Int) = ((a &&& b : Nat) : Int) := by
  rw [bitAnd_pp (by omega) (by omega), Int.toNat_natCast, Int.toNat_natCast]
theorem shl_int_nat (a k : Nat) : (a : Int) * 2 ^ k = ((a <<< k : Nat) : Int) := by
  rw [Nat.shiftLeft_eq, Int.natCast_mul, Int.natCast_pow]; rfl
theorem shr_int_nat (a k : Nat) : Int.fdiv (a : Int) (2 ^ k) = ((a >>> k : Nat) : Int) := by
  have hp : (0 : Int) ≤ 2 ^ k := Int.pow_nonneg (by decide)
  rw [Nat.shiftRight_eq_div_pow, Int.fdiv_eq_ediv_of_nonneg _ hp, Int.natCast_ediv, Int.natCast_pow]; rfl

/-- dropping the lowest one -/
theorem drop_low_bits {b : Nat} (h : 0 < b) (j : Nat) : (b ^^^ 2 ^ lowK b).testBit j = (b.testBit j && decide (j ≠ lowK b)) := by
  obtain ⟨_, h2, _⟩ := low_spec h
  rw [Nat.testBit_xor, Nat.testBit_two_pow]
  by_cases e : lowK b = j
  · subst e; simp [h2]
  · have e' : j ≠ lowK b := fun q => e q.symm
    simp [e, e']
theorem drop_low_lt {b : Nat} (h : 0 < b) : b ^^^ 2 ^ lowK b < b := by
  obtain ⟨h1, h2, _⟩ := low_spec h
  have e : b &&& 2 ^ lowK b = 2 ^ lowK b := by
    apply Nat.eq_of_testBit_eq
    intro j
    rw [Nat.testBit_and, Nat.testBit_two_pow]
    by_cases q : lowK b = j
    · subst q; simp [h2]
    · simp [q]
  have h3 := (or_and_nat b b (2 ^ lowK b) (Nat.le_refl _)).2
  rw [e] at h3
  have := Nat.two_pow_pos (lowK b)
  omega
theorem sqs_low {b : Nat} (h : 0 < b) (hb : b < 2 ^ 64) : up (sqs b) = (lowK b : Int) :: up (sqs (b ^^^ 2 ^ lowK b)) := by
  obtain ⟨h1, h2, h3⟩ := low_spec h
  have hk : lowK b < 64 := by
    rcases Nat.lt_or_ge (lowK b) 64 with q | q
    · exact q
    · have := Nat.testBit_lt_two_pow (Nat.lt_of_lt_of_le hb (Nat.pow_le_pow_right (by decide) q))
      rw [h2] at this; cases this
  refine sorted_ext (sqs_sorted _) (List.pairwise_cons.mpr ⟨?_, sqs_sorted _⟩) fun x => ?_
  · intro y hy
    obtain ⟨hy0, hy1, hy2⟩ := mem_up_sqs.mp hy
    rw [drop_low_bits h] at hy2
    simp only [Bool.and_eq_true, decide_eq_true_eq] at hy2
    rcases Nat.lt_or_ge (lowK b) y.toNat with q | q
    · omega
    · have := h3 y.toNat (by omega)
      rw [hy2.1] at this; cases this
  · rw [List.mem_cons, mem_up_sqs, mem_up_sqs, drop_low_bits h]
    simp only [Bool.and_eq_true, decide_eq_true_eq]
    constructor
    · rintro ⟨a1, a2, a3⟩
      by_cases e : x.toNat = lowK b
      · left; omega
      · right; exact ⟨a1, a2, a3, e⟩
    · rintro (rfl | ⟨a1, a2, a3, _⟩)
      · exact ⟨by omega, by omega, by simpa using h2⟩
      · exact ⟨a1, a2, a3⟩
theorem sqs_zero : up (sqs 0) = [] := by decide +kernel

/-! the sum of the powers -/
theorem sum_bits (b : Nat) : ∀ k : Nat, ((List.range k).filter (fun i => b.testBit i)).foldl (fun t i => t + 2 ^ i) 0 = b % 2 ^ k := by
  intro k
  induction k with
  | zero => simp [Nat.mod_one]
  | succ k ih =>
    rw [List.range_succ, List.filter_append, List.foldl_append, ih, Nat.mod_pow_succ]
    have h9 := Nat.testBit_eq_decide_div_mod_eq (x := b) (i := k)
    cases h : b.testBit k
    · rw [h] at h9
      have h10 : b / 2 ^ k % 2 = 0 := by
        have := of_decide_eq_false h9.symm
        omega
      simp [h, h10]
    · rw [h] at h9
      have h10 : b / 2 ^ k % 2 = 1 := of_decide_eq_true h9.symm
      simp [h, h10]
theorem foldl_up (l : List Nat) : ∀ t : Nat, (up l).foldl (fun t s => t + 2 ^ s.toNat) (t : Int) = ((l.foldl (fun t i => t + 2 ^ i) t : Nat) : Int) := by
  induction l with
  | nil => intro t; rfl
  | cons a r ih =>
    intro t
    show (up r).foldl _ ((t : Int) + 2 ^ ((a : Int)).toNat) = _
    have e : (t : Int) + 2 ^ ((a : Int)).toNat = ((t + 2 ^ a : Nat) : Int) := by
      rw [Int.toNat_natCast, Int.natCast_add, Int.natCast_pow]; rfl
    rw [e, ih]; rfl
theorem total_ok {b : Nat} (hb : b < 2 ^ 64) : (up (sqs b)).foldl (fun t s => t + 2 ^ s.toNat) 0 = (b : Int) := by
  have h := foldl_up (sqs b) 0
  have h2 := sum_bits b 64
  unfold sqs at h ⊢
  rw [h2, Nat.mod_eq_of_lt hb] at h
  exact h

/-! the listed squares -/
def orAll (l : List Int) (b : Nat) : Nat := l.foldl (fun b s => b ||| 2 ^ s.toNat) b
theorem orAll_bits (l : List Int) (hl : ∀ s ∈ l, 0 ≤ s) : ∀ (b n : Nat), (orAll l b).testBit n = (b.testBit n || decide ((n : Int) ∈ l)) := by
  induction l with
  | nil => intro b n; simp [orAll]
  | cons a r ih =>
    intro b n
    have ha := hl a List.mem_cons_self
    show (orAll r (b ||| 2 ^ a.toNat)).testBit n = _
    rw [ih (fun s hs => hl s (List.mem_cons_of_mem _ hs)), Nat.testBit_or, Nat.testBit_two_pow]
    have e : decide (a.toNat = n) = decide ((n : Int) = a) := by
      congr 1
      exact propext ⟨fun h => by omega, fun h => by omega⟩
    rw [e]
    by_cases h1 : (n : Int) = a <;> by_cases h2 : (n : Int) ∈ r <;> simp [h1, h2]
theorem orAll_lt (l : List Int) (hl : ∀ s ∈ l, 0 ≤ s ∧ s < 64) {b : Nat} (hb : b < 2 ^ 64) : orAll l b < 2 ^ 64 := by
  refine Nat.lt_pow_two_of_testBit _ fun n hn => ?_
  rw [orAll_bits l (fun s hs => (hl s hs).1), Nat.testBit_lt_two_pow (Nat.lt_of_lt_of_le hb (Nat.pow_le_pow_right (by decide) hn))]
  have : ¬ (n : Int) ∈ l := fun h => by have := hl _ h; omega
  simp [this]
def listedOk (l : List Int) (num : Int) (s : Int) : Bool := decide (s ∈ l) || decide (num / 2 ^ s.toNat % 2 = 1)
def listedL (l : List Int) (num : Int) : List Int := (up (List.range 64)).filter (listedOk l num)
theorem range_sorted (n : Nat) : (up (List.range n)).Pairwise (· < ·) := by
  unfold up
  refine List.Pairwise.map _ (R := fun a b : Nat => a < b) ?_ List.pairwise_lt_range
  intro a b h
  omega
theorem mem_up_range {n : Nat} {x : Int} : x ∈ up (List.range n) ↔ 0 ≤ x ∧ x < n := by
  rw [mem_up]
  constructor
  · rintro ⟨k, hk, rfl⟩
    have := List.mem_range.mp hk
    omega
  · rintro ⟨h0, h1⟩
    exact ⟨x.toNat, List.mem_range.mpr (by omega), by omega⟩
theorem listed_ok {l : List Int} (hl : ∀ s ∈ l, 0 ≤ s ∧ s < 64) (num : Nat) : listedL l (num : Int) = up (sqs (orAll l 0 ||| num)) := by
  refine sorted_ext ?_ (sqs_sorted _) fun x => ?_
  · unfold listedL
    exact List.Pairwise.filter _ (range_sorted 64)
  · unfold listedL
    rw [List.mem_filter, mem_up_range, mem_up_sqs, Nat.testBit_or, orAll_bits l (fun s hs => (hl s hs).1), Nat.zero_testBit, Bool.false_or]
    have e : ∀ h0 : 0 ≤ x, ((x.toNat : Nat) : Int) = x := fun h0 => by omega
    have e2 : decide ((num : Int) / 2 ^ x.toNat % 2 = 1) = num.testBit x.toNat := by
      have e3 : (num : Int) / 2 ^ x.toNat % 2 = ((num / 2 ^ x.toNat % 2 : Nat) : Int) := by
        rw [Int.natCast_emod, Int.natCast_ediv, Int.natCast_pow]; rfl
      rw [e3, Nat.testBit_eq_decide_div_mod_eq]
      congr 1
      exact propext ⟨fun h => by omega, fun h => by omega⟩
    unfold listedOk
    rw [e2]
    constructor
    · rintro ⟨⟨a1, a2⟩, a3⟩
      exact ⟨a1, by omega, by rw [e a1]; exact a3⟩
    · rintro ⟨a1, a2, a3⟩
      exact ⟨⟨a1, by omega⟩, by rw [e a1] at a3; exact a3⟩
end Mine
end
section
set_option autoImplicit false
namespace Mine
open PySem PyProof.Rows

/-! texts, as lists of code points -/
def txt (l : List Nat) : Str := ⟨l.toArray⟩
theorem txt_append (a b : List Nat) : txt a ++ txt b = txt (a ++ b) := by
  show Str.mk (a.toArray ++ b.toArray) = Str.mk (a ++ b).toArray
  rw [List.append_toArray]
theorem txt_inj {a b : List Nat} (h : txt a = txt b) : a = b := by
  have := congrArg (fun s : Str => s.cps.toList) h
  simpa [txt] using this
theorem txt_length (a : List Nat) : (txt a).length = a.length := by simp [txt, Str.length]

def hexd (v : Nat) : Nat := if v < 10 then 48 + v else 87 + v
def dig (B n : Nat) : List Nat := if h : 2 ≤ B ∧ n ≠ 0 then dig B (n / B) ++ [hexd (n % B)] else []
  termination_by n
  decreasing_by exact Nat.div_lt_self (by omega) (by omega)
theorem dig_zero (B : Nat) : dig B 0 = [] := by rw [dig]; simp
theorem dig_pos {B n : Nat} (hB : 2 ≤ B) (hn : n ≠ 0) : dig B n = dig B (n / B) ++ [hexd (n % B)] := by
  rw [dig, dif_pos ⟨hB, hn⟩]
theorem dig_ne {B n : Nat} (hB : 2 ≤ B) (hn : n ≠ 0) : dig B n ≠ [] := by
  rw [dig_pos hB hn]; simp
theorem dig_len {B : Nat} (hB : 2 ≤ B) : ∀ (k n : Nat), n < 2 ^ k → (dig B n).length ≤ k := by
  intro k
  induction k with
  | zero => intro n h; have : n = 0 := by omega
            subst this; rw [dig_zero]; simp
  | succ k ih =>
    intro n h
    by_cases h0 : n = 0
    · subst h0; rw [dig_zero]; simp
    · rw [dig_pos hB h0, List.length_append]
      have h1 : n / B ≤ n / 2 := Nat.div_le_div_left hB (by decide)
      have h2 : n / 2 < 2 ^ k := by rw [Nat.pow_succ] at h; omega
      have := ih (n / B) (by omega)
      simp; omega
def pad (k : Nat) (l : List Nat) : List Nat := List.replicate (k - l.length) 48 ++ l
def grow (v : Nat) (t : List Nat) : List Nat := if 0 < v ∨ t ≠ [] then t ++ [hexd v] else t
theorem grow_dig {B : Nat} (hB : 2 ≤ B) (n : Nat) : grow (n % B) (dig B (n / B)) = dig B n := by
  unfold grow
  by_cases h0 : n = 0
  · subst h0
    simp [dig_zero]
  · rw [dig_pos hB h0, if_pos]
    by_cases h1 : n % B = 0
    · right
      refine dig_ne hB fun h2 => h0 ?_
      have := Nat.div_add_mod n B
      rw [h1, h2] at this
      omega
    · left; omega

/-! the law's digits -/
def bitc (b s : Nat) : Nat := if b.testBit s then 49 else 48
def digT (b : Nat) : Nat → List Nat
  | 0 => []
  | t + 1 => bitc b t :: digT b t
theorem digT_len (b : Nat) : ∀ t, (digT b t).length = t
  | 0 => rfl
  | t + 1 => by show (digT b t).length + 1 = _; rw [digT_len b t]
theorem digT_drop (b : Nat) : ∀ (t i : Nat), i ≤ t → (digT b t).drop i = digT b (t - i)
  | t, 0, _ => rfl
  | 0, i + 1, h => by omega
  | t + 1, i + 1, h => by
    show (digT b t).drop i = _
    rw [digT_drop b t i (by omega)]
    congr 1
    omega
theorem digT_get (b : Nat) (t i : Nat) (h : i < t) : (digT b t)[i]? = some (bitc b (t - 1 - i)) := by
  have h1 := digT_drop b t i (by omega)
  have h2 : (digT b t)[i]? = ((digT b t).drop i)[0]? := by rw [List.getElem?_drop]; simp
  rw [h2, h1]
  obtain ⟨k, hk⟩ : ∃ k, t - i = k + 1 := ⟨t - i - 1, by omega⟩
  rw [hk]
  show some (bitc b k) = _
  congr 2
  omega
/-- the value of a piece of the digits -/
def valOf (l : List Nat) : Nat := l.foldl (fun v c => 2 * v + (c - 48)) 0
theorem val_take (b : Nat) : ∀ (k t : Nat), k ≤ t → valOf ((digT b t).take k) = b / 2 ^ (t - k) % 2 ^ k := by
  intro k
  induction k with
  | zero => intro t _; simp [valOf, Nat.mod_one]
  | succ k ih =>
    intro t h
    have h1 := ih t (by omega)
    rw [List.take_add_one, digT_get b t k (by omega)]
    unfold valOf at h1 ⊢
    rw [List.foldl_append, h1]
    show 2 * (b / 2 ^ (t - k) % 2 ^ k) + (bitc b (t - 1 - k) - 48) = _
    have e1 : t - k = (t - (k + 1)) + 1 := by omega
    have e2 : t - 1 - k = t - (k + 1) := by omega
    rw [e1, e2]
    generalize t - (k + 1) = m
    have e3 : bitc b m - 48 = b / 2 ^ m % 2 := by
      unfold bitc
      rw [Nat.testBit_eq_decide_div_mod_eq]
      by_cases q : b / 2 ^ m % 2 = 1
      · simp [q]
      · have q2 : b / 2 ^ m % 2 = 0 := by omega
        simp [q2]
    rw [e3, Nat.pow_succ 2 m, ← Nat.div_div_eq_div_mul, Nat.pow_succ 2 k, Nat.mul_comm (2 ^ k) 2, Nat.mod_mul]
    omega
theorem val_piece (b i k : Nat) (h : i + k ≤ 72) : valOf (((digT b 72).drop i).take k) = b / 2 ^ (72 - (i + k)) % 2 ^ k := by
  rw [digT_drop b 72 i (by omega), val_take b k (72 - i) (by omega)]
  have e : 72 - i - k = 72 - (i + k) := by omega
  rw [e]
/-- one more group -/
theorem group_step (b k j : Nat) (hk : 1 ≤ k) (h : k * (j + 1) ≤ 72) :
    grow (valOf (((digT b 72).drop (k * j)).take k)) (dig (2 ^ k) (b / 2 ^ (72 - k * j))) = dig (2 ^ k) (b / 2 ^ (72 - k * (j + 1))) := by
  have e0 : k * (j + 1) = k * j + k := Nat.mul_succ k j
  rw [val_piece b (k * j) k (by omega)]
  have e1 : 72 - k * j = (72 - (k * j + k)) + k := by omega
  rw [e0, e1, Nat.pow_add, ← Nat.div_div_eq_div_mul]
  refine grow_dig ?_ _
  have : 2 ^ 1 ≤ 2 ^ k := Nat.pow_le_pow_right (by decide) hk
  omega
theorem group_start {b k : Nat} (hb : b < 2 ^ 64) : dig (2 ^ k) (b / 2 ^ (72 - k * 0)) = [] := by
  have e : b / 2 ^ (72 - k * 0) = 0 := Nat.div_eq_of_lt (Nat.lt_of_lt_of_le hb (Nat.pow_le_pow_right (by decide) (by omega)))
  rw [e, dig_zero]
theorem bitc_mem {b s : Nat} (hb : b < 2 ^ 64) : (if (s : Int) ∈ up (sqs b) then 49 else 48) = bitc b s := by
  unfold bitc
  have : (s : Int) ∈ up (sqs b) ↔ b.testBit s = true := by
    rw [mem_up_sqs]
    constructor
    · rintro ⟨_, _, h⟩; simpa using h
    · intro h
      refine ⟨by omega, ?_, by simpa using h⟩
      rcases Nat.lt_or_ge s 64 with q | q
      · omega
      · rw [Nat.testBit_lt_two_pow (Nat.lt_of_lt_of_le hb (Nat.pow_le_pow_right (by decide) q))] at h; cases h
  simp only [this]

/-! the page -/
def sign (b : Nat) (o : Option Int) (q : Nat) : Nat := if b.testBit q then 120 else if o = some (q : Int) then 111 else 46
def rowT (b : Nat) (o : Option Int) (r : Nat) : Nat → List Nat
  | 0 => [49 + r]
  | k + 1 => rowT b o r k ++ [32, sign b o (8 * r + k)]
theorem rowT_len (b : Nat) (o : Option Int) (r : Nat) : ∀ k, (rowT b o r k).length = 2 * k + 1
  | 0 => rfl
  | k + 1 => by
    show (rowT b o r k ++ [32, sign b o (8 * r + k)]).length = _
    rw [List.length_append, rowT_len b o r k]
    simp; omega
def foot : List Nat := [32, 32, 97, 32, 98, 32, 99, 32, 100, 32, 101, 32, 102, 32, 103, 32, 104]
/-- the page from row k - 1 down, and the foot -/
def pageT (b : Nat) (o : Option Int) : Nat → List (List Nat)
  | 0 => [foot]
  | k + 1 => rowT b o k 8 :: pageT b o k
end Mine
end
section
set_option autoImplicit false
namespace Mine
open PySem
theorem execs_append (env : Env) (b : List Stmt) : ∀ a : List Stmt, execs (a ++ b) env = (execs a env >>= fun f => match f with | .next => execs b env | f => pure f)
  | [] => rfl
  | st :: a => by
    rw [List.cons_append, execs_cons, execs_cons, bind_assoc]
    congr 1
    funext f
    cases f with
    | next => exact execs_append env b a
    | ret v => rfl
    | brk => rfl
    | cont => rfl
/-- a block in two parts, with what holds between them -/
theorem execs_split {M : Model} {A : Around} {E : Value → Shared → Prop} {s : Shared} {env : Env} {l : List Stmt} {Q : Flow → Shared → Prop} (n : Nat) (J : Shared → Prop)
    (tail : ∀ s', J s' → wpAny M A (execs (l.drop n) env) Q E s')
    (head : wpAny M A (execs (l.take n) env) (fun f s' => match f with | .next => J s' | f => Q f s') E s) : wpAny M A (execs l env) Q E s := by
  have e : execs l env = execs (l.take n ++ l.drop n) env := by rw [List.take_append_drop]
  rw [e, execs_append]
  refine wpAny_bind (wpAny_mono head (fun f s' h => ?_) fun _ _ h => h)
  cases f with
  | next => exact tail s' h
  | ret v => exact wpAny_pure h
  | brk => exact wpAny_pure h
  | cont => exact wpAny_pure h
end Mine
end
section
set_option autoImplicit false
set_option maxRecDepth 100000
namespace Mine
open PySem PySem.Spec PySem.Calls PySem.W PyProof.Rows

/-- a call that leaves all that stood, and hands back what Post says -/
def Gives (prog : Program) (w : World) (K : Frag) (p : Program) (loose : List Str) (mean : ExcName → Option Value) (mg mb : Str → Option Value) (f : Addr) (dep : Nat) (Pre : Heap → Prop) (vs : List Value) (Post : Heap → Heap → Value → Prop) : Prop :=
  ∀ (dp un : Nat) (gd : Option (List Code)) (cn : Str) (cs : Scope) (a : Addr) (ccd : Value) (cl : List (Str × Addr)) (outer : List Env) (A₀ : Around) (base h₀ : Heap) (L : Addr) (m : Str → Option Value) (s : Shared) (Q E : Value → Shared → Prop),
    Below A₀ base outer h₀ → Fr h₀ L s.heap m → K.In h₀ → Top p loose mean mg mb h₀ → cs.kind = .function → dp + dep < recursionLimit → un + 8 * dep < cLine → Pre s.heap →
    (∀ v h' tk', s.heap.StaysIn h' → Post s.heap h' v → Q v { s with heap := h', toks := tk' }) →
    wpAny (model prog w) (ktrTop dp un gd cn cs L a ccd cl outer) (call (.ref f) vs) Q E s

section
variable {prog : Program} {w : World} {A A₀ : Around} {E : Value → Shared → Prop} {s : Shared} {K : Frag} {L : Addr} {h₀ base : Heap} {m mg mb : Str → Option Value} {news : List (Addr × Obj)} {p : Program} {loose : List Str} {mean : ExcName → Option Value} {Q : Value → Shared → Prop}

theorem lookup_kstB : ∀ (ps : List (Str × Value)) (y : Str), ps.lookup y = kstB (fun _ => none) ps y
  | [], _ => rfl
  | p :: r, y => by
    show _ = if y = p.1 then some p.2 else kstB (fun _ => none) r y
    rw [List.lookup_cons, lookup_kstB r y]
    by_cases h : y = p.1
    · rw [if_pos h, beq_iff_eq.mpr h]
    · rw [if_neg h, beq_eq_false_iff_ne.mpr h]
theorem enterP {env : Env} {outer : List Env} {name qual : Str} {params : Arguments} {body : List Stmt} {scope : Scope} {dV kV doc pm cdv ct oc : Value} {an od : Option Addr} {osl : Array (Option Value)} {f : Addr} {vs : List Value} (rb : List (Str × Value))
    (B : Below A₀ base outer h₀) (F : Fr h₀ L s.heap m) (X₀ : K.In h₀) (T : Top p loose mean mg mb h₀) (hA : A.frames = some (env :: outer)) (hf : env.frame = some L) (hke : env.scope.kind = .function)
    (ho : K.lookup f = some ⟨oc, od, .func (fnOf name qual params body scope dV kV doc pm an cdv ct), osl⟩) (hcd : codeIn K cdv qual = true) (hroom : A.depth < recursionLimit)
    (hbind : BindsTo s (fnOf name qual params body scope dV kV doc pm an cdv ct) ⟨vs, []⟩ rb.reverse) (hloc : ∀ y ∈ rb.reverse, scope.names.lookup y.1 = some .local)
    (h : ∀ L' h₁, Fr s.heap L' h₁ (kstB (fun _ => none) rb) → News s.heap L' h₁ [] → Below A base (env :: outer) s.heap → K.In s.heap → Top p loose mean mg mb s.heap →
      wpAny (model prog w) (A.deeper (envOf qual scope L' f cdv)) (execs body (envOf qual scope L' f cdv))
        (fun fl s' => Q (match fl with | .ret v => v | _ => .none) s')
        (fun e s' => wpAny (model prog w) (A.deeper (envOf qual scope L' f cdv)) (leaving (envOf qual scope L' f cdv) e) (fun _ s'' => E e s'') (fun e' s'' => E e' s'') s')
        { s with heap := h₁, toks := s.toks + rb.reverse.length })
    (hco : scope.isCoroutine = false) (hgen : scope.isGenerator = false) (hk : scope.kind = .function)
    (hcell : ∀ x ∈ scope.names, x.2 ≠ .cell) : wpAny (model prog w) A (call (.ref f) vs) Q E s := by
  refine wpAny_call ?_
  obtain ⟨_, BG, _, _⟩ := groundX (R := fun _ _ => True) B F (News.nil) hA hf hke
  have X := X₀.keeps F.keep
  refine codeAny_call_def (fd := fnOf name qual params body scope dV kV doc pm an cdv ct) (body := body) (binds := rb.reverse) hroom (X _ _ ho) rfl (T.nolimit.keeps F.keep) (codeRec_of X hcd) rfl hbind hcell hloc (fun h₁ hns hk₁ => ?_) hco hgen hk
  have em : (fun y => rb.reverse.reverse.lookup y) = kstB (fun _ => none) rb := by
    funext y
    rw [List.reverse_reverse, lookup_kstB]
  rw [em] at hns
  exact h s.heap.objs.size h₁ ⟨hns, hk₁, Nat.le_refl _⟩ News.nil BG X (T.keeps F.keep)

/-- using a contract: an int -/
theorem useInt {f : Addr} {dep : Nat} {Pre : Heap → Prop} {vs : List Value} {x : Int} {dp un : Nat} {gd : Option (List Code)} {cn : Str} {cs : Scope} {a : Addr} {ccd : Value} {cl : List (Str × Addr)} {outer : List Env}
    (C : Gives prog w K p loose mean mg mb f dep Pre vs (fun _ _ v => ∃ t, v = .int x t))
    (B : Below A₀ base outer h₀) (F : Fr h₀ L s.heap m) (X : K.In h₀) (N : News h₀ L s.heap news) (T : Top p loose mean mg mb h₀) (hk : cs.kind = .function) (hd : dp + dep < recursionLimit) (hu : un + 8 * dep < cLine) (hp : Pre s.heap)
    (ret : ∀ t h' tk', Fr h₀ L h' m → News h₀ L h' news → Q (.int x t) { s with heap := h', toks := tk' }) :
    wpAny (model prog w) (ktrTop dp un gd cn cs L a ccd cl outer) (call (.ref f) vs) Q E s := by
  refine C dp un gd cn cs a ccd cl outer A₀ base h₀ L m s Q E B F X T hk hd hu hp ?_
  rintro v h' tk' st ⟨t, rfl⟩
  exact ret t h' tk' (F.keeps st) (N.grown st)
/-- using a contract: a text -/
theorem useStr {f : Addr} {dep : Nat} {Pre : Heap → Prop} {vs : List Value} {x : Str} {dp un : Nat} {gd : Option (List Code)} {cn : Str} {cs : Scope} {a : Addr} {ccd : Value} {cl : List (Str × Addr)} {outer : List Env}
    (C : Gives prog w K p loose mean mg mb f dep Pre vs (fun _ _ v => ∃ t, v = .str x t))
    (B : Below A₀ base outer h₀) (F : Fr h₀ L s.heap m) (X : K.In h₀) (N : News h₀ L s.heap news) (T : Top p loose mean mg mb h₀) (hk : cs.kind = .function) (hd : dp + dep < recursionLimit) (hu : un + 8 * dep < cLine) (hp : Pre s.heap)
    (ret : ∀ t h' tk', Fr h₀ L h' m → News h₀ L h' news → Q (.str x t) { s with heap := h', toks := tk' }) :
    wpAny (model prog w) (ktrTop dp un gd cn cs L a ccd cl outer) (call (.ref f) vs) Q E s := by
  refine C dp un gd cn cs a ccd cl outer A₀ base h₀ L m s Q E B F X T hk hd hu hp ?_
  rintro v h' tk' st ⟨t, rfl⟩
  exact ret t h' tk' (F.keeps st) (N.grown st)
/-- a new list of ints -/
def IsNewInts (ns : List Int) (g h' : Heap) (v : Value) : Prop := ∃ l n vs, v = .ref l ∧ g.get? l = none ∧ h'.get? l = some (listOf vs.toArray n) ∧ IntsAre vs ns
/-- a new list of texts -/
def IsNewTexts (ns : List Str) (g h' : Heap) (v : Value) : Prop := ∃ l n vs, v = .ref l ∧ g.get? l = none ∧ h'.get? l = some (listOf vs.toArray n) ∧ StrsAre vs ns
theorem useInts {f : Addr} {dep : Nat} {Pre : Heap → Prop} {vs : List Value} {ns : List Int} {dp un : Nat} {gd : Option (List Code)} {cn : Str} {cs : Scope} {a : Addr} {ccd : Value} {cl : List (Str × Addr)} {outer : List Env}
    (C : Gives prog w K p loose mean mg mb f dep Pre vs (IsNewInts ns))
    (B : Below A₀ base outer h₀) (F : Fr h₀ L s.heap m) (X : K.In h₀) (N : News h₀ L s.heap news) (T : Top p loose mean mg mb h₀) (hk : cs.kind = .function) (hd : dp + dep < recursionLimit) (hu : un + 8 * dep < cLine) (hp : Pre s.heap)
    (ret : ∀ l n us h' tk', Fr h₀ L h' m → News h₀ L h' ((l, listOf us.toArray n) :: news) → IntsAre us ns → Q (.ref l) { s with heap := h', toks := tk' }) :
    wpAny (model prog w) (ktrTop dp un gd cn cs L a ccd cl outer) (call (.ref f) vs) Q E s := by
  refine C dp un gd cn cs a ccd cl outer A₀ base h₀ L m s Q E B F X T hk hd hu hp ?_
  rintro v h' tk' st ⟨l, n, us, rfl, h1, h2, h3⟩
  refine ret l n us h' tk' (F.keeps st) (fun q hq => ?_) h3
  rcases List.mem_cons.mp hq with rfl | hq
  · refine ⟨h2, fun e => ?_, ?_⟩
    · obtain ⟨oL, _, _, hL, _⟩ := F.ns
      have e' : l = L := e
      rw [e', hL] at h1; cases h1
    · cases q : h₀.get? l with
      | none => rfl
      | some o => rw [F.keep _ _ q] at h1; cases h1
  · exact (N.grown st) q hq
theorem useTexts {f : Addr} {dep : Nat} {Pre : Heap → Prop} {vs : List Value} {ns : List Str} {dp un : Nat} {gd : Option (List Code)} {cn : Str} {cs : Scope} {a : Addr} {ccd : Value} {cl : List (Str × Addr)} {outer : List Env}
    (C : Gives prog w K p loose mean mg mb f dep Pre vs (IsNewTexts ns))
    (B : Below A₀ base outer h₀) (F : Fr h₀ L s.heap m) (X : K.In h₀) (N : News h₀ L s.heap news) (T : Top p loose mean mg mb h₀) (hk : cs.kind = .function) (hd : dp + dep < recursionLimit) (hu : un + 8 * dep < cLine) (hp : Pre s.heap)
    (ret : ∀ l n us h' tk', Fr h₀ L h' m → News h₀ L h' ((l, listOf us.toArray n) :: news) → StrsAre us ns → Q (.ref l) { s with heap := h', toks := tk' }) :
    wpAny (model prog w) (ktrTop dp un gd cn cs L a ccd cl outer) (call (.ref f) vs) Q E s := by
  refine C dp un gd cn cs a ccd cl outer A₀ base h₀ L m s Q E B F X T hk hd hu hp ?_
  rintro v h' tk' st ⟨l, n, us, rfl, h1, h2, h3⟩
  refine ret l n us h' tk' (F.keeps st) (fun q hq => ?_) h3
  rcases List.mem_cons.mp hq with rfl | hq
  · refine ⟨h2, fun e => ?_, ?_⟩
    · obtain ⟨oL, _, _, hL, _⟩ := F.ns
      have e' : l = L := e
      rw [e', hL] at h1; cases h1
    · cases q : h₀.get? l with
      | none => rfl
      | some o => rw [F.keep _ _ q] at h1; cases h1
  · exact (N.grown st) q hq
end
end Mine
end
section
set_option autoImplicit false
namespace Mine
open PySem PySem.Spec PySem.Calls PySem.W PyProof.Rows
/-! what the walk of shifted_board asks -/
theorem stay_t {pre : List Int} {k c st : Int} (e : k = 0 + (pre.length : Int)) (i : st = ((stay pre.length c : Nat) : Int)) (h0 : 0 ≤ k + c) (h1 : k + c ≤ 7) :
    Builtin.bitOr st (72340172838076673 * 2 ^ k.toNat) = ((stay (pre ++ [k]).length c : Nat) : Int) := by
  have hk : k.toNat = pre.length := by omega
  have e1 : (pre ++ [k]).length = pre.length + 1 := by simp
  rw [e1, hk, i]
  show _ = ((if 0 ≤ (pre.length : Int) + c ∧ (pre.length : Int) + c ≤ 7 then stay pre.length c ||| (firstCol <<< pre.length) else stay pre.length c : Nat) : Int)
  rw [if_pos ⟨by omega, by omega⟩, ← or_int_nat, ← shl_int_nat]
  rfl
theorem stay_f {pre : List Int} {k c st : Int} (e : k = 0 + (pre.length : Int)) (i : st = ((stay pre.length c : Nat) : Int)) (h0 : ¬ (0 ≤ k + c ∧ k + c ≤ 7)) :
    st = ((stay (pre ++ [k]).length c : Nat) : Int) := by
  have e1 : (pre ++ [k]).length = pre.length + 1 := by simp
  rw [e1, i]
  show _ = ((if 0 ≤ (pre.length : Int) + c ∧ (pre.length : Int) + c ≤ 7 then stay pre.length c ||| (firstCol <<< pre.length) else stay pre.length c : Nat) : Int)
  rw [if_neg (by omega)]
theorem and_small {b st : Int} {n : Nat} (h0 : 0 ≤ b) (h1 : b < 2 ^ 64) (i : st = (n : Int)) : (Builtin.bitAnd b st).natAbs < 2 ^ 64 := by
  have e : b = ((b.toNat : Nat) : Int) := by omega
  rw [i, e, and_int_nat]
  have := @Nat.and_le_left b.toNat n
  omega
theorem shift_pos {b r c st : Int} {n : Nat} (hb0 : 0 ≤ b) (i : st = ((stay n c : Nat) : Int)) (hn : n = 8) (hd : 0 ≤ 8 * r + c) :
    Builtin.bitAnd (Builtin.bitAnd b st * 2 ^ (8 * r + c).toNat) (2 ^ (64 : Int).toNat - 1) = ((shiftN b.toNat r c : Nat) : Int) := by
  subst hn
  have e : b = ((b.toNat : Nat) : Int) := by omega
  have e2 : (2 : Int) ^ (64 : Int).toNat - 1 = ((2 ^ 64 - 1 : Nat) : Int) := by decide +kernel
  rw [i, e2]
  conv => lhs; rw [e]
  rw [and_int_nat, shl_int_nat, and_int_nat]
  unfold shiftN
  rw [if_pos hd]
theorem shift_neg {b r c st : Int} {n : Nat} (hb0 : 0 ≤ b) (i : st = ((stay n c : Nat) : Int)) (hn : n = 8) (hd : ¬ 0 ≤ 8 * r + c) :
    Int.fdiv (Builtin.bitAnd b st) (2 ^ (-(8 * r + c)).toNat) = ((shiftN b.toNat r c : Nat) : Int) := by
  subst hn
  have e : b = ((b.toNat : Nat) : Int) := by omega
  rw [i]
  conv => lhs; rw [e]
  rw [and_int_nat, shr_int_nat]
  unfold shiftN
  rw [if_neg hd]
end Mine
namespace Mine
open PySem PySem.Spec PySem.Calls PySem.W PyProof.Rows
theorem pow_nn (k : Nat) : (0 : Int) ≤ 1 * 2 ^ k := by
  rw [Int.one_mul]; exact Int.pow_nonneg (by decide)
theorem pow_lt {k : Nat} (h : k < 64) : (1 : Int) * 2 ^ k < 2 ^ 64 := by
  rw [Int.one_mul]
  exact_mod_cast Nat.pow_lt_pow_right (by decide : 1 < 2) h
end Mine
namespace Mine
open PySem PySem.Spec PySem.Calls PySem.W PyProof.Rows
theorem pow_toNat (k : Nat) : ((1 : Int) * 2 ^ k).toNat = 2 ^ k := by
  rw [Int.one_mul]
  have : (2 : Int) ^ k = ((2 ^ k : Nat) : Int) := by rw [Int.natCast_pow]; rfl
  rw [this, Int.toNat_natCast]
theorem or0 (n : Nat) : Builtin.bitOr 0 (n : Int) = ((0 ||| n : Nat) : Int) := or_int_nat 0 n
/-! what the walk of squares_of asks -/
structure SqInv (b₀ : Nat) (b : Int) (l : List Int) : Prop where
  nn : 0 ≤ b
  lt : b < 2 ^ 64
  eq : l ++ up (sqs b.toNat) = up (sqs b₀)
theorem SqInv.start {b : Int} (h0 : 0 ≤ b) (h1 : b < 2 ^ 64) : SqInv b.toNat b [] := ⟨h0, h1, rfl⟩
theorem squares_turn {b₀ : Nat} {b : Int} {l : List Int} (h : SqInv b₀ b l) (hp : 0 < b) :
    SqInv b₀ (Builtin.bitXor b (Builtin.bitAnd b (-b))) (l ++ [(Builtin.Int.intBits (Builtin.bitAnd b (-b)) : Int) - 1]) ∧
    (Builtin.bitXor b (Builtin.bitAnd b (-b))).toNat < b.toNat := by
  obtain ⟨h0, h1, hl⟩ := h
  obtain ⟨n, rfl⟩ : ∃ n : Nat, b = (n : Int) := ⟨b.toNat, by omega⟩
  have hn : 0 < n := by omega
  have hn2 : n < 2 ^ 64 := by omega
  rw [Int.toNat_natCast] at hl
  rw [low_int hn, xor_int_nat, Int.toNat_natCast, Int.toNat_natCast, bits_two_pow]
  have h1 := drop_low_lt hn
  refine ⟨⟨by omega, by omega, ?_⟩, h1⟩
  rw [← hl, sqs_low hn hn2, Int.toNat_natCast]
  simp
theorem sqs_len (b : Nat) : (up (sqs b)).length ≤ 64 := by
  unfold up sqs
  rw [List.length_map]
  exact Nat.le_trans (List.length_filter_le _ _) (by simp)
theorem SqInv.len {b₀ : Nat} {b : Int} {l : List Int} {us : List Value} (h : SqInv b₀ b l) (hi : IntsAre us l) : us.length ≤ 64 := by
  have := congrArg List.length h.eq
  rw [List.length_append] at this
  have h1 := sqs_len b₀
  have h2 := hi.length
  omega
theorem ints_snoc {us : List Value} {ns : List Int} {n : Int} {t : Tok} (h : IntsAre us ns) : IntsAre (us ++ [.int n t]) (ns ++ [n]) := by
  induction h with
  | nil => exact .cons _ _ .nil
  | cons n t _ ih => exact .cons _ _ ih
theorem SqInv.done {b₀ : Nat} {b : Int} {l : List Int} (h : SqInv b₀ b l) (hp : ¬ 0 < b) : l = up (sqs b₀) := by
  have e : b.toNat = 0 := by have := h.nn; omega
  have := h.eq
  rw [e, sqs_zero, List.append_nil] at this
  exact this
end Mine
namespace Mine
open PySem PySem.Spec PySem.Calls PySem.W PyProof.Rows
theorem newInts {g h : Heap} {L l : Addr} {news : List (Addr × Obj)} {us : List Value} {n : Nat} {ns : List Int} (N : News g L h news) (hm : (l, listOf us.toArray n) ∈ news) (hi : IntsAre us ns) : IsNewInts ns g h (.ref l) :=
  ⟨l, n, us, rfl, (N _ hm).2.2, (N _ hm).1, hi⟩
theorem newTexts {g h : Heap} {L l : Addr} {news : List (Addr × Obj)} {us : List Value} {n : Nat} {ns : List Str} (N : News g L h news) (hm : (l, listOf us.toArray n) ∈ news) (hi : StrsAre us ns) : IsNewTexts ns g h (.ref l) :=
  ⟨l, n, us, rfl, (N _ hm).2.2, (N _ hm).1, hi⟩
theorem orAll_turn {pre : List Int} {k b : Int} (i : b = ((orAll pre 0 : Nat) : Int)) : Builtin.bitOr b (1 * 2 ^ k.toNat) = ((orAll (pre ++ [k]) 0 : Nat) : Int) := by
  have e : (1 : Int) * 2 ^ k.toNat = ((2 ^ k.toNat : Nat) : Int) := by
    rw [Int.one_mul, Int.natCast_pow]; rfl
  rw [i, e, or_int_nat]
  unfold orAll
  rw [List.foldl_append]
  rfl
/-- a list grown by a test -/
structure Grown (f : Int → Bool) (pre ms : List Int) : Prop where
  eq : ms = pre.filter f
theorem Grown.start (f : Int → Bool) : Grown f [] [] := ⟨rfl⟩
theorem Grown.yes {f : Int → Bool} {pre ms : List Int} {k : Int} (h : Grown f pre ms) (hk : f k = true) : Grown f (pre ++ [k]) (ms ++ [k]) := ⟨by rw [List.filter_append, h.eq]; simp [hk]⟩
theorem Grown.no {f : Int → Bool} {pre ms : List Int} {k : Int} (h : Grown f pre ms) (hk : f k = false) : Grown f (pre ++ [k]) ms := ⟨by rw [List.filter_append, h.eq]; simp [hk]⟩
theorem Grown.len {f : Int → Bool} {pre ms : List Int} (h : Grown f pre ms) : ms.length ≤ pre.length := by rw [h.eq]; exact List.length_filter_le _ _
theorem rangeKs_up (n : Nat) : rangeKs 0 n = up (List.range n) := by
  unfold rangeKs up
  refine List.map_congr_left fun i _ => ?_
  omega
end Mine
namespace Mine
open PySem PySem.Spec PySem.Calls PySem.W PyProof.Rows
theorem any_mem {ns : List Int} {k : Int} : (ns.any fun x => x == k) = decide (k ∈ ns) := by
  induction ns with
  | nil => rfl
  | cons a r ih =>
    rw [List.any_cons, ih]
    by_cases h : a = k
    · subst h; simp
    · have h' : ¬ k = a := fun e => h e.symm
      simp [h, h']
theorem fdiv_pow {a : Int} (k : Nat) : a.fdiv (2 ^ k) = a / 2 ^ k := Int.fdiv_eq_ediv_of_nonneg _ (Int.pow_nonneg (by decide))
theorem fmod_two (a : Int) : a.fmod 2 = a % 2 := Int.fmod_eq_emod_of_nonneg _ (by decide)
section
variable {ns pre ms : List Int} {num k : Int} (h : Grown (listedOk ns num) pre ms) (hl : ms.length ≤ pre.length)
include h hl
theorem listed_y1 (c : (ns.any fun x => x == k) = true) : Grown (listedOk ns num) (pre ++ [k]) (ms ++ [k]) ∧ (ms ++ [k]).length ≤ (pre ++ [k]).length := by
  refine ⟨h.yes ?_, by simp; exact hl⟩
  rw [any_mem] at c
  unfold listedOk
  rw [c]; rfl
theorem listed_y2 (c : (num.fdiv (2 ^ k.toNat)).fmod 2 = 1) : Grown (listedOk ns num) (pre ++ [k]) (ms ++ [k]) ∧ (ms ++ [k]).length ≤ (pre ++ [k]).length := by
  refine ⟨h.yes ?_, by simp; exact hl⟩
  rw [fdiv_pow, fmod_two] at c
  unfold listedOk
  rw [decide_eq_true c, Bool.or_true]
theorem listed_n (c : (ns.any fun x => x == k) = false) (c2 : (num.fdiv (2 ^ k.toNat)).fmod 2 ≠ 1) : Grown (listedOk ns num) (pre ++ [k]) ms ∧ ms.length ≤ (pre ++ [k]).length := by
  refine ⟨h.no ?_, by simp; omega⟩
  rw [any_mem] at c
  rw [fdiv_pow, fmod_two] at c2
  unfold listedOk
  rw [c, decide_eq_false c2]; rfl
end
theorem grown_done {f : Int → Bool} {ms : List Int} (h : Grown f (rangeKs 0 (64 - 0 : Int).toNat) ms) : ms = (up (List.range 64)).filter f := by
  have e : rangeKs 0 (64 - 0 : Int).toNat = up (List.range 64) := rangeKs_up 64
  rw [← e]; exact h.eq
end Mine
namespace Mine
open PySem PySem.Spec PySem.Calls PySem.W PyProof.Rows
structure Moved (r c : Int) (pre ms : List Int) : Prop where
  eq : ms = movedL r c pre
theorem Moved.start (r c : Int) : Moved r c [] [] := ⟨rfl⟩
end Mine
namespace Mine
open PySem PySem.Spec PySem.Calls PySem.W PyProof.Rows
section
variable {r c k : Int} {pre ms : List Int} (h : Moved r c pre ms) (hl : ms.length ≤ pre.length)
include h hl
theorem moved_y (h1 : 0 ≤ k.fdiv 8 + r) (h2 : k.fdiv 8 + r ≤ 7) (h3 : 0 ≤ k.fmod 8 + c) (h4 : k.fmod 8 + c ≤ 7) :
    Moved r c (pre ++ [k]) (ms ++ [8 * (k.fdiv 8 + r) + (k.fmod 8 + c)]) ∧ (ms ++ [8 * (k.fdiv 8 + r) + (k.fmod 8 + c)]).length ≤ (pre ++ [k]).length := by
  refine ⟨⟨?_⟩, by simp; exact hl⟩
  have e1 : k.fdiv 8 = k / 8 := Int.fdiv_eq_ediv_of_nonneg _ (by decide)
  have e2 : k.fmod 8 = k % 8 := Int.fmod_eq_emod_of_nonneg _ (by decide)
  unfold movedL
  rw [e1] at h1 h2
  rw [e2] at h3 h4
  rw [e1, e2]
  rw [List.filterMap_append, h.eq]
  congr 1
  have e : moveOne r c k = some (8 * (k / 8 + r) + (k % 8 + c)) := by
    unfold moveOne; rw [if_pos ⟨h1, h2, h3, h4⟩]
  simp [e]
theorem moved_n (h1 : ¬ (0 ≤ k.fdiv 8 + r ∧ k.fdiv 8 + r ≤ 7 ∧ 0 ≤ k.fmod 8 + c ∧ k.fmod 8 + c ≤ 7)) :
    Moved r c (pre ++ [k]) ms ∧ ms.length ≤ (pre ++ [k]).length := by
  refine ⟨⟨?_⟩, by simp; omega⟩
  have e1 : k.fdiv 8 = k / 8 := Int.fdiv_eq_ediv_of_nonneg _ (by decide)
  have e2 : k.fmod 8 = k % 8 := Int.fmod_eq_emod_of_nonneg _ (by decide)
  unfold movedL
  rw [e1, e2] at h1
  rw [List.filterMap_append, h.eq]
  have e : moveOne r c k = none := by
    unfold moveOne; rw [if_neg h1]
  simp [e, movedL]
end
section
variable {kind q k : Int} {pre ms : List Int} (h : Grown (reachOk kind q) pre ms) (hl : ms.length ≤ pre.length)
include h hl
theorem reach_y0 (hk : kind = 0) (c : ab (k.fdiv 8 - q.fdiv 8) * ab (k.fmod 8 - q.fmod 8) = 2) :
    Grown (reachOk kind q) (pre ++ [k]) (ms ++ [k]) ∧ (ms ++ [k]).length ≤ (pre ++ [k]).length := by
  refine ⟨h.yes ?_, by simp; exact hl⟩
  subst hk
  unfold reachOk
  rw [c]; rfl
theorem reach_n0 (hk : kind = 0) (c : ab (k.fdiv 8 - q.fdiv 8) * ab (k.fmod 8 - q.fmod 8) ≠ 2) :
    Grown (reachOk kind q) (pre ++ [k]) ms ∧ ms.length ≤ (pre ++ [k]).length := by
  refine ⟨h.no ?_, by simp; omega⟩
  subst hk
  unfold reachOk
  rw [beq_eq_false_iff_ne.mpr c]; rfl
theorem reach_y1 (hk : kind = 1) (c : (if ab (k.fmod 8 - q.fmod 8) > ab (k.fdiv 8 - q.fdiv 8) then ab (k.fmod 8 - q.fmod 8) else ab (k.fdiv 8 - q.fdiv 8)) = 1) :
    Grown (reachOk kind q) (pre ++ [k]) (ms ++ [k]) ∧ (ms ++ [k]).length ≤ (pre ++ [k]).length := by
  refine ⟨h.yes ?_, by simp; exact hl⟩
  subst hk
  unfold reachOk
  rw [c]; rfl
theorem reach_n1 (hk : kind = 1) (c : (if ab (k.fmod 8 - q.fmod 8) > ab (k.fdiv 8 - q.fdiv 8) then ab (k.fmod 8 - q.fmod 8) else ab (k.fdiv 8 - q.fdiv 8)) ≠ 1) :
    Grown (reachOk kind q) (pre ++ [k]) ms ∧ ms.length ≤ (pre ++ [k]).length := by
  refine ⟨h.no ?_, by simp; omega⟩
  subst hk
  unfold reachOk
  rw [beq_eq_false_iff_ne.mpr c]; rfl
end
end Mine
end
section
set_option autoImplicit false
namespace Mine
open PySem PySem.Spec PySem.Calls PySem.W PyProof.Rows
theorem txt_cps (x : Str) : txt x.cps.toList = x := by
  show Str.mk x.cps.toList.toArray = x
  rw [Array.toArray_toList]
section
variable {prog : Program} {w : World} {A : Around} {E : Value → Shared → Prop} {s : Shared} {t u : Tok} {Q : Value → Shared → Prop} {x y : Str} {a b : List Nat}
theorem addT (hx : x = txt a) (hy : y = txt b) (hsz : a.length + b.length ≤ 1000) (h : ∀ t' tk, Q (.str (txt (a ++ b)) t') { s with toks := tk }) :
    wpAny (model prog w) A (binaryOp .Add (.str x t) (.str y u)) Q E s := by
  subst hx hy
  refine add_str (fun t' tk => ?_) (by rw [txt_length, txt_length, sizeLine_eq]; omega)
  rw [txt_append]; exact h t' tk
theorem lenT (hx : x = txt a) (hsz : a.length ≤ 1000) (h : ∀ t' tk, Q (.int (a.length : Int) t') { s with toks := tk }) :
    wpAny (model prog w) A (call (.builtin "len") [.str x t]) Q E s := by
  subst hx
  refine len_str (by rw [txt_length]; omega) ?_
  rw [txt_length]; exact h _ _
theorem fold_app (c : Nat) : ∀ (n : Nat) (acc : Array Nat), ((List.replicate n #[c]).foldl (· ++ ·) acc) = acc ++ (List.replicate n c).toArray
  | 0, acc => by simp
  | n + 1, acc => by
    rw [List.replicate_succ, List.foldl_cons, fold_app c n, List.replicate_succ]
    apply Array.toList_inj.mp
    simp
theorem mul_zero_txt (i : Int) : Txt.mul (Str.ofString "0") i = txt (List.replicate i.toNat 48) := by
  have e0 : Str.ofString "0" = ⟨#[48]⟩ := by decide +kernel
  rw [e0]
  unfold Txt.mul
  by_cases h : i < 1
  · rw [if_pos h]
    have : i.toNat = 0 := by omega
    rw [this]; rfl
  · rw [if_neg h]
    by_cases h1 : i = 1
    · subst h1; rfl
    · have h2 : ((i == 1) || (Str.length ⟨#[48]⟩ == 0)) = false := by
        rw [beq_eq_false_iff_ne.mpr h1]; rfl
      rw [h2]
      simp only [Bool.false_eq_true, if_false]
      show Str.mk ((List.replicate i.toNat #[48]).foldl (· ++ ·) #[]) = txt (List.replicate i.toNat 48)
      rw [fold_app]
      show Str.mk _ = Str.mk _
      simp
theorem mulT {i : Int} (h0 : -1000 ≤ i) (h1 : i ≤ 1000) (h : ∀ t' tk, Q (.str (txt (List.replicate i.toNat 48)) t') { s with toks := tk }) :
    wpAny (model prog w) A (binaryOp .Mult (.str (Str.ofString "0") t) (.int i u)) Q E s := by
  refine SB.mul (mulOk_of 16 1048576 (by decide) (by omega) (by omega) (by decide) (by decide)) fun t' tk => ?_
  rw [mul_zero_txt]; exact h t' tk
/-- an item of a written text at a known place -/
theorem itemT {value slice : Expr} {i : Int} (k : Nat) (f : Nat → Nat) (hx : x.length = k ∧ ∀ j : Nat, j < k → Txt.item x (j : Int) = txt [f j]) (h0 : 0 ≤ i) (h1 : i < (k : Int)) (hk : k ≤ 64) (h : ∀ t' tk, Q (.str (txt [f i.toNat]) t') { s with toks := tk })
    (hs : subscripted slice false (.str x t) (.int i u) = operate [.str x t, .int i u] (getItem (.str x t) (.int i u)) := by with_unfolding_all rfl)
    (ht : ∀ r, letTemporaryGo value (.str x t) r = pure () := by intro _; with_unfolding_all rfl) :
    wpAny (model prog w) A (subscriptTail value slice (.str x t) (.int i u)) Q E s := by
  refine item_str (fitsSsize_of (N := 9223372036854775808) (by omega) (by omega) (Int.le_refl _)) (by omega) (by rw [hx.1]; omega) (fun _ => ?_) hs ht
  have e := hx.2 i.toNat (by omega)
  rw [show ((i.toNat : Nat) : Int) = i by omega] at e
  rw [e]; exact h _ _
end
theorem tab2 : (Str.ofString "01").length = 2 ∧ ∀ j : Nat, j < 2 → Txt.item (Str.ofString "01") (j : Int) = txt [hexd j] := by decide +kernel
theorem tab8 : (Str.ofString "01234567").length = 8 ∧ ∀ j : Nat, j < 8 → Txt.item (Str.ofString "01234567") (j : Int) = txt [hexd j] := by decide +kernel
theorem tab16 : (Str.ofString "0123456789abcdef").length = 16 ∧ ∀ j : Nat, j < 16 → Txt.item (Str.ofString "0123456789abcdef") (j : Int) = txt [hexd j] := by decide +kernel
theorem tabR : (Str.ofString "12345678").length = 8 ∧ ∀ j : Nat, j < 8 → Txt.item (Str.ofString "12345678") (j : Int) = txt [49 + j] := by decide +kernel
theorem tabC : (Str.ofString "abcdefgh").length = 8 ∧ ∀ j : Nat, j < 8 → Txt.item (Str.ofString "abcdefgh") (j : Int) = txt [97 + j] := by decide +kernel
/-- a number's signs, from the low end -/
structure TxInv (B n₀ : Nat) (n : Int) (l : List Nat) : Prop where
  nn : 0 ≤ n
  lt : n < 2 ^ 64
  eq : dig B n.toNat ++ l = dig B n₀
theorem TxInv.start {B : Nat} {n : Int} (h0 : 0 ≤ n) (h1 : n < 2 ^ 64) : TxInv B n.toNat n [] := ⟨h0, h1, by simp⟩
theorem TxInv.len {B n₀ : Nat} {n : Int} {l : List Nat} (hB : 2 ≤ B) (hn : n₀ < 2 ^ 64) (h : TxInv B n₀ n l) : l.length ≤ 64 := by
  have h1 := dig_len hB 64 n₀ hn
  have h2 := congrArg List.length h.eq
  rw [List.length_append] at h2
  omega
theorem mask_facts (n : Int) (k : Nat) : 0 ≤ Builtin.bitAnd n (2 ^ k - 1) ∧ Builtin.bitAnd n (2 ^ k - 1) < 2 ^ k := by
  rw [kbt_mask]
  exact ⟨Int.emod_nonneg _ (Int.ne_of_gt (kbt_pos k)), Int.emod_lt_of_pos _ (kbt_pos k)⟩
theorem TxInv.turn {n₀ : Nat} {n : Int} {l : List Nat} {k : Nat} (hk : 1 ≤ k) (h : TxInv (2 ^ k) n₀ n l) (hp : 0 < n) :
    TxInv (2 ^ k) n₀ (n.fdiv (2 ^ k)) ([hexd (Builtin.bitAnd n (2 ^ k - 1)).toNat] ++ l) ∧ (n.fdiv (2 ^ k)).toNat < n.toNat := by
  obtain ⟨h0, h1, he⟩ := h
  obtain ⟨b, rfl⟩ : ∃ b : Nat, n = (b : Int) := ⟨n.toNat, by omega⟩
  rw [Int.toNat_natCast] at he
  have e1 : Int.fdiv (b : Int) (2 ^ k) = ((b / 2 ^ k : Nat) : Int) := by rw [shr_int_nat, Nat.shiftRight_eq_div_pow]
  have e2 : (Builtin.bitAnd (b : Int) (2 ^ k - 1)).toNat = b % 2 ^ k := by
    rw [kbt_mask]
    have : (b : Int) % 2 ^ k = ((b % 2 ^ k : Nat) : Int) := by rw [Int.natCast_emod, Int.natCast_pow]; rfl
    rw [this, Int.toNat_natCast]
  have hB : 2 ≤ 2 ^ k := by
    have : 2 ^ 1 ≤ 2 ^ k := Nat.pow_le_pow_right (by decide) hk
    omega
  have hlt : b / 2 ^ k < b := Nat.div_lt_self (by omega) (by omega)
  rw [e1, e2, Int.toNat_natCast, Int.toNat_natCast]
  refine ⟨⟨Int.natCast_nonneg _, Int.lt_of_lt_of_le (Int.ofNat_lt.mpr hlt) (Int.le_of_lt h1), ?_⟩, hlt⟩
  rw [Int.toNat_natCast, ← he, dig_pos hB (n := b) (by omega), List.append_assoc]
theorem TxInv.done {B n₀ : Nat} {n : Int} {l : List Nat} (h : TxInv B n₀ n l) (hp : ¬ 0 < n) : l = dig B n₀ := by
  have e : n.toNat = 0 := by have := h.nn; omega
  have := h.eq
  rw [e, dig_zero, List.nil_append] at this
  exact this
theorem empty_txt : Str.ofString "" = txt [] := by decide +kernel
theorem pad_eq {wd : Int} {l : List Nat} (h0 : 0 ≤ wd) : List.replicate (wd - (l.length : Int)).toNat 48 ++ l = pad wd.toNat l := by
  unfold pad
  congr 2
  omega
end Mine
namespace Mine
open PySem PySem.Spec PySem.Calls PySem.W PyProof.Rows
theorem pad1 {B n : Nat} (hB : 2 ≤ B) (hn : n ≠ 0) : pad 1 (dig B n) = dig B n := by
  unfold pad
  have : (dig B n).length ≠ 0 := fun h => dig_ne hB hn (List.eq_nil_of_length_eq_zero h)
  rw [show 1 - (dig B n).length = 0 by omega]
  rfl
theorem zero_txt (B : Nat) : Str.ofString "0" = txt (pad 1 (dig B 0)) := by
  rw [dig_zero]
  decide +kernel
end Mine
namespace Mine
open PySem PySem.Spec PySem.Calls PySem.W PyProof.Rows
theorem pad_len (k : Nat) (l : List Nat) : (pad k l).length ≤ k + l.length := by
  unfold pad
  rw [List.length_append, List.length_replicate]
  omega
theorem pad_dig_len {k B n : Nat} (hB : 2 ≤ B) (hk : k ≤ 100) (hn : n < 2 ^ 64) : (pad k (dig B n)).length ≤ 200 := by
  have h1 := pad_len k (dig B n)
  have h2 := dig_len hB 64 n hn
  omega
def mx (wd : Int) : Int := if wd > 1 then wd else 1
theorem mx_facts {wd : Int} (h0 : 0 ≤ wd) (h1 : wd ≤ 100) : 0 ≤ mx wd ∧ mx wd ≤ 100 := by
  unfold mx; split <;> omega
end Mine
namespace Mine
open PySem PySem.Spec PySem.Calls PySem.W PyProof.Rows
theorem row_col {q : Int} (h0 : 0 ≤ q) (h1 : q < 64) : 0 ≤ q.fmod 8 ∧ q.fmod 8 < ((8 : Nat) : Int) ∧ 0 ≤ q.fdiv 8 ∧ q.fdiv 8 < ((8 : Nat) : Int) := by
  have e1 : q.fdiv 8 = q / 8 := Int.fdiv_eq_ediv_of_nonneg _ (by decide)
  have e2 : q.fmod 8 = q % 8 := Int.fmod_eq_emod_of_nonneg _ (by decide)
  rw [e1, e2]
  omega
structure DgInv (b k : Nat) (l : List Nat) : Prop where
  eq : l = digT b k
theorem DgInv.start (b : Nat) : DgInv b 0 [] := ⟨rfl⟩
theorem DgInv.len {b k : Nat} {l : List Nat} (h : DgInv b k l) : l.length = k := by rw [h.eq, digT_len]
section
variable {b : Nat} {pre : List Int} {k : Int} {l : List Nat} (hb : b < 2 ^ 64) (e : k = 0 + (pre.length : Int)) (h : DgInv b pre.length l)
include hb e h
theorem DgInv.yes (c : ((up (sqs b)).any fun x => x == k) = true) : DgInv b (pre ++ [k]).length ([49] ++ l) := by
  have e1 : (pre ++ [k]).length = pre.length + 1 := by simp
  have e2 : k = ((pre.length : Nat) : Int) := by omega
  rw [any_mem, decide_eq_true_eq, e2] at c
  have := bitc_mem (s := pre.length) hb
  rw [if_pos c] at this
  rw [e1]
  exact ⟨by rw [h.eq]; show _ = bitc b pre.length :: digT b pre.length; rw [← this]; rfl⟩
theorem DgInv.no (c : ((up (sqs b)).any fun x => x == k) = false) : DgInv b (pre ++ [k]).length ([48] ++ l) := by
  have e1 : (pre ++ [k]).length = pre.length + 1 := by simp
  have e2 : k = ((pre.length : Nat) : Int) := by omega
  rw [any_mem, decide_eq_false_iff_not, e2] at c
  have := bitc_mem (s := pre.length) hb
  rw [if_neg c] at this
  rw [e1]
  exact ⟨by rw [h.eq]; show _ = bitc b pre.length :: digT b pre.length; rw [← this]; rfl⟩
end
end Mine
namespace Mine
open PySem PySem.Spec PySem.Calls PySem.W PyProof.Rows
theorem T_e : Str.ofString "" = txt [] := by decide +kernel
theorem T_0 : Str.ofString "0" = txt [48] := by decide +kernel
theorem T_1 : Str.ofString "1" = txt [49] := by decide +kernel
theorem T_0b : Str.ofString "0b" = txt [48, 98] := by decide +kernel
theorem T_0o : Str.ofString "0o" = txt [48, 111] := by decide +kernel
theorem T_0x : Str.ofString "0x" = txt [48, 120] := by decide +kernel
theorem T_sx : Str.ofString " x" = txt [32, 120] := by decide +kernel
theorem T_so : Str.ofString " o" = txt [32, 111] := by decide +kernel
theorem T_sd : Str.ofString " ." = txt [32, 46] := by decide +kernel
theorem T_x : Str.ofString "x" = txt [120] := by decide +kernel
theorem T_o : Str.ofString "o" = txt [111] := by decide +kernel
theorem T_d : Str.ofString "." = txt [46] := by decide +kernel
theorem T_foot : Str.ofString "  a b c d e f g h" = txt foot := by decide +kernel
end Mine
end
section
set_option autoImplicit false
set_option maxRecDepth 100000
namespace Mine
open PySem PySem.Spec PySem.Calls PySem.W PyProof.Rows
theorem slice_txt {l : List Nat} {i j : Int} (h0 : 0 ≤ i) (h1 : i ≤ j) (h2 : j ≤ (l.length : Int)) : Txt.slice (txt l) (some i) (some j) = txt ((l.drop i.toNat).take (j - i).toNat) :=
  StrLaws.sliceText_plain ⟨h0, h1, by simpa [txt] using h2⟩
section
variable {prog : Program} {w : World} {A : Around} {E : Value → Shared → Prop} {s : Shared} {env : Env} {h₀ : Heap} {x : Str} {body : List Stmt} {Q : Flow → Shared → Prop}
/-- a loop over a range with a step, by what holds at each turn -/
theorem rangeS {σ : Type} {r : Addr} {a₀ b₀ d : Int} {t₀ u₀ v₀ : Tok} {n : Nat} {m₀ : Str → Option Value} (Led : σ → List (Addr × Obj)) (ps : σ → List (Str × Value)) (stored : List Str) (J : Nat → σ → Prop) (c₀ : σ)
    (hh : A.handled = none) (hr : IsRange s.heap r a₀ b₀ d t₀ u₀ v₀) (hsmall : Builtin.Range.small a₀ b₀ d = true) (hn : Builtin.Range.rangeSize a₀ b₀ d = (n : Int)) (F : Fr h₀ env.locals s.heap m₀) (N : News h₀ env.locals s.heap (Led c₀)) (hk : ∀ p ∈ ps c₀, m₀ p.1 = some p.2) (hp : J 0 c₀)
    (turn : ∀ (c : σ) (i : Nat) t (u : Str → Option Value) h tk own, i < n → OwnOff own ((Led c₀).map (·.1)) → J i c →
      Fr h₀ env.locals h (fun y => if y = x then some (.int (a₀ + (i : Int) * d) t) else kstB (fun z => if stored.contains z then u z else m₀ z) (ps c) y) → News h₀ env.locals h (Led c ++ own) →
      wpAny (model prog w) A (execs body env) (InvPostN h₀ env.locals (KstS Led ps (fun _ => True) x stored m₀ (fun _ c => J (i + 1) c) []) own ((Led c₀).map (·.1)) { s with heap := h, toks := tk } Q) E { s with heap := h, toks := tk })
    (done : ∀ (c : σ) (u : Str → Option Value) h tk, J n c → Fr h₀ env.locals h (fun y => if y = x then u y else kstB (fun z => if stored.contains z then u z else m₀ z) (ps c) y) → News h₀ env.locals h (Led c) → Q .next { s with heap := h, toks := tk }) :
    wpAny (model prog w) A (pyIter (.ref r)) (fun it s₂ => LoopAtV prog w A h₀ env x body Q E it s₂) E s := by
  refine wpAny_pyIter_range hr hsmall ?_
  have W : Walks prog w A s.heap.objs.size [s.heap.objs.size] [s.heap.objs.size] n (fun i v => i < n ∧ ∃ t, v = .int (a₀ + i * d) t)
      (fun i h => IsRangeIter h s.heap.objs.size (a₀ + (i : Nat) * d) ((n : Int) - (i : Nat)) d) := (Walks.range hh _ a₀ d n).bound
  have hL : ∀ b : Addr, b ∈ [s.heap.objs.size] → b = s.heap.objs.size := fun b hb => List.mem_singleton.mp hb
  have hA : ∀ p ∈ Led c₀, p.1 ∉ [s.heap.objs.size] := fun p hp hI => Nat.lt_irrefl _ (by have := Heap.lt_size (N p hp).1; rwa [hL _ hI] at this)
  refine loop_invN (fun i m nx => KstS Led ps (fun _ => True) x stored m₀ (fun _ c => J i c) [] m nx) W (fun hm => Nat.lt_irrefl _ (by have := F.ns.lt; rwa [hL _ hm] at this)) (fun b hb => by rw [hL b hb]; exact next_is_new F) hA hA
    (by show IsRangeIter _ _ _ _ _; rw [hn]; simpa using Heap.get?_push_size _ rfl) (F.push _) (fun p hp => ⟨Heap.get?_push_of_some _ (N p hp).1, (N p hp).2⟩) ⟨c₀, rfl, trivial, hk, fun _ _ _ _ => rfl, hp⟩ ?_ ?_
  · rintro i v m₁ nx h tk own hi ⟨_, t, rfl⟩ _ hoff ⟨c, rfl, _, h1, h2, hp'⟩ F₁ N₁
    exact turn c i t m₁ h tk own hi hoff hp' (kst_fr h1 h2 F₁) N₁
  · rintro m₁ nx h tk ⟨c, rfl, _, h1, h2, hp'⟩ F₁ N₁
    exact done c m₁ h tk hp' (kst_frOut h1 h2 F₁) N₁
end
/-! the groups -/
structure GInv (b k j : Nat) (l : List Nat) : Prop where
  eq : l = dig (2 ^ k) (b / 2 ^ (72 - k * j))
theorem GInv.start {b k : Nat} (hb : b < 2 ^ 64) : GInv b k 0 [] := ⟨(group_start hb).symm⟩
theorem GInv.len {b k j : Nat} {l : List Nat} (hb : b < 2 ^ 64) (hk : 1 ≤ k) (h : GInv b k j l) : l.length ≤ 64 := by
  rw [h.eq]
  have hB : 2 ≤ 2 ^ k := by
    have : 2 ^ 1 ≤ 2 ^ k := Nat.pow_le_pow_right (by decide) hk
    omega
  exact dig_len hB 64 _ (Nat.lt_of_le_of_lt (Nat.div_le_self _ _) hb)
/-- what has been read of a piece -/
structure VInv (seg : List Nat) (pre : List Int) (v : Int) : Prop where
  eq : v = ((valOf (pre.map Int.toNat) : Nat) : Int)
theorem VInv.start (seg : List Nat) : VInv seg [] 0 := ⟨rfl⟩
theorem VInv.turn {seg : List Nat} {pre : List Int} {v : Int} (n : Nat) (h : VInv seg pre v) : VInv seg (pre ++ [(n : Int)]) (2 * v + ((n - 48 : Nat) : Int)) := by
  refine ⟨?_⟩
  rw [h.eq, List.map_append]
  unfold valOf
  rw [List.foldl_append]
  show _ = ((2 * _ + (((n : Int)).toNat - 48) : Nat) : Int)
  rw [Int.toNat_natCast]
  omega
theorem codes_txt (l : List Nat) : KStt.codes (txt l) = l.map (fun c : Nat => (c : Int)) := by
  unfold KStt.codes txt
  simp
theorem VInv.done {seg : List Nat} {v : Int} (h : VInv seg (KStt.codes (txt seg)) v) : v = ((valOf seg : Nat) : Int) := by
  rw [h.eq, codes_txt, List.map_map]
  congr 2
  exact (List.map_congr_left (g := _root_.id) fun c _ => Int.toNat_natCast c).trans (List.map_id _)
theorem bit_of_seg {b i k : Nat} {pre post : List Int} {n : Nat} (e : KStt.codes (txt (((digT b 72).drop i).take k)) = pre ++ (n : Int) :: post) : n = 48 ∨ n = 49 := by
  rw [codes_txt] at e
  have hm : (n : Int) ∈ (((digT b 72).drop i).take k).map (fun c : Nat => (c : Int)) := by rw [e]; simp
  obtain ⟨c, hc, hcn⟩ := List.mem_map.mp hm
  have hc' : c ∈ digT b 72 := List.mem_of_mem_drop (List.mem_of_mem_take hc)
  have key : ∀ t, ∀ c ∈ digT b t, c = 48 ∨ c = 49 := by
    intro t
    induction t with
    | zero => intro c h; cases h
    | succ t ih =>
      intro c h
      rcases List.mem_cons.mp h with rfl | h
      · unfold bitc; split <;> simp
      · exact ih c h
  have := key 72 c hc'
  omega
theorem val1 {a : Nat} (ha : a = 48 ∨ a = 49) : valOf [a] ≤ 7 := by rcases ha with rfl | rfl <;> decide
theorem val2 {a c : Nat} (ha : a = 48 ∨ a = 49) (hc : c = 48 ∨ c = 49) : valOf [a, c] ≤ 7 := by rcases ha with rfl | rfl <;> rcases hc with rfl | rfl <;> decide
theorem val3 {a c d : Nat} (ha : a = 48 ∨ a = 49) (hc : c = 48 ∨ c = 49) (hd : d = 48 ∨ d = 49) : valOf [a, c, d] ≤ 7 := by
  rcases ha with rfl | rfl <;> rcases hc with rfl | rfl <;> rcases hd with rfl | rfl <;> decide
theorem val_le7 : ∀ (l : List Int), l.length ≤ 3 → (∀ x ∈ l, x.toNat = 48 ∨ x.toNat = 49) → valOf (l.map Int.toNat) ≤ 7
  | [], _, _ => by decide
  | [a], _, hx => val1 (hx a (.head _))
  | [a, c], _, hx => val2 (hx a (.head _)) (hx c (.tail _ (.head _)))
  | [a, c, d], _, hx => val3 (hx a (.head _)) (hx c (.tail _ (.head _))) (hx d (.tail _ (.tail _ (.head _))))
  | _ :: _ :: _ :: _ :: r, h, _ => absurd h (by simp)
theorem len_le3 {p n q k : Nat} (h : p = n + (q + 1)) (h2 : p ≤ k) (hk : k ≤ 4) : n ≤ 3 := by omega
theorem small_v {v : Int} {n : Nat} (e : v = (n : Int)) (h : n ≤ 7) : 0 ≤ v ∧ v ≤ 15 := by omega
theorem VInv.small {b i k : Nat} {pre post : List Int} {n : Nat} {v : Int} (hk : k ≤ 4) (e : KStt.codes (txt (((digT b 72).drop i).take k)) = pre ++ (n : Int) :: post) (h : VInv (((digT b 72).drop i).take k) pre v) : 0 ≤ v ∧ v ≤ 15 := by
  have hl : pre.length ≤ 3 := by
    have := congrArg List.length e
    rw [codes_txt, List.length_map, List.length_append, List.length_cons] at this
    exact len_le3 this (List.length_take_le k ((digT b 72).drop i)) hk
  have hx : ∀ x ∈ pre, x.toNat = 48 ∨ x.toNat = 49 := by
    intro x hx
    obtain ⟨p1, p2, rfl⟩ := List.append_of_mem hx
    have hm : x ∈ KStt.codes (txt (((digT b 72).drop i).take k)) := by rw [e]; simp
    rw [codes_txt] at hm
    obtain ⟨c, hc, rfl⟩ := List.mem_map.mp hm
    obtain ⟨q1, q2, eq⟩ := List.append_of_mem hc
    have e' : KStt.codes (txt (((digT b 72).drop i).take k)) = (q1.map fun c : Nat => (c : Int)) ++ (c : Int) :: (q2.map fun c : Nat => (c : Int)) := by
      rw [codes_txt, eq]; simp
    rw [Int.toNat_natCast]
    exact bit_of_seg e'
  exact small_v h.eq (val_le7 pre hl hx)
theorem GInv.turn {b k j : Nat} {l : List Nat} {v : Int} (hk : 1 ≤ k) (hj : k * (j + 1) ≤ 72) (h : GInv b k j l) (hv : v = ((valOf (((digT b 72).drop (k * j)).take k) : Nat) : Int)) :
    (0 < v ∨ l ≠ [] → GInv b k (j + 1) (l ++ [hexd v.toNat])) ∧ (¬ (0 < v ∨ l ≠ []) → GInv b k (j + 1) l) ∧ 0 ≤ v ∧ v < 2 ^ k := by
  have g := group_step b k j hk hj
  rw [← h.eq] at g
  have hvn : v.toNat = valOf (((digT b 72).drop (k * j)).take k) := by rw [hv, Int.toNat_natCast]
  rw [← hvn] at g
  have e2 : 0 < v ↔ 0 < v.toNat := by omega
  have e1 : (0 < v ∨ l ≠ []) ↔ (0 < v.toNat ∨ l ≠ []) := by rw [e2]
  refine ⟨fun c => ⟨?_⟩, fun c => ⟨?_⟩, by rw [hv]; exact Int.natCast_nonneg _, ?_⟩
  · rw [← g]; unfold grow; rw [if_pos (e1.mp c)]
  · rw [← g]; unfold grow; rw [if_neg (fun q => c (e1.mpr q))]
  · have e0 : k * (j + 1) = k * j + k := Nat.mul_succ k j
    rw [hv, val_piece b (k * j) k (by omega)]
    have := Nat.mod_lt (b / 2 ^ (72 - (k * j + k))) (Nat.two_pow_pos k)
    exact_mod_cast this
theorem GInv.done {b k j : Nat} {l : List Nat} (h : GInv b k j l) (hj : k * j = 72) : l = dig (2 ^ k) b := by
  rw [h.eq, hj]; simp
end Mine
namespace Mine
open PySem PySem.Spec PySem.Calls PySem.W PyProof.Rows
theorem idx01 {prog : Program} {w : World} {A : Around} {E : Value → Shared → Prop} {s : Shared} {t u : Tok} {Q : Value → Shared → Prop} {n : Nat} (hn : n = 48 ∨ n = 49) (hA : A.handled = none) (h : ∀ t' tk, Q (.int ((n - 48 : Nat) : Int) t') { s with toks := tk }) :
    wpAny (model prog w) A (call (.builtin "str.index") [.str (Str.ofString "01") t, .str ⟨#[n]⟩ u]) Q E s := by
  rcases hn with rfl | rfl
  · refine index_or hA (fun e _ => absurd e (by decide +kernel)) fun _ _ => ?_
    rw [show Txt.find (Str.ofString "01") ⟨#[48]⟩ = ((48 - 48 : Nat) : Int) by decide +kernel]
    exact h _ _
  · refine index_or hA (fun e _ => absurd e (by decide +kernel)) fun _ _ => ?_
    rw [show Txt.find (Str.ofString "01") ⟨#[49]⟩ = ((49 - 48 : Nat) : Int) by decide +kernel]
    exact h _ _
theorem txt_nil_iff {l : List Nat} : txt l = Str.ofString "" ↔ l = [] := by
  rw [T_e]
  exact ⟨fun h => txt_inj h, fun h => by rw [h]⟩
end Mine
namespace Mine
open PySem PySem.Spec PySem.Calls PySem.W PyProof.Rows
theorem tx_ne {l : List Nat} (h : (txt l != Str.ofString "") = true) : l ≠ [] := fun e => by
  rw [bne_iff_ne] at h
  exact h (txt_nil_iff.mpr e)
theorem tx_eq {l : List Nat} (h : (txt l != Str.ofString "") = false) : l = [] := by
  rw [bne_eq_false_iff_eq] at h
  exact txt_nil_iff.mp h
theorem not_grow {v : Int} {l : List Nat} (h1 : ¬ 0 < v) (h2 : (txt l != Str.ofString "") = false) : ¬ (0 < v ∨ l ≠ []) := fun h => h.elim h1 fun q => q (tx_eq h2)
end Mine
end
section
set_option autoImplicit false
set_option maxRecDepth 100000
namespace Mine
open PySem PySem.Spec PySem.Calls PySem.W PyProof.Rows
/-- a list of texts, as lists of code points -/
structure TextsAre (us : List Value) (ts : List (List Nat)) : Prop where
  are : StrsAre us (ts.map txt)
theorem TextsAre.nil : TextsAre [] [] := ⟨.nil⟩
theorem TextsAre.snoc {us : List Value} {ts : List (List Nat)} {x : Str} {l : List Nat} {t : Tok} (h : TextsAre us ts) (hx : x = txt l) : TextsAre (us ++ [.str x t]) (ts ++ [l]) := by
  subst hx
  refine ⟨?_⟩
  rw [List.map_append]
  exact KStt.strs_snoc h.are
theorem TextsAre.len {us : List Value} {ts : List (List Nat)} (h : TextsAre us ts) : us.length = ts.length := by
  rw [h.are.length, List.length_map]
/-- the lines so far, from the top -/
def linesT (b : Nat) (o : Option Int) : Nat → List (List Nat)
  | 0 => []
  | i + 1 => linesT b o i ++ [rowT b o (7 - i) 8]
theorem linesT_len (b : Nat) (o : Option Int) : ∀ i, (linesT b o i).length = i
  | 0 => rfl
  | i + 1 => by show (linesT b o i ++ [_]).length = _; rw [List.length_append, linesT_len b o i]; rfl
theorem linesT_page (b : Nat) (o : Option Int) : linesT b o 8 ++ [foot] = pageT b o 8 := rfl
structure LnInv (b : Nat) (o : Option Int) (i : Nat) (us : List Value) : Prop where
  are : TextsAre us (linesT b o i)
theorem LnInv.len {b : Nat} {o : Option Int} {i : Nat} {us : List Value} (h : LnInv b o i us) : us.length = i := by rw [h.are.len, linesT_len]
/-- the signs of a row so far -/
def signsT (b : Nat) (o : Option Int) (r : Nat) : Nat → List (List Nat)
  | 0 => []
  | k + 1 => signsT b o r k ++ [[sign b o (8 * r + k)]]
theorem signsT_len (b : Nat) (o : Option Int) (r : Nat) : ∀ i, (signsT b o r i).length = i
  | 0 => rfl
  | i + 1 => by show (signsT b o r i ++ [_]).length = _; rw [List.length_append, signsT_len b o r i]; rfl
structure SgInv (b : Nat) (o : Option Int) (r i : Nat) (us : List Value) : Prop where
  are : TextsAre us (signsT b o r i)
theorem SgInv.len {b : Nat} {o : Option Int} {r i : Nat} {us : List Value} (h : SgInv b o r i us) : us.length = i := by rw [h.are.len, signsT_len]
end Mine
namespace Mine
open PySem PySem.Spec PySem.Calls PySem.W PyProof.Rows
section
variable {prog : Program} {w : World} {A : Around} {E : Value → Shared → Prop} {s : Shared} {h₀ : Heap} {L D : Addr} {m : Str → Option Value} {rest : List (Addr × Obj)} {its : List Value} {n : Nat} {x : Value} {Q : Value → Shared → Prop}
theorem appT (F : Fr h₀ L s.heap m) (N : News h₀ L s.heap ((D, listOf its.toArray n) :: rest)) (hne : ∀ p ∈ rest, p.1 ≠ D) (hsz : its.length ≤ 1000)
    (h : ∀ h', Fr h₀ L h' m → News h₀ L h' ((D, listOf (its ++ [x]).toArray (n + 1)) :: rest) → Q .none { s with heap := h' }) : wpAny (model prog w) A (call (.builtin "list.append") [.ref D, x]) Q E s := by
  refine append_K F N (.head hne) (fun h' F' N' => h h' F' ?_) (by rw [List.size_toArray, sizeLine_eq]; omega)
  rw [List.push_toArray] at N'
  exact N'
theorem joinT {t : Tok} {ts : List (List Nat)} (N : News h₀ L s.heap ((D, listOf its.toArray n) :: rest)) (hi : TextsAre its ts) (hw : ((ts.map txt).map (·.length)).sum + (ts.map txt).length ≤ 1048576)
    (h : ∀ t' k, Q (.str (Txt.join (Str.ofString " ") (ts.map txt)) t') { s with toks := k }) : wpAny (model prog w) A (call (.builtin "str.join") [.str (Str.ofString " ") t, .ref D]) Q E s :=
  join_listW ⟨_, (N _ (.head _)).1, rfl, n, rfl⟩ (by simpa using hi.are) (by decide +kernel) hw h
end
theorem ne_signs {l' : Addr} {o : Obj} {q : Addr × Obj} {own own1 r : List (Addr × Obj)} (l1 : ∀ p ∈ [q] ++ own, p.1 < l') (off : OwnOff own1 (List.map (fun x => x.fst) ((l', o) :: r))) : ∀ p ∈ (q :: own) ++ own1, p.1 ≠ l' := by
  intro p hp
  rcases List.mem_append.mp hp with hp | hp
  · exact Nat.ne_of_lt (l1 p hp)
  · exact off p hp _ (List.mem_cons_self)
theorem ne_lines {l' : Addr} {o : Obj} {own : List (Addr × Obj)} {r : List (Addr × Obj)} (off : OwnOff own (List.map (fun x => x.fst) ((l', o) :: r))) : ∀ p ∈ own, p.1 ≠ l' :=
  fun p hp => off p hp _ (List.mem_cons_self)
theorem eight {i : Nat} (h : i < 8) : i = 0 ∨ i = 1 ∨ i = 2 ∨ i = 3 ∨ i = 4 ∨ i = 5 ∨ i = 6 ∨ i = 7 :=
  (by decide : ∀ j : Fin 8, j.val = 0 ∨ j.val = 1 ∨ j.val = 2 ∨ j.val = 3 ∨ j.val = 4 ∨ j.val = 5 ∨ j.val = 6 ∨ j.val = 7) ⟨i, h⟩
theorem row_head {i : Nat} (h : i < 8) : Str.empty ++ Str.ofString (toString (7 + (i : Int) * -1 + 1)) ++ Str.ofString " " = txt [49 + (7 - i), 32] := by
  rcases eight h with rfl | rfl | rfl | rfl | rfl | rfl | rfl | rfl <;> decide +kernel
def jn (b : Nat) (o : Option Int) (r : Nat) : List Nat :=
  [sign b o (8 * r + 0), 32, sign b o (8 * r + 1), 32, sign b o (8 * r + 2), 32, sign b o (8 * r + 3), 32, sign b o (8 * r + 4), 32, sign b o (8 * r + 5), 32, sign b o (8 * r + 6), 32, sign b o (8 * r + 7)]
theorem join8 (a b c d e f g h : Nat) : Txt.join (txt [32]) [txt [a], txt [b], txt [c], txt [d], txt [e], txt [f], txt [g], txt [h]] = txt [a, 32, b, 32, c, 32, d, 32, e, 32, f, 32, g, 32, h] := by
  unfold Txt.join Builtin.Str.glued txt
  simp
theorem signs8 (b : Nat) (o : Option Int) (r : Nat) : (signsT b o r 8).map txt = [txt [sign b o (8 * r + 0)], txt [sign b o (8 * r + 1)], txt [sign b o (8 * r + 2)], txt [sign b o (8 * r + 3)], txt [sign b o (8 * r + 4)], txt [sign b o (8 * r + 5)], txt [sign b o (8 * r + 6)], txt [sign b o (8 * r + 7)]] := by
  simp [signsT]
theorem row_join (b : Nat) (o : Option Int) (r : Nat) : Txt.join (Str.ofString " ") ((signsT b o r 8).map txt) = txt (jn b o r) := by
  rw [show Str.ofString " " = txt [32] by decide +kernel, signs8, join8]
  rfl
theorem row_whole (b : Nat) (o : Option Int) (r : Nat) : [49 + r, 32] ++ jn b o r = rowT b o r 8 := rfl
theorem sgn_weight (b : Nat) (o : Option Int) (r : Nat) : (((signsT b o r 8).map txt).map (·.length)).sum + ((signsT b o r 8).map txt).length ≤ 1048576 := by
  rw [signs8]
  simp [txt_length]
section
variable {b : Int} {o : Option Int} {i c : Nat} (hb0 : 0 ≤ b) (hi : i < 8) (hc : c < 8)
include hb0 hi hc
theorem sq_toNat : (8 * (7 + (i : Int) * -1) + (0 + (c : Int) * 1)).toNat = 8 * (7 - i) + c := by omega
theorem bit_is : Builtin.bitAnd (b.fdiv (2 ^ (8 * (7 + (i : Int) * -1) + (0 + (c : Int) * 1)).toNat)) 1 = if b.toNat.testBit (8 * (7 - i) + c) then 1 else 0 := by
  rw [sq_toNat hb0 hi hc, bitAnd_m1]
  have e : b = ((b.toNat : Nat) : Int) := by omega
  generalize 8 * (7 - i) + c = k
  rw [fdiv_pow]
  conv => lhs; rw [e]
  have e2 : ((b.toNat : Nat) : Int) / 2 ^ k % 2 = ((b.toNat / 2 ^ k % 2 : Nat) : Int) := by
    rw [Int.natCast_emod, Int.natCast_ediv, Int.natCast_pow]; rfl
  rw [e2, Nat.testBit_eq_decide_div_mod_eq]
  by_cases h : b.toNat / 2 ^ k % 2 = 1
  · simp [h]
  · have : b.toNat / 2 ^ k % 2 = 0 := by omega
    simp [this]
theorem sg_x {us : List Value} {t : Tok} (h : SgInv b.toNat o (7 - i) c us) (q : Builtin.bitAnd (b.fdiv (2 ^ (8 * (7 + (i : Int) * -1) + (0 + (c : Int) * 1)).toNat)) 1 ≠ 0) : SgInv b.toNat o (7 - i) (c + 1) (us ++ [.str (Str.ofString "x") t]) := by
  refine ⟨?_⟩
  have e : sign b.toNat o (8 * (7 - i) + c) = 120 := by
    rw [bit_is hb0 hi hc] at q
    unfold sign
    split at q
    · rename_i h1; rw [if_pos h1]
    · exact absurd rfl q
  show TextsAre _ (signsT _ _ _ c ++ [[_]])
  rw [e]
  exact h.are.snoc T_x
theorem sg_o {us : List Value} {t : Tok} (h : SgInv b.toNat o (7 - i) c us) (q : Builtin.bitAnd (b.fdiv (2 ^ (8 * (7 + (i : Int) * -1) + (0 + (c : Int) * 1)).toNat)) 1 = 0) (ho : o = some (8 * (7 + (i : Int) * -1) + (0 + (c : Int) * 1))) : SgInv b.toNat o (7 - i) (c + 1) (us ++ [.str (Str.ofString "o") t]) := by
  refine ⟨?_⟩
  have e : sign b.toNat o (8 * (7 - i) + c) = 111 := by
    rw [bit_is hb0 hi hc] at q
    unfold sign
    split at q
    · exact absurd q (by decide)
    · rename_i h1
      rw [if_neg h1, if_pos]
      rw [ho]; congr 1; omega
  show TextsAre _ (signsT _ _ _ c ++ [[_]])
  rw [e]
  exact h.are.snoc T_o
theorem sg_d {us : List Value} {t : Tok} (h : SgInv b.toNat o (7 - i) c us) (q : Builtin.bitAnd (b.fdiv (2 ^ (8 * (7 + (i : Int) * -1) + (0 + (c : Int) * 1)).toNat)) 1 = 0) (ho : o ≠ some (8 * (7 + (i : Int) * -1) + (0 + (c : Int) * 1))) : SgInv b.toNat o (7 - i) (c + 1) (us ++ [.str (Str.ofString ".") t]) := by
  refine ⟨?_⟩
  have e : sign b.toNat o (8 * (7 - i) + c) = 46 := by
    rw [bit_is hb0 hi hc] at q
    unfold sign
    split at q
    · exact absurd q (by decide)
    · rename_i h1
      rw [if_neg h1, if_neg]
      intro h2
      refine ho (h2.trans ?_)
      congr 1; omega
  show TextsAre _ (signsT _ _ _ c ++ [[_]])
  rw [e]
  exact h.are.snoc T_d
end
theorem ln_turn {b : Nat} {o : Option Int} {i : Nat} {us : List Value} {t : Tok} (h : LnInv b o i us) : LnInv b o (i + 1) (us ++ [.str (txt ([49 + (7 - i), 32] ++ jn b o (7 - i))) t]) := ⟨h.are.snoc rfl⟩
theorem ln_done {b : Nat} {o : Option Int} {us : List Value} {t : Tok} (h : LnInv b o 8 us) : StrsAre (us ++ [.str (Str.ofString "  a b c d e f g h") t]) ((pageT b o 8).map txt) := by
  have := (h.are.snoc (t := t) T_foot).are
  rw [linesT_page] at this
  exact this
end Mine
end
section
set_option autoImplicit false
set_option maxRecDepth 100000
namespace Mine
open PySem PySem.Spec PySem.Calls PySem.W PyProof.Rows
theorem kstB_self {m : Str → Option Value} {ps : List (Str × Value)} (h : ∀ p ∈ ps, m p.1 = some p.2) : kstB m ps = m := funext fun _ => kstB_eq h fun _ => rfl
theorem fr_known {h₀ h : Heap} {L : Addr} {m : Str → Option Value} (ps : List (Str × Value)) (F : Fr h₀ L h m) (hk : ∀ p ∈ ps, m p.1 = some p.2) : Fr h₀ L h (kstB m ps) := by
  rw [kstB_self hk]; exact F
/-- how a turn ends where the ledger's addresses may turn too -/
def GEnd (h₀ : Heap) (L : Addr) (s₁ : Shared) (own : List (Addr × Obj)) (J : (Str → Option Value) → List (Addr × Obj) → Prop) (s₂ : Shared) : Prop :=
  ∃ h' tk m' news' nx, s₂ = { s₁ with heap := h', toks := tk } ∧ Fr h₀ L h' m' ∧ News h₀ L h' news' ∧ (∀ p ∈ nx, p ∈ news') ∧ (∀ p ∈ own, p ∈ news') ∧ (∀ p ∈ nx, ∀ q ∈ own, p.1 ≠ q.1) ∧ J m' nx
def GPost (h₀ : Heap) (L : Addr) (s₁ : Shared) (own : List (Addr × Obj)) (J : (Str → Option Value) → List (Addr × Obj) → Prop) (Q : Flow → Shared → Prop) (f : Flow) (s₂ : Shared) : Prop :=
  match f with
  | .ret v => Q (.ret v) s₂
  | .brk => Q .next s₂
  | _ => GEnd h₀ L s₁ own J s₂
section
variable {prog : Program} {w : World} {A : Around} {E : Value → Shared → Prop} {s : Shared} {env : Env} {h₀ : Heap} {x : Str} {body : List Stmt} {Q : Flow → Shared → Prop}
theorem rangeG {r : Addr} {a₀ b₀ d : Int} {t₀ u₀ v₀ : Tok} {n : Nat} {m₀ : Str → Option Value} {news : List (Addr × Obj)} (J : Nat → (Str → Option Value) → List (Addr × Obj) → Prop)
    (hh : A.handled = none) (hr : IsRange s.heap r a₀ b₀ d t₀ u₀ v₀) (hsmall : Builtin.Range.small a₀ b₀ d = true) (hn : Builtin.Range.rangeSize a₀ b₀ d = (n : Int)) (F : Fr h₀ env.locals s.heap m₀) (N : News h₀ env.locals s.heap news) (hp : J 0 m₀ news)
    (turn : ∀ (i : Nat) t m₁ nx h tk own, i < n → (∀ p ∈ nx, ∀ q ∈ own, p.1 ≠ q.1) → J i m₁ nx →
      Fr h₀ env.locals h (fun y => if y = x then some (.int (a₀ + (i : Int) * d) t) else m₁ y) → News h₀ env.locals h (nx ++ own) →
      wpAny (model prog w) A (execs body env) (GPost h₀ env.locals { s with heap := h, toks := tk } own (J (i + 1)) Q) E { s with heap := h, toks := tk })
    (done : ∀ m₁ nx h tk, J n m₁ nx → Fr h₀ env.locals h m₁ → News h₀ env.locals h nx → Q .next { s with heap := h, toks := tk }) :
    wpAny (model prog w) A (pyIter (.ref r)) (fun it s₂ => LoopAtV prog w A h₀ env x body Q E it s₂) E s := by
  refine wpAny_pyIter_range hr hsmall ?_
  have W : Walks prog w A s.heap.objs.size [s.heap.objs.size] [s.heap.objs.size] n (fun i v => i < n ∧ ∃ t, v = .int (a₀ + i * d) t)
      (fun i h => IsRangeIter h s.heap.objs.size (a₀ + (i : Nat) * d) ((n : Int) - (i : Nat)) d) := (Walks.range hh _ a₀ d n).bound
  have hL : ∀ b : Addr, b ∈ [s.heap.objs.size] → b = s.heap.objs.size := fun b hb => List.mem_singleton.mp hb
  have hnew := next_is_new F
  refine ⟨_, _, _, n, _, _, m₀, news, J, rfl, W, fun hm => Nat.lt_irrefl _ (by have := F.ns.lt; rwa [hL _ hm] at this), fun b hb => by rw [hL b hb]; exact hnew,
    fun p hp hI => Nat.lt_irrefl _ (by have := Heap.lt_size (N p hp).1; rwa [hL _ hI] at this), (by show IsRangeIter _ _ _ _ _; rw [hn]; simpa using Heap.get?_push_size _ rfl), F.push _, (fun p hp => ⟨Heap.get?_push_of_some _ (N p hp).1, (N p hp).2⟩), hp, ?_, ?_⟩
  · rintro i v m₁ news₁ s₁ own ⟨hh', tk', rfl⟩ hin ⟨_, t, rfl⟩ hJ hoff hown _ hall hst F₁ N₁
    have hI : (s.heap.objs.size, ({ cls := .type "range_iterator", data := .fields #[rawInt (a₀ + ((i + 1 : Nat) : Int) * d), rawInt ((n : Int) - ((i + 1 : Nat) : Int)), rawInt d] } : Obj)) ∈ own :=
      hall s.heap.objs.size (List.mem_singleton.mpr rfl) hnew _ hst
    have hsep : ∀ p ∈ news₁, ∀ q ∈ own, p.1 ≠ q.1 := fun p hp q hq e => hoff p hp (by rw [e]; exact hown q hq)
    have N₂ : News h₀ env.locals hh' (news₁ ++ own) := fun p hp => N₁ p ((List.mem_append.mp hp).elim (fun h => List.mem_append.mpr (.inr h)) fun h => List.mem_append.mpr (.inl h))
    refine wpAny_mono (turn i t m₁ news₁ hh' tk' own hin hsep hJ F₁ N₂) (fun f s₂ p => ?_) fun _ _ e => e
    have fin : GEnd h₀ env.locals { s with heap := hh', toks := tk' } own (J (i + 1)) s₂ → LoopStepU h₀ env.locals [s.heap.objs.size] own (J (i + 1)) { s with heap := hh', toks := tk' } .next s₂ := by
      rintro ⟨h', tk, m', news', nx, e, F', N', hn', ho, hs, hm⟩
      refine ⟨rfl, h', tk, m', nx, e, F', fun p hp => N' p ((List.mem_append.mp hp).elim (ho p) (hn' p)), fun p hp hq => ?_, hm⟩
      exact hs p hp _ hI (hL _ hq)
    cases f with
    | ret v => exact p
    | brk => exact p
    | next => exact fin p
    | cont => exact fin p
  · rintro h' tk m' news' F' N' _ hJ
    exact done m' news' h' tk hJ F' N'
end
/-! the law's own page -/
structure PgInv (b : Nat) (o : Option Int) (i : Nat) (us : List Value) : Prop where
  are : TextsAre us (pageT b o i)
theorem pageT_len (b : Nat) (o : Option Int) : ∀ i, (pageT b o i).length = i + 1
  | 0 => rfl
  | i + 1 => by show (pageT b o i).length + 1 = _; rw [pageT_len b o i]
theorem PgInv.len {b : Nat} {o : Option Int} {i : Nat} {us : List Value} (h : PgInv b o i us) : us.length = i + 1 := by rw [h.are.len, pageT_len]
theorem PgInv.start {b : Nat} {o : Option Int} {t : Tok} : PgInv b o 0 [.str (Str.ofString "  a b c d e f g h") t] := ⟨TextsAre.nil.snoc T_foot⟩
structure RwInv (b : Nat) (o : Option Int) (r k : Nat) (l : List Nat) : Prop where
  eq : l = rowT b o r k
theorem RwInv.len {b : Nat} {o : Option Int} {r k : Nat} {l : List Nat} (h : RwInv b o r k l) : l.length = 2 * k + 1 := by rw [h.eq, rowT_len]
theorem PgInv.turn {b : Nat} {o : Option Int} {i : Nat} {us : List Value} {l : List Nat} {t : Tok} (h : PgInv b o i us) (hl : RwInv b o i 8 l) : PgInv b o (i + 1) ([.str (txt l) t] ++ us) := by
  refine ⟨⟨?_⟩⟩
  rw [hl.eq]
  exact .cons _ _ h.are.are
section
variable {b : Nat} {o : Option Int} {i c : Nat} {l : List Nat} (hb : b < 2 ^ 64) (h : RwInv b o i c l)
include hb h
theorem at_eq : (8 * (0 + (i : Int) * 1) + (0 + (c : Int) * 1)) = ((8 * i + c : Nat) : Int) := by omega
theorem in_sqs : ((up (sqs b)).any fun x => x == 8 * (0 + (i : Int) * 1) + (0 + (c : Int) * 1)) = b.testBit (8 * i + c) := by
  rw [any_mem, at_eq hb h]
  have := bitc_mem (s := 8 * i + c) hb
  unfold bitc at this
  cases hq : b.testBit (8 * i + c) with
  | true =>
    rw [hq] at this
    simp only [if_true] at this
    by_cases hm : ((8 * i + c : Nat) : Int) ∈ up (sqs b)
    · exact decide_eq_true hm
    · rw [if_neg hm] at this; omega
  | false =>
    rw [hq] at this
    simp only [Bool.false_eq_true, if_false] at this
    by_cases hm : ((8 * i + c : Nat) : Int) ∈ up (sqs b)
    · rw [if_pos hm] at this; omega
    · exact decide_eq_false hm
theorem rw_x (q : ((up (sqs b)).any fun x => x == 8 * (0 + (i : Int) * 1) + (0 + (c : Int) * 1)) = true) : RwInv b o i (c + 1) (l ++ [32, 120]) := by
  rw [in_sqs hb h] at q
  refine ⟨?_⟩
  show _ = rowT b o i c ++ [32, sign b o (8 * i + c)]
  unfold sign
  rw [if_pos q, h.eq]
theorem rw_o (q : ((up (sqs b)).any fun x => x == 8 * (0 + (i : Int) * 1) + (0 + (c : Int) * 1)) = false) (ho : o = some (8 * (0 + (i : Int) * 1) + (0 + (c : Int) * 1))) : RwInv b o i (c + 1) (l ++ [32, 111]) := by
  rw [in_sqs hb h] at q
  refine ⟨?_⟩
  show _ = rowT b o i c ++ [32, sign b o (8 * i + c)]
  unfold sign
  rw [if_neg (by rw [q]; decide), if_pos (by rw [ho, at_eq hb h]), h.eq]
theorem rw_d (q : ((up (sqs b)).any fun x => x == 8 * (0 + (i : Int) * 1) + (0 + (c : Int) * 1)) = false) (ho : o ≠ some (8 * (0 + (i : Int) * 1) + (0 + (c : Int) * 1))) : RwInv b o i (c + 1) (l ++ [32, 46]) := by
  rw [in_sqs hb h] at q
  refine ⟨?_⟩
  show _ = rowT b o i c ++ [32, sign b o (8 * i + c)]
  unfold sign
  rw [if_neg (by rw [q]; decide), if_neg (fun e => ho (by rw [e, at_eq hb h])), h.eq]
end
end Mine
namespace Mine
open PySem PySem.Spec PySem.Calls PySem.W PyProof.Rows
theorem rw_start (b : Nat) (o : Option Int) (i : Nat) : RwInv b o i 0 [49 + (0 + (i : Int) * 1).toNat] := by
  rw [show (0 + (i : Int) * 1).toNat = i by omega]
  exact ⟨rfl⟩
end Mine
namespace Mine
open PySem PySem.Spec PySem.Calls PySem.W PyProof.Rows
theorem page_end {h₀ h h2 : Heap} {L la l' : Addr} {m' : Str → Option Value} {own : List (Addr × Obj)} {o0 o1 o2 : Obj} {J : (Str → Option Value) → List (Addr × Obj) → Prop} {s₁ : Shared} {tk : Nat}
    (F : Fr h₀ L h m') (N : News h₀ L h ((h2.objs.size, o0) :: (l', o1) :: ([(la, o2)] ++ own))) (N2 : News h₀ L h2 ((l', o1) :: ([(la, o2)] ++ own))) (hJ : J m' [(h2.objs.size, o0)]) :
    GEnd h₀ L s₁ own J { s₁ with heap := h, toks := tk } := by
  refine ⟨h, tk, m', _, _, rfl, F, N, ?_, ?_, ?_, hJ⟩
  · intro p hp
    rw [List.mem_singleton.mp hp]
    exact .head _
  · exact fun p hp => .tail _ (.tail _ (List.mem_append_right _ hp))
  · intro p hp q hq
    rw [List.mem_singleton.mp hp]
    exact Nat.ne_of_gt (Heap.lt_size (N2 q (.tail _ (List.mem_append_right _ hq))).1)
end Mine
end
section
set_option autoImplicit false
set_option maxRecDepth 100000
namespace Mine
open PySem PySem.Spec PySem.Calls PySem.W PyProof.Rows
/-- a mark: the walk stops here -/
def Stop (P : Prop) : Prop := P
theorem stopC {P : Prop} (h : Stop P) : P := h
theorem fm_nn (x : Int) {k : Int} (hk : 0 < k) : 0 ≤ x.fmod k := Int.fmod_nonneg_of_pos x hk
theorem fm_lt (x : Int) {k : Int} (hk : 0 < k) : x.fmod k < k := Int.fmod_lt_of_pos x hk
end Mine
end
section
set_option autoImplicit false
set_option maxRecDepth 100000
namespace Mine
open PySem PySem.Spec PySem.Calls PySem.W PyProof.Rows
theorem adjust_to (k n : Nat) (hk : k ≤ n) : Builtin.Slice.sliceAdjust none (some (k : Int)) 1 (n : Int) = (0, (k : Int)) := by
  unfold Builtin.Slice.sliceAdjust
  have h1 : ¬ ((1 : Int) < 0) := by omega
  have h2 : ¬ ((k : Int) < 0) := by omega
  simp only [h1, h2, if_false]
  congr 1
  omega
theorem places_to (k : Nat) : Builtin.Slice.slicePlaces 0 (k : Int) 1 = k := by
  unfold Builtin.Slice.slicePlaces
  have h1 : (1 : Int) > 0 := by omega
  simp only [h1, if_true, Int.ediv_one]
  split <;> omega
section
variable {prog : Program} {w : World} {A : Around} {E : Value → Shared → Prop} {s : Shared}
theorem applied_to {sl : Addr} {k n : Nat} {u : Tok} {Q : Int × Int × Nat → Shared → Prop} (hs : s.heap.IsSliceOf sl .none (.int k u) .none) (hk : k ≤ n) (h : Q (0, 1, k) s) :
    wpAny (model prog w) A (Builtin.Slice.sliceApplied (.ref sl) (pure (n : Int))) Q E s := by
  obtain ⟨os, hos, hcs, hds⟩ := id hs
  unfold Builtin.Slice.sliceApplied Builtin.Slice.sliceFields
  refine wpAny_bind (wpAny_bind (wpAny_field hos hds (x := .none) rfl (wpAny_bind (wpAny_field hos hds (x := .int k u) rfl (wpAny_bind (wpAny_field hos hds (x := .none) rfl (wpAny_pure ?_)))))))
  refine wpAny_bind (slicePart_none ?_)
  show wpAny _ _ (if ((1 : Int) == 0) = true then _ else _) _ _ s
  rw [if_neg (by decide)]
  refine wpAny_bind (slicePart_none (wpAny_bind (slicePart_int (wpAny_bind (wpAny_pure ?_)))))
  show wpAny _ _ (match Builtin.Slice.sliceAdjust none (some (k : Int)) 1 (n : Int) with | (lo, hi) => pure (lo, (1 : Int), Builtin.Slice.slicePlaces lo hi 1)) _ _ s
  rw [adjust_to k n hk]
  show wpAny _ _ (pure ((0 : Int), (1 : Int), Builtin.Slice.slicePlaces 0 (k : Int) 1)) _ _ s
  rw [places_to k]
  exact wpAny_pure h
theorem pick_to (xs : Array Value) (k : Nat) : ((List.range k).filterMap fun (j : Nat) => xs[((0 : Int) + (j : Int) * 1).toNat]?).toArray = (xs.toList.take k).toArray := by
  have e : (fun (j : Nat) => xs[((0 : Int) + (j : Int) * 1).toNat]?) = fun j => xs[0 + j]? := by
    funext j
    have : ((0 : Int) + (j : Int) * 1).toNat = 0 + j := by omega
    rw [this]
  rw [e]
  have := pick_run xs 0 k
  rw [List.filterMap_map, List.drop_zero] at this
  have e2 : ((fun x => xs[x]?) ∘ fun x => 0 + x) = fun j => xs[0 + j]? := rfl
  rw [e2] at this
  rw [this]
theorem getItem_to {t sl : Addr} {items : Array Value} {k : Nat} {u : Tok} {Q : Value → Shared → Prop} (ht : IsTup s.heap t items) (hs : s.heap.IsSliceOf sl .none (.int k u) .none) (hk : k ≤ items.size)
    (h1 : k = items.size → Q (.ref t) s)
    (h2 : Q (.ref s.heap.objs.size) { s with heap := s.heap.push { cls := .type "tuple", data := .seq (items.toList.take k).toArray } })
    (hsz : items.size ≤ sizeLine) : wpAny (model prog w) A (getItem (.ref t) (.ref sl)) Q E s := by
  have htake : sizeOk (.seq (items.toList.take k).toArray) := by
    show (items.toList.take k).toArray.size ≤ sizeLine
    rw [List.size_toArray, List.length_take, Array.length_toList]
    omega
  obtain ⟨os, hos, hcs, hds⟩ := id hs
  have hTs : s.TypeIs (.ref sl) "slice" := ⟨os, hos, hcs⟩
  unfold getItem
  try with_reducible refine wpAny_holding ?_
  first | refine wpAny_bind (wpAny_pure ?_) | skip
  refine wpAny_bind (wpAny_sequenceKey ht.typeIs (by decide) ?_)
  refine wpAny_bind (wpAny_callSpecial?_slot (name := Str.ofString "__getitem__") ht.typeIs slot_tuple_getitem
    (wpAny_call_entry slot_tuple_getitem ht.typeIs entry_tuple_getitem ?_ (args_tuple_getitem _ _)))
  show wpAny _ _ (Builtin.Tuple.tupleItemsOf (.ref t) >>= _) _ _ s
  refine wpAny_bind (tupleItemsOf_ ht ?_)
  refine wpAny_bind (wpAny_typeOf hTs ?_)
  rw [if_pos (by decide)]
  refine wpAny_bind (applied_to hs hk ?_)
  show wpAny _ _ (if ((0 : Int) == 0 && (1 : Int) == 1 && k == items.size) = true then _ else _) _ _ s
  by_cases e : k = items.size
  · have hyes : ((0 : Int) == 0 && (1 : Int) == 1 && k == items.size) = true := by simp [e]
    rw [if_pos hyes]
    first
      | exact wpAny_pure ⟨_, rfl, wpAny_pure (h1 e)⟩
      | exact wpAny_bind (wpAny_pure ⟨_, rfl, wpAny_pure (h1 e)⟩)
      | (refine wpAny_bind ?_
         unfold Builtin.Tuple.tupleIsExact
         refine wpAny_bind (wpAny_typeOf ht.typeIs (wpAny_pure ?_))
         rw [if_pos (by decide)]
         refine wpAny_bind (wpAny_rule ?_)
         exact wpAny_pure ⟨_, rfl, wpAny_pure (h1 e)⟩)
  · have hno : ¬ (((0 : Int) == 0 && (1 : Int) == 1 && k == items.size) = true) := by simp [e]
    rw [if_neg hno, pick_to items k]
    first
      | exact wpAny_bind (m := Builtin.Tuple.tupleExact _) (wpAny_newObj_type (wpAny_pure ⟨_, rfl, wpAny_pure h2⟩) htake)
      | exact wpAny_bind (m := Builtin.Tuple.tupleExact _) (wpAny_newObj_type (wpAny_bind (wpAny_pure (wpAny_pure ⟨_, rfl, wpAny_pure h2⟩))) htake)
      | exact wpAny_bind (wpAny_bind (m := Builtin.Tuple.tupleExact _) (wpAny_newObj_type (wpAny_pure (wpAny_pure ⟨_, rfl, wpAny_pure h2⟩)) htake))
      | exact wpAny_bind (wpAny_bind (m := Builtin.Tuple.tupleExact _) (wpAny_newObj_type (wpAny_pure ⟨_, rfl, wpAny_pure h2⟩) htake))
end
section
variable {prog : Program} {w : World} {A : Around} {E : Value → Shared → Prop} {s : Shared} {h₀ : Heap} {L : Addr} {m : Str → Option Value} {news : List (Addr × Obj)}
/-- a tuple cut at the top; the new tuple need not be kept in the ledger -/
theorem cut_tuple {value slice : Expr} {t : Addr} {items : List Value} {i : Int} {u : Tok} {Q : Value → Shared → Prop}
    (F : Fr h₀ L s.heap m) (N : News h₀ L s.heap news) (ht : IsTup s.heap t items.toArray) (hi0 : 0 ≤ i) (hi1 : i ≤ (items.length : Int)) (hz : items.length ≤ 1000)
    (h : ∀ D h', Fr h₀ L h' m → News h₀ L h' news → IsTup h' D (items.take i.toNat).toArray → Q (.ref D) { s with heap := h' })
    (hs : subscripted slice false (.ref t) (.ref s.heap.objs.size) = operate [.ref s.heap.objs.size, .ref t] (getItem (.ref t) (.ref s.heap.objs.size)) := by with_unfolding_all rfl)
    (hg : ∀ r, letTemporaryGo value (.ref t) r = pure () := by intro _; with_unfolding_all rfl) :
    wpAny (model prog w) A (subscriptTail value slice (.ref t) (.ref s.heap.objs.size)) Q E { s with heap := s.heap.push { cls := .type "slice", data := .fields #[.none, .int i u, .none] } } := by
  obtain ⟨k, rfl⟩ : ∃ k : Nat, i = (k : Int) := ⟨i.toNat, by omega⟩
  have ht' : IsTup (s.heap.push { cls := .type "slice", data := .fields #[.none, .int (k : Int) u, .none] }) t items.toArray := ht.keeps fun _ _ e => Heap.get?_push_of_some _ e
  rw [Int.toNat_natCast] at h
  refine subscriptTail_ops (s := { s with heap := s.heap.push { cls := .type "slice", data := .fields #[.none, .int (k : Int) u, .none] } }) ht'.typeIs slot_tuple_getitem.lookup
    (getItem_to ht' (Heap.IsSliceOf.new ..) (by rw [List.size_toArray]; omega) (fun e => ?_) ?_ (by rw [List.size_toArray, sizeLine_eq]; omega)) hs hg
  · refine h t _ (F.push _) (N.grown fun _ _ e => Heap.get?_push_of_some _ e) ?_
    rw [List.take_of_length_le (by rw [List.size_toArray] at e; omega)]
    exact ht'
  · refine h _ _ ((F.push _).push _) (N.grown fun _ _ e => Heap.get?_push_of_some _ (Heap.get?_push_of_some _ e)) ?_
    exact ⟨_, Heap.get?_push_size _ rfl, rfl, 0, rfl⟩
/-- list of a tuple -/
theorem list_tuple {t : Addr} {items : List Value} {Q : Value → Shared → Prop} (F : Fr h₀ L s.heap m) (N : News h₀ L s.heap news) (ht : IsTup s.heap t items.toArray) (hz : items.length ≤ 1000)
    (h : ∀ D c h', Fr h₀ L h' m → News h₀ L h' ((D, listOf items.toArray c) :: news) → (∀ q ∈ news, q.1 < D) → Q (.ref D) { s with heap := h' }) : wpAny (model prog w) A (call (.type "list") [.ref t]) Q E s :=
  list_copyKT F N ht (fun D c h' F' N' l1 => h D c h' F' N' l1) (by rw [List.size_toArray, sizeLine_eq]; omega)
end
theorem ints_take {vs : List Value} {ns : List Int} (h : IntsAre vs ns) : ∀ k : Nat, IntsAre (vs.take k) (ns.take k) := by
  induction h with
  | nil => intro k; cases k <;> exact .nil
  | cons n t _ ih =>
    intro k
    cases k with
    | zero => exact .nil
    | succ k => exact .cons _ _ (ih k)
/-- what holds between the law's parts -/
def St (h₀ : Heap) (L : Addr) (s : Shared) (a : Addr) (sc : List Int) (s' : Shared) : Prop :=
  14 ≤ sc.length ∧ ∃ (h : Heap) (tk : Nat) (m : Str → Option Value) (b : Nat) (tb : Tok) (lm : Addr) (us : List Value) (nn : Nat) (q : Int) (tq : Tok) (lc : Addr) (c0 : Int) (t0 : Tok) (cs : List Value) (nc : Nat),
    s' = { s with heap := h, toks := tk } ∧ Fr h₀ L h m ∧
    (m (Str.ofString "script") = some (.ref a) ∧ m (Str.ofString "square") = some (.int q tq) ∧ m (Str.ofString "cells") = some (.ref lc) ∧ m (Str.ofString "board") = some (.int (b : Int) tb) ∧ m (Str.ofString "marks") = some (.ref lm)) ∧
    News h₀ L h [(lm, listOf us.toArray nn), (lc, { cls := .type "tuple", data := .seq (.int c0 t0 :: cs).toArray nc })] ∧ IntsAre us (up (sqs b)) ∧ b < 2 ^ 64
theorem St.mk {h₀ h : Heap} {L a : Addr} {s : Shared} {tk : Nat} {m : Str → Option Value} {b : Nat} {x : Int} {tb : Tok} {lm : Addr} {us : List Value} {nn : Nat} {q : Int} {tq : Tok} {lc : Addr} {c0 : Int} {t0 : Tok} {cs : List Value} {nc : Nat} {news : List (Addr × Obj)} {ms sc : List Int} (hsc : 14 ≤ sc.length)
    (F : Fr h₀ L h m) (h1 : m (Str.ofString "script") = some (.ref a)) (h2 : m (Str.ofString "square") = some (.int q tq)) (h3 : m (Str.ofString "cells") = some (.ref lc)) (h4 : m (Str.ofString "board") = some (.int x tb)) (h5 : m (Str.ofString "marks") = some (.ref lm))
    (N : News h₀ L h news) (n1 : (lm, listOf us.toArray nn) ∈ news) (n2 : (lc, ({ cls := .type "tuple", data := .seq (.int c0 t0 :: cs).toArray nc } : Obj)) ∈ news) (hi : IntsAre us ms) (hb : b < 2 ^ 64) (hx : x = (b : Int)) (hm : ms = up (sqs b)) :
    St h₀ L s a sc { s with heap := h, toks := tk } := by
  subst hx hm
  refine ⟨hsc, h, tk, m, b, tb, lm, us, nn, q, tq, lc, c0, t0, cs, nc, rfl, F, ⟨h1, h2, h3, h4, h5⟩, fun p hp => N p ?_, hi, hb⟩
  rcases List.mem_cons.mp hp with rfl | hp
  · exact n1
  · rw [List.mem_singleton.mp hp]; exact n2
theorem knight_st {q : Int} (h0 : 0 ≤ q) (h1 : q < 64) : reachL 0 q = up (sqs (movesN knightSteps q.toNat)) := by
  have := knight_ok0 ⟨q.toNat, by omega⟩
  rwa [show ((q.toNat : Nat) : Int) = q by omega] at this
theorem king_st {q : Int} (h0 : 0 ≤ q) (h1 : q < 64) : reachL 1 q = up (sqs (movesN kingSteps q.toNat)) := by
  have := king_ok0 ⟨q.toNat, by omega⟩
  rwa [show ((q.toNat : Nat) : Int) = q by omega] at this
theorem knight_lt {q : Int} (h0 : 0 ≤ q) (h1 : q < 64) : movesN knightSteps q.toNat < 2 ^ 64 := knight_lt0 ⟨q.toNat, by omega⟩
theorem king_lt {q : Int} (h0 : 0 ≤ q) (h1 : q < 64) : movesN kingSteps q.toNat < 2 ^ 64 := king_lt0 ⟨q.toNat, by omega⟩
theorem listed_st {l : List Int} {num : Int} (hl : ∀ s ∈ l, 0 ≤ s ∧ s < 64) (h0 : 0 ≤ num) : listedL l num = up (sqs (orAll l 0 ||| num.toNat)) := by
  have := listed_ok hl num.toNat
  rwa [show ((num.toNat : Nat) : Int) = num by omega] at this
theorem listed_lt {l : List Int} {num : Int} (hl : ∀ s ∈ l, 0 ≤ s ∧ s < 64) (h1 : num < 2 ^ 64) : orAll l 0 ||| num.toNat < 2 ^ 64 :=
  Nat.or_lt_two_pow (orAll_lt l hl (by decide)) (by omega)
theorem listed_board {l : List Int} {num : Int} (h0 : 0 ≤ num) : Builtin.bitOr ((orAll l 0 : Nat) : Int) num = ((orAll l 0 ||| num.toNat : Nat) : Int) := by
  have e : num = ((num.toNat : Nat) : Int) := by omega
  conv => lhs; rw [e]
  rw [or_int_nat]
theorem five_take {x1 x2 x3 x4 x5 : Int} (k : Nat) : ∀ s ∈ ([x1.fmod 64, x2.fmod 64, x3.fmod 64, x4.fmod 64, x5.fmod 64] : List Int).take k, 0 ≤ s ∧ s < 64 := by
  intro s hs
  have := List.mem_of_mem_take hs
  simp only [List.mem_cons, List.not_mem_nil, or_false] at this
  rcases this with rfl | rfl | rfl | rfl | rfl <;> exact ⟨fm_nn _ (by decide), fm_lt _ (by decide)⟩
theorem six_le {x : Int} {l : List Value} (h : l.length = 5) : x.fmod 6 ≤ (l.length : Int) := by
  have := fm_lt x (k := 6) (by decide)
  rw [h]; omega
theorem neSame {prog : Program} {w : World} {A : Around} {E : Value → Shared → Prop} {s : Shared} {a b : Addr} {vs us : List Value} {ns : List Int} {Q : Value → Shared → Prop} (hl : s.heap.IsList a vs.toArray) (hi : IntsAre vs ns) (hl' : s.heap.IsList b us.toArray) (hi' : IntsAre us ns) (hu : A.units + 64 < cLine)
    (h : Q (.bool false) s) : wpAny (model prog w) A (compareOp .NotEq (.ref a) (.ref b)) Q E s :=
  ne_intsK hl hi hl' hi' hu (by rw [decide_eq_true rfl]; exact h)
theorem nat_lt {b : Nat} (hb : b < 2 ^ 64) : (b : Int) < 2 ^ 64 := by omega
theorem rc_lo (x : Int) : -7 ≤ x.fmod 15 - 7 := by have := fm_nn x (k := 15) (by decide); omega
theorem rc_hi (x : Int) : x.fmod 15 - 7 ≤ 7 := by have := fm_lt x (k := 15) (by decide); omega
theorem shift_st {b : Nat} {r c : Int} (hc0 : -7 ≤ c) (hc1 : c ≤ 7) : movedL r c (up (sqs b)) = up (sqs (shiftN ((b : Int)).toNat r c)) := by
  rw [Int.toNat_natCast]; exact moved_sqs hc0 hc1
theorem sqs_bounds {b : Nat} : ∀ n ∈ up (sqs b), 0 ≤ n ∧ n < 64 := fun n hn => by
  have := mem_up_sqs.mp hn
  exact ⟨this.1, this.2.1⟩
end Mine
end
section
set_option autoImplicit false
set_option maxRecDepth 100000
namespace Mine
open PySem PySem.Spec PySem.Calls PySem.W PyProof.Rows
open PyProof.V PySem.SeqAt
theorem lay_strs : ∀ (xs : List Str), (∀ x ∈ xs, PyData.strOk x = true) → PyData.canLayAll0 (xs.map PyData.str) = true
  | [], _ => by simp [PyData.canLayAll0]
  | x :: r, h => by
    have h1 := h x List.mem_cons_self
    have h2 := lay_strs r fun y hy => h y (List.mem_cons_of_mem _ hy)
    simp [PyData.canLayAll0, PyData.canLay0, h1, h2]
theorem deep_strs : ∀ xs : List Str, PyData.depthAll (xs.map PyData.str) ≤ 1
  | [] => by simp [PyData.depthAll]
  | x :: r => by
    have := deep_strs r
    simp only [List.map_cons, PyData.depthAll, PyData.depth]
    omega
theorem shape_strs {xs : List Str} (h : ∀ x ∈ xs, PyData.strOk x = true) : shaped (.list (xs.map PyData.str)) = true := by
  have h1 := deep_strs xs
  have h2 : PyData.depth (.list (xs.map PyData.str)) ≤ 64 := by simp only [PyData.depth]; omega
  show (PyData.canLay0 (.list (xs.map PyData.str)) && decide (PyData.depth (.list (xs.map PyData.str)) ≤ 64)) = true
  rw [Bool.and_eq_true]
  exact ⟨by simp only [PyData.canLay0]; exact lay_strs xs h, decide_eq_true h2⟩
theorem mix_strs : ∀ xs : List Str, noMixAll (xs.map PyData.str) (xs.map PyData.str) = true
  | [] => by simp [noMixAll]
  | _ :: r => by simp [noMixAll, noMix, mix_strs r]
theorem same_strs : ∀ xs : List Str, PySem.Spec.sameAll (xs.map PyData.str) (xs.map PyData.str) = true
  | [] => by simp [PySem.Spec.sameAll]
  | _ :: r => by simp [PySem.Spec.sameAll, PySem.Spec.same, same_strs r]
theorem reads_strs {h : Heap} {a : Addr} {vs : List Value} {xs : List Str} (hl : h.IsList a vs.toArray) (hi : StrsAre vs xs) : Reads h (.ref a) (.list (xs.map PyData.str)) [a] := by
  obtain ⟨o, ho, hc, n, hd⟩ := hl
  exact Reads.list ho hc hd (by simpa using StrsAre.reads h hi)
theorem neSameT {prog : Program} {w : World} {A : Around} {E : Value → Shared → Prop} {s : Shared} {a b : Addr} {vs us : List Value} {xs : List Str} {Q : Value → Shared → Prop} (hl : s.heap.IsList a vs.toArray) (hi : StrsAre vs xs) (hl' : s.heap.IsList b us.toArray) (hi' : StrsAre us xs) (hok : ∀ x ∈ xs, PyData.strOk x = true) (hu : A.units + 64 < cLine)
    (h : Q (.bool false) s) : wpAny (model prog w) A (compareOp .NotEq (.ref a) (.ref b)) Q E s :=
  ne_dataH_same (reads_strs hl hi) (reads_strs hl' hi') (shape_strs hok) (shape_strs hok) hu (by simp only [noMix]; exact mix_strs xs) (by simp only [PySem.Spec.same]; rw [same_strs]; exact h)
theorem txt_ok {l : List Nat} (h : ∀ c ∈ l, c < 128) : PyData.strOk (txt l) = true := by
  unfold PyData.strOk txt
  rw [List.all_toArray, List.all_eq_true]
  intro c hc
  exact decide_eq_true (by have := h c hc; omega)
theorem rowT_small {b : Nat} {o : Option Int} {r : Nat} (hr : r < 8) : ∀ k, ∀ c ∈ rowT b o r k, c < 128
  | 0, c, h => by
    rw [List.mem_singleton.mp h]; omega
  | k + 1, c, h => by
    rcases List.mem_append.mp h with h | h
    · exact rowT_small hr k c h
    · rcases List.mem_cons.mp h with rfl | h
      · decide
      · rw [List.mem_singleton.mp h]
        unfold sign
        split
        · decide
        · split <;> decide
theorem pageT_ok (b : Nat) (o : Option Int) : ∀ i, i ≤ 8 → ∀ x ∈ (pageT b o i).map txt, PyData.strOk x = true
  | 0, _, x, h => by
    rw [List.mem_singleton.mp h]; exact txt_ok (by decide)
  | i + 1, hi, x, h => by
    rcases List.mem_cons.mp h with rfl | h
    · exact txt_ok (rowT_small (by omega) 8)
    · exact pageT_ok b o i (by omega) x h
theorem tup0 {prog : Program} {w : World} {A : Around} {E : Value → Shared → Prop} {s : Shared} {value slice : Expr} {t : Addr} {v : Value} {cs : List Value} {u : Tok} {Q : Value → Shared → Prop} (ht : IsTup s.heap t (v :: cs).toArray) (h : Q v s)
    (hs : subscripted slice false (.ref t) (.int 0 u) = operate [.ref t, .int 0 u] (getItem (.ref t) (.int 0 u)) := by with_unfolding_all rfl) : wpAny (model prog w) A (subscriptTail value slice (.ref t) (.int 0 u)) Q E s := by
  refine item_tupleT ht (by decide) (by decide) (j := 0) ?_ rfl h hs
  have hn : (0 : Int) < (((v :: cs).length : Nat) : Int) := by simp
  exact seqIndex_of (Int.le_refl 0) hn
end Mine
end
section
set_option autoImplicit false
set_option maxRecDepth 100000
namespace Mine
open PySem PySem.Spec PySem.Calls PySem.W PyProof.Rows
theorem neStr {prog : Program} {w : World} {A : Around} {E : Value → Shared → Prop} {s : Shared} {x y : Str} {t u : Tok} {Q : Value → Shared → Prop} (e : x = y) (h : Q (.bool false) s) : wpAny (model prog w) A (compareOp .NotEq (.str x t) (.str y u)) Q E s := by
  subst e
  refine ne_str ?_
  simpa using h
theorem name_eq {q : Int} (h0 : 0 ≤ q) (h1 : q < 64) : txt [97 + (q.fmod 8).toNat, 49 + (q.fdiv 8).toNat] = txt [97 + (q.fmod 8).toNat] ++ Str.ofString (toString (q.fdiv 8 + 1)) := by
  have e1 : q.fdiv 8 = q / 8 := Int.fdiv_eq_ediv_of_nonneg _ (by decide)
  rw [e1]
  have h : q / 8 = 0 ∨ q / 8 = 1 ∨ q / 8 = 2 ∨ q / 8 = 3 ∨ q / 8 = 4 ∨ q / 8 = 5 ∨ q / 8 = 6 ∨ q / 8 = 7 := by omega
  have key : ∀ (c : Nat) (r : Int), r = 0 ∨ r = 1 ∨ r = 2 ∨ r = 3 ∨ r = 4 ∨ r = 5 ∨ r = 6 ∨ r = 7 → txt [c, 49 + r.toNat] = txt [c] ++ Str.ofString (toString (r + 1)) := by
    intro c r hr
    have hd : Str.ofString (toString (r + 1)) = txt [49 + r.toNat] := by
      rcases hr with rfl | rfl | rfl | rfl | rfl | rfl | rfl | rfl <;> decide +kernel
    rw [hd, txt_append]; rfl
  exact key _ _ h
end Mine
end
section
set_option autoImplicit false
set_option maxRecDepth 100000
namespace Mine
open PySem PySem.Spec PySem.Calls PySem.W PyProof.Rows
theorem total_turn {pre : List Int} {k t : Int} (i : t = pre.foldl (fun t s => t + 2 ^ s.toNat) 0) : t + 2 ^ k.toNat = (pre ++ [k]).foldl (fun t s => t + 2 ^ s.toNat) 0 := by
  rw [List.foldl_append, ← i]
  rfl
theorem wd_b (i : Nat) : 0 ≤ ([0, 1, 2, 7, 8, 32, 63, 64, 65, 70] : List Int).getD i 0 ∧ ([0, 1, 2, 7, 8, 32, 63, 64, 65, 70] : List Int).getD i 0 ≤ 100 :=
  kmn_any (lo := 0) (hi := 100) (by decide)
theorem mx_nat {wd : Int} (h0 : 0 ≤ wd) (h1 : wd ≤ 100) : (if wd > 1 then wd else 1).toNat ≤ 100 := by
  split <;> omega
theorem mx_nn {wd : Int} : 0 ≤ (if wd > 1 then wd else 1) := by
  split <;> omega
theorem mx_le {wd : Int} (h1 : wd ≤ 100) : (if wd > 1 then wd else 1) ≤ 100 := by
  split <;> omega
theorem sizeF {a : List Nat} {k B b : Nat} (ha : a.length ≤ 10) (hB : 2 ≤ B) (hk : k ≤ 100) (hb : b < 2 ^ 64) : a.length + (pad k (dig B b)).length ≤ 1000 := by
  have := pad_dig_len (k := k) hB hk hb
  omega
theorem e16 {b : Nat} : txt ([48, 120] ++ pad 1 (dig (2 ^ 4) (b : Int).toNat)) = txt ([48, 120] ++ pad (1 : Int).toNat (dig (2 ^ 4) b)) := by
  rw [Int.toNat_natCast]; rfl
theorem e8 {b : Nat} : txt ([48, 111] ++ pad 1 (dig (2 ^ 3) (b : Int).toNat)) = txt ([48, 111] ++ pad (1 : Int).toNat (dig (2 ^ 3) b)) := by
  rw [Int.toNat_natCast]; rfl
theorem e2 {b : Nat} : txt ([48, 98] ++ pad (1 : Int).toNat (dig (2 ^ 1) (b : Int).toNat)) = txt ([48, 98] ++ pad (1 : Int).toNat (dig (2 ^ 1) b)) := by
  rw [Int.toNat_natCast]
theorem ew {b : Nat} {wd : Int} : txt ([48, 98] ++ pad (mx wd).toNat (dig (2 ^ 1) (b : Int).toNat)) = txt ([48, 98] ++ pad (if wd > 1 then wd else 1).toNat (dig (2 ^ 1) b)) := by
  rw [Int.toNat_natCast]; rfl
end Mine
end
section
set_option autoImplicit false
set_option maxRecDepth 100000
namespace Mine
open PySem PySem.Spec PySem.Calls PySem.W PyProof.Rows
def PairsAre (Ok : Value → Int × Int → Prop) : List Value → List (Int × Int) → Prop
  | [], [] => True
  | v :: vs, p :: ps => Ok v p ∧ PairsAre Ok vs ps
  | _, _ => False
def PairOk (K : Frag) (v : Value) (p : Int × Int) : Prop :=
  ∃ (a : Addr) (lo : Obj) (n : Nat) (tr tc : Tok), v = .ref a ∧ K.lookup a = some lo ∧ lo.cls = .type "tuple" ∧ lo.data = .seq #[.int p.1 tr, .int p.2 tc] n ∧ (-7 ≤ p.1 ∧ p.1 ≤ 7 ∧ -7 ≤ p.2 ∧ p.2 ≤ 7)
theorem or_turn {c k : Nat} {r d : Int} {t : Tok} : some (Value.int (Builtin.bitOr (c : Int) ((shiftN ((1 : Int) * 2 ^ k).toNat r d : Nat) : Int)) t) = some (Value.int ((c ||| shiftN (2 ^ k) r d : Nat) : Int) t) := by
  rw [pow_toNat, or_int_nat]
theorem PairOk.mk {K : Frag} {a : Addr} {lo : Obj} {n : Nat} {tr tc : Tok} {p : Int × Int} (h1 : K.lookup a = some lo) (h2 : lo.cls = .type "tuple") (h3 : lo.data = .seq #[.int p.1 tr, .int p.2 tc] n) (h4 : -7 ≤ p.1 ∧ p.1 ≤ 7 ∧ -7 ≤ p.2 ∧ p.2 ≤ 7) : PairOk K (.ref a) p :=
  ⟨a, lo, n, tr, tc, rfl, h1, h2, h3, h4⟩
section
variable {prog : Program} {w : World} {A : Around} {E : Value → Shared → Prop} {s : Shared} {env : Env} {h₀ : Heap} {target : Expr} {body : List Stmt} {Q : Flow → Shared → Prop} {I : Addr} {σ : Type}
/-- a loop over a written tuple of pairs, turn by turn -/
theorem items_pairs (Inv : σ → (Str → Option Value) → Prop) (step : σ → Int × Int → σ) (Ok : Value → Int × Int → Prop)
    (turn : ∀ (R : (Str → Option Value) → List (Addr × Obj) → Prop) (c : σ) (p : Int × Int) (v : Value) (m : Str → Option Value) (h : Heap) (tk : Nat) (o : Obj), Ok v p → Inv c m → Fr h₀ env.locals h m → News h₀ env.locals h [(I, o)] →
      (∀ m', Inv (step c p) m' → R m' []) →
      wpAny (model prog w) A (assign target env v) (fun _ s₂ => wpAny (model prog w) A (execs body env) (UnrPostW h₀ env.locals { s with heap := h, toks := tk } [(I, o)] R Q) E s₂) E { s with heap := h, toks := tk }) :
    ∀ (vs : List Value) (ps : List (Int × Int)) (c : σ) (m : Str → Option Value), PairsAre Ok vs ps → Inv c m →
      (∀ m' h tk, Inv (ps.foldl step c) m' → Fr h₀ env.locals h m' → News h₀ env.locals h [] → Q .next { s with heap := h, toks := tk }) →
      ItemsRest prog w A E h₀ env target body Q s [(I, "tuple_iterator")] [] (vs.map .val) m []
  | [], [], c, m, _, hi, done => ItemsRest.zero fun h tk F N => done m h tk hi F N
  | [], _ :: _, _, _, hp, _, _ => False.elim hp
  | _ :: _, [], _, _, hp, _, _ => False.elim hp
  | v :: vs, p :: ps, c, m, hp, hi, done => ItemsRest.val fun h tk F => AllObj.cons fun o _ => AllObj.nil fun N =>
      turn _ c p v m h tk o hp.1 hi F N fun m' hi' => ⟨trivial, items_pairs Inv step Ok turn vs ps (step c p) m' hp.2 hi' done⟩
theorem end_pairs {L : Addr} {s₁ : Shared} {h' : Heap} {tk : Nat} {m' : Str → Option Value} {o : Obj} {all : List (Addr × Obj)} {R : (Str → Option Value) → List (Addr × Obj) → Prop} (F : Fr h₀ L h' m') (N : News h₀ L h' all) (hI : SubL [(I, o)] all) (r : R m' []) :
    UnrEndW h₀ L s₁ [(I, o)] R { s₁ with heap := h', toks := tk } :=
  UnrEndW.intro F N [] hI trivial trivial r
end
end Mine
end
section
open PySem PySem.W PyProof.Rows
set_option Elab.async false
set_option maxRecDepth 100000
set_option maxHeartbeats 8000000
namespace Mine
open_top hd for PySem.Challenge.rw_sx_vbitworks_7o
end Mine
end
open PySem PySem.Spec PySem.Calls PySem.W PyProof.Rows
set_option Elab.async false
set_option maxRecDepth 100000
set_option maxHeartbeats 8000000
set_option rowWalk.seconds 0
namespace Mine
def Gv (w : World) (mean : ExcName → Option Value) (mg mb : Str → Option Value) (f : Addr) (dep : Nat) (Pre : Heap → Prop) (vs : List Value) (Post : Heap → Heap → Value → Prop) : Prop :=
  Gives PySem.Challenge.rw_sx_vbitworks_7o.row.prog w (Mine.hd.heap_39 w.params) Mine.hd.view_39 (looseW Mine.hd.view_39 [Str.ofString "number_text", Str.ofString "board_lines"]) mean mg mb f dep Pre vs Post
local macro_rules | `(tactic| walk_at $s:str) => `(tactic| k_extra $s)
theorem low_mask_ok (w : World) (mean : ExcName → Option Value) (mg mb : Str → Option Value) (k : Int) (t : Tok) (h0 : 0 ≤ k) (h1 : k ≤ 64) :
    Gv w mean mg mb 53 1 (fun _ => True) [.int k t] (fun _ _ v => ∃ t, v = .int (2 ^ k.toNat - 1) t) := by
  w_top off
  k_with_none
  k_with "my enter" => (((case kA => exact rfl); (case kF => exact rfl); (case kK => assumption); (case k1 => k_asm); (case k2 => k_asm); (case k3 => k_asm); (case k5 => k_asm); (case k6 => k_is); (case k7 => k_is); (case k8 => ktr_room); (case k9 => first | exact BindsTo.of_eq rfl | exact binds_K (by k_in) rfl (by k_is) rfl rfl rfl); (case c5 => decide); (case kB => exact locs rfl); (case c2 => exact rfl); (case c3 => exact rfl); (case c4 => exact rfl); k_whole))
  k_with "my use" => (((case uB => k_asm); (case uF => k_asm); (case uX => k_asm); (case uN => k_asm); (case uT => k_asm); (case uk => first | exact rfl | assumption); (case ud => ktr_room); (case uu => ktr_units)))
  k_with "pyIter ref" => (k_dflt (k_extra "loop"))
  k_with "call ref cons nil" => (first | k_dflt (k_extra "call") | k_extra "stop")
  k_with "binaryOp LShift int int" => (k_dflt (k_extra "shl"))
  k_with "exec While Compare cons nil" => (k_dflt (k_extra "while"))
  k_with "my lit" => (first | with_reducible rfl | with_reducible exact T_0 | with_reducible exact T_1 | with_reducible exact T_0b | with_reducible exact T_0o | with_reducible exact T_0x | with_reducible exact T_sx | with_reducible exact T_so | with_reducible exact T_sd | with_reducible exact T_e | k_extra "lit")
  k_with "subscriptTail" => (k_dflt (k_extra "item"))
  k_with "subscriptTail Name BinOp str int" => (k_dflt (k_extra "item"))
  k_with "subscriptTail Name Name str int" => (k_dflt (k_extra "item"))
  k_with "binaryOp Add str str" => ((k_dflt (refine' addT ?ax ?ay ?az ?_; (case ax => walk_at "my lit"); (case ay => walk_at "my lit"); (case az => k_extra "size")); k_whole; intro t9 tk9; (try dsimp only)))
  k_with "call builtin:len" => (((with_reducible show wpAny _ _ (call (Value.builtin "len") [Value.str _ _]) _ _ _); k_dflt (refine' lenT ?ax ?az ?_; (case ax => walk_at "my lit"); (case az => k_extra "size")); k_whole; intro t9 tk9; (try dsimp only)))
  k_with "binaryOp Mult str int" => (((with_reducible show wpAny _ _ (binaryOp Operator.Mult (Value.str _ _) (Value.int _ _)) _ _ _); k_dflt (refine' mulT ?az ?az2 ?_; (case az => k_extra "size"); (case az2 => k_extra "size")); k_whole; intro t9 tk9; (try dsimp only)))
  k_with "pyIter str" => (k_dflt (k_extra "text loop"))
  k_with "exec For Name Subscript cons nil" => (((rename Fr _ _ _ _ => lF'); (with_unfolding_all refine' For_invVF lF' ?k1 ?k2 ?_; (case k1 => exact rfl); (case k2 => exact rfl); k_whole)))
  k_with "call builtin:str.index" => (k_dflt (k_extra "index"))
  k_with "call builtin:list.append" => (k_dflt (k_extra "append"))
  k_with "call builtin:str.join" => (k_dflt (k_extra "join"))
  k_with "subscriptTail Name Slice ref ref" => (first | k_dflt (k_extra "cut") | k_extra "stop")
  k_with "call type:list" => (first | k_dflt (k_extra "list") | k_extra "stop")
  k_with "compareOp NotEq ref ref" => (first | k_dflt (k_extra "neq") | k_extra "stop")
  k_with "subscriptTail Name Constant ref int" => (k_dflt (k_extra "tup0"))
  k_with "compareOp NotEq str str" => (k_dflt (k_extra "nes"))
  unfold Gv Gives
  intro dp un gd cn cs a ccd cl outer A₀ base h₀ L m s Q E B F X T hk hd hu hp ret
  refine' enterP [(Str.ofString "k", .int k t)] ?k1 ?k2 ?k3 ?k5 ?kA ?kF ?kK ?k6 ?k7 ?k8 ?k9 ?kB ?_ ?c2 ?c3 ?c4 ?c5
  walk_at "my enter"
  intro L' h' F' N' B' X' T'
  dsimp only [kstB] at F'
  (try dsimp only)
  (try k_fold)
  k_steps
  exact ret _ _ _ F'.keep ⟨_, by rw [Int.one_mul]⟩

theorem shifted_ok (w : World) (mean : ExcName → Option Value) (mg mb : Str → Option Value) (b r c : Int) (tb tr tc : Tok) (hb0 : 0 ≤ b) (hb1 : b < 2 ^ 64) (hr0 : -7 ≤ r) (hr1 : r ≤ 7) (hc0 : -7 ≤ c) (hc1 : c ≤ 7) :
    Gv w mean mg mb 109 2 (fun _ => True) [.int b tb, .int r tr, .int c tc] (fun _ _ v => ∃ t, v = .int ((shiftN b.toNat r c : Nat) : Int) t) := by
  w_top off
  k_with_none
  k_with "my enter" => (((case kA => exact rfl); (case kF => exact rfl); (case kK => assumption); (case k1 => k_asm); (case k2 => k_asm); (case k3 => k_asm); (case k5 => k_asm); (case k6 => k_is); (case k7 => k_is); (case k8 => ktr_room); (case k9 => first | exact BindsTo.of_eq rfl | exact binds_K (by k_in) rfl (by k_is) rfl rfl rfl); (case c5 => decide); (case kB => exact locs rfl); (case c2 => exact rfl); (case c3 => exact rfl); (case c4 => exact rfl); k_whole))
  k_with "my use" => (((case uB => k_asm); (case uF => k_asm); (case uX => k_asm); (case uN => k_asm); (case uT => k_asm); (case uk => first | exact rfl | assumption); (case ud => ktr_room); (case uu => ktr_units)))
  k_with "pyIter ref" => (k_dflt (k_extra "loop"))
  k_with "call ref cons nil" => (first | k_dflt (k_extra "call") | k_extra "stop")
  k_with "binaryOp LShift int int" => (k_dflt (k_extra "shl"))
  k_with "exec While Compare cons nil" => (k_dflt (k_extra "while"))
  k_with "my lit" => (first | with_reducible rfl | with_reducible exact T_0 | with_reducible exact T_1 | with_reducible exact T_0b | with_reducible exact T_0o | with_reducible exact T_0x | with_reducible exact T_sx | with_reducible exact T_so | with_reducible exact T_sd | with_reducible exact T_e | k_extra "lit")
  k_with "subscriptTail" => (k_dflt (k_extra "item"))
  k_with "subscriptTail Name BinOp str int" => (k_dflt (k_extra "item"))
  k_with "subscriptTail Name Name str int" => (k_dflt (k_extra "item"))
  k_with "binaryOp Add str str" => ((k_dflt (refine' addT ?ax ?ay ?az ?_; (case ax => walk_at "my lit"); (case ay => walk_at "my lit"); (case az => k_extra "size")); k_whole; intro t9 tk9; (try dsimp only)))
  k_with "call builtin:len" => (((with_reducible show wpAny _ _ (call (Value.builtin "len") [Value.str _ _]) _ _ _); k_dflt (refine' lenT ?ax ?az ?_; (case ax => walk_at "my lit"); (case az => k_extra "size")); k_whole; intro t9 tk9; (try dsimp only)))
  k_with "binaryOp Mult str int" => (((with_reducible show wpAny _ _ (binaryOp Operator.Mult (Value.str _ _) (Value.int _ _)) _ _ _); k_dflt (refine' mulT ?az ?az2 ?_; (case az => k_extra "size"); (case az2 => k_extra "size")); k_whole; intro t9 tk9; (try dsimp only)))
  k_with "pyIter str" => (k_dflt (k_extra "text loop"))
  k_with "exec For Name Subscript cons nil" => (((rename Fr _ _ _ _ => lF'); (with_unfolding_all refine' For_invVF lF' ?k1 ?k2 ?_; (case k1 => exact rfl); (case k2 => exact rfl); k_whole)))
  k_with "call builtin:str.index" => (k_dflt (k_extra "index"))
  k_with "call builtin:list.append" => (k_dflt (k_extra "append"))
  k_with "call builtin:str.join" => (k_dflt (k_extra "join"))
  k_with "subscriptTail Name Slice ref ref" => (first | k_dflt (k_extra "cut") | k_extra "stop")
  k_with "call type:list" => (first | k_dflt (k_extra "list") | k_extra "stop")
  k_with "compareOp NotEq ref ref" => (first | k_dflt (k_extra "neq") | k_extra "stop")
  k_with "subscriptTail Name Constant ref int" => (k_dflt (k_extra "tup0"))
  k_with "compareOp NotEq str str" => (k_dflt (k_extra "nes"))
  unfold Gv Gives
  intro dp un gd cn cs a ccd cl outer A₀ base h₀ L m s Q E B F X T hk hd hu hp ret
  refine' enterP [(Str.ofString "cols", .int c tc), (Str.ofString "rows", .int r tr), (Str.ofString "board", .int b tb)] ?k1 ?k2 ?k3 ?k5 ?kA ?kF ?kK ?k6 ?k7 ?k8 ?k9 ?kB ?_ ?c2 ?c3 ?c4 ?c5
  walk_at "my enter"
  intro L' h' F' N' B' X' T'
  dsimp only [kstB] at F'
  (try dsimp only)
  (try k_fold)
  k_with "loop" => k_state_short (fun pre st => st = ((stay pre.length c : Nat) : Int)) "staying"
  k_with "state" => first | rfl | exact stay_t (by assumption) (by assumption) (by assumption) (by assumption) | exact stay_f (by assumption) (by assumption) (by omega)
  k_with "shl" => (refine lshift_int_small (by omega) (by omega) (and_small hb0 hb1 (by assumption)) ?_)
  k_with "call" => ((refine' useInt (low_mask_ok w mean mg mb _ _ (by decide) (by decide)) ?uB ?uF ?uX ?uN ?uT ?uk ?ud ?uu trivial ?_); (walk_at "my use"); intro t9 h9 tk9 F9 N9; (try dsimp only); (try k_fold))
  k_steps
  · exact ret _ _ _ (Fr.keep (by k_asm)) ⟨_, by rw [shift_pos hb0 (by assumption) rfl (by assumption)]⟩
  · exact ret _ _ _ (Fr.keep (by k_asm)) ⟨_, by rw [shift_neg hb0 (by assumption) rfl (by assumption)]⟩
theorem knight_ok (w : World) (mean : ExcName → Option Value) (mg mb : Str → Option Value) (q : Int) (tq : Tok) (h0 : 0 ≤ q) (h1 : q < 64) :
    Gv w mean mg mb 116 3 (fun _ => True) [.int q tq] (fun _ _ v => ∃ t, v = .int ((movesN knightSteps q.toNat : Nat) : Int) t) := by
  w_top off
  k_with_none
  k_with "my enter" => (((case kA => exact rfl); (case kF => exact rfl); (case kK => assumption); (case k1 => k_asm); (case k2 => k_asm); (case k3 => k_asm); (case k5 => k_asm); (case k6 => k_is); (case k7 => k_is); (case k8 => ktr_room); (case k9 => first | exact BindsTo.of_eq rfl | exact binds_K (by k_in) rfl (by k_is) rfl rfl rfl); (case c5 => decide); (case kB => exact locs rfl); (case c2 => exact rfl); (case c3 => exact rfl); (case c4 => exact rfl); k_whole))
  k_with "my use" => (((case uB => k_asm); (case uF => k_asm); (case uX => k_asm); (case uN => k_asm); (case uT => k_asm); (case uk => first | exact rfl | assumption); (case ud => ktr_room); (case uu => ktr_units)))
  k_with "pyIter ref" => (k_dflt (k_extra "loop"))
  k_with "call ref cons nil" => (first | k_dflt (k_extra "call") | k_extra "stop")
  k_with "binaryOp LShift int int" => (k_dflt (k_extra "shl"))
  k_with "exec While Compare cons nil" => (k_dflt (k_extra "while"))
  k_with "my lit" => (first | with_reducible rfl | with_reducible exact T_0 | with_reducible exact T_1 | with_reducible exact T_0b | with_reducible exact T_0o | with_reducible exact T_0x | with_reducible exact T_sx | with_reducible exact T_so | with_reducible exact T_sd | with_reducible exact T_e | k_extra "lit")
  k_with "subscriptTail" => (k_dflt (k_extra "item"))
  k_with "subscriptTail Name BinOp str int" => (k_dflt (k_extra "item"))
  k_with "subscriptTail Name Name str int" => (k_dflt (k_extra "item"))
  k_with "binaryOp Add str str" => ((k_dflt (refine' addT ?ax ?ay ?az ?_; (case ax => walk_at "my lit"); (case ay => walk_at "my lit"); (case az => k_extra "size")); k_whole; intro t9 tk9; (try dsimp only)))
  k_with "call builtin:len" => (((with_reducible show wpAny _ _ (call (Value.builtin "len") [Value.str _ _]) _ _ _); k_dflt (refine' lenT ?ax ?az ?_; (case ax => walk_at "my lit"); (case az => k_extra "size")); k_whole; intro t9 tk9; (try dsimp only)))
  k_with "binaryOp Mult str int" => (((with_reducible show wpAny _ _ (binaryOp Operator.Mult (Value.str _ _) (Value.int _ _)) _ _ _); k_dflt (refine' mulT ?az ?az2 ?_; (case az => k_extra "size"); (case az2 => k_extra "size")); k_whole; intro t9 tk9; (try dsimp only)))
  k_with "pyIter str" => (k_dflt (k_extra "text loop"))
  k_with "exec For Name Subscript cons nil" => (((rename Fr _ _ _ _ => lF'); (with_unfolding_all refine' For_invVF lF' ?k1 ?k2 ?_; (case k1 => exact rfl); (case k2 => exact rfl); k_whole)))
  k_with "call builtin:str.index" => (k_dflt (k_extra "index"))
  k_with "call builtin:list.append" => (k_dflt (k_extra "append"))
  k_with "call builtin:str.join" => (k_dflt (k_extra "join"))
  k_with "subscriptTail Name Slice ref ref" => (first | k_dflt (k_extra "cut") | k_extra "stop")
  k_with "call type:list" => (first | k_dflt (k_extra "list") | k_extra "stop")
  k_with "compareOp NotEq ref ref" => (first | k_dflt (k_extra "neq") | k_extra "stop")
  k_with "subscriptTail Name Constant ref int" => (k_dflt (k_extra "tup0"))
  k_with "compareOp NotEq str str" => (k_dflt (k_extra "nes"))
  unfold Gv Gives
  intro dp un gd cn cs a ccd cl outer A₀ base h₀ L m s Q E B F X T hk hd hu hp ret
  refine' enterP [(Str.ofString "square", .int q tq)] ?k1 ?k2 ?k3 ?k5 ?kA ?kF ?kK ?k6 ?k7 ?k8 ?k9 ?kB ?_ ?c2 ?c3 ?c4 ?c5
  walk_at "my enter"
  intro L' h' F' N' B' X' T'
  dsimp only [kstB] at F'
  (try dsimp only)
  (try k_fold)
  k_with "loop" => (
    (rename Fr _ _ _ _ => lF'); (rename News _ _ _ _ => lN')
    (with_unfolding_all refine' iter_tupK ?h ?F ?N ?X ?k ?c ?d ?z ?rest; (case h => with_unfolding_all rfl); (case F => exact lF'); (case N => exact lN'); (case X => k_asm); (case k => k_is); (case c => exact rfl); (case d => exact rfl); (case z => decide); k_whole)
    intro i' l1
    with_unfolding_all refine' items_pairs (σ := Nat) (fun c m => (∃ t, m (Str.ofString "start") = some (.int (1 * 2 ^ q.toNat) t)) ∧ ∃ t, m (Str.ofString "board") = some (.int (c : Int) t)) (fun c p => c ||| shiftN (2 ^ q.toNat) p.1 p.2) (PairOk (Mine.hd.heap_39 w.params)) ?turn _ knightSteps 0 _ ?ps ?iv ?done
    (case ps => exact ⟨PairOk.mk (by k_is) rfl rfl (by decide), PairOk.mk (by k_is) rfl rfl (by decide), PairOk.mk (by k_is) rfl rfl (by decide), PairOk.mk (by k_is) rfl rfl (by decide), PairOk.mk (by k_is) rfl rfl (by decide), PairOk.mk (by k_is) rfl rfl (by decide), PairOk.mk (by k_is) rfl rfl (by decide), PairOk.mk (by k_is) rfl rfl (by decide), trivial⟩)
    (case iv => exact ⟨⟨_, rfl⟩, _, rfl⟩)
    (case' turn =>
      rintro R c p v m9 h9 tk9 o ⟨a9, lo, n9, tr, tc, rfl, hk9, hc9, hd9, hb9⟩ ⟨⟨ts, e1⟩, tb, e2⟩ kF kN hR
      clear lF' lN'
      replace kF := fr_known [(Str.ofString "start", _), (Str.ofString "board", _)] kF (List.forall_mem_cons.mpr ⟨e1, List.forall_mem_cons.mpr ⟨e2, List.forall_mem_nil _⟩⟩)
      dsimp only [kstB] at kF
      clear e1 e2
      (try dsimp only)
      (try k_fold))
    (case' done =>
      rintro m9 h9 tk9 ⟨⟨ts, e1⟩, tb, e2⟩ kF kN
      clear lF' lN'
      replace kF := fr_known [(Str.ofString "board", _)] kF (List.forall_mem_cons.mpr ⟨e2, List.forall_mem_nil _⟩)
      dsimp only [kstB] at kF
      clear e1 e2
      (try dsimp only)
      (try k_fold)))
  k_with "assign Tuple" => (k_dflt (refine' unpackK ?F ?N ?X ?k ?c ?d ?k1 ?k2 ?k3 ?_; (case F => k_asm); (case N => k_asm); (case X => k_asm); (case k => exact hk9); (case c => exact hc9); (case d => exact hd9); (case k1 => exact rfl); (case k2 => exact rfl); (case k3 => exact rfl)); intro h8 F8 N8; (try k_sweep); (try dsimp only))
  k_with "UnrEndW" => (k_dflt (refine' end_pairs ?eF ?eN ?eI ?eR; (case eF => k_asm); (case eN => k_asm); (case eI => exact ⟨by k_mem, trivial⟩); (case eR => exact hR _ ⟨⟨_, rfl⟩, _, or_turn⟩)))
  k_with "call" => ((refine' useInt (shifted_ok w mean mg mb _ _ _ _ _ _ (by exact pow_nn _) (by exact pow_lt (by omega)) hb9.1 hb9.2.1 hb9.2.2.1 hb9.2.2.2) ?uB ?uF ?uX ?uN ?uT ?uk ?ud ?uu trivial ?_); (walk_at "my use"); intro t9 h9 tk9 F9 N9; (try dsimp only); (try k_fold))
  k_steps
  exact ret _ _ _ (Fr.keep (by k_asm)) ⟨_, rfl⟩
theorem king_ok (w : World) (mean : ExcName → Option Value) (mg mb : Str → Option Value) (q : Int) (tq : Tok) (h0 : 0 ≤ q) (h1 : q < 64) :
    Gv w mean mg mb 123 3 (fun _ => True) [.int q tq] (fun _ _ v => ∃ t, v = .int ((movesN kingSteps q.toNat : Nat) : Int) t) := by
  w_top off
  k_with_none
  k_with "my enter" => (((case kA => exact rfl); (case kF => exact rfl); (case kK => assumption); (case k1 => k_asm); (case k2 => k_asm); (case k3 => k_asm); (case k5 => k_asm); (case k6 => k_is); (case k7 => k_is); (case k8 => ktr_room); (case k9 => first | exact BindsTo.of_eq rfl | exact binds_K (by k_in) rfl (by k_is) rfl rfl rfl); (case c5 => decide); (case kB => exact locs rfl); (case c2 => exact rfl); (case c3 => exact rfl); (case c4 => exact rfl); k_whole))
  k_with "my use" => (((case uB => k_asm); (case uF => k_asm); (case uX => k_asm); (case uN => k_asm); (case uT => k_asm); (case uk => first | exact rfl | assumption); (case ud => ktr_room); (case uu => ktr_units)))
  k_with "pyIter ref" => (k_dflt (k_extra "loop"))
  k_with "call ref cons nil" => (first | k_dflt (k_extra "call") | k_extra "stop")
  k_with "binaryOp LShift int int" => (k_dflt (k_extra "shl"))
  k_with "exec While Compare cons nil" => (k_dflt (k_extra "while"))
  k_with "my lit" => (first | with_reducible rfl | with_reducible exact T_0 | with_reducible exact T_1 | with_reducible exact T_0b | with_reducible exact T_0o | with_reducible exact T_0x | with_reducible exact T_sx | with_reducible exact T_so | with_reducible exact T_sd | with_reducible exact T_e | k_extra "lit")
  k_with "subscriptTail" => (k_dflt (k_extra "item"))
  k_with "subscriptTail Name BinOp str int" => (k_dflt (k_extra "item"))
  k_with "subscriptTail Name Name str int" => (k_dflt (k_extra "item"))
  k_with "binaryOp Add str str" => ((k_dflt (refine' addT ?ax ?ay ?az ?_; (case ax => walk_at "my lit"); (case ay => walk_at "my lit"); (case az => k_extra "size")); k_whole; intro t9 tk9; (try dsimp only)))
  k_with "call builtin:len" => (((with_reducible show wpAny _ _ (call (Value.builtin "len") [Value.str _ _]) _ _ _); k_dflt (refine' lenT ?ax ?az ?_; (case ax => walk_at "my lit"); (case az => k_extra "size")); k_whole; intro t9 tk9; (try dsimp only)))
  k_with "binaryOp Mult str int" => (((with_reducible show wpAny _ _ (binaryOp Operator.Mult (Value.str _ _) (Value.int _ _)) _ _ _); k_dflt (refine' mulT ?az ?az2 ?_; (case az => k_extra "size"); (case az2 => k_extra "size")); k_whole; intro t9 tk9; (try dsimp only)))
  k_with "pyIter str" => (k_dflt (k_extra "text loop"))
  k_with "exec For Name Subscript cons nil" => (((rename Fr _ _ _ _ => lF'); (with_unfolding_all refine' For_invVF lF' ?k1 ?k2 ?_; (case k1 => exact rfl); (case k2 => exact rfl); k_whole)))
  k_with "call builtin:str.index" => (k_dflt (k_extra "index"))
  k_with "call builtin:list.append" => (k_dflt (k_extra "append"))
  k_with "call builtin:str.join" => (k_dflt (k_extra "join"))
  k_with "subscriptTail Name Slice ref ref" => (first | k_dflt (k_extra "cut") | k_extra "stop")
  k_with "call type:list" => (first | k_dflt (k_extra "list") | k_extra "stop")
  k_with "compareOp NotEq ref ref" => (first | k_dflt (k_extra "neq") | k_extra "stop")
  k_with "subscriptTail Name Constant ref int" => (k_dflt (k_extra "tup0"))
  k_with "compareOp NotEq str str" => (k_dflt (k_extra "nes"))
  unfold Gv Gives
  intro dp un gd cn cs a ccd cl outer A₀ base h₀ L m s Q E B F X T hk hd hu hp ret
  refine' enterP [(Str.ofString "square", .int q tq)] ?k1 ?k2 ?k3 ?k5 ?kA ?kF ?kK ?k6 ?k7 ?k8 ?k9 ?kB ?_ ?c2 ?c3 ?c4 ?c5
  walk_at "my enter"
  intro L' h' F' N' B' X' T'
  dsimp only [kstB] at F'
  (try dsimp only)
  (try k_fold)
  k_with "loop" => (
    (rename Fr _ _ _ _ => lF'); (rename News _ _ _ _ => lN')
    (with_unfolding_all refine' iter_tupK ?h ?F ?N ?X ?k ?c ?d ?z ?rest; (case h => with_unfolding_all rfl); (case F => exact lF'); (case N => exact lN'); (case X => k_asm); (case k => k_is); (case c => exact rfl); (case d => exact rfl); (case z => decide); k_whole)
    intro i' l1
    with_unfolding_all refine' items_pairs (σ := Nat) (fun c m => (∃ t, m (Str.ofString "start") = some (.int (1 * 2 ^ q.toNat) t)) ∧ ∃ t, m (Str.ofString "board") = some (.int (c : Int) t)) (fun c p => c ||| shiftN (2 ^ q.toNat) p.1 p.2) (PairOk (Mine.hd.heap_39 w.params)) ?turn _ kingSteps 0 _ ?ps ?iv ?done
    (case ps => exact ⟨PairOk.mk (by k_is) rfl rfl (by decide), PairOk.mk (by k_is) rfl rfl (by decide), PairOk.mk (by k_is) rfl rfl (by decide), PairOk.mk (by k_is) rfl rfl (by decide), PairOk.mk (by k_is) rfl rfl (by decide), PairOk.mk (by k_is) rfl rfl (by decide), PairOk.mk (by k_is) rfl rfl (by decide), PairOk.mk (by k_is) rfl rfl (by decide), trivial⟩)
    (case iv => exact ⟨⟨_, rfl⟩, _, rfl⟩)
    (case' turn =>
      rintro R c p v m9 h9 tk9 o ⟨a9, lo, n9, tr, tc, rfl, hk9, hc9, hd9, hb9⟩ ⟨⟨ts, e1⟩, tb, e2⟩ kF kN hR
      clear lF' lN'
      replace kF := fr_known [(Str.ofString "start", _), (Str.ofString "board", _)] kF (List.forall_mem_cons.mpr ⟨e1, List.forall_mem_cons.mpr ⟨e2, List.forall_mem_nil _⟩⟩)
      dsimp only [kstB] at kF
      clear e1 e2
      (try dsimp only)
      (try k_fold))
    (case' done =>
      rintro m9 h9 tk9 ⟨⟨ts, e1⟩, tb, e2⟩ kF kN
      clear lF' lN'
      replace kF := fr_known [(Str.ofString "board", _)] kF (List.forall_mem_cons.mpr ⟨e2, List.forall_mem_nil _⟩)
      dsimp only [kstB] at kF
      clear e1 e2
      (try dsimp only)
      (try k_fold)))
  k_with "assign Tuple" => (k_dflt (refine' unpackK ?F ?N ?X ?k ?c ?d ?k1 ?k2 ?k3 ?_; (case F => k_asm); (case N => k_asm); (case X => k_asm); (case k => exact hk9); (case c => exact hc9); (case d => exact hd9); (case k1 => exact rfl); (case k2 => exact rfl); (case k3 => exact rfl)); intro h8 F8 N8; (try k_sweep); (try dsimp only))
  k_with "UnrEndW" => (k_dflt (refine' end_pairs ?eF ?eN ?eI ?eR; (case eF => k_asm); (case eN => k_asm); (case eI => exact ⟨by k_mem, trivial⟩); (case eR => exact hR _ ⟨⟨_, rfl⟩, _, or_turn⟩)))
  k_with "call" => ((refine' useInt (shifted_ok w mean mg mb _ _ _ _ _ _ (by exact pow_nn _) (by exact pow_lt (by omega)) hb9.1 hb9.2.1 hb9.2.2.1 hb9.2.2.2) ?uB ?uF ?uX ?uN ?uT ?uk ?ud ?uu trivial ?_); (walk_at "my use"); intro t9 h9 tk9 F9 N9; (try dsimp only); (try k_fold))
  k_steps
  exact ret _ _ _ (Fr.keep (by k_asm)) ⟨_, rfl⟩
theorem lowest_ok (w : World) (mean : ExcName → Option Value) (mg mb : Str → Option Value) (n : Int) (tn : Tok) :
    Gv w mean mg mb 60 1 (fun _ => True) [.int n tn] (fun _ _ v => ∃ t, v = .int (Builtin.bitAnd n (-n)) t) := by
  w_top off
  k_with_none
  k_with "my enter" => (((case kA => exact rfl); (case kF => exact rfl); (case kK => assumption); (case k1 => k_asm); (case k2 => k_asm); (case k3 => k_asm); (case k5 => k_asm); (case k6 => k_is); (case k7 => k_is); (case k8 => ktr_room); (case k9 => first | exact BindsTo.of_eq rfl | exact binds_K (by k_in) rfl (by k_is) rfl rfl rfl); (case c5 => decide); (case kB => exact locs rfl); (case c2 => exact rfl); (case c3 => exact rfl); (case c4 => exact rfl); k_whole))
  k_with "my use" => (((case uB => k_asm); (case uF => k_asm); (case uX => k_asm); (case uN => k_asm); (case uT => k_asm); (case uk => first | exact rfl | assumption); (case ud => ktr_room); (case uu => ktr_units)))
  k_with "pyIter ref" => (k_dflt (k_extra "loop"))
  k_with "call ref cons nil" => (first | k_dflt (k_extra "call") | k_extra "stop")
  k_with "binaryOp LShift int int" => (k_dflt (k_extra "shl"))
  k_with "exec While Compare cons nil" => (k_dflt (k_extra "while"))
  k_with "my lit" => (first | with_reducible rfl | with_reducible exact T_0 | with_reducible exact T_1 | with_reducible exact T_0b | with_reducible exact T_0o | with_reducible exact T_0x | with_reducible exact T_sx | with_reducible exact T_so | with_reducible exact T_sd | with_reducible exact T_e | k_extra "lit")
  k_with "subscriptTail" => (k_dflt (k_extra "item"))
  k_with "subscriptTail Name BinOp str int" => (k_dflt (k_extra "item"))
  k_with "subscriptTail Name Name str int" => (k_dflt (k_extra "item"))
  k_with "binaryOp Add str str" => ((k_dflt (refine' addT ?ax ?ay ?az ?_; (case ax => walk_at "my lit"); (case ay => walk_at "my lit"); (case az => k_extra "size")); k_whole; intro t9 tk9; (try dsimp only)))
  k_with "call builtin:len" => (((with_reducible show wpAny _ _ (call (Value.builtin "len") [Value.str _ _]) _ _ _); k_dflt (refine' lenT ?ax ?az ?_; (case ax => walk_at "my lit"); (case az => k_extra "size")); k_whole; intro t9 tk9; (try dsimp only)))
  k_with "binaryOp Mult str int" => (((with_reducible show wpAny _ _ (binaryOp Operator.Mult (Value.str _ _) (Value.int _ _)) _ _ _); k_dflt (refine' mulT ?az ?az2 ?_; (case az => k_extra "size"); (case az2 => k_extra "size")); k_whole; intro t9 tk9; (try dsimp only)))
  k_with "pyIter str" => (k_dflt (k_extra "text loop"))
  k_with "exec For Name Subscript cons nil" => (((rename Fr _ _ _ _ => lF'); (with_unfolding_all refine' For_invVF lF' ?k1 ?k2 ?_; (case k1 => exact rfl); (case k2 => exact rfl); k_whole)))
  k_with "call builtin:str.index" => (k_dflt (k_extra "index"))
  k_with "call builtin:list.append" => (k_dflt (k_extra "append"))
  k_with "call builtin:str.join" => (k_dflt (k_extra "join"))
  k_with "subscriptTail Name Slice ref ref" => (first | k_dflt (k_extra "cut") | k_extra "stop")
  k_with "call type:list" => (first | k_dflt (k_extra "list") | k_extra "stop")
  k_with "compareOp NotEq ref ref" => (first | k_dflt (k_extra "neq") | k_extra "stop")
  k_with "subscriptTail Name Constant ref int" => (k_dflt (k_extra "tup0"))
  k_with "compareOp NotEq str str" => (k_dflt (k_extra "nes"))
  unfold Gv Gives
  intro dp un gd cn cs a ccd cl outer A₀ base h₀ L m s Q E B F X T hk hd hu hp ret
  refine' enterP [(Str.ofString "n", .int n tn)] ?k1 ?k2 ?k3 ?k5 ?kA ?kF ?kK ?k6 ?k7 ?k8 ?k9 ?kB ?_ ?c2 ?c3 ?c4 ?c5
  walk_at "my enter"
  intro L' h' F' N' B' X' T'
  dsimp only [kstB] at F'
  (try dsimp only)
  (try k_fold)
  k_steps
  exact ret _ _ _ F'.keep ⟨_, rfl⟩
theorem with_bit_ok (w : World) (mean : ExcName → Option Value) (mg mb : Str → Option Value) (n i : Int) (tn ti : Tok) (h0 : 0 ≤ i) (h1 : i < 64) :
    Gv w mean mg mb 46 1 (fun _ => True) [.int n tn, .int i ti] (fun _ _ v => ∃ t, v = .int (Builtin.bitOr n (1 * 2 ^ i.toNat)) t) := by
  w_top off
  k_with_none
  k_with "my enter" => (((case kA => exact rfl); (case kF => exact rfl); (case kK => assumption); (case k1 => k_asm); (case k2 => k_asm); (case k3 => k_asm); (case k5 => k_asm); (case k6 => k_is); (case k7 => k_is); (case k8 => ktr_room); (case k9 => first | exact BindsTo.of_eq rfl | exact binds_K (by k_in) rfl (by k_is) rfl rfl rfl); (case c5 => decide); (case kB => exact locs rfl); (case c2 => exact rfl); (case c3 => exact rfl); (case c4 => exact rfl); k_whole))
  k_with "my use" => (((case uB => k_asm); (case uF => k_asm); (case uX => k_asm); (case uN => k_asm); (case uT => k_asm); (case uk => first | exact rfl | assumption); (case ud => ktr_room); (case uu => ktr_units)))
  k_with "pyIter ref" => (k_dflt (k_extra "loop"))
  k_with "call ref cons nil" => (first | k_dflt (k_extra "call") | k_extra "stop")
  k_with "binaryOp LShift int int" => (k_dflt (k_extra "shl"))
  k_with "exec While Compare cons nil" => (k_dflt (k_extra "while"))
  k_with "my lit" => (first | with_reducible rfl | with_reducible exact T_0 | with_reducible exact T_1 | with_reducible exact T_0b | with_reducible exact T_0o | with_reducible exact T_0x | with_reducible exact T_sx | with_reducible exact T_so | with_reducible exact T_sd | with_reducible exact T_e | k_extra "lit")
  k_with "subscriptTail" => (k_dflt (k_extra "item"))
  k_with "subscriptTail Name BinOp str int" => (k_dflt (k_extra "item"))
  k_with "subscriptTail Name Name str int" => (k_dflt (k_extra "item"))
  k_with "binaryOp Add str str" => ((k_dflt (refine' addT ?ax ?ay ?az ?_; (case ax => walk_at "my lit"); (case ay => walk_at "my lit"); (case az => k_extra "size")); k_whole; intro t9 tk9; (try dsimp only)))
  k_with "call builtin:len" => (((with_reducible show wpAny _ _ (call (Value.builtin "len") [Value.str _ _]) _ _ _); k_dflt (refine' lenT ?ax ?az ?_; (case ax => walk_at "my lit"); (case az => k_extra "size")); k_whole; intro t9 tk9; (try dsimp only)))
  k_with "binaryOp Mult str int" => (((with_reducible show wpAny _ _ (binaryOp Operator.Mult (Value.str _ _) (Value.int _ _)) _ _ _); k_dflt (refine' mulT ?az ?az2 ?_; (case az => k_extra "size"); (case az2 => k_extra "size")); k_whole; intro t9 tk9; (try dsimp only)))
  k_with "pyIter str" => (k_dflt (k_extra "text loop"))
  k_with "exec For Name Subscript cons nil" => (((rename Fr _ _ _ _ => lF'); (with_unfolding_all refine' For_invVF lF' ?k1 ?k2 ?_; (case k1 => exact rfl); (case k2 => exact rfl); k_whole)))
  k_with "call builtin:str.index" => (k_dflt (k_extra "index"))
  k_with "call builtin:list.append" => (k_dflt (k_extra "append"))
  k_with "call builtin:str.join" => (k_dflt (k_extra "join"))
  k_with "subscriptTail Name Slice ref ref" => (first | k_dflt (k_extra "cut") | k_extra "stop")
  k_with "call type:list" => (first | k_dflt (k_extra "list") | k_extra "stop")
  k_with "compareOp NotEq ref ref" => (first | k_dflt (k_extra "neq") | k_extra "stop")
  k_with "subscriptTail Name Constant ref int" => (k_dflt (k_extra "tup0"))
  k_with "compareOp NotEq str str" => (k_dflt (k_extra "nes"))
  unfold Gv Gives
  intro dp un gd cn cs a ccd cl outer A₀ base h₀ L m s Q E B F X T hk hd hu hp ret
  refine' enterP [(Str.ofString "i", .int i ti), (Str.ofString "n", .int n tn)] ?k1 ?k2 ?k3 ?k5 ?kA ?kF ?kK ?k6 ?k7 ?k8 ?k9 ?kB ?_ ?c2 ?c3 ?c4 ?c5
  walk_at "my enter"
  intro L' h' F' N' B' X' T'
  dsimp only [kstB] at F'
  (try dsimp only)
  (try k_fold)
  k_steps
  exact ret _ _ _ F'.keep ⟨_, rfl⟩
theorem bit_at_ok (w : World) (mean : ExcName → Option Value) (mg mb : Str → Option Value) (n i : Int) (tn ti : Tok) (h0 : 0 ≤ i) (h1 : i < 64) :
    Gv w mean mg mb 39 1 (fun _ => True) [.int n tn, .int i ti] (fun _ _ v => ∃ t, v = .int (Builtin.bitAnd (n.fdiv (2 ^ i.toNat)) 1) t) := by
  w_top off
  k_with_none
  k_with "my enter" => (((case kA => exact rfl); (case kF => exact rfl); (case kK => assumption); (case k1 => k_asm); (case k2 => k_asm); (case k3 => k_asm); (case k5 => k_asm); (case k6 => k_is); (case k7 => k_is); (case k8 => ktr_room); (case k9 => first | exact BindsTo.of_eq rfl | exact binds_K (by k_in) rfl (by k_is) rfl rfl rfl); (case c5 => decide); (case kB => exact locs rfl); (case c2 => exact rfl); (case c3 => exact rfl); (case c4 => exact rfl); k_whole))
  k_with "my use" => (((case uB => k_asm); (case uF => k_asm); (case uX => k_asm); (case uN => k_asm); (case uT => k_asm); (case uk => first | exact rfl | assumption); (case ud => ktr_room); (case uu => ktr_units)))
  k_with "pyIter ref" => (k_dflt (k_extra "loop"))
  k_with "call ref cons nil" => (first | k_dflt (k_extra "call") | k_extra "stop")
  k_with "binaryOp LShift int int" => (k_dflt (k_extra "shl"))
  k_with "exec While Compare cons nil" => (k_dflt (k_extra "while"))
  k_with "my lit" => (first | with_reducible rfl | with_reducible exact T_0 | with_reducible exact T_1 | with_reducible exact T_0b | with_reducible exact T_0o | with_reducible exact T_0x | with_reducible exact T_sx | with_reducible exact T_so | with_reducible exact T_sd | with_reducible exact T_e | k_extra "lit")
  k_with "subscriptTail" => (k_dflt (k_extra "item"))
  k_with "subscriptTail Name BinOp str int" => (k_dflt (k_extra "item"))
  k_with "subscriptTail Name Name str int" => (k_dflt (k_extra "item"))
  k_with "binaryOp Add str str" => ((k_dflt (refine' addT ?ax ?ay ?az ?_; (case ax => walk_at "my lit"); (case ay => walk_at "my lit"); (case az => k_extra "size")); k_whole; intro t9 tk9; (try dsimp only)))
  k_with "call builtin:len" => (((with_reducible show wpAny _ _ (call (Value.builtin "len") [Value.str _ _]) _ _ _); k_dflt (refine' lenT ?ax ?az ?_; (case ax => walk_at "my lit"); (case az => k_extra "size")); k_whole; intro t9 tk9; (try dsimp only)))
  k_with "binaryOp Mult str int" => (((with_reducible show wpAny _ _ (binaryOp Operator.Mult (Value.str _ _) (Value.int _ _)) _ _ _); k_dflt (refine' mulT ?az ?az2 ?_; (case az => k_extra "size"); (case az2 => k_extra "size")); k_whole; intro t9 tk9; (try dsimp only)))
  k_with "pyIter str" => (k_dflt (k_extra "text loop"))
  k_with "exec For Name Subscript cons nil" => (((rename Fr _ _ _ _ => lF'); (with_unfolding_all refine' For_invVF lF' ?k1 ?k2 ?_; (case k1 => exact rfl); (case k2 => exact rfl); k_whole)))
  k_with "call builtin:str.index" => (k_dflt (k_extra "index"))
  k_with "call builtin:list.append" => (k_dflt (k_extra "append"))
  k_with "call builtin:str.join" => (k_dflt (k_extra "join"))
  k_with "subscriptTail Name Slice ref ref" => (first | k_dflt (k_extra "cut") | k_extra "stop")
  k_with "call type:list" => (first | k_dflt (k_extra "list") | k_extra "stop")
  k_with "compareOp NotEq ref ref" => (first | k_dflt (k_extra "neq") | k_extra "stop")
  k_with "subscriptTail Name Constant ref int" => (k_dflt (k_extra "tup0"))
  k_with "compareOp NotEq str str" => (k_dflt (k_extra "nes"))
  unfold Gv Gives
  intro dp un gd cn cs a ccd cl outer A₀ base h₀ L m s Q E B F X T hk hd hu hp ret
  refine' enterP [(Str.ofString "i", .int i ti), (Str.ofString "n", .int n tn)] ?k1 ?k2 ?k3 ?k5 ?kA ?kF ?kK ?k6 ?k7 ?k8 ?k9 ?kB ?_ ?c2 ?c3 ?c4 ?c5
  walk_at "my enter"
  intro L' h' F' N' B' X' T'
  dsimp only [kstB] at F'
  (try dsimp only)
  (try k_fold)
  k_steps
  exact ret _ _ _ F'.keep ⟨_, rfl⟩
theorem square_of_ok (w : World) (mean : ExcName → Option Value) (mg mb : Str → Option Value) (r c : Int) (tr tc : Tok) (h0 : 0 ≤ r) (h1 : r < 8) :
    Gv w mean mg mb 88 1 (fun _ => True) [.int r tr, .int c tc] (fun _ _ v => ∃ t, v = .int (8 * r + c) t) := by
  w_top off
  k_with_none
  k_with "my enter" => (((case kA => exact rfl); (case kF => exact rfl); (case kK => assumption); (case k1 => k_asm); (case k2 => k_asm); (case k3 => k_asm); (case k5 => k_asm); (case k6 => k_is); (case k7 => k_is); (case k8 => ktr_room); (case k9 => first | exact BindsTo.of_eq rfl | exact binds_K (by k_in) rfl (by k_is) rfl rfl rfl); (case c5 => decide); (case kB => exact locs rfl); (case c2 => exact rfl); (case c3 => exact rfl); (case c4 => exact rfl); k_whole))
  k_with "my use" => (((case uB => k_asm); (case uF => k_asm); (case uX => k_asm); (case uN => k_asm); (case uT => k_asm); (case uk => first | exact rfl | assumption); (case ud => ktr_room); (case uu => ktr_units)))
  k_with "pyIter ref" => (k_dflt (k_extra "loop"))
  k_with "call ref cons nil" => (first | k_dflt (k_extra "call") | k_extra "stop")
  k_with "binaryOp LShift int int" => (k_dflt (k_extra "shl"))
  k_with "exec While Compare cons nil" => (k_dflt (k_extra "while"))
  k_with "my lit" => (first | with_reducible rfl | with_reducible exact T_0 | with_reducible exact T_1 | with_reducible exact T_0b | with_reducible exact T_0o | with_reducible exact T_0x | with_reducible exact T_sx | with_reducible exact T_so | with_reducible exact T_sd | with_reducible exact T_e | k_extra "lit")
  k_with "subscriptTail" => (k_dflt (k_extra "item"))
  k_with "subscriptTail Name BinOp str int" => (k_dflt (k_extra "item"))
  k_with "subscriptTail Name Name str int" => (k_dflt (k_extra "item"))
  k_with "binaryOp Add str str" => ((k_dflt (refine' addT ?ax ?ay ?az ?_; (case ax => walk_at "my lit"); (case ay => walk_at "my lit"); (case az => k_extra "size")); k_whole; intro t9 tk9; (try dsimp only)))
  k_with "call builtin:len" => (((with_reducible show wpAny _ _ (call (Value.builtin "len") [Value.str _ _]) _ _ _); k_dflt (refine' lenT ?ax ?az ?_; (case ax => walk_at "my lit"); (case az => k_extra "size")); k_whole; intro t9 tk9; (try dsimp only)))
  k_with "binaryOp Mult str int" => (((with_reducible show wpAny _ _ (binaryOp Operator.Mult (Value.str _ _) (Value.int _ _)) _ _ _); k_dflt (refine' mulT ?az ?az2 ?_; (case az => k_extra "size"); (case az2 => k_extra "size")); k_whole; intro t9 tk9; (try dsimp only)))
  k_with "pyIter str" => (k_dflt (k_extra "text loop"))
  k_with "exec For Name Subscript cons nil" => (((rename Fr _ _ _ _ => lF'); (with_unfolding_all refine' For_invVF lF' ?k1 ?k2 ?_; (case k1 => exact rfl); (case k2 => exact rfl); k_whole)))
  k_with "call builtin:str.index" => (k_dflt (k_extra "index"))
  k_with "call builtin:list.append" => (k_dflt (k_extra "append"))
  k_with "call builtin:str.join" => (k_dflt (k_extra "join"))
  k_with "subscriptTail Name Slice ref ref" => (first | k_dflt (k_extra "cut") | k_extra "stop")
  k_with "call type:list" => (first | k_dflt (k_extra "list") | k_extra "stop")
  k_with "compareOp NotEq ref ref" => (first | k_dflt (k_extra "neq") | k_extra "stop")
  k_with "subscriptTail Name Constant ref int" => (k_dflt (k_extra "tup0"))
  k_with "compareOp NotEq str str" => (k_dflt (k_extra "nes"))
  unfold Gv Gives
  intro dp un gd cn cs a ccd cl outer A₀ base h₀ L m s Q E B F X T hk hd hu hp ret
  refine' enterP [(Str.ofString "col", .int c tc), (Str.ofString "row", .int r tr)] ?k1 ?k2 ?k3 ?k5 ?kA ?kF ?kK ?k6 ?k7 ?k8 ?k9 ?kB ?_ ?c2 ?c3 ?c4 ?c5
  walk_at "my enter"
  intro L' h' F' N' B' X' T'
  dsimp only [kstB] at F'
  (try dsimp only)
  (try k_fold)
  k_steps
  exact ret _ _ _ F'.keep ⟨_, rfl⟩
theorem squares_ok (w : World) (mean : ExcName → Option Value) (mg mb : Str → Option Value) (b : Int) (tb : Tok) (hb0 : 0 ≤ b) (hb1 : b < 2 ^ 64) :
    Gv w mean mg mb 102 2 (fun _ => True) [.int b tb] (IsNewInts (up (sqs b.toNat))) := by
  w_top off
  k_with_none
  k_with "my enter" => (((case kA => exact rfl); (case kF => exact rfl); (case kK => assumption); (case k1 => k_asm); (case k2 => k_asm); (case k3 => k_asm); (case k5 => k_asm); (case k6 => k_is); (case k7 => k_is); (case k8 => ktr_room); (case k9 => first | exact BindsTo.of_eq rfl | exact binds_K (by k_in) rfl (by k_is) rfl rfl rfl); (case c5 => decide); (case kB => exact locs rfl); (case c2 => exact rfl); (case c3 => exact rfl); (case c4 => exact rfl); k_whole))
  k_with "my use" => (((case uB => k_asm); (case uF => k_asm); (case uX => k_asm); (case uN => k_asm); (case uT => k_asm); (case uk => first | exact rfl | assumption); (case ud => ktr_room); (case uu => ktr_units)))
  k_with "pyIter ref" => (k_dflt (k_extra "loop"))
  k_with "call ref cons nil" => (first | k_dflt (k_extra "call") | k_extra "stop")
  k_with "binaryOp LShift int int" => (k_dflt (k_extra "shl"))
  k_with "exec While Compare cons nil" => (k_dflt (k_extra "while"))
  k_with "my lit" => (first | with_reducible rfl | with_reducible exact T_0 | with_reducible exact T_1 | with_reducible exact T_0b | with_reducible exact T_0o | with_reducible exact T_0x | with_reducible exact T_sx | with_reducible exact T_so | with_reducible exact T_sd | with_reducible exact T_e | k_extra "lit")
  k_with "subscriptTail" => (k_dflt (k_extra "item"))
  k_with "subscriptTail Name BinOp str int" => (k_dflt (k_extra "item"))
  k_with "subscriptTail Name Name str int" => (k_dflt (k_extra "item"))
  k_with "binaryOp Add str str" => ((k_dflt (refine' addT ?ax ?ay ?az ?_; (case ax => walk_at "my lit"); (case ay => walk_at "my lit"); (case az => k_extra "size")); k_whole; intro t9 tk9; (try dsimp only)))
  k_with "call builtin:len" => (((with_reducible show wpAny _ _ (call (Value.builtin "len") [Value.str _ _]) _ _ _); k_dflt (refine' lenT ?ax ?az ?_; (case ax => walk_at "my lit"); (case az => k_extra "size")); k_whole; intro t9 tk9; (try dsimp only)))
  k_with "binaryOp Mult str int" => (((with_reducible show wpAny _ _ (binaryOp Operator.Mult (Value.str _ _) (Value.int _ _)) _ _ _); k_dflt (refine' mulT ?az ?az2 ?_; (case az => k_extra "size"); (case az2 => k_extra "size")); k_whole; intro t9 tk9; (try dsimp only)))
  k_with "pyIter str" => (k_dflt (k_extra "text loop"))
  k_with "exec For Name Subscript cons nil" => (((rename Fr _ _ _ _ => lF'); (with_unfolding_all refine' For_invVF lF' ?k1 ?k2 ?_; (case k1 => exact rfl); (case k2 => exact rfl); k_whole)))
  k_with "call builtin:str.index" => (k_dflt (k_extra "index"))
  k_with "call builtin:list.append" => (k_dflt (k_extra "append"))
  k_with "call builtin:str.join" => (k_dflt (k_extra "join"))
  k_with "subscriptTail Name Slice ref ref" => (first | k_dflt (k_extra "cut") | k_extra "stop")
  k_with "call type:list" => (first | k_dflt (k_extra "list") | k_extra "stop")
  k_with "compareOp NotEq ref ref" => (first | k_dflt (k_extra "neq") | k_extra "stop")
  k_with "subscriptTail Name Constant ref int" => (k_dflt (k_extra "tup0"))
  k_with "compareOp NotEq str str" => (k_dflt (k_extra "nes"))
  unfold Gv Gives
  intro dp un gd cn cs a ccd cl outer A₀ base h₀ L m s Q E B F X T hk hd hu hp ret
  refine' enterP [(Str.ofString "board", .int b tb)] ?k1 ?k2 ?k3 ?k5 ?kA ?kF ?kK ?k6 ?k7 ?k8 ?k9 ?kB ?_ ?c2 ?c3 ?c4 ?c5
  walk_at "my enter"
  intro L' h' F' N' B' X' T'
  dsimp only [kstB] at F'
  (try dsimp only)
  (try k_fold)
  k_with "while" => (
    (rename Fr _ _ _ _ => lF'); (rename News _ _ _ _ => lN')
    with_unfolding_all refine' ksw_while (σ := Int × Nat × List Value × List Int × Nat) (fun c => [(_, listOf c.2.2.1.toArray c.2.2.2.2)]) (fun c => [(Str.ofString "board", .int c.1 c.2.1)]) (fun c => IntsAre c.2.2.1 c.2.2.2.1) [Str.ofString "low"] (fun c => SqInv b.toNat c.1 c.2.2.2.1) (fun c => c.1.toNat) (b, tb, [], [], 0) lF' ?kn ?kf ?kk ?kp ?_
    (case kn => exact lN'); (case kf => exact IntsAre.nil); (case kp => exact SqInv.start hb0 hb1); (case kk => kst_all)
    clear lF' lN'
    rintro ⟨bb, tbb, us, ns, nn⟩ u h tk kFacts kInv kFr kNews
    have hlen9 := SqInv.len kInv kFacts
    dsimp only [kstB] at kFr kNews kFacts kInv
    (try dsimp only)
    (try k_fold))
  k_with "state" => exact (squares_turn (by assumption) (by assumption)).1
  k_with "measure" => exact (squares_turn (by assumption) (by assumption)).2
  k_with "call" => ((refine' useInt (lowest_ok w mean mg mb _ _) ?uB ?uF ?uX ?uN ?uT ?uk ?ud ?uu trivial ?_); (walk_at "my use"); intro t9 h9 tk9 F9 N9; (try dsimp only); (try k_fold))
  k_steps
  rename SqInv _ _ _ => kInv9
  rename IntsAre _ _ => kFacts9
  rename News _ _ _ _ => kNews9
  refine ret _ _ _ (Fr.keep (by k_asm)) (newInts kNews9 (.head _) ?_)
  rw [← SqInv.done kInv9 (by assumption)]
  exact kFacts9

theorem board_of_ok (w : World) (mean : ExcName → Option Value) (mg mb : Str → Option Value) (l : Addr) (vs : List Value) (ns : List Int) (hi : IntsAre vs ns) (hn : ∀ n ∈ ns, 0 ≤ n ∧ n < 64) :
    Gv w mean mg mb 95 2 (fun g => g.IsList l vs.toArray) [.ref l] (fun _ _ v => ∃ t, v = .int ((orAll ns 0 : Nat) : Int) t) := by
  w_top off
  k_with_none
  k_with "my enter" => (((case kA => exact rfl); (case kF => exact rfl); (case kK => assumption); (case k1 => k_asm); (case k2 => k_asm); (case k3 => k_asm); (case k5 => k_asm); (case k6 => k_is); (case k7 => k_is); (case k8 => ktr_room); (case k9 => first | exact BindsTo.of_eq rfl | exact binds_K (by k_in) rfl (by k_is) rfl rfl rfl); (case c5 => decide); (case kB => exact locs rfl); (case c2 => exact rfl); (case c3 => exact rfl); (case c4 => exact rfl); k_whole))
  k_with "my use" => (((case uB => k_asm); (case uF => k_asm); (case uX => k_asm); (case uN => k_asm); (case uT => k_asm); (case uk => first | exact rfl | assumption); (case ud => ktr_room); (case uu => ktr_units)))
  k_with "pyIter ref" => (k_dflt (k_extra "loop"))
  k_with "call ref cons nil" => (first | k_dflt (k_extra "call") | k_extra "stop")
  k_with "binaryOp LShift int int" => (k_dflt (k_extra "shl"))
  k_with "exec While Compare cons nil" => (k_dflt (k_extra "while"))
  k_with "my lit" => (first | with_reducible rfl | with_reducible exact T_0 | with_reducible exact T_1 | with_reducible exact T_0b | with_reducible exact T_0o | with_reducible exact T_0x | with_reducible exact T_sx | with_reducible exact T_so | with_reducible exact T_sd | with_reducible exact T_e | k_extra "lit")
  k_with "subscriptTail" => (k_dflt (k_extra "item"))
  k_with "subscriptTail Name BinOp str int" => (k_dflt (k_extra "item"))
  k_with "subscriptTail Name Name str int" => (k_dflt (k_extra "item"))
  k_with "binaryOp Add str str" => ((k_dflt (refine' addT ?ax ?ay ?az ?_; (case ax => walk_at "my lit"); (case ay => walk_at "my lit"); (case az => k_extra "size")); k_whole; intro t9 tk9; (try dsimp only)))
  k_with "call builtin:len" => (((with_reducible show wpAny _ _ (call (Value.builtin "len") [Value.str _ _]) _ _ _); k_dflt (refine' lenT ?ax ?az ?_; (case ax => walk_at "my lit"); (case az => k_extra "size")); k_whole; intro t9 tk9; (try dsimp only)))
  k_with "binaryOp Mult str int" => (((with_reducible show wpAny _ _ (binaryOp Operator.Mult (Value.str _ _) (Value.int _ _)) _ _ _); k_dflt (refine' mulT ?az ?az2 ?_; (case az => k_extra "size"); (case az2 => k_extra "size")); k_whole; intro t9 tk9; (try dsimp only)))
  k_with "pyIter str" => (k_dflt (k_extra "text loop"))
  k_with "exec For Name Subscript cons nil" => (((rename Fr _ _ _ _ => lF'); (with_unfolding_all refine' For_invVF lF' ?k1 ?k2 ?_; (case k1 => exact rfl); (case k2 => exact rfl); k_whole)))
  k_with "call builtin:str.index" => (k_dflt (k_extra "index"))
  k_with "call builtin:list.append" => (k_dflt (k_extra "append"))
  k_with "call builtin:str.join" => (k_dflt (k_extra "join"))
  k_with "subscriptTail Name Slice ref ref" => (first | k_dflt (k_extra "cut") | k_extra "stop")
  k_with "call type:list" => (first | k_dflt (k_extra "list") | k_extra "stop")
  k_with "compareOp NotEq ref ref" => (first | k_dflt (k_extra "neq") | k_extra "stop")
  k_with "subscriptTail Name Constant ref int" => (k_dflt (k_extra "tup0"))
  k_with "compareOp NotEq str str" => (k_dflt (k_extra "nes"))
  unfold Gv Gives
  intro dp un gd cn cs a ccd cl outer A₀ base h₀ L m s Q E B F X T hk hd hu hp ret
  refine' enterP [(Str.ofString "squares", .ref l)] ?k1 ?k2 ?k3 ?k5 ?kA ?kF ?kK ?k6 ?k7 ?k8 ?k9 ?kB ?_ ?c2 ?c3 ?c4 ?c5
  walk_at "my enter"
  intro L' h' F' N' B' X' T'
  dsimp only [kstB] at F'
  (try dsimp only)
  (try k_fold)
  k_with "loop" => k_state (fun pre bd => bd = ((orAll pre 0 : Nat) : Int)) "board"
  k_with "state" => first | rfl | exact orAll_turn (by assumption)
  k_with "call" => ((refine' useInt (with_bit_ok w mean mg mb _ _ _ _ (hn _ (by assumption)).1 (hn _ (by assumption)).2) ?uB ?uF ?uX ?uN ?uT ?uk ?ud ?uu trivial ?_); (walk_at "my use"); intro t9 h9 tk9 F9 N9; (try dsimp only); (try k_fold))
  k_steps
  exact ret _ _ _ (Fr.keep (by k_asm)) ⟨_, congrArg (Value.int · _) (by assumption)⟩
theorem listed_ok_call (w : World) (mean : ExcName → Option Value) (mg mb : Str → Option Value) (l : Addr) (vs : List Value) (ns : List Int) (num : Int) (tn : Tok) (hi : IntsAre vs ns) (hlen : ns.length ≤ 64) (h0 : 0 ≤ num) (h1 : num < 2 ^ 64) :
    Gv w mean mg mb 161 1 (fun g => g.IsList l vs.toArray) [.ref l, .int num tn] (IsNewInts (listedL ns num)) := by
  w_top off
  k_with_none
  k_with "my enter" => (((case kA => exact rfl); (case kF => exact rfl); (case kK => assumption); (case k1 => k_asm); (case k2 => k_asm); (case k3 => k_asm); (case k5 => k_asm); (case k6 => k_is); (case k7 => k_is); (case k8 => ktr_room); (case k9 => first | exact BindsTo.of_eq rfl | exact binds_K (by k_in) rfl (by k_is) rfl rfl rfl); (case c5 => decide); (case kB => exact locs rfl); (case c2 => exact rfl); (case c3 => exact rfl); (case c4 => exact rfl); k_whole))
  k_with "my use" => (((case uB => k_asm); (case uF => k_asm); (case uX => k_asm); (case uN => k_asm); (case uT => k_asm); (case uk => first | exact rfl | assumption); (case ud => ktr_room); (case uu => ktr_units)))
  k_with "pyIter ref" => (k_dflt (k_extra "loop"))
  k_with "call ref cons nil" => (first | k_dflt (k_extra "call") | k_extra "stop")
  k_with "binaryOp LShift int int" => (k_dflt (k_extra "shl"))
  k_with "exec While Compare cons nil" => (k_dflt (k_extra "while"))
  k_with "my lit" => (first | with_reducible rfl | with_reducible exact T_0 | with_reducible exact T_1 | with_reducible exact T_0b | with_reducible exact T_0o | with_reducible exact T_0x | with_reducible exact T_sx | with_reducible exact T_so | with_reducible exact T_sd | with_reducible exact T_e | k_extra "lit")
  k_with "subscriptTail" => (k_dflt (k_extra "item"))
  k_with "subscriptTail Name BinOp str int" => (k_dflt (k_extra "item"))
  k_with "subscriptTail Name Name str int" => (k_dflt (k_extra "item"))
  k_with "binaryOp Add str str" => ((k_dflt (refine' addT ?ax ?ay ?az ?_; (case ax => walk_at "my lit"); (case ay => walk_at "my lit"); (case az => k_extra "size")); k_whole; intro t9 tk9; (try dsimp only)))
  k_with "call builtin:len" => (((with_reducible show wpAny _ _ (call (Value.builtin "len") [Value.str _ _]) _ _ _); k_dflt (refine' lenT ?ax ?az ?_; (case ax => walk_at "my lit"); (case az => k_extra "size")); k_whole; intro t9 tk9; (try dsimp only)))
  k_with "binaryOp Mult str int" => (((with_reducible show wpAny _ _ (binaryOp Operator.Mult (Value.str _ _) (Value.int _ _)) _ _ _); k_dflt (refine' mulT ?az ?az2 ?_; (case az => k_extra "size"); (case az2 => k_extra "size")); k_whole; intro t9 tk9; (try dsimp only)))
  k_with "pyIter str" => (k_dflt (k_extra "text loop"))
  k_with "exec For Name Subscript cons nil" => (((rename Fr _ _ _ _ => lF'); (with_unfolding_all refine' For_invVF lF' ?k1 ?k2 ?_; (case k1 => exact rfl); (case k2 => exact rfl); k_whole)))
  k_with "call builtin:str.index" => (k_dflt (k_extra "index"))
  k_with "call builtin:list.append" => (k_dflt (k_extra "append"))
  k_with "call builtin:str.join" => (k_dflt (k_extra "join"))
  k_with "subscriptTail Name Slice ref ref" => (first | k_dflt (k_extra "cut") | k_extra "stop")
  k_with "call type:list" => (first | k_dflt (k_extra "list") | k_extra "stop")
  k_with "compareOp NotEq ref ref" => (first | k_dflt (k_extra "neq") | k_extra "stop")
  k_with "subscriptTail Name Constant ref int" => (k_dflt (k_extra "tup0"))
  k_with "compareOp NotEq str str" => (k_dflt (k_extra "nes"))
  unfold Gv Gives
  intro dp un gd cn cs a ccd cl outer A₀ base h₀ L m s Q E B F X T hk hd hu hp ret
  refine' enterP [(Str.ofString "number", .int num tn), (Str.ofString "squares", .ref l)] ?k1 ?k2 ?k3 ?k5 ?kA ?kF ?kK ?k6 ?k7 ?k8 ?k9 ?kB ?_ ?c2 ?c3 ?c4 ?c5
  walk_at "my enter"
  intro L' h' F' N' B' X' T'
  dsimp only [kstB] at F'
  (try dsimp only)
  (try k_fold)
  k_with "loop" => k_state (fun pre ms => Grown (listedOk ns num) pre ms ∧ ms.length ≤ pre.length) "marks"
  k_with "state" => first | exact ⟨Grown.start _, Nat.le_refl _⟩ | exact listed_y1 (by assumption) (by assumption) (by assumption) | exact listed_y2 (by assumption) (by assumption) (by assumption) | exact listed_n (by assumption) (by assumption) (by assumption) (by assumption)
  k_steps
  rename Grown _ _ _ => kInv9
  rename News _ _ _ _ => kNews9
  refine ret _ _ _ (Fr.keep (by k_asm)) (newInts kNews9 (.head _) ?_)
  unfold listedL
  rw [← grown_done kInv9]
  assumption
theorem moved_ok (w : World) (mean : ExcName → Option Value) (mg mb : Str → Option Value) (l : Addr) (vs : List Value) (ns : List Int) (r c : Int) (tr tc : Tok) (hi : IntsAre vs ns) (hlen : ns.length ≤ 64) (hn : ∀ n ∈ ns, 0 ≤ n ∧ n < 64) (hr0 : -7 ≤ r) (hr1 : r ≤ 7) (hc0 : -7 ≤ c) (hc1 : c ≤ 7) :
    Gv w mean mg mb 168 1 (fun g => g.IsList l vs.toArray) [.ref l, .int r tr, .int c tc] (IsNewInts (movedL r c ns)) := by
  w_top off
  k_with_none
  k_with "my enter" => (((case kA => exact rfl); (case kF => exact rfl); (case kK => assumption); (case k1 => k_asm); (case k2 => k_asm); (case k3 => k_asm); (case k5 => k_asm); (case k6 => k_is); (case k7 => k_is); (case k8 => ktr_room); (case k9 => first | exact BindsTo.of_eq rfl | exact binds_K (by k_in) rfl (by k_is) rfl rfl rfl); (case c5 => decide); (case kB => exact locs rfl); (case c2 => exact rfl); (case c3 => exact rfl); (case c4 => exact rfl); k_whole))
  k_with "my use" => (((case uB => k_asm); (case uF => k_asm); (case uX => k_asm); (case uN => k_asm); (case uT => k_asm); (case uk => first | exact rfl | assumption); (case ud => ktr_room); (case uu => ktr_units)))
  k_with "pyIter ref" => (k_dflt (k_extra "loop"))
  k_with "call ref cons nil" => (first | k_dflt (k_extra "call") | k_extra "stop")
  k_with "binaryOp LShift int int" => (k_dflt (k_extra "shl"))
  k_with "exec While Compare cons nil" => (k_dflt (k_extra "while"))
  k_with "my lit" => (first | with_reducible rfl | with_reducible exact T_0 | with_reducible exact T_1 | with_reducible exact T_0b | with_reducible exact T_0o | with_reducible exact T_0x | with_reducible exact T_sx | with_reducible exact T_so | with_reducible exact T_sd | with_reducible exact T_e | k_extra "lit")
  k_with "subscriptTail" => (k_dflt (k_extra "item"))
  k_with "subscriptTail Name BinOp str int" => (k_dflt (k_extra "item"))
  k_with "subscriptTail Name Name str int" => (k_dflt (k_extra "item"))
  k_with "binaryOp Add str str" => ((k_dflt (refine' addT ?ax ?ay ?az ?_; (case ax => walk_at "my lit"); (case ay => walk_at "my lit"); (case az => k_extra "size")); k_whole; intro t9 tk9; (try dsimp only)))
  k_with "call builtin:len" => (((with_reducible show wpAny _ _ (call (Value.builtin "len") [Value.str _ _]) _ _ _); k_dflt (refine' lenT ?ax ?az ?_; (case ax => walk_at "my lit"); (case az => k_extra "size")); k_whole; intro t9 tk9; (try dsimp only)))
  k_with "binaryOp Mult str int" => (((with_reducible show wpAny _ _ (binaryOp Operator.Mult (Value.str _ _) (Value.int _ _)) _ _ _); k_dflt (refine' mulT ?az ?az2 ?_; (case az => k_extra "size"); (case az2 => k_extra "size")); k_whole; intro t9 tk9; (try dsimp only)))
  k_with "pyIter str" => (k_dflt (k_extra "text loop"))
  k_with "exec For Name Subscript cons nil" => (((rename Fr _ _ _ _ => lF'); (with_unfolding_all refine' For_invVF lF' ?k1 ?k2 ?_; (case k1 => exact rfl); (case k2 => exact rfl); k_whole)))
  k_with "call builtin:str.index" => (k_dflt (k_extra "index"))
  k_with "call builtin:list.append" => (k_dflt (k_extra "append"))
  k_with "call builtin:str.join" => (k_dflt (k_extra "join"))
  k_with "subscriptTail Name Slice ref ref" => (first | k_dflt (k_extra "cut") | k_extra "stop")
  k_with "call type:list" => (first | k_dflt (k_extra "list") | k_extra "stop")
  k_with "compareOp NotEq ref ref" => (first | k_dflt (k_extra "neq") | k_extra "stop")
  k_with "subscriptTail Name Constant ref int" => (k_dflt (k_extra "tup0"))
  k_with "compareOp NotEq str str" => (k_dflt (k_extra "nes"))
  unfold Gv Gives
  intro dp un gd cn cs a ccd cl outer A₀ base h₀ L m s Q E B F X T hk hd hu hp ret
  refine' enterP [(Str.ofString "cols", .int c tc), (Str.ofString "rows", .int r tr), (Str.ofString "marks", .ref l)] ?k1 ?k2 ?k3 ?k5 ?kA ?kF ?kK ?k6 ?k7 ?k8 ?k9 ?kB ?_ ?c2 ?c3 ?c4 ?c5
  walk_at "my enter"
  intro L' h' F' N' B' X' T'
  dsimp only [kstB] at F'
  (try dsimp only)
  (try k_fold)
  k_with "loop" => k_state (fun pre ms => Moved r c pre ms ∧ ms.length ≤ pre.length) "moved"
  k_with "state" => first | exact ⟨Moved.start _ _, Nat.le_refl _⟩ | exact moved_y (by assumption) (by assumption) (by assumption) (by assumption) (by assumption) (by assumption) | exact moved_n (by assumption) (by assumption) (by omega)
  k_steps
  rename Moved _ _ _ _ => kInv9
  rename News _ _ _ _ => kNews9
  refine ret _ _ _ (Fr.keep (by k_asm)) (newInts kNews9 (.head _) ?_)
  rw [← kInv9.eq]
  assumption
theorem reach_ok (w : World) (mean : ExcName → Option Value) (mg mb : Str → Option Value) (kind q : Int) (tkd tq : Tok) (hk0 : 0 ≤ kind) (hk1 : kind ≤ 1) (h0 : 0 ≤ q) (h1 : q < 64) :
    Gv w mean mg mb 154 1 (fun _ => True) [.int kind tkd, .int q tq] (IsNewInts (reachL kind q)) := by
  w_top off
  k_with_none
  k_with "my enter" => (((case kA => exact rfl); (case kF => exact rfl); (case kK => assumption); (case k1 => k_asm); (case k2 => k_asm); (case k3 => k_asm); (case k5 => k_asm); (case k6 => k_is); (case k7 => k_is); (case k8 => ktr_room); (case k9 => first | exact BindsTo.of_eq rfl | exact binds_K (by k_in) rfl (by k_is) rfl rfl rfl); (case c5 => decide); (case kB => exact locs rfl); (case c2 => exact rfl); (case c3 => exact rfl); (case c4 => exact rfl); k_whole))
  k_with "my use" => (((case uB => k_asm); (case uF => k_asm); (case uX => k_asm); (case uN => k_asm); (case uT => k_asm); (case uk => first | exact rfl | assumption); (case ud => ktr_room); (case uu => ktr_units)))
  k_with "pyIter ref" => (k_dflt (k_extra "loop"))
  k_with "call ref cons nil" => (first | k_dflt (k_extra "call") | k_extra "stop")
  k_with "binaryOp LShift int int" => (k_dflt (k_extra "shl"))
  k_with "exec While Compare cons nil" => (k_dflt (k_extra "while"))
  k_with "my lit" => (first | with_reducible rfl | with_reducible exact T_0 | with_reducible exact T_1 | with_reducible exact T_0b | with_reducible exact T_0o | with_reducible exact T_0x | with_reducible exact T_sx | with_reducible exact T_so | with_reducible exact T_sd | with_reducible exact T_e | k_extra "lit")
  k_with "subscriptTail" => (k_dflt (k_extra "item"))
  k_with "subscriptTail Name BinOp str int" => (k_dflt (k_extra "item"))
  k_with "subscriptTail Name Name str int" => (k_dflt (k_extra "item"))
  k_with "binaryOp Add str str" => ((k_dflt (refine' addT ?ax ?ay ?az ?_; (case ax => walk_at "my lit"); (case ay => walk_at "my lit"); (case az => k_extra "size")); k_whole; intro t9 tk9; (try dsimp only)))
  k_with "call builtin:len" => (((with_reducible show wpAny _ _ (call (Value.builtin "len") [Value.str _ _]) _ _ _); k_dflt (refine' lenT ?ax ?az ?_; (case ax => walk_at "my lit"); (case az => k_extra "size")); k_whole; intro t9 tk9; (try dsimp only)))
  k_with "binaryOp Mult str int" => (((with_reducible show wpAny _ _ (binaryOp Operator.Mult (Value.str _ _) (Value.int _ _)) _ _ _); k_dflt (refine' mulT ?az ?az2 ?_; (case az => k_extra "size"); (case az2 => k_extra "size")); k_whole; intro t9 tk9; (try dsimp only)))
  k_with "pyIter str" => (k_dflt (k_extra "text loop"))
  k_with "exec For Name Subscript cons nil" => (((rename Fr _ _ _ _ => lF'); (with_unfolding_all refine' For_invVF lF' ?k1 ?k2 ?_; (case k1 => exact rfl); (case k2 => exact rfl); k_whole)))
  k_with "call builtin:str.index" => (k_dflt (k_extra "index"))
  k_with "call builtin:list.append" => (k_dflt (k_extra "append"))
  k_with "call builtin:str.join" => (k_dflt (k_extra "join"))
  k_with "subscriptTail Name Slice ref ref" => (first | k_dflt (k_extra "cut") | k_extra "stop")
  k_with "call type:list" => (first | k_dflt (k_extra "list") | k_extra "stop")
  k_with "compareOp NotEq ref ref" => (first | k_dflt (k_extra "neq") | k_extra "stop")
  k_with "subscriptTail Name Constant ref int" => (k_dflt (k_extra "tup0"))
  k_with "compareOp NotEq str str" => (k_dflt (k_extra "nes"))
  unfold Gv Gives
  intro dp un gd cn cs a ccd cl outer A₀ base h₀ L m s Q E B F X T hk hd hu hp ret
  refine' enterP [(Str.ofString "square", .int q tq), (Str.ofString "kind", .int kind tkd)] ?k1 ?k2 ?k3 ?k5 ?kA ?kF ?kK ?k6 ?k7 ?k8 ?k9 ?kB ?_ ?c2 ?c3 ?c4 ?c5
  walk_at "my enter"
  intro L' h' F' N' B' X' T'
  dsimp only [kstB] at F'
  (try dsimp only)
  (try k_fold)
  have hI0 : IntsAre [] [] := IntsAre.nil
  k_with "loop" => k_state (fun pre ms => Grown (reachOk kind q) pre ms ∧ ms.length ≤ pre.length) "marks"
  k_with "state" => first | exact ⟨Grown.start _, Nat.le_refl _⟩ | exact reach_y0 (by assumption) (by assumption) (by assumption) (by assumption) | exact reach_n0 (by assumption) (by assumption) (by assumption) (by assumption) | exact reach_y1 (by assumption) (by assumption) (by assumption) (by assumption) | exact reach_n1 (by assumption) (by assumption) (by assumption) (by assumption)
  k_steps
  rename Grown _ _ _ => kInv9
  rename News _ _ _ _ => kNews9
  refine ret _ _ _ (Fr.keep (by k_asm)) (newInts kNews9 (.head _) ?_)
  unfold reachL
  rw [← grown_done kInv9]
  assumption
theorem binary_ok (w : World) (mean : ExcName → Option Value) (mg mb : Str → Option Value) (n wd : Int) (tn tw : Tok) (h0 : 0 ≤ n) (h1 : n < 2 ^ 64) (hw0 : 0 ≤ wd) (hw1 : wd ≤ 100) :
    Gv w mean mg mb 67 1 (fun _ => True) [.int n tn, .int wd tw] (fun _ _ v => ∃ t, v = .str (txt (pad wd.toNat (dig (2 ^ 1) n.toNat))) t) := by
  w_top off
  k_with_none
  k_with "my enter" => (((case kA => exact rfl); (case kF => exact rfl); (case kK => assumption); (case k1 => k_asm); (case k2 => k_asm); (case k3 => k_asm); (case k5 => k_asm); (case k6 => k_is); (case k7 => k_is); (case k8 => ktr_room); (case k9 => first | exact BindsTo.of_eq rfl | exact binds_K (by k_in) rfl (by k_is) rfl rfl rfl); (case c5 => decide); (case kB => exact locs rfl); (case c2 => exact rfl); (case c3 => exact rfl); (case c4 => exact rfl); k_whole))
  k_with "my use" => (((case uB => k_asm); (case uF => k_asm); (case uX => k_asm); (case uN => k_asm); (case uT => k_asm); (case uk => first | exact rfl | assumption); (case ud => ktr_room); (case uu => ktr_units)))
  k_with "pyIter ref" => (k_dflt (k_extra "loop"))
  k_with "call ref cons nil" => (first | k_dflt (k_extra "call") | k_extra "stop")
  k_with "binaryOp LShift int int" => (k_dflt (k_extra "shl"))
  k_with "exec While Compare cons nil" => (k_dflt (k_extra "while"))
  k_with "my lit" => (first | with_reducible rfl | with_reducible exact T_0 | with_reducible exact T_1 | with_reducible exact T_0b | with_reducible exact T_0o | with_reducible exact T_0x | with_reducible exact T_sx | with_reducible exact T_so | with_reducible exact T_sd | with_reducible exact T_e | k_extra "lit")
  k_with "subscriptTail" => (k_dflt (k_extra "item"))
  k_with "subscriptTail Name BinOp str int" => (k_dflt (k_extra "item"))
  k_with "subscriptTail Name Name str int" => (k_dflt (k_extra "item"))
  k_with "binaryOp Add str str" => ((k_dflt (refine' addT ?ax ?ay ?az ?_; (case ax => walk_at "my lit"); (case ay => walk_at "my lit"); (case az => k_extra "size")); k_whole; intro t9 tk9; (try dsimp only)))
  k_with "call builtin:len" => (((with_reducible show wpAny _ _ (call (Value.builtin "len") [Value.str _ _]) _ _ _); k_dflt (refine' lenT ?ax ?az ?_; (case ax => walk_at "my lit"); (case az => k_extra "size")); k_whole; intro t9 tk9; (try dsimp only)))
  k_with "binaryOp Mult str int" => (((with_reducible show wpAny _ _ (binaryOp Operator.Mult (Value.str _ _) (Value.int _ _)) _ _ _); k_dflt (refine' mulT ?az ?az2 ?_; (case az => k_extra "size"); (case az2 => k_extra "size")); k_whole; intro t9 tk9; (try dsimp only)))
  k_with "pyIter str" => (k_dflt (k_extra "text loop"))
  k_with "exec For Name Subscript cons nil" => (((rename Fr _ _ _ _ => lF'); (with_unfolding_all refine' For_invVF lF' ?k1 ?k2 ?_; (case k1 => exact rfl); (case k2 => exact rfl); k_whole)))
  k_with "call builtin:str.index" => (k_dflt (k_extra "index"))
  k_with "call builtin:list.append" => (k_dflt (k_extra "append"))
  k_with "call builtin:str.join" => (k_dflt (k_extra "join"))
  k_with "subscriptTail Name Slice ref ref" => (first | k_dflt (k_extra "cut") | k_extra "stop")
  k_with "call type:list" => (first | k_dflt (k_extra "list") | k_extra "stop")
  k_with "compareOp NotEq ref ref" => (first | k_dflt (k_extra "neq") | k_extra "stop")
  k_with "subscriptTail Name Constant ref int" => (k_dflt (k_extra "tup0"))
  k_with "compareOp NotEq str str" => (k_dflt (k_extra "nes"))
  unfold Gv Gives
  intro dp un gd cn cs a ccd cl outer A₀ base h₀ L m s Q E B F X T hk hd hu hp ret
  refine' enterP [(Str.ofString "width", .int wd tw), (Str.ofString "n", .int n tn)] ?k1 ?k2 ?k3 ?k5 ?kA ?kF ?kK ?k6 ?k7 ?k8 ?k9 ?kB ?_ ?c2 ?c3 ?c4 ?c5
  walk_at "my enter"
  intro L' h' F' N' B' X' T'
  dsimp only [kstB] at F'
  (try dsimp only)
  (try k_fold)
  have hn9 : n.toNat < 2 ^ 64 := by omega
  k_with "while" => (
    (rename Fr _ _ _ _ => lF'); (rename News _ _ _ _ => lN')
    (try rw [empty_txt] at lF')
    with_unfolding_all refine' ksw_while (σ := Int × Nat × List Nat × Nat) (fun c => []) (fun c => [(Str.ofString "n", .int c.1 c.2.1), (Str.ofString "text", .str (txt c.2.2.1) c.2.2.2)]) (fun _ => True) [] (fun c => TxInv (2 ^ 1) n.toNat c.1 c.2.2.1) (fun c => c.1.toNat) (n, tn, [], _) lF' ?kn ?kf ?kk ?kp ?_
    (case kn => exact lN'); (case kf => exact True.intro); (case kp => exact TxInv.start h0 h1); (case kk => kst_all)
    clear lF' lN'
    rintro ⟨bb, tbb, tx, ttx⟩ u h tk kFacts kInv kFr kNews
    dsimp only [kstB] at kFr kNews kFacts kInv
    have hlen9 := TxInv.len (by decide) hn9 kInv
    have hbit9 := mask_facts bb 1
    (try dsimp only)
    (try k_fold))
  k_with "item" => (refine' itemT 2 hexd tab2 hbit9.1 hbit9.2 (by decide) ?_; intro t9 tk9; (try dsimp only))
  k_with "size" => first | omega | (simp only [List.length_cons, List.length_nil, List.length_replicate]; omega)
  k_with "state" => exact (TxInv.turn (by decide) (by assumption) (by assumption)).1
  k_with "measure" => exact (TxInv.turn (by decide) (by assumption) (by assumption)).2
  k_steps
  rename TxInv _ _ _ _ => kInv9
  exact ret _ _ _ (Fr.keep (by k_asm)) ⟨_, by rw [pad_eq hw0, TxInv.done kInv9 (by assumption)]⟩

theorem hex_ok (w : World) (mean : ExcName → Option Value) (mg mb : Str → Option Value) (n : Int) (tn : Tok) (h0 : 0 ≤ n) (h1 : n < 2 ^ 64) :
    Gv w mean mg mb 74 1 (fun _ => True) [.int n tn] (fun _ _ v => ∃ t, v = .str (txt (pad 1 (dig (2 ^ 4) n.toNat))) t) := by
  w_top off
  k_with_none
  k_with "my enter" => (((case kA => exact rfl); (case kF => exact rfl); (case kK => assumption); (case k1 => k_asm); (case k2 => k_asm); (case k3 => k_asm); (case k5 => k_asm); (case k6 => k_is); (case k7 => k_is); (case k8 => ktr_room); (case k9 => first | exact BindsTo.of_eq rfl | exact binds_K (by k_in) rfl (by k_is) rfl rfl rfl); (case c5 => decide); (case kB => exact locs rfl); (case c2 => exact rfl); (case c3 => exact rfl); (case c4 => exact rfl); k_whole))
  k_with "my use" => (((case uB => k_asm); (case uF => k_asm); (case uX => k_asm); (case uN => k_asm); (case uT => k_asm); (case uk => first | exact rfl | assumption); (case ud => ktr_room); (case uu => ktr_units)))
  k_with "pyIter ref" => (k_dflt (k_extra "loop"))
  k_with "call ref cons nil" => (first | k_dflt (k_extra "call") | k_extra "stop")
  k_with "binaryOp LShift int int" => (k_dflt (k_extra "shl"))
  k_with "exec While Compare cons nil" => (k_dflt (k_extra "while"))
  k_with "my lit" => (first | with_reducible rfl | with_reducible exact T_0 | with_reducible exact T_1 | with_reducible exact T_0b | with_reducible exact T_0o | with_reducible exact T_0x | with_reducible exact T_sx | with_reducible exact T_so | with_reducible exact T_sd | with_reducible exact T_e | k_extra "lit")
  k_with "subscriptTail" => (k_dflt (k_extra "item"))
  k_with "subscriptTail Name BinOp str int" => (k_dflt (k_extra "item"))
  k_with "subscriptTail Name Name str int" => (k_dflt (k_extra "item"))
  k_with "binaryOp Add str str" => ((k_dflt (refine' addT ?ax ?ay ?az ?_; (case ax => walk_at "my lit"); (case ay => walk_at "my lit"); (case az => k_extra "size")); k_whole; intro t9 tk9; (try dsimp only)))
  k_with "call builtin:len" => (((with_reducible show wpAny _ _ (call (Value.builtin "len") [Value.str _ _]) _ _ _); k_dflt (refine' lenT ?ax ?az ?_; (case ax => walk_at "my lit"); (case az => k_extra "size")); k_whole; intro t9 tk9; (try dsimp only)))
  k_with "binaryOp Mult str int" => (((with_reducible show wpAny _ _ (binaryOp Operator.Mult (Value.str _ _) (Value.int _ _)) _ _ _); k_dflt (refine' mulT ?az ?az2 ?_; (case az => k_extra "size"); (case az2 => k_extra "size")); k_whole; intro t9 tk9; (try dsimp only)))
  k_with "pyIter str" => (k_dflt (k_extra "text loop"))
  k_with "exec For Name Subscript cons nil" => (((rename Fr _ _ _ _ => lF'); (with_unfolding_all refine' For_invVF lF' ?k1 ?k2 ?_; (case k1 => exact rfl); (case k2 => exact rfl); k_whole)))
  k_with "call builtin:str.index" => (k_dflt (k_extra "index"))
  k_with "call builtin:list.append" => (k_dflt (k_extra "append"))
  k_with "call builtin:str.join" => (k_dflt (k_extra "join"))
  k_with "subscriptTail Name Slice ref ref" => (first | k_dflt (k_extra "cut") | k_extra "stop")
  k_with "call type:list" => (first | k_dflt (k_extra "list") | k_extra "stop")
  k_with "compareOp NotEq ref ref" => (first | k_dflt (k_extra "neq") | k_extra "stop")
  k_with "subscriptTail Name Constant ref int" => (k_dflt (k_extra "tup0"))
  k_with "compareOp NotEq str str" => (k_dflt (k_extra "nes"))
  unfold Gv Gives
  intro dp un gd cn cs a ccd cl outer A₀ base h₀ L m s Q E B F X T hk hd hu hp ret
  refine' enterP [(Str.ofString "n", .int n tn)] ?k1 ?k2 ?k3 ?k5 ?kA ?kF ?kK ?k6 ?k7 ?k8 ?k9 ?kB ?_ ?c2 ?c3 ?c4 ?c5
  walk_at "my enter"
  intro L' h' F' N' B' X' T'
  dsimp only [kstB] at F'
  (try dsimp only)
  (try k_fold)
  have hn9 : n.toNat < 2 ^ 64 := by omega
  k_with "while" => (
    (rename Fr _ _ _ _ => lF'); (rename News _ _ _ _ => lN')
    (try rw [empty_txt] at lF')
    with_unfolding_all refine' ksw_while (σ := Int × Nat × List Nat × Nat) (fun c => []) (fun c => [(Str.ofString "n", .int c.1 c.2.1), (Str.ofString "text", .str (txt c.2.2.1) c.2.2.2)]) (fun _ => True) [] (fun c => TxInv (2 ^ 4) n.toNat c.1 c.2.2.1) (fun c => c.1.toNat) (n, tn, [], _) lF' ?kn ?kf ?kk ?kp ?_
    (case kn => exact lN'); (case kf => exact True.intro); (case kp => exact TxInv.start h0 h1); (case kk => kst_all)
    clear lF' lN'
    rintro ⟨bb, tbb, tx, ttx⟩ u h tk kFacts kInv kFr kNews
    dsimp only [kstB] at kFr kNews kFacts kInv
    have hlen9 := TxInv.len (by decide) hn9 kInv
    have hbit9 := mask_facts bb 4
    (try dsimp only)
    (try k_fold))
  k_with "item" => (refine' itemT 16 hexd tab16 hbit9.1 hbit9.2 (by decide) ?_; intro t9 tk9; (try dsimp only))
  k_with "size" => first | omega | (simp only [List.length_cons, List.length_nil]; omega)
  k_with "state" => exact (TxInv.turn (by decide) (by assumption) (by assumption)).1
  k_with "measure" => exact (TxInv.turn (by decide) (by assumption) (by assumption)).2
  k_steps
  · have e9 : n = 0 := by assumption
    exact ret _ _ _ (Fr.keep (by k_asm)) ⟨_, by rw [e9]; exact congrArg (Value.str · _) (zero_txt _)⟩
  · rename TxInv _ _ _ _ => kInv9
    exact ret _ _ _ (Fr.keep (by k_asm)) ⟨_, by rw [pad1 (by decide) (by omega), TxInv.done kInv9 (by assumption)]⟩

theorem octal_ok (w : World) (mean : ExcName → Option Value) (mg mb : Str → Option Value) (n : Int) (tn : Tok) (h0 : 0 ≤ n) (h1 : n < 2 ^ 64) :
    Gv w mean mg mb 81 1 (fun _ => True) [.int n tn] (fun _ _ v => ∃ t, v = .str (txt (pad 1 (dig (2 ^ 3) n.toNat))) t) := by
  w_top off
  k_with_none
  k_with "my enter" => (((case kA => exact rfl); (case kF => exact rfl); (case kK => assumption); (case k1 => k_asm); (case k2 => k_asm); (case k3 => k_asm); (case k5 => k_asm); (case k6 => k_is); (case k7 => k_is); (case k8 => ktr_room); (case k9 => first | exact BindsTo.of_eq rfl | exact binds_K (by k_in) rfl (by k_is) rfl rfl rfl); (case c5 => decide); (case kB => exact locs rfl); (case c2 => exact rfl); (case c3 => exact rfl); (case c4 => exact rfl); k_whole))
  k_with "my use" => (((case uB => k_asm); (case uF => k_asm); (case uX => k_asm); (case uN => k_asm); (case uT => k_asm); (case uk => first | exact rfl | assumption); (case ud => ktr_room); (case uu => ktr_units)))
  k_with "pyIter ref" => (k_dflt (k_extra "loop"))
  k_with "call ref cons nil" => (first | k_dflt (k_extra "call") | k_extra "stop")
  k_with "binaryOp LShift int int" => (k_dflt (k_extra "shl"))
  k_with "exec While Compare cons nil" => (k_dflt (k_extra "while"))
  k_with "my lit" => (first | with_reducible rfl | with_reducible exact T_0 | with_reducible exact T_1 | with_reducible exact T_0b | with_reducible exact T_0o | with_reducible exact T_0x | with_reducible exact T_sx | with_reducible exact T_so | with_reducible exact T_sd | with_reducible exact T_e | k_extra "lit")
  k_with "subscriptTail" => (k_dflt (k_extra "item"))
  k_with "subscriptTail Name BinOp str int" => (k_dflt (k_extra "item"))
  k_with "subscriptTail Name Name str int" => (k_dflt (k_extra "item"))
  k_with "binaryOp Add str str" => ((k_dflt (refine' addT ?ax ?ay ?az ?_; (case ax => walk_at "my lit"); (case ay => walk_at "my lit"); (case az => k_extra "size")); k_whole; intro t9 tk9; (try dsimp only)))
  k_with "call builtin:len" => (((with_reducible show wpAny _ _ (call (Value.builtin "len") [Value.str _ _]) _ _ _); k_dflt (refine' lenT ?ax ?az ?_; (case ax => walk_at "my lit"); (case az => k_extra "size")); k_whole; intro t9 tk9; (try dsimp only)))
  k_with "binaryOp Mult str int" => (((with_reducible show wpAny _ _ (binaryOp Operator.Mult (Value.str _ _) (Value.int _ _)) _ _ _); k_dflt (refine' mulT ?az ?az2 ?_; (case az => k_extra "size"); (case az2 => k_extra "size")); k_whole; intro t9 tk9; (try dsimp only)))
  k_with "pyIter str" => (k_dflt (k_extra "text loop"))
  k_with "exec For Name Subscript cons nil" => (((rename Fr _ _ _ _ => lF'); (with_unfolding_all refine' For_invVF lF' ?k1 ?k2 ?_; (case k1 => exact rfl); (case k2 => exact rfl); k_whole)))
  k_with "call builtin:str.index" => (k_dflt (k_extra "index"))
  k_with "call builtin:list.append" => (k_dflt (k_extra "append"))
  k_with "call builtin:str.join" => (k_dflt (k_extra "join"))
  k_with "subscriptTail Name Slice ref ref" => (first | k_dflt (k_extra "cut") | k_extra "stop")
  k_with "call type:list" => (first | k_dflt (k_extra "list") | k_extra "stop")
  k_with "compareOp NotEq ref ref" => (first | k_dflt (k_extra "neq") | k_extra "stop")
  k_with "subscriptTail Name Constant ref int" => (k_dflt (k_extra "tup0"))
  k_with "compareOp NotEq str str" => (k_dflt (k_extra "nes"))
  unfold Gv Gives
  intro dp un gd cn cs a ccd cl outer A₀ base h₀ L m s Q E B F X T hk hd hu hp ret
  refine' enterP [(Str.ofString "n", .int n tn)] ?k1 ?k2 ?k3 ?k5 ?kA ?kF ?kK ?k6 ?k7 ?k8 ?k9 ?kB ?_ ?c2 ?c3 ?c4 ?c5
  walk_at "my enter"
  intro L' h' F' N' B' X' T'
  dsimp only [kstB] at F'
  (try dsimp only)
  (try k_fold)
  have hn9 : n.toNat < 2 ^ 64 := by omega
  k_with "while" => (
    (rename Fr _ _ _ _ => lF'); (rename News _ _ _ _ => lN')
    (try rw [empty_txt] at lF')
    with_unfolding_all refine' ksw_while (σ := Int × Nat × List Nat × Nat) (fun c => []) (fun c => [(Str.ofString "n", .int c.1 c.2.1), (Str.ofString "text", .str (txt c.2.2.1) c.2.2.2)]) (fun _ => True) [] (fun c => TxInv (2 ^ 3) n.toNat c.1 c.2.2.1) (fun c => c.1.toNat) (n, tn, [], _) lF' ?kn ?kf ?kk ?kp ?_
    (case kn => exact lN'); (case kf => exact True.intro); (case kp => exact TxInv.start h0 h1); (case kk => kst_all)
    clear lF' lN'
    rintro ⟨bb, tbb, tx, ttx⟩ u h tk kFacts kInv kFr kNews
    dsimp only [kstB] at kFr kNews kFacts kInv
    have hlen9 := TxInv.len (by decide) hn9 kInv
    have hbit9 := mask_facts bb 3
    (try dsimp only)
    (try k_fold))
  k_with "item" => (refine' itemT 8 hexd tab8 hbit9.1 hbit9.2 (by decide) ?_; intro t9 tk9; (try dsimp only))
  k_with "size" => first | omega | (simp only [List.length_cons, List.length_nil]; omega)
  k_with "state" => exact (TxInv.turn (by decide) (by assumption) (by assumption)).1
  k_with "measure" => exact (TxInv.turn (by decide) (by assumption) (by assumption)).2
  k_steps
  · have e9 : n = 0 := by assumption
    exact ret _ _ _ (Fr.keep (by k_asm)) ⟨_, by rw [e9]; exact congrArg (Value.str · _) (zero_txt _)⟩
  · rename TxInv _ _ _ _ => kInv9
    exact ret _ _ _ (Fr.keep (by k_asm)) ⟨_, by rw [pad1 (by decide) (by omega), TxInv.done kInv9 (by assumption)]⟩
theorem nt_w (w : World) (mean : ExcName → Option Value) (mg mb : Str → Option Value) (n wd : Int) (tn tb tw : Tok) (h0 : 0 ≤ n) (h1 : n < 2 ^ 64) (hw0 : 0 ≤ wd) (hw1 : wd ≤ 100) :
    Gv w mean mg mb 131 2 (fun _ => True) [.int n tn, .int 2 tb, .int wd tw] (fun _ _ v => ∃ t, v = .str (txt ([48, 98] ++ pad (mx wd).toNat (dig (2 ^ 1) n.toNat))) t) := by
  w_top off
  k_with_none
  k_with "my enter" => (((case kA => exact rfl); (case kF => exact rfl); (case kK => assumption); (case k1 => k_asm); (case k2 => k_asm); (case k3 => k_asm); (case k5 => k_asm); (case k6 => k_is); (case k7 => k_is); (case k8 => ktr_room); (case k9 => first | exact BindsTo.of_eq rfl | exact binds_K (by k_in) rfl (by k_is) rfl rfl rfl); (case c5 => decide); (case kB => exact locs rfl); (case c2 => exact rfl); (case c3 => exact rfl); (case c4 => exact rfl); k_whole))
  k_with "my use" => (((case uB => k_asm); (case uF => k_asm); (case uX => k_asm); (case uN => k_asm); (case uT => k_asm); (case uk => first | exact rfl | assumption); (case ud => ktr_room); (case uu => ktr_units)))
  k_with "pyIter ref" => (k_dflt (k_extra "loop"))
  k_with "call ref cons nil" => (first | k_dflt (k_extra "call") | k_extra "stop")
  k_with "binaryOp LShift int int" => (k_dflt (k_extra "shl"))
  k_with "exec While Compare cons nil" => (k_dflt (k_extra "while"))
  k_with "my lit" => (first | with_reducible rfl | with_reducible exact T_0 | with_reducible exact T_1 | with_reducible exact T_0b | with_reducible exact T_0o | with_reducible exact T_0x | with_reducible exact T_sx | with_reducible exact T_so | with_reducible exact T_sd | with_reducible exact T_e | k_extra "lit")
  k_with "subscriptTail" => (k_dflt (k_extra "item"))
  k_with "subscriptTail Name BinOp str int" => (k_dflt (k_extra "item"))
  k_with "subscriptTail Name Name str int" => (k_dflt (k_extra "item"))
  k_with "binaryOp Add str str" => ((k_dflt (refine' addT ?ax ?ay ?az ?_; (case ax => walk_at "my lit"); (case ay => walk_at "my lit"); (case az => k_extra "size")); k_whole; intro t9 tk9; (try dsimp only)))
  k_with "call builtin:len" => (((with_reducible show wpAny _ _ (call (Value.builtin "len") [Value.str _ _]) _ _ _); k_dflt (refine' lenT ?ax ?az ?_; (case ax => walk_at "my lit"); (case az => k_extra "size")); k_whole; intro t9 tk9; (try dsimp only)))
  k_with "binaryOp Mult str int" => (((with_reducible show wpAny _ _ (binaryOp Operator.Mult (Value.str _ _) (Value.int _ _)) _ _ _); k_dflt (refine' mulT ?az ?az2 ?_; (case az => k_extra "size"); (case az2 => k_extra "size")); k_whole; intro t9 tk9; (try dsimp only)))
  k_with "pyIter str" => (k_dflt (k_extra "text loop"))
  k_with "exec For Name Subscript cons nil" => (((rename Fr _ _ _ _ => lF'); (with_unfolding_all refine' For_invVF lF' ?k1 ?k2 ?_; (case k1 => exact rfl); (case k2 => exact rfl); k_whole)))
  k_with "call builtin:str.index" => (k_dflt (k_extra "index"))
  k_with "call builtin:list.append" => (k_dflt (k_extra "append"))
  k_with "call builtin:str.join" => (k_dflt (k_extra "join"))
  k_with "subscriptTail Name Slice ref ref" => (first | k_dflt (k_extra "cut") | k_extra "stop")
  k_with "call type:list" => (first | k_dflt (k_extra "list") | k_extra "stop")
  k_with "compareOp NotEq ref ref" => (first | k_dflt (k_extra "neq") | k_extra "stop")
  k_with "subscriptTail Name Constant ref int" => (k_dflt (k_extra "tup0"))
  k_with "compareOp NotEq str str" => (k_dflt (k_extra "nes"))
  unfold Gv Gives
  intro dp un gd cn cs a ccd cl outer A₀ base h₀ L m s Q E B F X T hk hd hu hp ret
  refine' enterP [(Str.ofString "width", .int wd tw), (Str.ofString "base", .int 2 tb), (Str.ofString "n", .int n tn)] ?k1 ?k2 ?k3 ?k5 ?kA ?kF ?kK ?k6 ?k7 ?k8 ?k9 ?kB ?_ ?c2 ?c3 ?c4 ?c5
  walk_at "my enter"
  intro L' h' F' N' B' X' T'
  dsimp only [kstB] at F'
  (try dsimp only)
  (try k_fold)
  have hm9 := mx_facts hw0 hw1
  have hsz9 := pad_dig_len (B := 2 ^ 1) (k := (mx wd).toNat) (n := n.toNat) (by decide) (by omega) (by omega)
  k_with "size" => (simp only [List.length_cons, List.length_nil]; exact Nat.le_trans (Nat.add_le_add_left hsz9 _) (by decide))
  k_with "call" => ((refine' useStr (binary_ok w mean mg mb _ (mx wd) _ _ h0 h1 hm9.1 hm9.2) ?uB ?uF ?uX ?uN ?uT ?uk ?ud ?uu trivial ?_); (walk_at "my use"); intro t9 h9 tk9 F9 N9; (try dsimp only); (try k_fold))
  k_steps
  exact ret _ _ _ (Fr.keep (by k_asm)) ⟨_, rfl⟩

theorem nt_2 (w : World) (mean : ExcName → Option Value) (mg mb : Str → Option Value) (n : Int) (tn tb : Tok) (h0 : 0 ≤ n) (h1 : n < 2 ^ 64) :
    Gv w mean mg mb 131 2 (fun _ => True) [.int n tn, .int 2 tb] (fun _ _ v => ∃ t, v = .str (txt ([48, 98] ++ pad (1 : Int).toNat (dig (2 ^ 1) n.toNat))) t) := by
  w_top off
  k_with_none
  k_with "my enter" => (((case kA => exact rfl); (case kF => exact rfl); (case kK => assumption); (case k1 => k_asm); (case k2 => k_asm); (case k3 => k_asm); (case k5 => k_asm); (case k6 => k_is); (case k7 => k_is); (case k8 => ktr_room); (case k9 => first | exact BindsTo.of_eq rfl | exact binds_K (by k_in) rfl (by k_is) rfl rfl rfl); (case c5 => decide); (case kB => exact locs rfl); (case c2 => exact rfl); (case c3 => exact rfl); (case c4 => exact rfl); k_whole))
  k_with "my use" => (((case uB => k_asm); (case uF => k_asm); (case uX => k_asm); (case uN => k_asm); (case uT => k_asm); (case uk => first | exact rfl | assumption); (case ud => ktr_room); (case uu => ktr_units)))
  k_with "pyIter ref" => (k_dflt (k_extra "loop"))
  k_with "call ref cons nil" => (first | k_dflt (k_extra "call") | k_extra "stop")
  k_with "binaryOp LShift int int" => (k_dflt (k_extra "shl"))
  k_with "exec While Compare cons nil" => (k_dflt (k_extra "while"))
  k_with "my lit" => (first | with_reducible rfl | with_reducible exact T_0 | with_reducible exact T_1 | with_reducible exact T_0b | with_reducible exact T_0o | with_reducible exact T_0x | with_reducible exact T_sx | with_reducible exact T_so | with_reducible exact T_sd | with_reducible exact T_e | k_extra "lit")
  k_with "subscriptTail" => (k_dflt (k_extra "item"))
  k_with "subscriptTail Name BinOp str int" => (k_dflt (k_extra "item"))
  k_with "subscriptTail Name Name str int" => (k_dflt (k_extra "item"))
  k_with "binaryOp Add str str" => ((k_dflt (refine' addT ?ax ?ay ?az ?_; (case ax => walk_at "my lit"); (case ay => walk_at "my lit"); (case az => k_extra "size")); k_whole; intro t9 tk9; (try dsimp only)))
  k_with "call builtin:len" => (((with_reducible show wpAny _ _ (call (Value.builtin "len") [Value.str _ _]) _ _ _); k_dflt (refine' lenT ?ax ?az ?_; (case ax => walk_at "my lit"); (case az => k_extra "size")); k_whole; intro t9 tk9; (try dsimp only)))
  k_with "binaryOp Mult str int" => (((with_reducible show wpAny _ _ (binaryOp Operator.Mult (Value.str _ _) (Value.int _ _)) _ _ _); k_dflt (refine' mulT ?az ?az2 ?_; (case az => k_extra "size"); (case az2 => k_extra "size")); k_whole; intro t9 tk9; (try dsimp only)))
  k_with "pyIter str" => (k_dflt (k_extra "text loop"))
  k_with "exec For Name Subscript cons nil" => (((rename Fr _ _ _ _ => lF'); (with_unfolding_all refine' For_invVF lF' ?k1 ?k2 ?_; (case k1 => exact rfl); (case k2 => exact rfl); k_whole)))
  k_with "call builtin:str.index" => (k_dflt (k_extra "index"))
  k_with "call builtin:list.append" => (k_dflt (k_extra "append"))
  k_with "call builtin:str.join" => (k_dflt (k_extra "join"))
  k_with "subscriptTail Name Slice ref ref" => (first | k_dflt (k_extra "cut") | k_extra "stop")
  k_with "call type:list" => (first | k_dflt (k_extra "list") | k_extra "stop")
  k_with "compareOp NotEq ref ref" => (first | k_dflt (k_extra "neq") | k_extra "stop")
  k_with "subscriptTail Name Constant ref int" => (k_dflt (k_extra "tup0"))
  k_with "compareOp NotEq str str" => (k_dflt (k_extra "nes"))
  unfold Gv Gives
  intro dp un gd cn cs a ccd cl outer A₀ base h₀ L m s Q E B F X T hk hd hu hp ret
  refine' enterP [(Str.ofString "width", .int 1 356), (Str.ofString "base", .int 2 tb), (Str.ofString "n", .int n tn)] ?k1 ?k2 ?k3 ?k5 ?kA ?kF ?kK ?k6 ?k7 ?k8 ?k9 ?kB ?_ ?c2 ?c3 ?c4 ?c5
  walk_at "my enter"
  intro L' h' F' N' B' X' T'
  dsimp only [kstB] at F'
  (try dsimp only)
  (try k_fold)
  have hsz9 := pad_dig_len (B := 2 ^ 1) (k := (1 : Int).toNat) (n := n.toNat) (by decide) (by decide) (by omega)
  k_with "size" => (simp only [List.length_cons, List.length_nil]; exact Nat.le_trans (Nat.add_le_add_left hsz9 _) (by decide))
  k_with "call" => ((refine' useStr (binary_ok w mean mg mb _ 1 _ _ h0 h1 (by decide) (by decide)) ?uB ?uF ?uX ?uN ?uT ?uk ?ud ?uu trivial ?_); (walk_at "my use"); intro t9 h9 tk9 F9 N9; (try dsimp only); (try k_fold))
  k_steps
  exact ret _ _ _ (Fr.keep (by k_asm)) ⟨_, rfl⟩

theorem nt_8 (w : World) (mean : ExcName → Option Value) (mg mb : Str → Option Value) (n : Int) (tn tb : Tok) (h0 : 0 ≤ n) (h1 : n < 2 ^ 64) :
    Gv w mean mg mb 131 2 (fun _ => True) [.int n tn, .int 8 tb] (fun _ _ v => ∃ t, v = .str (txt ([48, 111] ++ pad 1 (dig (2 ^ 3) n.toNat))) t) := by
  w_top off
  k_with_none
  k_with "my enter" => (((case kA => exact rfl); (case kF => exact rfl); (case kK => assumption); (case k1 => k_asm); (case k2 => k_asm); (case k3 => k_asm); (case k5 => k_asm); (case k6 => k_is); (case k7 => k_is); (case k8 => ktr_room); (case k9 => first | exact BindsTo.of_eq rfl | exact binds_K (by k_in) rfl (by k_is) rfl rfl rfl); (case c5 => decide); (case kB => exact locs rfl); (case c2 => exact rfl); (case c3 => exact rfl); (case c4 => exact rfl); k_whole))
  k_with "my use" => (((case uB => k_asm); (case uF => k_asm); (case uX => k_asm); (case uN => k_asm); (case uT => k_asm); (case uk => first | exact rfl | assumption); (case ud => ktr_room); (case uu => ktr_units)))
  k_with "pyIter ref" => (k_dflt (k_extra "loop"))
  k_with "call ref cons nil" => (first | k_dflt (k_extra "call") | k_extra "stop")
  k_with "binaryOp LShift int int" => (k_dflt (k_extra "shl"))
  k_with "exec While Compare cons nil" => (k_dflt (k_extra "while"))
  k_with "my lit" => (first | with_reducible rfl | with_reducible exact T_0 | with_reducible exact T_1 | with_reducible exact T_0b | with_reducible exact T_0o | with_reducible exact T_0x | with_reducible exact T_sx | with_reducible exact T_so | with_reducible exact T_sd | with_reducible exact T_e | k_extra "lit")
  k_with "subscriptTail" => (k_dflt (k_extra "item"))
  k_with "subscriptTail Name BinOp str int" => (k_dflt (k_extra "item"))
  k_with "subscriptTail Name Name str int" => (k_dflt (k_extra "item"))
  k_with "binaryOp Add str str" => ((k_dflt (refine' addT ?ax ?ay ?az ?_; (case ax => walk_at "my lit"); (case ay => walk_at "my lit"); (case az => k_extra "size")); k_whole; intro t9 tk9; (try dsimp only)))
  k_with "call builtin:len" => (((with_reducible show wpAny _ _ (call (Value.builtin "len") [Value.str _ _]) _ _ _); k_dflt (refine' lenT ?ax ?az ?_; (case ax => walk_at "my lit"); (case az => k_extra "size")); k_whole; intro t9 tk9; (try dsimp only)))
  k_with "binaryOp Mult str int" => (((with_reducible show wpAny _ _ (binaryOp Operator.Mult (Value.str _ _) (Value.int _ _)) _ _ _); k_dflt (refine' mulT ?az ?az2 ?_; (case az => k_extra "size"); (case az2 => k_extra "size")); k_whole; intro t9 tk9; (try dsimp only)))
  k_with "pyIter str" => (k_dflt (k_extra "text loop"))
  k_with "exec For Name Subscript cons nil" => (((rename Fr _ _ _ _ => lF'); (with_unfolding_all refine' For_invVF lF' ?k1 ?k2 ?_; (case k1 => exact rfl); (case k2 => exact rfl); k_whole)))
  k_with "call builtin:str.index" => (k_dflt (k_extra "index"))
  k_with "call builtin:list.append" => (k_dflt (k_extra "append"))
  k_with "call builtin:str.join" => (k_dflt (k_extra "join"))
  k_with "subscriptTail Name Slice ref ref" => (first | k_dflt (k_extra "cut") | k_extra "stop")
  k_with "call type:list" => (first | k_dflt (k_extra "list") | k_extra "stop")
  k_with "compareOp NotEq ref ref" => (first | k_dflt (k_extra "neq") | k_extra "stop")
  k_with "subscriptTail Name Constant ref int" => (k_dflt (k_extra "tup0"))
  k_with "compareOp NotEq str str" => (k_dflt (k_extra "nes"))
  unfold Gv Gives
  intro dp un gd cn cs a ccd cl outer A₀ base h₀ L m s Q E B F X T hk hd hu hp ret
  refine' enterP [(Str.ofString "width", .int 1 356), (Str.ofString "base", .int 8 tb), (Str.ofString "n", .int n tn)] ?k1 ?k2 ?k3 ?k5 ?kA ?kF ?kK ?k6 ?k7 ?k8 ?k9 ?kB ?_ ?c2 ?c3 ?c4 ?c5
  walk_at "my enter"
  intro L' h' F' N' B' X' T'
  dsimp only [kstB] at F'
  (try dsimp only)
  (try k_fold)
  have hsz9 := pad_dig_len (B := 2 ^ 3) (k := 1) (n := n.toNat) (by decide) (by decide) (by omega)
  k_with "size" => (simp only [List.length_cons, List.length_nil]; exact Nat.le_trans (Nat.add_le_add_left hsz9 _) (by decide))
  k_with "call" => ((refine' useStr (octal_ok w mean mg mb _ _ h0 h1) ?uB ?uF ?uX ?uN ?uT ?uk ?ud ?uu trivial ?_); (walk_at "my use"); intro t9 h9 tk9 F9 N9; (try dsimp only); (try k_fold))
  k_steps
  exact ret _ _ _ (Fr.keep (by k_asm)) ⟨_, rfl⟩

theorem nt_16 (w : World) (mean : ExcName → Option Value) (mg mb : Str → Option Value) (n : Int) (tn tb : Tok) (h0 : 0 ≤ n) (h1 : n < 2 ^ 64) :
    Gv w mean mg mb 131 2 (fun _ => True) [.int n tn, .int 16 tb] (fun _ _ v => ∃ t, v = .str (txt ([48, 120] ++ pad 1 (dig (2 ^ 4) n.toNat))) t) := by
  w_top off
  k_with_none
  k_with "my enter" => (((case kA => exact rfl); (case kF => exact rfl); (case kK => assumption); (case k1 => k_asm); (case k2 => k_asm); (case k3 => k_asm); (case k5 => k_asm); (case k6 => k_is); (case k7 => k_is); (case k8 => ktr_room); (case k9 => first | exact BindsTo.of_eq rfl | exact binds_K (by k_in) rfl (by k_is) rfl rfl rfl); (case c5 => decide); (case kB => exact locs rfl); (case c2 => exact rfl); (case c3 => exact rfl); (case c4 => exact rfl); k_whole))
  k_with "my use" => (((case uB => k_asm); (case uF => k_asm); (case uX => k_asm); (case uN => k_asm); (case uT => k_asm); (case uk => first | exact rfl | assumption); (case ud => ktr_room); (case uu => ktr_units)))
  k_with "pyIter ref" => (k_dflt (k_extra "loop"))
  k_with "call ref cons nil" => (first | k_dflt (k_extra "call") | k_extra "stop")
  k_with "binaryOp LShift int int" => (k_dflt (k_extra "shl"))
  k_with "exec While Compare cons nil" => (k_dflt (k_extra "while"))
  k_with "my lit" => (first | with_reducible rfl | with_reducible exact T_0 | with_reducible exact T_1 | with_reducible exact T_0b | with_reducible exact T_0o | with_reducible exact T_0x | with_reducible exact T_sx | with_reducible exact T_so | with_reducible exact T_sd | with_reducible exact T_e | k_extra "lit")
  k_with "subscriptTail" => (k_dflt (k_extra "item"))
  k_with "subscriptTail Name BinOp str int" => (k_dflt (k_extra "item"))
  k_with "subscriptTail Name Name str int" => (k_dflt (k_extra "item"))
  k_with "binaryOp Add str str" => ((k_dflt (refine' addT ?ax ?ay ?az ?_; (case ax => walk_at "my lit"); (case ay => walk_at "my lit"); (case az => k_extra "size")); k_whole; intro t9 tk9; (try dsimp only)))
  k_with "call builtin:len" => (((with_reducible show wpAny _ _ (call (Value.builtin "len") [Value.str _ _]) _ _ _); k_dflt (refine' lenT ?ax ?az ?_; (case ax => walk_at "my lit"); (case az => k_extra "size")); k_whole; intro t9 tk9; (try dsimp only)))
  k_with "binaryOp Mult str int" => (((with_reducible show wpAny _ _ (binaryOp Operator.Mult (Value.str _ _) (Value.int _ _)) _ _ _); k_dflt (refine' mulT ?az ?az2 ?_; (case az => k_extra "size"); (case az2 => k_extra "size")); k_whole; intro t9 tk9; (try dsimp only)))
  k_with "pyIter str" => (k_dflt (k_extra "text loop"))
  k_with "exec For Name Subscript cons nil" => (((rename Fr _ _ _ _ => lF'); (with_unfolding_all refine' For_invVF lF' ?k1 ?k2 ?_; (case k1 => exact rfl); (case k2 => exact rfl); k_whole)))
  k_with "call builtin:str.index" => (k_dflt (k_extra "index"))
  k_with "call builtin:list.append" => (k_dflt (k_extra "append"))
  k_with "call builtin:str.join" => (k_dflt (k_extra "join"))
  k_with "subscriptTail Name Slice ref ref" => (first | k_dflt (k_extra "cut") | k_extra "stop")
  k_with "call type:list" => (first | k_dflt (k_extra "list") | k_extra "stop")
  k_with "compareOp NotEq ref ref" => (first | k_dflt (k_extra "neq") | k_extra "stop")
  k_with "subscriptTail Name Constant ref int" => (k_dflt (k_extra "tup0"))
  k_with "compareOp NotEq str str" => (k_dflt (k_extra "nes"))
  unfold Gv Gives
  intro dp un gd cn cs a ccd cl outer A₀ base h₀ L m s Q E B F X T hk hd hu hp ret
  refine' enterP [(Str.ofString "width", .int 1 356), (Str.ofString "base", .int 16 tb), (Str.ofString "n", .int n tn)] ?k1 ?k2 ?k3 ?k5 ?kA ?kF ?kK ?k6 ?k7 ?k8 ?k9 ?kB ?_ ?c2 ?c3 ?c4 ?c5
  walk_at "my enter"
  intro L' h' F' N' B' X' T'
  dsimp only [kstB] at F'
  (try dsimp only)
  (try k_fold)
  have hsz9 := pad_dig_len (B := 2 ^ 4) (k := 1) (n := n.toNat) (by decide) (by decide) (by omega)
  k_with "size" => (simp only [List.length_cons, List.length_nil]; exact Nat.le_trans (Nat.add_le_add_left hsz9 _) (by decide))
  k_with "call" => ((refine' useStr (hex_ok w mean mg mb _ _ h0 h1) ?uB ?uF ?uX ?uN ?uT ?uk ?ud ?uu trivial ?_); (walk_at "my use"); intro t9 h9 tk9 F9 N9; (try dsimp only); (try k_fold))
  k_steps
  exact ret _ _ _ (Fr.keep (by k_asm)) ⟨_, rfl⟩

theorem nt_10 (w : World) (mean : ExcName → Option Value) (mg mb : Str → Option Value) (n : Int) (tn tb : Tok) (h0 : 0 ≤ n) (h1 : n < 2 ^ 64) :
    Gv w mean mg mb 131 2 (fun _ => True) [.int n tn, .int 10 tb] (fun _ _ v => ∃ t, v = .str (Str.ofString (toString n)) t) := by
  w_top off
  k_with_none
  k_with "my enter" => (((case kA => exact rfl); (case kF => exact rfl); (case kK => assumption); (case k1 => k_asm); (case k2 => k_asm); (case k3 => k_asm); (case k5 => k_asm); (case k6 => k_is); (case k7 => k_is); (case k8 => ktr_room); (case k9 => first | exact BindsTo.of_eq rfl | exact binds_K (by k_in) rfl (by k_is) rfl rfl rfl); (case c5 => decide); (case kB => exact locs rfl); (case c2 => exact rfl); (case c3 => exact rfl); (case c4 => exact rfl); k_whole))
  k_with "my use" => (((case uB => k_asm); (case uF => k_asm); (case uX => k_asm); (case uN => k_asm); (case uT => k_asm); (case uk => first | exact rfl | assumption); (case ud => ktr_room); (case uu => ktr_units)))
  k_with "pyIter ref" => (k_dflt (k_extra "loop"))
  k_with "call ref cons nil" => (first | k_dflt (k_extra "call") | k_extra "stop")
  k_with "binaryOp LShift int int" => (k_dflt (k_extra "shl"))
  k_with "exec While Compare cons nil" => (k_dflt (k_extra "while"))
  k_with "my lit" => (first | with_reducible rfl | with_reducible exact T_0 | with_reducible exact T_1 | with_reducible exact T_0b | with_reducible exact T_0o | with_reducible exact T_0x | with_reducible exact T_sx | with_reducible exact T_so | with_reducible exact T_sd | with_reducible exact T_e | k_extra "lit")
  k_with "subscriptTail" => (k_dflt (k_extra "item"))
  k_with "subscriptTail Name BinOp str int" => (k_dflt (k_extra "item"))
  k_with "subscriptTail Name Name str int" => (k_dflt (k_extra "item"))
  k_with "binaryOp Add str str" => ((k_dflt (refine' addT ?ax ?ay ?az ?_; (case ax => walk_at "my lit"); (case ay => walk_at "my lit"); (case az => k_extra "size")); k_whole; intro t9 tk9; (try dsimp only)))
  k_with "call builtin:len" => (((with_reducible show wpAny _ _ (call (Value.builtin "len") [Value.str _ _]) _ _ _); k_dflt (refine' lenT ?ax ?az ?_; (case ax => walk_at "my lit"); (case az => k_extra "size")); k_whole; intro t9 tk9; (try dsimp only)))
  k_with "binaryOp Mult str int" => (((with_reducible show wpAny _ _ (binaryOp Operator.Mult (Value.str _ _) (Value.int _ _)) _ _ _); k_dflt (refine' mulT ?az ?az2 ?_; (case az => k_extra "size"); (case az2 => k_extra "size")); k_whole; intro t9 tk9; (try dsimp only)))
  k_with "pyIter str" => (k_dflt (k_extra "text loop"))
  k_with "exec For Name Subscript cons nil" => (((rename Fr _ _ _ _ => lF'); (with_unfolding_all refine' For_invVF lF' ?k1 ?k2 ?_; (case k1 => exact rfl); (case k2 => exact rfl); k_whole)))
  k_with "call builtin:str.index" => (k_dflt (k_extra "index"))
  k_with "call builtin:list.append" => (k_dflt (k_extra "append"))
  k_with "call builtin:str.join" => (k_dflt (k_extra "join"))
  k_with "subscriptTail Name Slice ref ref" => (first | k_dflt (k_extra "cut") | k_extra "stop")
  k_with "call type:list" => (first | k_dflt (k_extra "list") | k_extra "stop")
  k_with "compareOp NotEq ref ref" => (first | k_dflt (k_extra "neq") | k_extra "stop")
  k_with "subscriptTail Name Constant ref int" => (k_dflt (k_extra "tup0"))
  k_with "compareOp NotEq str str" => (k_dflt (k_extra "nes"))
  unfold Gv Gives
  intro dp un gd cn cs a ccd cl outer A₀ base h₀ L m s Q E B F X T hk hd hu hp ret
  refine' enterP [(Str.ofString "width", .int 1 356), (Str.ofString "base", .int 10 tb), (Str.ofString "n", .int n tn)] ?k1 ?k2 ?k3 ?k5 ?kA ?kF ?kK ?k6 ?k7 ?k8 ?k9 ?kB ?_ ?c2 ?c3 ?c4 ?c5
  walk_at "my enter"
  intro L' h' F' N' B' X' T'
  dsimp only [kstB] at F'
  (try dsimp only)
  (try k_fold)
  k_steps
  exact ret _ _ _ (Fr.keep (by k_asm)) ⟨_, rfl⟩
theorem square_name_ok (w : World) (mean : ExcName → Option Value) (mg mb : Str → Option Value) (q : Int) (tq : Tok) (h0 : 0 ≤ q) (h1 : q < 64) :
    Gv w mean mg mb 138 1 (fun _ => True) [.int q tq] (fun _ _ v => ∃ t, v = .str (txt [97 + (q.fmod 8).toNat, 49 + (q.fdiv 8).toNat]) t) := by
  w_top off
  k_with_none
  k_with "my enter" => (((case kA => exact rfl); (case kF => exact rfl); (case kK => assumption); (case k1 => k_asm); (case k2 => k_asm); (case k3 => k_asm); (case k5 => k_asm); (case k6 => k_is); (case k7 => k_is); (case k8 => ktr_room); (case k9 => first | exact BindsTo.of_eq rfl | exact binds_K (by k_in) rfl (by k_is) rfl rfl rfl); (case c5 => decide); (case kB => exact locs rfl); (case c2 => exact rfl); (case c3 => exact rfl); (case c4 => exact rfl); k_whole))
  k_with "my use" => (((case uB => k_asm); (case uF => k_asm); (case uX => k_asm); (case uN => k_asm); (case uT => k_asm); (case uk => first | exact rfl | assumption); (case ud => ktr_room); (case uu => ktr_units)))
  k_with "pyIter ref" => (k_dflt (k_extra "loop"))
  k_with "call ref cons nil" => (first | k_dflt (k_extra "call") | k_extra "stop")
  k_with "binaryOp LShift int int" => (k_dflt (k_extra "shl"))
  k_with "exec While Compare cons nil" => (k_dflt (k_extra "while"))
  k_with "my lit" => (first | with_reducible rfl | with_reducible exact T_0 | with_reducible exact T_1 | with_reducible exact T_0b | with_reducible exact T_0o | with_reducible exact T_0x | with_reducible exact T_sx | with_reducible exact T_so | with_reducible exact T_sd | with_reducible exact T_e | k_extra "lit")
  k_with "subscriptTail" => (k_dflt (k_extra "item"))
  k_with "subscriptTail Name BinOp str int" => (k_dflt (k_extra "item"))
  k_with "subscriptTail Name Name str int" => (k_dflt (k_extra "item"))
  k_with "binaryOp Add str str" => ((k_dflt (refine' addT ?ax ?ay ?az ?_; (case ax => walk_at "my lit"); (case ay => walk_at "my lit"); (case az => k_extra "size")); k_whole; intro t9 tk9; (try dsimp only)))
  k_with "call builtin:len" => (((with_reducible show wpAny _ _ (call (Value.builtin "len") [Value.str _ _]) _ _ _); k_dflt (refine' lenT ?ax ?az ?_; (case ax => walk_at "my lit"); (case az => k_extra "size")); k_whole; intro t9 tk9; (try dsimp only)))
  k_with "binaryOp Mult str int" => (((with_reducible show wpAny _ _ (binaryOp Operator.Mult (Value.str _ _) (Value.int _ _)) _ _ _); k_dflt (refine' mulT ?az ?az2 ?_; (case az => k_extra "size"); (case az2 => k_extra "size")); k_whole; intro t9 tk9; (try dsimp only)))
  k_with "pyIter str" => (k_dflt (k_extra "text loop"))
  k_with "exec For Name Subscript cons nil" => (((rename Fr _ _ _ _ => lF'); (with_unfolding_all refine' For_invVF lF' ?k1 ?k2 ?_; (case k1 => exact rfl); (case k2 => exact rfl); k_whole)))
  k_with "call builtin:str.index" => (k_dflt (k_extra "index"))
  k_with "call builtin:list.append" => (k_dflt (k_extra "append"))
  k_with "call builtin:str.join" => (k_dflt (k_extra "join"))
  k_with "subscriptTail Name Slice ref ref" => (first | k_dflt (k_extra "cut") | k_extra "stop")
  k_with "call type:list" => (first | k_dflt (k_extra "list") | k_extra "stop")
  k_with "compareOp NotEq ref ref" => (first | k_dflt (k_extra "neq") | k_extra "stop")
  k_with "subscriptTail Name Constant ref int" => (k_dflt (k_extra "tup0"))
  k_with "compareOp NotEq str str" => (k_dflt (k_extra "nes"))
  unfold Gv Gives
  intro dp un gd cn cs a ccd cl outer A₀ base h₀ L m s Q E B F X T hk hd hu hp ret
  refine' enterP [(Str.ofString "square", .int q tq)] ?k1 ?k2 ?k3 ?k5 ?kA ?kF ?kK ?k6 ?k7 ?k8 ?k9 ?kB ?_ ?c2 ?c3 ?c4 ?c5
  walk_at "my enter"
  intro L' h' F' N' B' X' T'
  dsimp only [kstB] at F'
  (try dsimp only)
  (try k_fold)
  have hq9 := row_col h0 h1
  k_with "item" => first | (refine' itemT 8 (fun j => 97 + j) tabC hq9.1 hq9.2.1 (by decide) ?_; intro t9 tk9; (try dsimp only)) | (refine' itemT 8 (fun j => 49 + j) tabR hq9.2.2.1 hq9.2.2.2 (by decide) ?_; intro t9 tk9; (try dsimp only))
  k_with "size" => (simp only [List.length_cons, List.length_nil]; omega)
  k_steps
  exact ret _ _ _ (Fr.keep (by k_asm)) ⟨_, rfl⟩
theorem digits_ok (w : World) (mean : ExcName → Option Value) (mg mb : Str → Option Value) (l : Addr) (vs : List Value) (b : Nat) (hb : b < 2 ^ 64) (hi : IntsAre vs (up (sqs b))) :
    Gv w mean mg mb 182 1 (fun g => g.IsList l vs.toArray) [.ref l] (fun _ _ v => ∃ t, v = .str (txt (digT b 72)) t) := by
  w_top off
  k_with_none
  k_with "my enter" => (((case kA => exact rfl); (case kF => exact rfl); (case kK => assumption); (case k1 => k_asm); (case k2 => k_asm); (case k3 => k_asm); (case k5 => k_asm); (case k6 => k_is); (case k7 => k_is); (case k8 => ktr_room); (case k9 => first | exact BindsTo.of_eq rfl | exact binds_K (by k_in) rfl (by k_is) rfl rfl rfl); (case c5 => decide); (case kB => exact locs rfl); (case c2 => exact rfl); (case c3 => exact rfl); (case c4 => exact rfl); k_whole))
  k_with "my use" => (((case uB => k_asm); (case uF => k_asm); (case uX => k_asm); (case uN => k_asm); (case uT => k_asm); (case uk => first | exact rfl | assumption); (case ud => ktr_room); (case uu => ktr_units)))
  k_with "pyIter ref" => (k_dflt (k_extra "loop"))
  k_with "call ref cons nil" => (first | k_dflt (k_extra "call") | k_extra "stop")
  k_with "binaryOp LShift int int" => (k_dflt (k_extra "shl"))
  k_with "exec While Compare cons nil" => (k_dflt (k_extra "while"))
  k_with "my lit" => (first | with_reducible rfl | with_reducible exact T_0 | with_reducible exact T_1 | with_reducible exact T_0b | with_reducible exact T_0o | with_reducible exact T_0x | with_reducible exact T_sx | with_reducible exact T_so | with_reducible exact T_sd | with_reducible exact T_e | k_extra "lit")
  k_with "subscriptTail" => (k_dflt (k_extra "item"))
  k_with "subscriptTail Name BinOp str int" => (k_dflt (k_extra "item"))
  k_with "subscriptTail Name Name str int" => (k_dflt (k_extra "item"))
  k_with "binaryOp Add str str" => ((k_dflt (refine' addT ?ax ?ay ?az ?_; (case ax => walk_at "my lit"); (case ay => walk_at "my lit"); (case az => k_extra "size")); k_whole; intro t9 tk9; (try dsimp only)))
  k_with "call builtin:len" => (((with_reducible show wpAny _ _ (call (Value.builtin "len") [Value.str _ _]) _ _ _); k_dflt (refine' lenT ?ax ?az ?_; (case ax => walk_at "my lit"); (case az => k_extra "size")); k_whole; intro t9 tk9; (try dsimp only)))
  k_with "binaryOp Mult str int" => (((with_reducible show wpAny _ _ (binaryOp Operator.Mult (Value.str _ _) (Value.int _ _)) _ _ _); k_dflt (refine' mulT ?az ?az2 ?_; (case az => k_extra "size"); (case az2 => k_extra "size")); k_whole; intro t9 tk9; (try dsimp only)))
  k_with "pyIter str" => (k_dflt (k_extra "text loop"))
  k_with "exec For Name Subscript cons nil" => (((rename Fr _ _ _ _ => lF'); (with_unfolding_all refine' For_invVF lF' ?k1 ?k2 ?_; (case k1 => exact rfl); (case k2 => exact rfl); k_whole)))
  k_with "call builtin:str.index" => (k_dflt (k_extra "index"))
  k_with "call builtin:list.append" => (k_dflt (k_extra "append"))
  k_with "call builtin:str.join" => (k_dflt (k_extra "join"))
  k_with "subscriptTail Name Slice ref ref" => (first | k_dflt (k_extra "cut") | k_extra "stop")
  k_with "call type:list" => (first | k_dflt (k_extra "list") | k_extra "stop")
  k_with "compareOp NotEq ref ref" => (first | k_dflt (k_extra "neq") | k_extra "stop")
  k_with "subscriptTail Name Constant ref int" => (k_dflt (k_extra "tup0"))
  k_with "compareOp NotEq str str" => (k_dflt (k_extra "nes"))
  unfold Gv Gives
  intro dp un gd cn cs a ccd cl outer A₀ base h₀ L m s Q E B F X T hk hd hu hp ret
  refine' enterP [(Str.ofString "marks", .ref l)] ?k1 ?k2 ?k3 ?k5 ?kA ?kF ?kK ?k6 ?k7 ?k8 ?k9 ?kB ?_ ?c2 ?c3 ?c4 ?c5
  walk_at "my enter"
  intro L' h' F' N' B' X' T'
  dsimp only [kstB] at F'
  (try dsimp only)
  (try k_fold)
  k_with "loop" => (
    (rename Fr _ _ _ _ => lF'); (rename News _ _ _ _ => lN'); (rename IsRange _ _ _ _ _ _ _ _ => rgX)
    (try rw [empty_txt] at lF')
    with_unfolding_all refine' kst_range (σ := List Nat × Nat) (fun c => []) (fun c => [(Str.ofString "text", .str (txt c.1) c.2)]) (fun _ => True) [] (fun pre c => DgInv b pre.length c.1) ([], _) (by rfl) (by first | exact rgX | assumption) (by decide) (by rfl) lF' ?kn ?kf ?kk ?kp ?kt ?kd
    (case kn => exact lN'); (case kf => exact True.intro); (case kp => exact DgInv.start b); (case kk => kst_all)
    (all_goals (clear lF' lN'))
    (case' kt =>
      rintro ⟨tx, ttx⟩ pre k tk0 u h tk own kEq kLt kOff kFacts kInv kFr kNews
      dsimp only [kstB] at kFr kNews kFacts kInv
      have hlen9 := kInv.len; have hpre9 : pre.length < 72 := by omega
      (try dsimp only)
      (try k_fold))
    (case' kd =>
      rintro ⟨tx, ttx⟩ u h tk kFacts kInv kFr kNews
      dsimp only [kstB] at kFr kNews kFacts kInv
      (try dsimp only)
      (try k_fold)))
  k_with "size" => (simp only [List.length_cons, List.length_nil]; omega)
  k_with "state" => first | exact DgInv.yes hb (by assumption) (by assumption) (by assumption) | exact DgInv.no hb (by assumption) (by assumption) (by assumption)
  k_steps
  rename DgInv _ _ _ => kInv9
  exact ret _ _ _ (Fr.keep (by k_asm)) ⟨_, by rw [kInv9.eq, rangeKs_length]⟩
theorem grouped_4 (w : World) (mean : ExcName → Option Value) (mg mb : Str → Option Value) (b : Nat) (le : Int) (td ts tl : Tok) (hb : b < 2 ^ 64) (hl0 : 0 ≤ le) (hl1 : le ≤ 100) :
    Gv w mean mg mb 189 1 (fun _ => True) [.str (txt (digT b 72)) td, .int 4 ts, .int le tl] (fun _ _ v => ∃ t, v = .str (txt (pad le.toNat (dig (2 ^ 4) b))) t) := by
  w_top off
  k_with_none
  k_with "my enter" => (((case kA => exact rfl); (case kF => exact rfl); (case kK => assumption); (case k1 => k_asm); (case k2 => k_asm); (case k3 => k_asm); (case k5 => k_asm); (case k6 => k_is); (case k7 => k_is); (case k8 => ktr_room); (case k9 => first | exact BindsTo.of_eq rfl | exact binds_K (by k_in) rfl (by k_is) rfl rfl rfl); (case c5 => decide); (case kB => exact locs rfl); (case c2 => exact rfl); (case c3 => exact rfl); (case c4 => exact rfl); k_whole))
  k_with "my use" => (((case uB => k_asm); (case uF => k_asm); (case uX => k_asm); (case uN => k_asm); (case uT => k_asm); (case uk => first | exact rfl | assumption); (case ud => ktr_room); (case uu => ktr_units)))
  k_with "pyIter ref" => (k_dflt (k_extra "loop"))
  k_with "call ref cons nil" => (first | k_dflt (k_extra "call") | k_extra "stop")
  k_with "binaryOp LShift int int" => (k_dflt (k_extra "shl"))
  k_with "exec While Compare cons nil" => (k_dflt (k_extra "while"))
  k_with "my lit" => (first | with_reducible rfl | with_reducible exact T_0 | with_reducible exact T_1 | with_reducible exact T_0b | with_reducible exact T_0o | with_reducible exact T_0x | with_reducible exact T_sx | with_reducible exact T_so | with_reducible exact T_sd | with_reducible exact T_e | k_extra "lit")
  k_with "subscriptTail" => (k_dflt (k_extra "item"))
  k_with "subscriptTail Name BinOp str int" => (k_dflt (k_extra "item"))
  k_with "subscriptTail Name Name str int" => (k_dflt (k_extra "item"))
  k_with "binaryOp Add str str" => ((k_dflt (refine' addT ?ax ?ay ?az ?_; (case ax => walk_at "my lit"); (case ay => walk_at "my lit"); (case az => k_extra "size")); k_whole; intro t9 tk9; (try dsimp only)))
  k_with "call builtin:len" => (((with_reducible show wpAny _ _ (call (Value.builtin "len") [Value.str _ _]) _ _ _); k_dflt (refine' lenT ?ax ?az ?_; (case ax => walk_at "my lit"); (case az => k_extra "size")); k_whole; intro t9 tk9; (try dsimp only)))
  k_with "binaryOp Mult str int" => (((with_reducible show wpAny _ _ (binaryOp Operator.Mult (Value.str _ _) (Value.int _ _)) _ _ _); k_dflt (refine' mulT ?az ?az2 ?_; (case az => k_extra "size"); (case az2 => k_extra "size")); k_whole; intro t9 tk9; (try dsimp only)))
  k_with "pyIter str" => (k_dflt (k_extra "text loop"))
  k_with "exec For Name Subscript cons nil" => (((rename Fr _ _ _ _ => lF'); (with_unfolding_all refine' For_invVF lF' ?k1 ?k2 ?_; (case k1 => exact rfl); (case k2 => exact rfl); k_whole)))
  k_with "call builtin:str.index" => (k_dflt (k_extra "index"))
  k_with "call builtin:list.append" => (k_dflt (k_extra "append"))
  k_with "call builtin:str.join" => (k_dflt (k_extra "join"))
  k_with "subscriptTail Name Slice ref ref" => (first | k_dflt (k_extra "cut") | k_extra "stop")
  k_with "call type:list" => (first | k_dflt (k_extra "list") | k_extra "stop")
  k_with "compareOp NotEq ref ref" => (first | k_dflt (k_extra "neq") | k_extra "stop")
  k_with "subscriptTail Name Constant ref int" => (k_dflt (k_extra "tup0"))
  k_with "compareOp NotEq str str" => (k_dflt (k_extra "nes"))
  unfold Gv Gives
  intro dp un gd cn cs a ccd cl outer A₀ base h₀ L m s Q E B F X T hk hd hu hp ret
  refine' enterP [(Str.ofString "least", .int le tl), (Str.ofString "size", .int 4 ts), (Str.ofString "digits", .str (txt (digT b 72)) td)] ?k1 ?k2 ?k3 ?k5 ?kA ?kF ?kK ?k6 ?k7 ?k8 ?k9 ?kB ?_ ?c2 ?c3 ?c4 ?c5
  walk_at "my enter"
  intro L' h' F' N' B' X' T'
  dsimp only [kstB] at F'
  (try dsimp only)
  (try k_fold)
  have hD9 := digT_len b 72
  k_with "loop" => (
    (rename Fr _ _ _ _ => lF'); (rename News _ _ _ _ => lN'); (rename IsRange _ _ _ _ _ _ _ _ => rgX)
    (try rw [empty_txt] at lF')
    with_unfolding_all refine' rangeS (σ := List Nat × Nat) (n := 18) (fun c => []) (fun c => [(Str.ofString "text", .str (txt c.1) c.2)]) [Str.ofString "v", Str.ofString "sign"] (fun i c => GInv b 4 i c.1) ([], _) (by rfl) (by first | exact rgX | assumption) (by decide) (by rfl) lF' ?kn ?kk ?kp ?kt ?kd
    (case kn => exact lN'); (case kp => exact GInv.start hb); (case kk => kst_all)
    (all_goals (clear lF' lN'))
    (case' kt =>
      rintro ⟨tx, ttx⟩ i tk0 u h tk own kLt kOff kInv kFr kNews
      dsimp only [kstB] at kFr kNews kInv
      have hlen9 := GInv.len hb (by decide) kInv
      (try dsimp only)
      (try k_fold))
    (case' kd =>
      rintro ⟨tx, ttx⟩ u h tk kInv kFr kNews
      dsimp only [kstB] at kFr kNews kInv
      have hlen9 := GInv.len hb (by decide) kInv
      (try dsimp only)
      (try k_fold)))
  k_with "text loop" => (
    (rename Fr _ _ _ _ => lF'); (rename News _ _ _ _ => lN')
    have ei9 : 0 + (i : Int) * 4 = ((4 * i : Nat) : Int) := by omega
    rw [slice_txt (by omega) (by omega) (by omega)]
    have es9 : ((digT b 72).drop (0 + (i : Int) * 4).toNat).take (0 + (i : Int) * 4 + 4 - (0 + (i : Int) * 4)).toNat = ((digT b 72).drop (4 * i)).take 4 := by
      rw [show (0 + (i : Int) * 4 + 4 - (0 + (i : Int) * 4)).toNat = 4 by omega, show (0 + (i : Int) * 4).toNat = 4 * i by omega]
    rw [es9]
    with_unfolding_all refine' KStt.kst_text (σ := Int × Nat) (fun c => own) (fun c => [(Str.ofString "v", .int c.1 c.2)]) (fun _ => True) [] (fun pre c => VInv (((digT b 72).drop (4 * i)).take 4) pre c.1) (0, _) (by rfl) lF' ?tn ?tf ?tk ?tp ?tt ?td
    (case tn => exact lN'); (case tf => exact True.intro); (case tp => exact VInv.start _); (case tk => kst_all)
    (all_goals (clear lF' lN'))
    (case' tt =>
      rintro ⟨vv, tvv⟩ pre post n t0 u1 h1 tk1 own1 kEq kOff1 kFacts kInv1 kFr1 kNews1
      dsimp only [kstB] at kFr1 kNews1 kInv1
      have hv9 := VInv.small (by decide) kEq kInv1
      have hn9 := bit_of_seg kEq
      (try dsimp only)
      (try k_fold))
    (case' td =>
      rintro ⟨vv, tvv⟩ u1 h1 tk1 kFacts kInv1 kFr1 kNews1
      dsimp only [kstB] at kFr1 kNews1 kInv1
      have hv9 := GInv.turn (by decide) (by omega) kInv (VInv.done kInv1)
      (try dsimp only)
      (try k_fold)))
  k_with "index" => (refine' idx01 hn9 (by rfl) ?_; intro t9 tk9; (try dsimp only))
  k_with "item" => (refine' itemT 16 hexd tab16 hv9.2.2.1 (by have := hv9.2.2.2; omega) (by decide) ?_; intro t9 tk9; (try dsimp only))
  k_with "state" => first | exact VInv.turn _ (by assumption) | exact hv9.1 (Or.inl (by assumption)) | exact hv9.1 (Or.inr (tx_ne (by assumption))) | exact hv9.2.1 (not_grow (by assumption) (by assumption))
  k_with "size" => (first | omega | (simp only [List.length_cons, List.length_nil, List.length_replicate]; omega))
  k_steps
  rename GInv _ _ _ _ => kInv9
  exact ret _ _ _ (Fr.keep (by k_asm)) ⟨_, by rw [pad_eq hl0, kInv9.done rfl]⟩
theorem grouped_3 (w : World) (mean : ExcName → Option Value) (mg mb : Str → Option Value) (b : Nat) (le : Int) (td ts tl : Tok) (hb : b < 2 ^ 64) (hl0 : 0 ≤ le) (hl1 : le ≤ 100) :
    Gv w mean mg mb 189 1 (fun _ => True) [.str (txt (digT b 72)) td, .int 3 ts, .int le tl] (fun _ _ v => ∃ t, v = .str (txt (pad le.toNat (dig (2 ^ 3) b))) t) := by
  w_top off
  k_with_none
  k_with "my enter" => (((case kA => exact rfl); (case kF => exact rfl); (case kK => assumption); (case k1 => k_asm); (case k2 => k_asm); (case k3 => k_asm); (case k5 => k_asm); (case k6 => k_is); (case k7 => k_is); (case k8 => ktr_room); (case k9 => first | exact BindsTo.of_eq rfl | exact binds_K (by k_in) rfl (by k_is) rfl rfl rfl); (case c5 => decide); (case kB => exact locs rfl); (case c2 => exact rfl); (case c3 => exact rfl); (case c4 => exact rfl); k_whole))
  k_with "my use" => (((case uB => k_asm); (case uF => k_asm); (case uX => k_asm); (case uN => k_asm); (case uT => k_asm); (case uk => first | exact rfl | assumption); (case ud => ktr_room); (case uu => ktr_units)))
  k_with "pyIter ref" => (k_dflt (k_extra "loop"))
  k_with "call ref cons nil" => (first | k_dflt (k_extra "call") | k_extra "stop")
  k_with "binaryOp LShift int int" => (k_dflt (k_extra "shl"))
  k_with "exec While Compare cons nil" => (k_dflt (k_extra "while"))
  k_with "my lit" => (first | with_reducible rfl | with_reducible exact T_0 | with_reducible exact T_1 | with_reducible exact T_0b | with_reducible exact T_0o | with_reducible exact T_0x | with_reducible exact T_sx | with_reducible exact T_so | with_reducible exact T_sd | with_reducible exact T_e | k_extra "lit")
  k_with "subscriptTail" => (k_dflt (k_extra "item"))
  k_with "subscriptTail Name BinOp str int" => (k_dflt (k_extra "item"))
  k_with "subscriptTail Name Name str int" => (k_dflt (k_extra "item"))
  k_with "binaryOp Add str str" => ((k_dflt (refine' addT ?ax ?ay ?az ?_; (case ax => walk_at "my lit"); (case ay => walk_at "my lit"); (case az => k_extra "size")); k_whole; intro t9 tk9; (try dsimp only)))
  k_with "call builtin:len" => (((with_reducible show wpAny _ _ (call (Value.builtin "len") [Value.str _ _]) _ _ _); k_dflt (refine' lenT ?ax ?az ?_; (case ax => walk_at "my lit"); (case az => k_extra "size")); k_whole; intro t9 tk9; (try dsimp only)))
  k_with "binaryOp Mult str int" => (((with_reducible show wpAny _ _ (binaryOp Operator.Mult (Value.str _ _) (Value.int _ _)) _ _ _); k_dflt (refine' mulT ?az ?az2 ?_; (case az => k_extra "size"); (case az2 => k_extra "size")); k_whole; intro t9 tk9; (try dsimp only)))
  k_with "pyIter str" => (k_dflt (k_extra "text loop"))
  k_with "exec For Name Subscript cons nil" => (((rename Fr _ _ _ _ => lF'); (with_unfolding_all refine' For_invVF lF' ?k1 ?k2 ?_; (case k1 => exact rfl); (case k2 => exact rfl); k_whole)))
  k_with "call builtin:str.index" => (k_dflt (k_extra "index"))
  k_with "call builtin:list.append" => (k_dflt (k_extra "append"))
  k_with "call builtin:str.join" => (k_dflt (k_extra "join"))
  k_with "subscriptTail Name Slice ref ref" => (first | k_dflt (k_extra "cut") | k_extra "stop")
  k_with "call type:list" => (first | k_dflt (k_extra "list") | k_extra "stop")
  k_with "compareOp NotEq ref ref" => (first | k_dflt (k_extra "neq") | k_extra "stop")
  k_with "subscriptTail Name Constant ref int" => (k_dflt (k_extra "tup0"))
  k_with "compareOp NotEq str str" => (k_dflt (k_extra "nes"))
  unfold Gv Gives
  intro dp un gd cn cs a ccd cl outer A₀ base h₀ L m s Q E B F X T hk hd hu hp ret
  refine' enterP [(Str.ofString "least", .int le tl), (Str.ofString "size", .int 3 ts), (Str.ofString "digits", .str (txt (digT b 72)) td)] ?k1 ?k2 ?k3 ?k5 ?kA ?kF ?kK ?k6 ?k7 ?k8 ?k9 ?kB ?_ ?c2 ?c3 ?c4 ?c5
  walk_at "my enter"
  intro L' h' F' N' B' X' T'
  dsimp only [kstB] at F'
  (try dsimp only)
  (try k_fold)
  have hD9 := digT_len b 72
  k_with "loop" => (
    (rename Fr _ _ _ _ => lF'); (rename News _ _ _ _ => lN'); (rename IsRange _ _ _ _ _ _ _ _ => rgX)
    (try rw [empty_txt] at lF')
    with_unfolding_all refine' rangeS (σ := List Nat × Nat) (n := 24) (fun c => []) (fun c => [(Str.ofString "text", .str (txt c.1) c.2)]) [Str.ofString "v", Str.ofString "sign"] (fun i c => GInv b 3 i c.1) ([], _) (by rfl) (by first | exact rgX | assumption) (by decide) (by rfl) lF' ?kn ?kk ?kp ?kt ?kd
    (case kn => exact lN'); (case kp => exact GInv.start hb); (case kk => kst_all)
    (all_goals (clear lF' lN'))
    (case' kt =>
      rintro ⟨tx, ttx⟩ i tk0 u h tk own kLt kOff kInv kFr kNews
      dsimp only [kstB] at kFr kNews kInv
      have hlen9 := GInv.len hb (by decide) kInv
      (try dsimp only)
      (try k_fold))
    (case' kd =>
      rintro ⟨tx, ttx⟩ u h tk kInv kFr kNews
      dsimp only [kstB] at kFr kNews kInv
      have hlen9 := GInv.len hb (by decide) kInv
      (try dsimp only)
      (try k_fold)))
  k_with "text loop" => (
    (rename Fr _ _ _ _ => lF'); (rename News _ _ _ _ => lN')
    have ei9 : 0 + (i : Int) * 3 = ((3 * i : Nat) : Int) := by omega
    rw [slice_txt (by omega) (by omega) (by omega)]
    have es9 : ((digT b 72).drop (0 + (i : Int) * 3).toNat).take (0 + (i : Int) * 3 + 3 - (0 + (i : Int) * 3)).toNat = ((digT b 72).drop (3 * i)).take 3 := by
      rw [show (0 + (i : Int) * 3 + 3 - (0 + (i : Int) * 3)).toNat = 3 by omega, show (0 + (i : Int) * 3).toNat = 3 * i by omega]
    rw [es9]
    with_unfolding_all refine' KStt.kst_text (σ := Int × Nat) (fun c => own) (fun c => [(Str.ofString "v", .int c.1 c.2)]) (fun _ => True) [] (fun pre c => VInv (((digT b 72).drop (3 * i)).take 3) pre c.1) (0, _) (by rfl) lF' ?tn ?tf ?tk ?tp ?tt ?td
    (case tn => exact lN'); (case tf => exact True.intro); (case tp => exact VInv.start _); (case tk => kst_all)
    (all_goals (clear lF' lN'))
    (case' tt =>
      rintro ⟨vv, tvv⟩ pre post n t0 u1 h1 tk1 own1 kEq kOff1 kFacts kInv1 kFr1 kNews1
      dsimp only [kstB] at kFr1 kNews1 kInv1
      have hv9 := VInv.small (by decide) kEq kInv1
      have hn9 := bit_of_seg kEq
      (try dsimp only)
      (try k_fold))
    (case' td =>
      rintro ⟨vv, tvv⟩ u1 h1 tk1 kFacts kInv1 kFr1 kNews1
      dsimp only [kstB] at kFr1 kNews1 kInv1
      have hv9 := GInv.turn (by decide) (by omega) kInv (VInv.done kInv1)
      (try dsimp only)
      (try k_fold)))
  k_with "index" => (refine' idx01 hn9 (by rfl) ?_; intro t9 tk9; (try dsimp only))
  k_with "item" => (refine' itemT 16 hexd tab16 hv9.2.2.1 (by have := hv9.2.2.2; omega) (by decide) ?_; intro t9 tk9; (try dsimp only))
  k_with "state" => first | exact VInv.turn _ (by assumption) | exact hv9.1 (Or.inl (by assumption)) | exact hv9.1 (Or.inr (tx_ne (by assumption))) | exact hv9.2.1 (not_grow (by assumption) (by assumption))
  k_with "size" => (first | omega | (simp only [List.length_cons, List.length_nil, List.length_replicate]; omega))
  k_steps
  rename GInv _ _ _ _ => kInv9
  exact ret _ _ _ (Fr.keep (by k_asm)) ⟨_, by rw [pad_eq hl0, kInv9.done rfl]⟩

theorem grouped_1 (w : World) (mean : ExcName → Option Value) (mg mb : Str → Option Value) (b : Nat) (le : Int) (td ts tl : Tok) (hb : b < 2 ^ 64) (hl0 : 0 ≤ le) (hl1 : le ≤ 100) :
    Gv w mean mg mb 189 1 (fun _ => True) [.str (txt (digT b 72)) td, .int 1 ts, .int le tl] (fun _ _ v => ∃ t, v = .str (txt (pad le.toNat (dig (2 ^ 1) b))) t) := by
  w_top off
  k_with_none
  k_with "my enter" => (((case kA => exact rfl); (case kF => exact rfl); (case kK => assumption); (case k1 => k_asm); (case k2 => k_asm); (case k3 => k_asm); (case k5 => k_asm); (case k6 => k_is); (case k7 => k_is); (case k8 => ktr_room); (case k9 => first | exact BindsTo.of_eq rfl | exact binds_K (by k_in) rfl (by k_is) rfl rfl rfl); (case c5 => decide); (case kB => exact locs rfl); (case c2 => exact rfl); (case c3 => exact rfl); (case c4 => exact rfl); k_whole))
  k_with "my use" => (((case uB => k_asm); (case uF => k_asm); (case uX => k_asm); (case uN => k_asm); (case uT => k_asm); (case uk => first | exact rfl | assumption); (case ud => ktr_room); (case uu => ktr_units)))
  k_with "pyIter ref" => (k_dflt (k_extra "loop"))
  k_with "call ref cons nil" => (first | k_dflt (k_extra "call") | k_extra "stop")
  k_with "binaryOp LShift int int" => (k_dflt (k_extra "shl"))
  k_with "exec While Compare cons nil" => (k_dflt (k_extra "while"))
  k_with "my lit" => (first | with_reducible rfl | with_reducible exact T_0 | with_reducible exact T_1 | with_reducible exact T_0b | with_reducible exact T_0o | with_reducible exact T_0x | with_reducible exact T_sx | with_reducible exact T_so | with_reducible exact T_sd | with_reducible exact T_e | k_extra "lit")
  k_with "subscriptTail" => (k_dflt (k_extra "item"))
  k_with "subscriptTail Name BinOp str int" => (k_dflt (k_extra "item"))
  k_with "subscriptTail Name Name str int" => (k_dflt (k_extra "item"))
  k_with "binaryOp Add str str" => ((k_dflt (refine' addT ?ax ?ay ?az ?_; (case ax => walk_at "my lit"); (case ay => walk_at "my lit"); (case az => k_extra "size")); k_whole; intro t9 tk9; (try dsimp only)))
  k_with "call builtin:len" => (((with_reducible show wpAny _ _ (call (Value.builtin "len") [Value.str _ _]) _ _ _); k_dflt (refine' lenT ?ax ?az ?_; (case ax => walk_at "my lit"); (case az => k_extra "size")); k_whole; intro t9 tk9; (try dsimp only)))
  k_with "binaryOp Mult str int" => (((with_reducible show wpAny _ _ (binaryOp Operator.Mult (Value.str _ _) (Value.int _ _)) _ _ _); k_dflt (refine' mulT ?az ?az2 ?_; (case az => k_extra "size"); (case az2 => k_extra "size")); k_whole; intro t9 tk9; (try dsimp only)))
  k_with "pyIter str" => (k_dflt (k_extra "text loop"))
  k_with "exec For Name Subscript cons nil" => (((rename Fr _ _ _ _ => lF'); (with_unfolding_all refine' For_invVF lF' ?k1 ?k2 ?_; (case k1 => exact rfl); (case k2 => exact rfl); k_whole)))
  k_with "call builtin:str.index" => (k_dflt (k_extra "index"))
  k_with "call builtin:list.append" => (k_dflt (k_extra "append"))
  k_with "call builtin:str.join" => (k_dflt (k_extra "join"))
  k_with "subscriptTail Name Slice ref ref" => (first | k_dflt (k_extra "cut") | k_extra "stop")
  k_with "call type:list" => (first | k_dflt (k_extra "list") | k_extra "stop")
  k_with "compareOp NotEq ref ref" => (first | k_dflt (k_extra "neq") | k_extra "stop")
  k_with "subscriptTail Name Constant ref int" => (k_dflt (k_extra "tup0"))
  k_with "compareOp NotEq str str" => (k_dflt (k_extra "nes"))
  unfold Gv Gives
  intro dp un gd cn cs a ccd cl outer A₀ base h₀ L m s Q E B F X T hk hd hu hp ret
  refine' enterP [(Str.ofString "least", .int le tl), (Str.ofString "size", .int 1 ts), (Str.ofString "digits", .str (txt (digT b 72)) td)] ?k1 ?k2 ?k3 ?k5 ?kA ?kF ?kK ?k6 ?k7 ?k8 ?k9 ?kB ?_ ?c2 ?c3 ?c4 ?c5
  walk_at "my enter"
  intro L' h' F' N' B' X' T'
  dsimp only [kstB] at F'
  (try dsimp only)
  (try k_fold)
  have hD9 := digT_len b 72
  k_with "loop" => (
    (rename Fr _ _ _ _ => lF'); (rename News _ _ _ _ => lN'); (rename IsRange _ _ _ _ _ _ _ _ => rgX)
    (try rw [empty_txt] at lF')
    with_unfolding_all refine' rangeS (σ := List Nat × Nat) (n := 72) (fun c => []) (fun c => [(Str.ofString "text", .str (txt c.1) c.2)]) [Str.ofString "v", Str.ofString "sign"] (fun i c => GInv b 1 i c.1) ([], _) (by rfl) (by first | exact rgX | assumption) (by decide) (by rfl) lF' ?kn ?kk ?kp ?kt ?kd
    (case kn => exact lN'); (case kp => exact GInv.start hb); (case kk => kst_all)
    (all_goals (clear lF' lN'))
    (case' kt =>
      rintro ⟨tx, ttx⟩ i tk0 u h tk own kLt kOff kInv kFr kNews
      dsimp only [kstB] at kFr kNews kInv
      have hlen9 := GInv.len hb (by decide) kInv
      (try dsimp only)
      (try k_fold))
    (case' kd =>
      rintro ⟨tx, ttx⟩ u h tk kInv kFr kNews
      dsimp only [kstB] at kFr kNews kInv
      have hlen9 := GInv.len hb (by decide) kInv
      (try dsimp only)
      (try k_fold)))
  k_with "text loop" => (
    (rename Fr _ _ _ _ => lF'); (rename News _ _ _ _ => lN')
    have ei9 : 0 + (i : Int) * 1 = ((1 * i : Nat) : Int) := by omega
    rw [slice_txt (by omega) (by omega) (by omega)]
    have es9 : ((digT b 72).drop (0 + (i : Int) * 1).toNat).take (0 + (i : Int) * 1 + 1 - (0 + (i : Int) * 1)).toNat = ((digT b 72).drop (1 * i)).take 1 := by
      rw [show (0 + (i : Int) * 1 + 1 - (0 + (i : Int) * 1)).toNat = 1 by omega, show (0 + (i : Int) * 1).toNat = 1 * i by omega]
    rw [es9]
    with_unfolding_all refine' KStt.kst_text (σ := Int × Nat) (fun c => own) (fun c => [(Str.ofString "v", .int c.1 c.2)]) (fun _ => True) [] (fun pre c => VInv (((digT b 72).drop (1 * i)).take 1) pre c.1) (0, _) (by rfl) lF' ?tn ?tf ?tk ?tp ?tt ?td
    (case tn => exact lN'); (case tf => exact True.intro); (case tp => exact VInv.start _); (case tk => kst_all)
    (all_goals (clear lF' lN'))
    (case' tt =>
      rintro ⟨vv, tvv⟩ pre post n t0 u1 h1 tk1 own1 kEq kOff1 kFacts kInv1 kFr1 kNews1
      dsimp only [kstB] at kFr1 kNews1 kInv1
      have hv9 := VInv.small (by decide) kEq kInv1
      have hn9 := bit_of_seg kEq
      (try dsimp only)
      (try k_fold))
    (case' td =>
      rintro ⟨vv, tvv⟩ u1 h1 tk1 kFacts kInv1 kFr1 kNews1
      dsimp only [kstB] at kFr1 kNews1 kInv1
      have hv9 := GInv.turn (by decide) (by omega) kInv (VInv.done kInv1)
      (try dsimp only)
      (try k_fold)))
  k_with "index" => (refine' idx01 hn9 (by rfl) ?_; intro t9 tk9; (try dsimp only))
  k_with "item" => (refine' itemT 16 hexd tab16 hv9.2.2.1 (by have := hv9.2.2.2; omega) (by decide) ?_; intro t9 tk9; (try dsimp only))
  k_with "state" => first | exact VInv.turn _ (by assumption) | exact hv9.1 (Or.inl (by assumption)) | exact hv9.1 (Or.inr (tx_ne (by assumption))) | exact hv9.2.1 (not_grow (by assumption) (by assumption))
  k_with "size" => (first | omega | (simp only [List.length_cons, List.length_nil, List.length_replicate]; omega))
  k_steps
  rename GInv _ _ _ _ => kInv9
  exact ret _ _ _ (Fr.keep (by k_asm)) ⟨_, by rw [pad_eq hl0, kInv9.done rfl]⟩
theorem lines_i (w : World) (mean : ExcName → Option Value) (mg mb : Str → Option Value) (b q : Int) (tb tq : Tok) (hb0 : 0 ≤ b) (hb1 : b < 2 ^ 64) :
    Gv w mean mg mb 146 2 (fun _ => True) [.int b tb, .int q tq] (IsNewTexts ((pageT b.toNat (some q) 8).map txt)) := by
  w_top off
  k_with_none
  k_with "my enter" => (((case kA => exact rfl); (case kF => exact rfl); (case kK => assumption); (case k1 => k_asm); (case k2 => k_asm); (case k3 => k_asm); (case k5 => k_asm); (case k6 => k_is); (case k7 => k_is); (case k8 => ktr_room); (case k9 => first | exact BindsTo.of_eq rfl | exact binds_K (by k_in) rfl (by k_is) rfl rfl rfl); (case c5 => decide); (case kB => exact locs rfl); (case c2 => exact rfl); (case c3 => exact rfl); (case c4 => exact rfl); k_whole))
  k_with "my use" => (((case uB => k_asm); (case uF => k_asm); (case uX => k_asm); (case uN => k_asm); (case uT => k_asm); (case uk => first | exact rfl | assumption); (case ud => ktr_room); (case uu => ktr_units)))
  k_with "pyIter ref" => (k_dflt (k_extra "loop"))
  k_with "call ref cons nil" => (first | k_dflt (k_extra "call") | k_extra "stop")
  k_with "binaryOp LShift int int" => (k_dflt (k_extra "shl"))
  k_with "exec While Compare cons nil" => (k_dflt (k_extra "while"))
  k_with "my lit" => (first | with_reducible rfl | with_reducible exact T_0 | with_reducible exact T_1 | with_reducible exact T_0b | with_reducible exact T_0o | with_reducible exact T_0x | with_reducible exact T_sx | with_reducible exact T_so | with_reducible exact T_sd | with_reducible exact T_e | k_extra "lit")
  k_with "subscriptTail" => (k_dflt (k_extra "item"))
  k_with "subscriptTail Name BinOp str int" => (k_dflt (k_extra "item"))
  k_with "subscriptTail Name Name str int" => (k_dflt (k_extra "item"))
  k_with "binaryOp Add str str" => ((k_dflt (refine' addT ?ax ?ay ?az ?_; (case ax => walk_at "my lit"); (case ay => walk_at "my lit"); (case az => k_extra "size")); k_whole; intro t9 tk9; (try dsimp only)))
  k_with "call builtin:len" => (((with_reducible show wpAny _ _ (call (Value.builtin "len") [Value.str _ _]) _ _ _); k_dflt (refine' lenT ?ax ?az ?_; (case ax => walk_at "my lit"); (case az => k_extra "size")); k_whole; intro t9 tk9; (try dsimp only)))
  k_with "binaryOp Mult str int" => (((with_reducible show wpAny _ _ (binaryOp Operator.Mult (Value.str _ _) (Value.int _ _)) _ _ _); k_dflt (refine' mulT ?az ?az2 ?_; (case az => k_extra "size"); (case az2 => k_extra "size")); k_whole; intro t9 tk9; (try dsimp only)))
  k_with "pyIter str" => (k_dflt (k_extra "text loop"))
  k_with "exec For Name Subscript cons nil" => (((rename Fr _ _ _ _ => lF'); (with_unfolding_all refine' For_invVF lF' ?k1 ?k2 ?_; (case k1 => exact rfl); (case k2 => exact rfl); k_whole)))
  k_with "call builtin:str.index" => (k_dflt (k_extra "index"))
  k_with "call builtin:list.append" => (k_dflt (k_extra "append"))
  k_with "call builtin:str.join" => (k_dflt (k_extra "join"))
  k_with "subscriptTail Name Slice ref ref" => (first | k_dflt (k_extra "cut") | k_extra "stop")
  k_with "call type:list" => (first | k_dflt (k_extra "list") | k_extra "stop")
  k_with "compareOp NotEq ref ref" => (first | k_dflt (k_extra "neq") | k_extra "stop")
  k_with "subscriptTail Name Constant ref int" => (k_dflt (k_extra "tup0"))
  k_with "compareOp NotEq str str" => (k_dflt (k_extra "nes"))
  unfold Gv Gives
  intro dp un gd cn cs a ccd cl outer A₀ base h₀ L m s Q E B F X T hk hd hu hp ret
  refine' enterP [(Str.ofString "origin", .int q tq), (Str.ofString "board", .int b tb)] ?k1 ?k2 ?k3 ?k5 ?kA ?kF ?kK ?k6 ?k7 ?k8 ?k9 ?kB ?_ ?c2 ?c3 ?c4 ?c5
  walk_at "my enter"
  intro L' h' F' N' B' X' T'
  dsimp only [kstB] at F'
  (try dsimp only)
  (try k_fold)
  k_with "loop" => first
   | (
    (rename Fr _ _ _ _ => lF'); (rename News _ _ _ _ => lN'); (rename IsRange _ _ _ _ (-1) _ _ _ => rgX)
    with_unfolding_all refine' rangeS (σ := List Value × Nat) (n := 8) (fun c => [(_, listOf c.1.toArray c.2)]) (fun c => []) [Str.ofString "signs", Str.ofString "col", Str.ofString "square"] (fun i c => LnInv b.toNat (some q) i c.1) ([], 0) (by rfl) (by first | exact rgX | assumption) (by decide) (by rfl) lF' ?kn ?kk ?kp ?kt ?kd
    (case kn => exact lN'); (case kp => exact ⟨TextsAre.nil⟩); (case kk => kst_all)
    (all_goals (clear lF' lN'))
    (case' kt =>
      rintro ⟨us, nn⟩ i tk0 u h tk own kLt kOff kInv kFr kNews
      dsimp only [kstB] at kFr kNews kInv
      have hlen9 := LnInv.len kInv
      (try dsimp only)
      (try k_fold))
    (case' kd =>
      rintro ⟨us, nn⟩ u h tk kInv kFr kNews
      dsimp only [kstB] at kFr kNews kInv
      have hlen9 := LnInv.len kInv
      (try dsimp only)
      (try k_fold)))
   | (
    (rename Fr _ _ _ _ => lF'); (rename News _ _ _ _ => lN'); (rename IsRange _ _ _ _ 1 _ _ _ => rgX)
    with_unfolding_all refine' rangeS (σ := List Value × Nat) (n := 8) (fun c => (_, listOf c.1.toArray c.2) :: (_ :: own)) (fun c => []) [Str.ofString "square"] (fun k c => SgInv b.toNat (some q) (7 - i) k c.1) ([], 0) (by rfl) (by first | exact rgX | assumption) (by decide) (by rfl) lF' ?tn ?tk ?tp ?tt ?td
    (case tn => exact lN'); (case tp => exact ⟨TextsAre.nil⟩); (case tk => kst_all)
    (all_goals (clear lF' lN'))
    (case' tt =>
      rintro ⟨vs, mm⟩ c tk1 u1 h1 tk2 own1 kLt1 kOff1 kInv1 kFr1 kNews1
      dsimp only [kstB] at kFr1 kNews1 kInv1
      have hlen91 := SgInv.len kInv1
      (try dsimp only)
      (try k_fold))
    (case' td =>
      rintro ⟨vs, mm⟩ u1 h1 tk2 kInv1 kFr1 kNews1
      dsimp only [kstB] at kFr1 kNews1 kInv1
      have hlen91 := SgInv.len kInv1
      (try dsimp only)
      (try k_fold)))
  k_with "call" => first
   | ((refine' useInt (square_of_ok w mean mg mb _ _ _ _ (by omega) (by omega)) ?uB ?uF ?uX ?uN ?uT ?uk ?ud ?uu trivial ?_); (walk_at "my use"); intro t9 h9 tk9 F9 N9; (try dsimp only); (try k_fold))
   | ((refine' useInt (bit_at_ok w mean mg mb _ _ _ _ (by omega) (by omega)) ?uB ?uF ?uX ?uN ?uT ?uk ?ud ?uu trivial ?_); (walk_at "my use"); intro t9 h9 tk9 F9 N9; (try dsimp only); (try k_fold))
  k_with "append" => first
   | ((rename News _ _ _ _ => nN); (refine' appT (by k_asm) nN (ne_signs (by assumption) (by assumption)) (by omega) ?_); intro h9 F9 N9; clear nN; (try dsimp only))
   | ((rename News _ _ _ _ => nN); (refine' appT (by k_asm) (fun p hp => nN p (.tail _ hp)) (ne_lines (by assumption)) (by omega) ?_); intro h9 F9 N9; clear nN; (try dsimp only))
   | ((rename News _ _ _ _ => nN); (refine' appT (by k_asm) nN (fun _ hp => nomatch hp) (by omega) ?_); intro h9 F9 N9; clear nN; (try dsimp only))
  k_with "join" => ((rename News _ _ _ _ => nN); (rename SgInv _ _ _ _ _ => sI); (refine' joinT nN sI.are (sgn_weight _ _ _) ?_); (rw [row_join]); intro t9 tk9; (try dsimp only))
  k_with "lit" => exact row_head (by assumption)
  k_with "size" => (simp only [jn, List.length_cons, List.length_nil]; omega)
  k_with "state" => first | exact sg_x hb0 (by assumption) (by assumption) (by assumption) (by assumption) | exact sg_o hb0 (by assumption) (by assumption) (by assumption) (by assumption) (congrArg some (by omega)) | exact sg_d hb0 (by assumption) (by assumption) (by assumption) (by assumption) (fun e => by cases e; omega) | exact ln_turn (by assumption)
  k_steps
  rename LnInv _ _ _ _ => kInv9
  rename News _ _ _ _ => kNews9
  exact ret _ _ _ (Fr.keep (by k_asm)) (newTexts kNews9 (.head _) (ln_done kInv9))

theorem lines_n (w : World) (mean : ExcName → Option Value) (mg mb : Str → Option Value) (b : Int) (tb : Tok) (hb0 : 0 ≤ b) (hb1 : b < 2 ^ 64) :
    Gv w mean mg mb 146 2 (fun _ => True) [.int b tb] (IsNewTexts ((pageT b.toNat none 8).map txt)) := by
  w_top off
  k_with_none
  k_with "my enter" => (((case kA => exact rfl); (case kF => exact rfl); (case kK => assumption); (case k1 => k_asm); (case k2 => k_asm); (case k3 => k_asm); (case k5 => k_asm); (case k6 => k_is); (case k7 => k_is); (case k8 => ktr_room); (case k9 => first | exact BindsTo.of_eq rfl | exact binds_K (by k_in) rfl (by k_is) rfl rfl rfl); (case c5 => decide); (case kB => exact locs rfl); (case c2 => exact rfl); (case c3 => exact rfl); (case c4 => exact rfl); k_whole))
  k_with "my use" => (((case uB => k_asm); (case uF => k_asm); (case uX => k_asm); (case uN => k_asm); (case uT => k_asm); (case uk => first | exact rfl | assumption); (case ud => ktr_room); (case uu => ktr_units)))
  k_with "pyIter ref" => (k_dflt (k_extra "loop"))
  k_with "call ref cons nil" => (first | k_dflt (k_extra "call") | k_extra "stop")
  k_with "binaryOp LShift int int" => (k_dflt (k_extra "shl"))
  k_with "exec While Compare cons nil" => (k_dflt (k_extra "while"))
  k_with "my lit" => (first | with_reducible rfl | with_reducible exact T_0 | with_reducible exact T_1 | with_reducible exact T_0b | with_reducible exact T_0o | with_reducible exact T_0x | with_reducible exact T_sx | with_reducible exact T_so | with_reducible exact T_sd | with_reducible exact T_e | k_extra "lit")
  k_with "subscriptTail" => (k_dflt (k_extra "item"))
  k_with "subscriptTail Name BinOp str int" => (k_dflt (k_extra "item"))
  k_with "subscriptTail Name Name str int" => (k_dflt (k_extra "item"))
  k_with "binaryOp Add str str" => ((k_dflt (refine' addT ?ax ?ay ?az ?_; (case ax => walk_at "my lit"); (case ay => walk_at "my lit"); (case az => k_extra "size")); k_whole; intro t9 tk9; (try dsimp only)))
  k_with "call builtin:len" => (((with_reducible show wpAny _ _ (call (Value.builtin "len") [Value.str _ _]) _ _ _); k_dflt (refine' lenT ?ax ?az ?_; (case ax => walk_at "my lit"); (case az => k_extra "size")); k_whole; intro t9 tk9; (try dsimp only)))
  k_with "binaryOp Mult str int" => (((with_reducible show wpAny _ _ (binaryOp Operator.Mult (Value.str _ _) (Value.int _ _)) _ _ _); k_dflt (refine' mulT ?az ?az2 ?_; (case az => k_extra "size"); (case az2 => k_extra "size")); k_whole; intro t9 tk9; (try dsimp only)))
  k_with "pyIter str" => (k_dflt (k_extra "text loop"))
  k_with "exec For Name Subscript cons nil" => (((rename Fr _ _ _ _ => lF'); (with_unfolding_all refine' For_invVF lF' ?k1 ?k2 ?_; (case k1 => exact rfl); (case k2 => exact rfl); k_whole)))
  k_with "call builtin:str.index" => (k_dflt (k_extra "index"))
  k_with "call builtin:list.append" => (k_dflt (k_extra "append"))
  k_with "call builtin:str.join" => (k_dflt (k_extra "join"))
  k_with "subscriptTail Name Slice ref ref" => (first | k_dflt (k_extra "cut") | k_extra "stop")
  k_with "call type:list" => (first | k_dflt (k_extra "list") | k_extra "stop")
  k_with "compareOp NotEq ref ref" => (first | k_dflt (k_extra "neq") | k_extra "stop")
  k_with "subscriptTail Name Constant ref int" => (k_dflt (k_extra "tup0"))
  k_with "compareOp NotEq str str" => (k_dflt (k_extra "nes"))
  unfold Gv Gives
  intro dp un gd cn cs a ccd cl outer A₀ base h₀ L m s Q E B F X T hk hd hu hp ret
  refine' enterP [(Str.ofString "origin", .none), (Str.ofString "board", .int b tb)] ?k1 ?k2 ?k3 ?k5 ?kA ?kF ?kK ?k6 ?k7 ?k8 ?k9 ?kB ?_ ?c2 ?c3 ?c4 ?c5
  walk_at "my enter"
  intro L' h' F' N' B' X' T'
  dsimp only [kstB] at F'
  (try dsimp only)
  (try k_fold)
  k_with "loop" => first
   | (
    (rename Fr _ _ _ _ => lF'); (rename News _ _ _ _ => lN'); (rename IsRange _ _ _ _ (-1) _ _ _ => rgX)
    with_unfolding_all refine' rangeS (σ := List Value × Nat) (n := 8) (fun c => [(_, listOf c.1.toArray c.2)]) (fun c => []) [Str.ofString "signs", Str.ofString "col", Str.ofString "square"] (fun i c => LnInv b.toNat none i c.1) ([], 0) (by rfl) (by first | exact rgX | assumption) (by decide) (by rfl) lF' ?kn ?kk ?kp ?kt ?kd
    (case kn => exact lN'); (case kp => exact ⟨TextsAre.nil⟩); (case kk => kst_all)
    (all_goals (clear lF' lN'))
    (case' kt =>
      rintro ⟨us, nn⟩ i tk0 u h tk own kLt kOff kInv kFr kNews
      dsimp only [kstB] at kFr kNews kInv
      have hlen9 := LnInv.len kInv
      (try dsimp only)
      (try k_fold))
    (case' kd =>
      rintro ⟨us, nn⟩ u h tk kInv kFr kNews
      dsimp only [kstB] at kFr kNews kInv
      have hlen9 := LnInv.len kInv
      (try dsimp only)
      (try k_fold)))
   | (
    (rename Fr _ _ _ _ => lF'); (rename News _ _ _ _ => lN'); (rename IsRange _ _ _ _ 1 _ _ _ => rgX)
    with_unfolding_all refine' rangeS (σ := List Value × Nat) (n := 8) (fun c => (_, listOf c.1.toArray c.2) :: (_ :: own)) (fun c => []) [Str.ofString "square"] (fun k c => SgInv b.toNat none (7 - i) k c.1) ([], 0) (by rfl) (by first | exact rgX | assumption) (by decide) (by rfl) lF' ?tn ?tk ?tp ?tt ?td
    (case tn => exact lN'); (case tp => exact ⟨TextsAre.nil⟩); (case tk => kst_all)
    (all_goals (clear lF' lN'))
    (case' tt =>
      rintro ⟨vs, mm⟩ c tk1 u1 h1 tk2 own1 kLt1 kOff1 kInv1 kFr1 kNews1
      dsimp only [kstB] at kFr1 kNews1 kInv1
      have hlen91 := SgInv.len kInv1
      (try dsimp only)
      (try k_fold))
    (case' td =>
      rintro ⟨vs, mm⟩ u1 h1 tk2 kInv1 kFr1 kNews1
      dsimp only [kstB] at kFr1 kNews1 kInv1
      have hlen91 := SgInv.len kInv1
      (try dsimp only)
      (try k_fold)))
  k_with "call" => first
   | ((refine' useInt (square_of_ok w mean mg mb _ _ _ _ (by omega) (by omega)) ?uB ?uF ?uX ?uN ?uT ?uk ?ud ?uu trivial ?_); (walk_at "my use"); intro t9 h9 tk9 F9 N9; (try dsimp only); (try k_fold))
   | ((refine' useInt (bit_at_ok w mean mg mb _ _ _ _ (by omega) (by omega)) ?uB ?uF ?uX ?uN ?uT ?uk ?ud ?uu trivial ?_); (walk_at "my use"); intro t9 h9 tk9 F9 N9; (try dsimp only); (try k_fold))
  k_with "append" => first
   | ((rename News _ _ _ _ => nN); (refine' appT (by k_asm) nN (ne_signs (by assumption) (by assumption)) (by omega) ?_); intro h9 F9 N9; clear nN; (try dsimp only))
   | ((rename News _ _ _ _ => nN); (refine' appT (by k_asm) (fun p hp => nN p (.tail _ hp)) (ne_lines (by assumption)) (by omega) ?_); intro h9 F9 N9; clear nN; (try dsimp only))
   | ((rename News _ _ _ _ => nN); (refine' appT (by k_asm) nN (fun _ hp => nomatch hp) (by omega) ?_); intro h9 F9 N9; clear nN; (try dsimp only))
  k_with "join" => ((rename News _ _ _ _ => nN); (rename SgInv _ _ _ _ _ => sI); (refine' joinT nN sI.are (sgn_weight _ _ _) ?_); (rw [row_join]); intro t9 tk9; (try dsimp only))
  k_with "lit" => exact row_head (by assumption)
  k_with "size" => (simp only [jn, List.length_cons, List.length_nil]; omega)
  k_with "state" => first | exact sg_x hb0 (by assumption) (by assumption) (by assumption) (by assumption) | exact sg_o hb0 (by assumption) (by assumption) (by assumption) (by assumption) (congrArg some (by omega)) | exact sg_d hb0 (by assumption) (by assumption) (by assumption) (by assumption) (fun e => by cases e) | exact ln_turn (by assumption)
  k_steps
  rename LnInv _ _ _ _ => kInv9
  rename News _ _ _ _ => kNews9
  exact ret _ _ _ (Fr.keep (by k_asm)) (newTexts kNews9 (.head _) (ln_done kInv9))
theorem page_i (w : World) (mean : ExcName → Option Value) (mg mb : Str → Option Value) (l : Addr) (vs : List Value) (b : Nat) (q : Int) (tq : Tok) (hb : b < 2 ^ 64) (hi : IntsAre vs (up (sqs b))) :
    Gv w mean mg mb 175 1 (fun g => g.IsList l vs.toArray) [.ref l, .int q tq] (IsNewTexts ((pageT b (some q) 8).map txt)) := by
  w_top off
  k_with_none
  k_with "my enter" => (((case kA => exact rfl); (case kF => exact rfl); (case kK => assumption); (case k1 => k_asm); (case k2 => k_asm); (case k3 => k_asm); (case k5 => k_asm); (case k6 => k_is); (case k7 => k_is); (case k8 => ktr_room); (case k9 => first | exact BindsTo.of_eq rfl | exact binds_K (by k_in) rfl (by k_is) rfl rfl rfl); (case c5 => decide); (case kB => exact locs rfl); (case c2 => exact rfl); (case c3 => exact rfl); (case c4 => exact rfl); k_whole))
  k_with "my use" => (((case uB => k_asm); (case uF => k_asm); (case uX => k_asm); (case uN => k_asm); (case uT => k_asm); (case uk => first | exact rfl | assumption); (case ud => ktr_room); (case uu => ktr_units)))
  k_with "pyIter ref" => (k_dflt (k_extra "loop"))
  k_with "call ref cons nil" => (first | k_dflt (k_extra "call") | k_extra "stop")
  k_with "binaryOp LShift int int" => (k_dflt (k_extra "shl"))
  k_with "exec While Compare cons nil" => (k_dflt (k_extra "while"))
  k_with "my lit" => (first | with_reducible rfl | with_reducible exact T_0 | with_reducible exact T_1 | with_reducible exact T_0b | with_reducible exact T_0o | with_reducible exact T_0x | with_reducible exact T_sx | with_reducible exact T_so | with_reducible exact T_sd | with_reducible exact T_e | k_extra "lit")
  k_with "subscriptTail" => (k_dflt (k_extra "item"))
  k_with "subscriptTail Name BinOp str int" => (k_dflt (k_extra "item"))
  k_with "subscriptTail Name Name str int" => (k_dflt (k_extra "item"))
  k_with "binaryOp Add str str" => ((k_dflt (refine' addT ?ax ?ay ?az ?_; (case ax => walk_at "my lit"); (case ay => walk_at "my lit"); (case az => k_extra "size")); k_whole; intro t9 tk9; (try dsimp only)))
  k_with "call builtin:len" => (((with_reducible show wpAny _ _ (call (Value.builtin "len") [Value.str _ _]) _ _ _); k_dflt (refine' lenT ?ax ?az ?_; (case ax => walk_at "my lit"); (case az => k_extra "size")); k_whole; intro t9 tk9; (try dsimp only)))
  k_with "binaryOp Mult str int" => (((with_reducible show wpAny _ _ (binaryOp Operator.Mult (Value.str _ _) (Value.int _ _)) _ _ _); k_dflt (refine' mulT ?az ?az2 ?_; (case az => k_extra "size"); (case az2 => k_extra "size")); k_whole; intro t9 tk9; (try dsimp only)))
  k_with "pyIter str" => (k_dflt (k_extra "text loop"))
  k_with "exec For Name Subscript cons nil" => (((rename Fr _ _ _ _ => lF'); (with_unfolding_all refine' For_invVF lF' ?k1 ?k2 ?_; (case k1 => exact rfl); (case k2 => exact rfl); k_whole)))
  k_with "call builtin:str.index" => (k_dflt (k_extra "index"))
  k_with "call builtin:list.append" => (k_dflt (k_extra "append"))
  k_with "call builtin:str.join" => (k_dflt (k_extra "join"))
  k_with "subscriptTail Name Slice ref ref" => (first | k_dflt (k_extra "cut") | k_extra "stop")
  k_with "call type:list" => (first | k_dflt (k_extra "list") | k_extra "stop")
  k_with "compareOp NotEq ref ref" => (first | k_dflt (k_extra "neq") | k_extra "stop")
  k_with "subscriptTail Name Constant ref int" => (k_dflt (k_extra "tup0"))
  k_with "compareOp NotEq str str" => (k_dflt (k_extra "nes"))
  unfold Gv Gives
  intro dp un gd cn cs a ccd cl outer A₀ base h₀ L m s Q E B F X T hk hd hu hp ret
  refine' enterP [(Str.ofString "origin", .int q tq), (Str.ofString "marks", .ref l)] ?k1 ?k2 ?k3 ?k5 ?kA ?kF ?kK ?k6 ?k7 ?k8 ?k9 ?kB ?_ ?c2 ?c3 ?c4 ?c5
  walk_at "my enter"
  intro L' h' F' N' B' X' T'
  dsimp only [kstB] at F'
  (try dsimp only)
  (try k_fold)
  k_with "loop" => first
   | (
    (rename PgInv _ _ _ _ => pI); (rename Fr _ _ _ _ => lF'); (rename News _ _ _ _ => lN'); (rename IsRange _ _ _ _ _ _ _ _ => rgX)
    with_unfolding_all refine' rangeS (σ := List Nat × Nat) (n := 8) (fun _ => [(la, listOf us.toArray nn)] ++ own) (fun c => [(Str.ofString "line", .str (txt c.1) c.2)]) [] (fun k c => RwInv b (some q) i k c.1) ([49 + (0 + (i : Int) * 1).toNat], _) (by rfl) (by first | exact rgX | assumption) (by decide) (by rfl) lF' ?tn ?tk ?tp ?tt ?td
    (case tn => exact lN'); (case tp => exact rw_start _ _ _); (case tk => kst_all)
    (all_goals (clear lF' lN'))
    (case' tt =>
      rintro ⟨ln, tln⟩ c tk1 u1 h1 tk2 own1 kLt1 kOff1 kInv1 kFr1 kNews1
      dsimp only [kstB] at kFr1 kNews1 kInv1
      have hlen91 := RwInv.len kInv1
      (try dsimp only)
      (try k_fold))
    (case' td =>
      rintro ⟨ln, tln⟩ u1 h1 tk2 kInv1 kFr1 kNews1
      dsimp only [kstB] at kFr1 kNews1 kInv1
      have hlen91 := RwInv.len kInv1
      (try dsimp only)
      (try k_fold)))
   | (
    (rename Fr _ _ _ _ => lF'); (rename News _ _ _ _ => lN'); (rename IsRange _ _ _ _ _ _ _ _ => rgX)
    with_unfolding_all refine' rangeG (n := 8) (fun i m nx => ∃ la us nn, nx = [(la, listOf us.toArray nn)] ∧ (m (Str.ofString "page") = some (.ref la) ∧ m (Str.ofString "marks") = some (.ref l) ∧ m (Str.ofString "origin") = some (.int q tq)) ∧ PgInv b (some q) i us) (by rfl) (by first | exact rgX | assumption) (by decide) (by rfl) lF' lN' ?kp ?kt ?kd
    (case kp => exact ⟨_, _, _, rfl, ⟨rfl, rfl, rfl⟩, PgInv.start⟩)
    (all_goals (clear lF' lN'))
    (case' kt =>
      rintro i tk0 u nx h tk own kLt kOff ⟨la, us, nn, rfl, ⟨hm1, hm2, hm3⟩, kInv⟩ kFr kNews
      replace kFr := fr_known [(Str.ofString "r", .int (0 + (i : Int) * 1) tk0), (Str.ofString "page", .ref la), (Str.ofString "marks", .ref l), (Str.ofString "origin", .int q tq)] kFr (by
        refine List.forall_mem_cons.mpr ⟨rfl, List.forall_mem_cons.mpr ⟨hm1, List.forall_mem_cons.mpr ⟨hm2, List.forall_mem_cons.mpr ⟨hm3, List.forall_mem_nil _⟩⟩⟩⟩)
      dsimp only [kstB] at kFr
      have hlen9 := PgInv.len kInv
      (try dsimp only)
      (try k_fold))
    (case' kd =>
      rintro u nx h tk ⟨la, us, nn, rfl, ⟨hm1, hm2, hm3⟩, kInv⟩ kFr kNews
      replace kFr := fr_known [(Str.ofString "page", .ref la)] kFr (by
        refine List.forall_mem_cons.mpr ⟨hm1, List.forall_mem_nil _⟩)
      dsimp only [kstB] at kFr
      (try dsimp only)
      (try k_fold)))
  k_with "item" => (refine' itemT 8 (fun j => 49 + j) tabR (by omega) (by omega) (by decide) ?_; intro t9 tk9; (try dsimp only))
  k_with "size" => (simp only [List.length_cons, List.length_nil]; omega)
  k_with "state" => first | exact rw_x hb (by assumption) (by assumption) | exact rw_o hb (by assumption) (by assumption) (congrArg some (by omega)) | exact rw_d hb (by assumption) (by assumption) (fun e => by cases e; omega)
  k_steps
  · rename PgInv _ _ _ _ => kInv9
    rename News _ _ _ _ => kNews9
    exact ret _ _ _ (Fr.keep (by k_asm)) (newTexts kNews9 (.head _) kInv9.are.are)
  · dsimp only [GPost]
    exact page_end (by k_asm) (by assumption) (by assumption) ⟨_, _, _, rfl, ⟨rfl, rfl, rfl⟩, PgInv.turn (by assumption) (by assumption)⟩

theorem page_n (w : World) (mean : ExcName → Option Value) (mg mb : Str → Option Value) (l : Addr) (vs : List Value) (b : Nat) (hb : b < 2 ^ 64) (hi : IntsAre vs (up (sqs b))) :
    Gv w mean mg mb 175 1 (fun g => g.IsList l vs.toArray) [.ref l, .none] (IsNewTexts ((pageT b none 8).map txt)) := by
  w_top off
  k_with_none
  k_with "my enter" => (((case kA => exact rfl); (case kF => exact rfl); (case kK => assumption); (case k1 => k_asm); (case k2 => k_asm); (case k3 => k_asm); (case k5 => k_asm); (case k6 => k_is); (case k7 => k_is); (case k8 => ktr_room); (case k9 => first | exact BindsTo.of_eq rfl | exact binds_K (by k_in) rfl (by k_is) rfl rfl rfl); (case c5 => decide); (case kB => exact locs rfl); (case c2 => exact rfl); (case c3 => exact rfl); (case c4 => exact rfl); k_whole))
  k_with "my use" => (((case uB => k_asm); (case uF => k_asm); (case uX => k_asm); (case uN => k_asm); (case uT => k_asm); (case uk => first | exact rfl | assumption); (case ud => ktr_room); (case uu => ktr_units)))
  k_with "pyIter ref" => (k_dflt (k_extra "loop"))
  k_with "call ref cons nil" => (first | k_dflt (k_extra "call") | k_extra "stop")
  k_with "binaryOp LShift int int" => (k_dflt (k_extra "shl"))
  k_with "exec While Compare cons nil" => (k_dflt (k_extra "while"))
  k_with "my lit" => (first | with_reducible rfl | with_reducible exact T_0 | with_reducible exact T_1 | with_reducible exact T_0b | with_reducible exact T_0o | with_reducible exact T_0x | with_reducible exact T_sx | with_reducible exact T_so | with_reducible exact T_sd | with_reducible exact T_e | k_extra "lit")
  k_with "subscriptTail" => (k_dflt (k_extra "item"))
  k_with "subscriptTail Name BinOp str int" => (k_dflt (k_extra "item"))
  k_with "subscriptTail Name Name str int" => (k_dflt (k_extra "item"))
  k_with "binaryOp Add str str" => ((k_dflt (refine' addT ?ax ?ay ?az ?_; (case ax => walk_at "my lit"); (case ay => walk_at "my lit"); (case az => k_extra "size")); k_whole; intro t9 tk9; (try dsimp only)))
  k_with "call builtin:len" => (((with_reducible show wpAny _ _ (call (Value.builtin "len") [Value.str _ _]) _ _ _); k_dflt (refine' lenT ?ax ?az ?_; (case ax => walk_at "my lit"); (case az => k_extra "size")); k_whole; intro t9 tk9; (try dsimp only)))
  k_with "binaryOp Mult str int" => (((with_reducible show wpAny _ _ (binaryOp Operator.Mult (Value.str _ _) (Value.int _ _)) _ _ _); k_dflt (refine' mulT ?az ?az2 ?_; (case az => k_extra "size"); (case az2 => k_extra "size")); k_whole; intro t9 tk9; (try dsimp only)))
  k_with "pyIter str" => (k_dflt (k_extra "text loop"))
  k_with "exec For Name Subscript cons nil" => (((rename Fr _ _ _ _ => lF'); (with_unfolding_all refine' For_invVF lF' ?k1 ?k2 ?_; (case k1 => exact rfl); (case k2 => exact rfl); k_whole)))
  k_with "call builtin:str.index" => (k_dflt (k_extra "index"))
  k_with "call builtin:list.append" => (k_dflt (k_extra "append"))
  k_with "call builtin:str.join" => (k_dflt (k_extra "join"))
  k_with "subscriptTail Name Slice ref ref" => (first | k_dflt (k_extra "cut") | k_extra "stop")
  k_with "call type:list" => (first | k_dflt (k_extra "list") | k_extra "stop")
  k_with "compareOp NotEq ref ref" => (first | k_dflt (k_extra "neq") | k_extra "stop")
  k_with "subscriptTail Name Constant ref int" => (k_dflt (k_extra "tup0"))
  k_with "compareOp NotEq str str" => (k_dflt (k_extra "nes"))
  unfold Gv Gives
  intro dp un gd cn cs a ccd cl outer A₀ base h₀ L m s Q E B F X T hk hd hu hp ret
  refine' enterP [(Str.ofString "origin", .none), (Str.ofString "marks", .ref l)] ?k1 ?k2 ?k3 ?k5 ?kA ?kF ?kK ?k6 ?k7 ?k8 ?k9 ?kB ?_ ?c2 ?c3 ?c4 ?c5
  walk_at "my enter"
  intro L' h' F' N' B' X' T'
  dsimp only [kstB] at F'
  (try dsimp only)
  (try k_fold)
  k_with "loop" => first
   | (
    (rename PgInv _ _ _ _ => pI); (rename Fr _ _ _ _ => lF'); (rename News _ _ _ _ => lN'); (rename IsRange _ _ _ _ _ _ _ _ => rgX)
    with_unfolding_all refine' rangeS (σ := List Nat × Nat) (n := 8) (fun _ => [(la, listOf us.toArray nn)] ++ own) (fun c => [(Str.ofString "line", .str (txt c.1) c.2)]) [] (fun k c => RwInv b none i k c.1) ([49 + (0 + (i : Int) * 1).toNat], _) (by rfl) (by first | exact rgX | assumption) (by decide) (by rfl) lF' ?tn ?tk ?tp ?tt ?td
    (case tn => exact lN'); (case tp => exact rw_start _ _ _); (case tk => kst_all)
    (all_goals (clear lF' lN'))
    (case' tt =>
      rintro ⟨ln, tln⟩ c tk1 u1 h1 tk2 own1 kLt1 kOff1 kInv1 kFr1 kNews1
      dsimp only [kstB] at kFr1 kNews1 kInv1
      have hlen91 := RwInv.len kInv1
      (try dsimp only)
      (try k_fold))
    (case' td =>
      rintro ⟨ln, tln⟩ u1 h1 tk2 kInv1 kFr1 kNews1
      dsimp only [kstB] at kFr1 kNews1 kInv1
      have hlen91 := RwInv.len kInv1
      (try dsimp only)
      (try k_fold)))
   | (
    (rename Fr _ _ _ _ => lF'); (rename News _ _ _ _ => lN'); (rename IsRange _ _ _ _ _ _ _ _ => rgX)
    with_unfolding_all refine' rangeG (n := 8) (fun i m nx => ∃ la us nn, nx = [(la, listOf us.toArray nn)] ∧ (m (Str.ofString "page") = some (.ref la) ∧ m (Str.ofString "marks") = some (.ref l) ∧ m (Str.ofString "origin") = some .none) ∧ PgInv b none i us) (by rfl) (by first | exact rgX | assumption) (by decide) (by rfl) lF' lN' ?kp ?kt ?kd
    (case kp => exact ⟨_, _, _, rfl, ⟨rfl, rfl, rfl⟩, PgInv.start⟩)
    (all_goals (clear lF' lN'))
    (case' kt =>
      rintro i tk0 u nx h tk own kLt kOff ⟨la, us, nn, rfl, ⟨hm1, hm2, hm3⟩, kInv⟩ kFr kNews
      replace kFr := fr_known [(Str.ofString "r", .int (0 + (i : Int) * 1) tk0), (Str.ofString "page", .ref la), (Str.ofString "marks", .ref l), (Str.ofString "origin", .none)] kFr (by
        refine List.forall_mem_cons.mpr ⟨rfl, List.forall_mem_cons.mpr ⟨hm1, List.forall_mem_cons.mpr ⟨hm2, List.forall_mem_cons.mpr ⟨hm3, List.forall_mem_nil _⟩⟩⟩⟩)
      dsimp only [kstB] at kFr
      have hlen9 := PgInv.len kInv
      (try dsimp only)
      (try k_fold))
    (case' kd =>
      rintro u nx h tk ⟨la, us, nn, rfl, ⟨hm1, hm2, hm3⟩, kInv⟩ kFr kNews
      replace kFr := fr_known [(Str.ofString "page", .ref la)] kFr (by
        refine List.forall_mem_cons.mpr ⟨hm1, List.forall_mem_nil _⟩)
      dsimp only [kstB] at kFr
      (try dsimp only)
      (try k_fold)))
  k_with "item" => (refine' itemT 8 (fun j => 49 + j) tabR (by omega) (by omega) (by decide) ?_; intro t9 tk9; (try dsimp only))
  k_with "size" => (simp only [List.length_cons, List.length_nil]; omega)
  k_with "state" => first | exact rw_x hb (by assumption) (by assumption) | exact rw_o hb (by assumption) (by assumption) (congrArg some (by omega)) | exact rw_d hb (by assumption) (by assumption) (fun e => by cases e)
  k_steps
  · rename PgInv _ _ _ _ => kInv9
    rename News _ _ _ _ => kNews9
    exact ret _ _ _ (Fr.keep (by k_asm)) (newTexts kNews9 (.head _) kInv9.are.are)
  · dsimp only [GPost]
    exact page_end (by k_asm) (by assumption) (by assumption) ⟨_, _, _, rfl, ⟨rfl, rfl, rfl⟩, PgInv.turn (by assumption) (by assumption)⟩
theorem law_walk : PySem.Challenge.rw_sx_vbitworks_7o.Holds := by
  w_top off
  refine Mine.hd ?_
  w_strict (
    k_go0
    rename_i w s₀ s₁ mg mb G Y fa o pm doc kV ho hg KX X V GL T B TE TW w9 w8 M w7 w6 hcd ns hs hlay0 hLy hrr hl2 as1 as2 a vs as3 hL ra w1 r0 hI hr hc1 hc2 K0 hD h₁ F0 N0
    (try k_fold)
    refine execs_split 6 (St s₁.heap s₁.heap.objs.size s₁ a ns) ?t1 ?h1
    (case h1 =>
      simp only [List.take_succ_cons, List.take_zero]
      (try k_fold)
      w_top off
      k_with_none
      k_with "my enter" => (((case kA => exact rfl); (case kF => exact rfl); (case kK => assumption); (case k1 => k_asm); (case k2 => k_asm); (case k3 => k_asm); (case k5 => k_asm); (case k6 => k_is); (case k7 => k_is); (case k8 => ktr_room); (case k9 => first | exact BindsTo.of_eq rfl | exact binds_K (by k_in) rfl (by k_is) rfl rfl rfl); (case c5 => decide); (case kB => exact locs rfl); (case c2 => exact rfl); (case c3 => exact rfl); (case c4 => exact rfl); k_whole))
      k_with "my use" => (((case uB => k_asm); (case uF => k_asm); (case uX => k_asm); (case uN => k_asm); (case uT => k_asm); (case uk => first | exact rfl | assumption); (case ud => ktr_room); (case uu => ktr_units)))
      k_with "pyIter ref" => (k_dflt (k_extra "loop"))
      k_with "call ref cons nil" => (first | k_dflt (k_extra "call") | k_extra "stop")
      k_with "binaryOp LShift int int" => (k_dflt (k_extra "shl"))
      k_with "exec While Compare cons nil" => (k_dflt (k_extra "while"))
      k_with "my lit" => (first | with_reducible rfl | with_reducible exact T_0 | with_reducible exact T_1 | with_reducible exact T_0b | with_reducible exact T_0o | with_reducible exact T_0x | with_reducible exact T_sx | with_reducible exact T_so | with_reducible exact T_sd | with_reducible exact T_e | k_extra "lit")
      k_with "subscriptTail" => (k_dflt (k_extra "item"))
      k_with "subscriptTail Name BinOp str int" => (k_dflt (k_extra "item"))
      k_with "subscriptTail Name Name str int" => (k_dflt (k_extra "item"))
      k_with "binaryOp Add str str" => ((k_dflt (refine' addT ?ax ?ay ?az ?_; (case ax => walk_at "my lit"); (case ay => walk_at "my lit"); (case az => k_extra "size")); k_whole; intro t9 tk9; (try dsimp only)))
      k_with "call builtin:len" => (((with_reducible show wpAny _ _ (call (Value.builtin "len") [Value.str _ _]) _ _ _); k_dflt (refine' lenT ?ax ?az ?_; (case ax => walk_at "my lit"); (case az => k_extra "size")); k_whole; intro t9 tk9; (try dsimp only)))
      k_with "binaryOp Mult str int" => (((with_reducible show wpAny _ _ (binaryOp Operator.Mult (Value.str _ _) (Value.int _ _)) _ _ _); k_dflt (refine' mulT ?az ?az2 ?_; (case az => k_extra "size"); (case az2 => k_extra "size")); k_whole; intro t9 tk9; (try dsimp only)))
      k_with "pyIter str" => (k_dflt (k_extra "text loop"))
      k_with "exec For Name Subscript cons nil" => (((rename Fr _ _ _ _ => lF'); (with_unfolding_all refine' For_invVF lF' ?k1 ?k2 ?_; (case k1 => exact rfl); (case k2 => exact rfl); k_whole)))
      k_with "call builtin:str.index" => (k_dflt (k_extra "index"))
      k_with "call builtin:list.append" => (k_dflt (k_extra "append"))
      k_with "call builtin:str.join" => (k_dflt (k_extra "join"))
      k_with "subscriptTail Name Slice ref ref" => (first | k_dflt (k_extra "cut") | k_extra "stop")
      k_with "call type:list" => (first | k_dflt (k_extra "list") | k_extra "stop")
      k_with "compareOp NotEq ref ref" => (first | k_dflt (k_extra "neq") | k_extra "stop")
      k_with "subscriptTail Name Constant ref int" => (k_dflt (k_extra "tup0"))
      k_with "compareOp NotEq str str" => (k_dflt (k_extra "nes"))
      k_with "stop" => (refine stopC ?_)
      k_with "call" => first
        | ((refine' useInt (knight_ok _ _ _ _ _ _ (fm_nn _ (by decide)) (fm_lt _ (by decide))) ?uB ?uF ?uX ?uN ?uT ?uk ?ud ?uu trivial ?_); (walk_at "my use"); intro t9 h9 tk9 F9 N9; (try dsimp only); (try k_fold))
        | ((refine' useInt (king_ok _ _ _ _ _ _ (fm_nn _ (by decide)) (fm_lt _ (by decide))) ?uB ?uF ?uX ?uN ?uT ?uk ?ud ?uu trivial ?_); (walk_at "my use"); intro t9 h9 tk9 F9 N9; (try dsimp only); (try k_fold))
        | ((refine' useInts (reach_ok _ _ _ _ _ _ _ _ (fm_nn _ (by decide)) (by omega) (fm_nn _ (by decide)) (fm_lt _ (by decide))) ?uB ?uF ?uX ?uN ?uT ?uk ?ud ?uu trivial ?_); (walk_at "my use"); intro l9 n9 us9 h9 tk9 F9 N9 I9; (try dsimp only); (try k_fold))
        | ((rename News _ _ _ _ => nN); (refine' useInt (board_of_ok _ _ _ _ _ _ _ (ints_take (.cons _ _ (.cons _ _ (.cons _ _ (.cons _ _ (.cons _ _ .nil))))) _) (five_take _)) ?uB ?uF ?uX ?uN ?uT ?uk ?ud ?uu (News.isList nN (by k_mem)) ?_); (walk_at "my use"); intro t9 h9 tk9 F9 N9; (try dsimp only); (try k_fold))
        | ((rename News _ _ _ _ => nN); (refine' useInts (listed_ok_call _ _ _ _ _ _ _ _ _ (ints_take (.cons _ _ (.cons _ _ (.cons _ _ (.cons _ _ (.cons _ _ .nil))))) _) (Nat.le_trans (List.length_take_le' _ _) (by show 5 ≤ 64; decide)) (by first | decide | exact fm_nn _ (by decide)) (by first | decide | exact fm_lt _ (by decide))) ?uB ?uF ?uX ?uN ?uT ?uk ?ud ?uu (News.isList nN (by k_mem)) ?_); (walk_at "my use"); intro l9 n9 us9 h9 tk9 F9 N9 I9; (try dsimp only); (try k_fold))
      k_with "neq" => ((rename News _ _ _ _ => nN); (refine' neSame (News.isList nN (by k_mem)) (ints_take (.cons _ _ (.cons _ _ (.cons _ _ (.cons _ _ (.cons _ _ .nil))))) _) (News.isList nN (by k_mem)) (ints_take (.cons _ _ (.cons _ _ (.cons _ _ (.cons _ _ (.cons _ _ .nil))))) _) (by ktr_units) ?_); (try dsimp only))
      k_with "cut" => ((rename News _ _ _ _ => nN); (refine' cut_tuple (by k_asm) nN (News.isTup nN (by k_mem)) (fm_nn _ (k := 6) (by decide)) (six_le rfl) (by show 5 ≤ 1000; decide) ?_); intro D9 h9 F9 N9 T9; (try dsimp only))
      k_with "list" => ((rename News _ _ _ _ => nN); (rename IsTup _ _ _ => tN); (refine' list_tuple (by k_asm) nN tN (Nat.le_trans (List.length_take_le' _ _) (by show 5 ≤ 1000; decide)) ?_); intro D9 c9 h9 F9 N9 l9; (try dsimp only))
      k_steps
      · have hk0 : (ns.getD (Int.toNat 0) 0).fmod 4 = 0 := by assumption
        rename News _ _ _ _ => nN
        rename Fr _ _ _ _ => fF
        refine' St.mk ?h14 fF ?r1 ?r2 ?r3 ?r4 ?r5 nN ?n1 ?n2 I9 ?b1 ?hx ?hm
        (case r1 => rfl)
        (case r2 => rfl)
        (case r3 => rfl)
        (case r4 => rfl)
        (case r5 => rfl)
        (case h14 => omega)
        (case hx => exact rfl)
        (case b1 => exact knight_lt (fm_nn _ (by decide)) (fm_lt _ (by decide)))
        (case n1 => k_mem)
        (case n2 => k_mem)
        (case hm => (rw [hk0]; exact knight_st (fm_nn _ (by decide)) (fm_lt _ (by decide))))
      · have hk0 : (ns.getD (Int.toNat 0) 0).fmod 4 = 1 := by assumption
        rename News _ _ _ _ => nN
        rename Fr _ _ _ _ => fF
        refine' St.mk ?h14 fF ?r1 ?r2 ?r3 ?r4 ?r5 nN ?n1 ?n2 I9 ?b1 ?hx ?hm
        (case r1 => rfl)
        (case r2 => rfl)
        (case r3 => rfl)
        (case r4 => rfl)
        (case r5 => rfl)
        (case h14 => omega)
        (case hx => exact rfl)
        (case b1 => exact king_lt (fm_nn _ (by decide)) (fm_lt _ (by decide)))
        (case n1 => k_mem)
        (case n2 => k_mem)
        (case hm => (rw [hk0]; exact king_st (fm_nn _ (by decide)) (fm_lt _ (by decide))))
      · rename News _ _ _ _ => nN
        rename Fr _ _ _ _ => fF
        refine' St.mk ?h14 fF ?r1 ?r2 ?r3 ?r4 ?r5 nN ?n1 ?n2 I9 ?b1 ?hx ?hm
        (case r1 => rfl)
        (case r2 => rfl)
        (case r3 => rfl)
        (case r4 => rfl)
        (case r5 => rfl)
        (case h14 => omega)
        (case hx => exact listed_board (by first | decide | exact fm_nn _ (by decide)))
        (case b1 => exact listed_lt (five_take _) (by first | decide | exact fm_lt _ (by decide)))
        (case n1 => k_mem)
        (case n2 => k_mem)
        (case hm => exact listed_st (five_take _) (by first | decide | exact fm_nn _ (by decide)))
      · rename News _ _ _ _ => nN
        rename Fr _ _ _ _ => fF
        refine' St.mk ?h14 fF ?r1 ?r2 ?r3 ?r4 ?r5 nN ?n1 ?n2 I9 ?b1 ?hx ?hm
        (case r1 => rfl)
        (case r2 => rfl)
        (case r3 => rfl)
        (case r4 => rfl)
        (case r5 => rfl)
        (case h14 => omega)
        (case hx => exact listed_board (by first | decide | exact fm_nn _ (by decide)))
        (case b1 => exact listed_lt (five_take _) (by first | decide | exact fm_lt _ (by decide)))
        (case n1 => k_mem)
        (case n2 => k_mem)
        (case hm => exact listed_st (five_take _) (by first | decide | exact fm_nn _ (by decide))))
    simp only [List.drop_succ_cons, List.drop_zero]
    rintro s' ⟨h14, h, tk, m, b, tb, lm, us, nn, q, tq, lc, c0, t0, cs, nc, rfl, kF, ⟨e1, e2, e3, e4, e5⟩, kN, kI, hb⟩
    replace kF := fr_known [(Str.ofString "script", .ref a), (Str.ofString "square", .int q tq), (Str.ofString "cells", .ref lc), (Str.ofString "board", .int (b : Int) tb), (Str.ofString "marks", .ref lm)] kF (List.forall_mem_cons.mpr ⟨e1, List.forall_mem_cons.mpr ⟨e2, List.forall_mem_cons.mpr ⟨e3, List.forall_mem_cons.mpr ⟨e4, List.forall_mem_cons.mpr ⟨e5, List.forall_mem_nil _⟩⟩⟩⟩⟩)
    dsimp only [kstB] at kF
    clear e1 e2 e3 e4 e5
    clear F0 N0
    refine execs_split 1 (St s₁.heap s₁.heap.objs.size s₁ a ns) ?t2 ?h2
    (case h2 =>
      simp only [List.take_succ_cons, List.take_zero]
      (try k_fold)
      w_top off
      k_with_none
      k_with "my enter" => (((case kA => exact rfl); (case kF => exact rfl); (case kK => assumption); (case k1 => k_asm); (case k2 => k_asm); (case k3 => k_asm); (case k5 => k_asm); (case k6 => k_is); (case k7 => k_is); (case k8 => ktr_room); (case k9 => first | exact BindsTo.of_eq rfl | exact binds_K (by k_in) rfl (by k_is) rfl rfl rfl); (case c5 => decide); (case kB => exact locs rfl); (case c2 => exact rfl); (case c3 => exact rfl); (case c4 => exact rfl); k_whole))
      k_with "my use" => (((case uB => k_asm); (case uF => k_asm); (case uX => k_asm); (case uN => k_asm); (case uT => k_asm); (case uk => first | exact rfl | assumption); (case ud => ktr_room); (case uu => ktr_units)))
      k_with "pyIter ref" => (k_dflt (k_extra "loop"))
      k_with "call ref cons nil" => (first | k_dflt (k_extra "call") | k_extra "stop")
      k_with "binaryOp LShift int int" => (k_dflt (k_extra "shl"))
      k_with "exec While Compare cons nil" => (k_dflt (k_extra "while"))
      k_with "my lit" => (first | with_reducible rfl | with_reducible exact T_0 | with_reducible exact T_1 | with_reducible exact T_0b | with_reducible exact T_0o | with_reducible exact T_0x | with_reducible exact T_sx | with_reducible exact T_so | with_reducible exact T_sd | with_reducible exact T_e | k_extra "lit")
      k_with "subscriptTail" => (k_dflt (k_extra "item"))
      k_with "subscriptTail Name BinOp str int" => (k_dflt (k_extra "item"))
      k_with "subscriptTail Name Name str int" => (k_dflt (k_extra "item"))
      k_with "binaryOp Add str str" => ((k_dflt (refine' addT ?ax ?ay ?az ?_; (case ax => walk_at "my lit"); (case ay => walk_at "my lit"); (case az => k_extra "size")); k_whole; intro t9 tk9; (try dsimp only)))
      k_with "call builtin:len" => (((with_reducible show wpAny _ _ (call (Value.builtin "len") [Value.str _ _]) _ _ _); k_dflt (refine' lenT ?ax ?az ?_; (case ax => walk_at "my lit"); (case az => k_extra "size")); k_whole; intro t9 tk9; (try dsimp only)))
      k_with "binaryOp Mult str int" => (((with_reducible show wpAny _ _ (binaryOp Operator.Mult (Value.str _ _) (Value.int _ _)) _ _ _); k_dflt (refine' mulT ?az ?az2 ?_; (case az => k_extra "size"); (case az2 => k_extra "size")); k_whole; intro t9 tk9; (try dsimp only)))
      k_with "pyIter str" => (k_dflt (k_extra "text loop"))
      k_with "exec For Name Subscript cons nil" => (((rename Fr _ _ _ _ => lF'); (with_unfolding_all refine' For_invVF lF' ?k1 ?k2 ?_; (case k1 => exact rfl); (case k2 => exact rfl); k_whole)))
      k_with "call builtin:str.index" => (k_dflt (k_extra "index"))
      k_with "call builtin:list.append" => (k_dflt (k_extra "append"))
      k_with "call builtin:str.join" => (k_dflt (k_extra "join"))
      k_with "subscriptTail Name Slice ref ref" => (first | k_dflt (k_extra "cut") | k_extra "stop")
      k_with "call type:list" => (first | k_dflt (k_extra "list") | k_extra "stop")
      k_with "compareOp NotEq ref ref" => (first | k_dflt (k_extra "neq") | k_extra "stop")
      k_with "subscriptTail Name Constant ref int" => (k_dflt (k_extra "tup0"))
      k_with "compareOp NotEq str str" => (k_dflt (k_extra "nes"))
      k_with "stop" => (refine stopC ?_)
      k_with "call" => first
        | ((refine' useInt (shifted_ok _ _ _ _ _ _ _ _ _ _ (Int.natCast_nonneg _) (nat_lt hb) (rc_lo _) (rc_hi _) (rc_lo _) (rc_hi _)) ?uB ?uF ?uX ?uN ?uT ?uk ?ud ?uu trivial ?_); (walk_at "my use"); intro t9 h9 tk9 F9 N9; (try dsimp only); (try k_fold))
        | ((rename News _ _ _ _ => nN); (refine' useInts (moved_ok _ _ _ _ _ _ _ _ _ _ _ kI (sqs_len _) sqs_bounds (rc_lo _) (rc_hi _) (rc_lo _) (rc_hi _)) ?uB ?uF ?uX ?uN ?uT ?uk ?ud ?uu (News.isList nN (by k_mem)) ?_); (walk_at "my use"); intro l9 n9 us9 h9 tk9 F9 N9 I9; (try dsimp only); (try k_fold))
      k_steps
      · rename News _ _ _ _ => nN
        rename Fr _ _ _ _ => fF
        refine' St.mk ?h14 fF ?r1 ?r2 ?r3 ?r4 ?r5 nN ?n1 ?n2 I9 ?b1 ?hx ?hm
        (case r1 => rfl)
        (case r2 => rfl)
        (case r3 => rfl)
        (case r4 => rfl)
        (case r5 => rfl)
        (case h14 => exact h14)
        (case hx => exact rfl)
        (case b1 => exact shift_lt (rc_lo _) (rc_hi _))
        (case n1 => k_mem)
        (case n2 => k_mem)
        (case hm => exact shift_st (rc_lo _) (rc_hi _))
      · rename News _ _ _ _ => nN
        rename Fr _ _ _ _ => fF
        refine' St.mk ?h14 fF ?r1 ?r2 ?r3 ?r4 ?r5 nN ?n1 ?n2 kI ?b1 ?hx ?hm
        (case r1 => rfl)
        (case r2 => rfl)
        (case r3 => rfl)
        (case r4 => rfl)
        (case r5 => rfl)
        (case h14 => exact h14)
        (case hx => exact rfl)
        (case b1 => exact hb)
        (case n1 => k_mem)
        (case n2 => k_mem)
        (case hm => exact rfl))
    clear kN kI kF
    simp only [List.drop_succ_cons, List.drop_zero]
    rintro s' ⟨h14, h, tk, m, b, tb, lm, us, nn, q, tq, lc, c0, t0, cs, nc, rfl, kF, ⟨e1, e2, e3, e4, e5⟩, kN, kI, hb⟩
    replace kF := fr_known [(Str.ofString "script", .ref a), (Str.ofString "square", .int q tq), (Str.ofString "cells", .ref lc), (Str.ofString "board", .int (b : Int) tb), (Str.ofString "marks", .ref lm)] kF (List.forall_mem_cons.mpr ⟨e1, List.forall_mem_cons.mpr ⟨e2, List.forall_mem_cons.mpr ⟨e3, List.forall_mem_cons.mpr ⟨e4, List.forall_mem_cons.mpr ⟨e5, List.forall_mem_nil _⟩⟩⟩⟩⟩)
    dsimp only [kstB] at kF
    clear e1 e2 e3 e4 e5
    refine execs_split 7 (St s₁.heap s₁.heap.objs.size s₁ a ns) ?t3 ?h3
    (case h3 =>
      simp only [List.take_succ_cons, List.take_zero]
      (try k_fold)
      w_top off
      k_with_none
      k_with "my enter" => (((case kA => exact rfl); (case kF => exact rfl); (case kK => assumption); (case k1 => k_asm); (case k2 => k_asm); (case k3 => k_asm); (case k5 => k_asm); (case k6 => k_is); (case k7 => k_is); (case k8 => ktr_room); (case k9 => first | exact BindsTo.of_eq rfl | exact binds_K (by k_in) rfl (by k_is) rfl rfl rfl); (case c5 => decide); (case kB => exact locs rfl); (case c2 => exact rfl); (case c3 => exact rfl); (case c4 => exact rfl); k_whole))
      k_with "my use" => (((case uB => k_asm); (case uF => k_asm); (case uX => k_asm); (case uN => k_asm); (case uT => k_asm); (case uk => first | exact rfl | assumption); (case ud => ktr_room); (case uu => ktr_units)))
      k_with "pyIter ref" => (k_dflt (k_extra "loop"))
      k_with "call ref cons nil" => (first | k_dflt (k_extra "call") | k_extra "stop")
      k_with "binaryOp LShift int int" => (k_dflt (k_extra "shl"))
      k_with "exec While Compare cons nil" => (k_dflt (k_extra "while"))
      k_with "my lit" => (first | with_reducible rfl | with_reducible exact T_0 | with_reducible exact T_1 | with_reducible exact T_0b | with_reducible exact T_0o | with_reducible exact T_0x | with_reducible exact T_sx | with_reducible exact T_so | with_reducible exact T_sd | with_reducible exact T_e | k_extra "lit")
      k_with "subscriptTail" => (k_dflt (k_extra "item"))
      k_with "subscriptTail Name BinOp str int" => (k_dflt (k_extra "item"))
      k_with "subscriptTail Name Name str int" => (k_dflt (k_extra "item"))
      k_with "binaryOp Add str str" => ((k_dflt (refine' addT ?ax ?ay ?az ?_; (case ax => walk_at "my lit"); (case ay => walk_at "my lit"); (case az => k_extra "size")); k_whole; intro t9 tk9; (try dsimp only)))
      k_with "call builtin:len" => (((with_reducible show wpAny _ _ (call (Value.builtin "len") [Value.str _ _]) _ _ _); k_dflt (refine' lenT ?ax ?az ?_; (case ax => walk_at "my lit"); (case az => k_extra "size")); k_whole; intro t9 tk9; (try dsimp only)))
      k_with "binaryOp Mult str int" => (((with_reducible show wpAny _ _ (binaryOp Operator.Mult (Value.str _ _) (Value.int _ _)) _ _ _); k_dflt (refine' mulT ?az ?az2 ?_; (case az => k_extra "size"); (case az2 => k_extra "size")); k_whole; intro t9 tk9; (try dsimp only)))
      k_with "pyIter str" => (k_dflt (k_extra "text loop"))
      k_with "exec For Name Subscript cons nil" => (((rename Fr _ _ _ _ => lF'); (with_unfolding_all refine' For_invVF lF' ?k1 ?k2 ?_; (case k1 => exact rfl); (case k2 => exact rfl); k_whole)))
      k_with "call builtin:str.index" => (k_dflt (k_extra "index"))
      k_with "call builtin:list.append" => (k_dflt (k_extra "append"))
      k_with "call builtin:str.join" => (k_dflt (k_extra "join"))
      k_with "subscriptTail Name Slice ref ref" => (first | k_dflt (k_extra "cut") | k_extra "stop")
      k_with "call type:list" => (first | k_dflt (k_extra "list") | k_extra "stop")
      k_with "compareOp NotEq ref ref" => (first | k_dflt (k_extra "neq") | k_extra "stop")
      k_with "subscriptTail Name Constant ref int" => (k_dflt (k_extra "tup0"))
      k_with "compareOp NotEq str str" => (k_dflt (k_extra "nes"))
      k_with "stop" => (refine stopC ?_)
      k_with "call" => first
        | ((refine' useTexts (lines_i _ _ _ _ _ _ _ _ (Int.natCast_nonneg _) (nat_lt hb)) ?uB ?uF ?uX ?uN ?uT ?uk ?ud ?uu trivial ?_); (walk_at "my use"); intro l9 n9 us9 h9 tk9 F9 N9 I9; (try dsimp only); (try k_fold))
        | ((refine' useTexts (lines_n _ _ _ _ _ _ (Int.natCast_nonneg _) (nat_lt hb)) ?uB ?uF ?uX ?uN ?uT ?uk ?ud ?uu trivial ?_); (walk_at "my use"); intro l9 n9 us9 h9 tk9 F9 N9 I9; (try dsimp only); (try k_fold))
        | ((rename News _ _ _ _ => nN); (refine' useTexts (page_i _ _ _ _ _ _ _ _ _ hb kI) ?uB ?uF ?uX ?uN ?uT ?uk ?ud ?uu (News.isList nN (by k_mem)) ?_); (walk_at "my use"); intro l8 n8 us8 h8 tk8 F8 N8 I8; (try dsimp only); (try k_fold))
        | ((rename News _ _ _ _ => nN); (refine' useTexts (page_n _ _ _ _ _ _ _ hb kI) ?uB ?uF ?uX ?uN ?uT ?uk ?ud ?uu (News.isList nN (by k_mem)) ?_); (walk_at "my use"); intro l8 n8 us8 h8 tk8 F8 N8 I8; (try dsimp only); (try k_fold))
      k_with "tup0" => ((with_reducible show wpAny _ _ (subscriptTail _ _ (Value.ref _) (Value.int 0 _)) _ _ _); (rename News _ _ _ _ => nN); (refine' tup0 (News.isTup nN (.tail _ (.head _))) ?_); (try dsimp only))
      k_with "neq" => ((rename News _ _ _ _ => nN); (refine' neSameT (News.isList nN (by k_mem)) I9 (News.isList nN (by k_mem)) I8 (pageT_ok _ _ 8 (Nat.le_refl _)) (by ktr_units) ?_); (try dsimp only))
      k_steps
      all_goals (
        rename News _ _ _ _ => nN
        rename Fr _ _ _ _ => fF
        refine' St.mk h14 fF ?r1 ?r2 ?r3 ?r4 ?r5 nN ?n1 ?n2 kI hb ?hx rfl
        (case r1 => rfl)
        (case r2 => rfl)
        (case r3 => rfl)
        (case r4 => rfl)
        (case r5 => rfl)
        (case hx => exact rfl)
        (case n1 => k_mem)
        (case n2 => k_mem)))
    clear kN kI kF
    simp only [List.drop_succ_cons, List.drop_zero]
    rintro s' ⟨h14, h, tk, m, b, tb, lm, us, nn, q, tq, lc, c0, t0, cs, nc, rfl, kF, ⟨e1, e2, e3, e4, e5⟩, kN, kI, hb⟩
    replace kF := fr_known [(Str.ofString "script", .ref a), (Str.ofString "square", .int q tq), (Str.ofString "cells", .ref lc), (Str.ofString "board", .int (b : Int) tb), (Str.ofString "marks", .ref lm)] kF (List.forall_mem_cons.mpr ⟨e1, List.forall_mem_cons.mpr ⟨e2, List.forall_mem_cons.mpr ⟨e3, List.forall_mem_cons.mpr ⟨e4, List.forall_mem_cons.mpr ⟨e5, List.forall_mem_nil _⟩⟩⟩⟩⟩)
    dsimp only [kstB] at kF
    clear e1 e2 e3 e4 e5
    refine execs_split 4 (St s₁.heap s₁.heap.objs.size s₁ a ns) ?t4 ?h4
    (case h4 =>
      simp only [List.take_succ_cons, List.take_zero]
      (try k_fold)
      w_top off
      k_with_none
      k_with "my enter" => (((case kA => exact rfl); (case kF => exact rfl); (case kK => assumption); (case k1 => k_asm); (case k2 => k_asm); (case k3 => k_asm); (case k5 => k_asm); (case k6 => k_is); (case k7 => k_is); (case k8 => ktr_room); (case k9 => first | exact BindsTo.of_eq rfl | exact binds_K (by k_in) rfl (by k_is) rfl rfl rfl); (case c5 => decide); (case kB => exact locs rfl); (case c2 => exact rfl); (case c3 => exact rfl); (case c4 => exact rfl); k_whole))
      k_with "my use" => (((case uB => k_asm); (case uF => k_asm); (case uX => k_asm); (case uN => k_asm); (case uT => k_asm); (case uk => first | exact rfl | assumption); (case ud => ktr_room); (case uu => ktr_units)))
      k_with "pyIter ref" => (k_dflt (k_extra "loop"))
      k_with "call ref cons nil" => (first | k_dflt (k_extra "call") | k_extra "stop")
      k_with "binaryOp LShift int int" => (k_dflt (k_extra "shl"))
      k_with "exec While Compare cons nil" => (k_dflt (k_extra "while"))
      k_with "my lit" => (first | with_reducible rfl | with_reducible exact T_0 | with_reducible exact T_1 | with_reducible exact T_0b | with_reducible exact T_0o | with_reducible exact T_0x | with_reducible exact T_sx | with_reducible exact T_so | with_reducible exact T_sd | with_reducible exact T_e | k_extra "lit")
      k_with "subscriptTail" => (k_dflt (k_extra "item"))
      k_with "subscriptTail Name BinOp str int" => (k_dflt (k_extra "item"))
      k_with "subscriptTail Name Name str int" => (k_dflt (k_extra "item"))
      k_with "binaryOp Add str str" => ((k_dflt (refine' addT ?ax ?ay ?az ?_; (case ax => walk_at "my lit"); (case ay => walk_at "my lit"); (case az => k_extra "size")); k_whole; intro t9 tk9; (try dsimp only)))
      k_with "call builtin:len" => (((with_reducible show wpAny _ _ (call (Value.builtin "len") [Value.str _ _]) _ _ _); k_dflt (refine' lenT ?ax ?az ?_; (case ax => walk_at "my lit"); (case az => k_extra "size")); k_whole; intro t9 tk9; (try dsimp only)))
      k_with "binaryOp Mult str int" => (((with_reducible show wpAny _ _ (binaryOp Operator.Mult (Value.str _ _) (Value.int _ _)) _ _ _); k_dflt (refine' mulT ?az ?az2 ?_; (case az => k_extra "size"); (case az2 => k_extra "size")); k_whole; intro t9 tk9; (try dsimp only)))
      k_with "pyIter str" => (k_dflt (k_extra "text loop"))
      k_with "exec For Name Subscript cons nil" => (((rename Fr _ _ _ _ => lF'); (with_unfolding_all refine' For_invVF lF' ?k1 ?k2 ?_; (case k1 => exact rfl); (case k2 => exact rfl); k_whole)))
      k_with "call builtin:str.index" => (k_dflt (k_extra "index"))
      k_with "call builtin:list.append" => (k_dflt (k_extra "append"))
      k_with "call builtin:str.join" => (k_dflt (k_extra "join"))
      k_with "subscriptTail Name Slice ref ref" => (first | k_dflt (k_extra "cut") | k_extra "stop")
      k_with "call type:list" => (first | k_dflt (k_extra "list") | k_extra "stop")
      k_with "compareOp NotEq ref ref" => (first | k_dflt (k_extra "neq") | k_extra "stop")
      k_with "subscriptTail Name Constant ref int" => (k_dflt (k_extra "tup0"))
      k_with "compareOp NotEq str str" => (k_dflt (k_extra "nes"))
      k_with "stop" => (refine stopC ?_)
      k_with "call" => first
        | ((refine' useStr (square_name_ok _ _ _ _ _ _ hs9.1 hs9.2) ?uB ?uF ?uX ?uN ?uT ?uk ?ud ?uu trivial ?_); (walk_at "my use"); intro t9 h9 tk9 F9 N9; (try dsimp only); (try k_fold))
        | ((refine' useInts (squares_ok _ _ _ _ _ _ (Int.natCast_nonneg _) (nat_lt hb)) ?uB ?uF ?uX ?uN ?uT ?uk ?ud ?uu trivial ?_); (walk_at "my use"); intro l9 n9 us9 h9 tk9 F9 N9 I9; (rw [Int.toNat_natCast] at I9); (try dsimp only); (try k_fold))
      k_with "loop" => (
        (rename Fr _ _ _ _ => lF'); (rename News _ _ _ _ => lN')
        with_unfolding_all refine' kst_listL (σ := Unit) (fun _ => _) (fun _ => []) (fun _ => True) [] (fun _ _ => True) () (by rfl) ?ll I9 lF' lN' True.intro (fun _ hp => nomatch hp) True.intro ?kt ?kd
        (case ll => (intro c9; (try dsimp only); k_memK))
        (case' kt =>
          rintro - pre post n t0 u1 h1 tk1 own kEq kMem kOff - - kFr kNews
          dsimp only [kstB] at kFr kNews
          have hs9 := sqs_bounds n kMem
          have hq9 := row_col hs9.1 hs9.2
          (try dsimp only)
          (try k_fold))
        (case' kd =>
          rintro - u1 h1 tk1 - - kFr kNews
          dsimp only [kstB] at kFr kNews
          (try dsimp only)
          (try k_fold)))
      k_with "item" => (refine' itemT 8 (fun j => 97 + j) tabC hq9.1 hq9.2.1 (by decide) ?_; intro t9 tk9; (try dsimp only))
      k_with "size" => (simp only [List.length_cons, List.length_nil]; omega)
      k_with "nes" => ((refine' neStr (by first | exact name_eq hs9.1 hs9.2 | exact (name_eq hs9.1 hs9.2).trans (by rfl)) ?_); (try dsimp only))
      k_with "neq" => ((rename News _ _ _ _ => nN); (refine' neSame (News.isList nN (by k_mem)) I9 (News.isList nN (by k_mem)) kI (by ktr_units) ?_); (try dsimp only))
      k_steps
      all_goals (
        rename News _ _ _ _ => nN
        rename Fr _ _ _ _ => fF
        refine' St.mk h14 fF ?r1 ?r2 ?r3 ?r4 ?r5 nN ?n1 ?n2 kI hb ?hx rfl
        (case r1 => rfl)
        (case r2 => rfl)
        (case r3 => rfl)
        (case r4 => rfl)
        (case r5 => rfl)
        (case hx => exact rfl)
        (case n1 => k_mem)
        (case n2 => k_mem)))
    clear kN kI kF
    simp only [List.drop_succ_cons, List.drop_zero]
    rintro s' ⟨h14, h, tk, m, b, tb, lm, us, nn, q, tq, lc, c0, t0, cs, nc, rfl, kF, ⟨e1, e2, e3, e4, e5⟩, kN, kI, hb⟩
    replace kF := fr_known [(Str.ofString "script", .ref a), (Str.ofString "square", .int q tq), (Str.ofString "cells", .ref lc), (Str.ofString "board", .int (b : Int) tb), (Str.ofString "marks", .ref lm)] kF (List.forall_mem_cons.mpr ⟨e1, List.forall_mem_cons.mpr ⟨e2, List.forall_mem_cons.mpr ⟨e3, List.forall_mem_cons.mpr ⟨e4, List.forall_mem_cons.mpr ⟨e5, List.forall_mem_nil _⟩⟩⟩⟩⟩)
    dsimp only [kstB] at kF
    clear e1 e2 e3 e4 e5
    refine execs_split 3 (St s₁.heap s₁.heap.objs.size s₁ a ns) ?t5 ?h5
    (case h5 =>
      simp only [List.take_succ_cons, List.take_zero]
      (try k_fold)
      w_top off
      k_with_none
      k_with "my enter" => (((case kA => exact rfl); (case kF => exact rfl); (case kK => assumption); (case k1 => k_asm); (case k2 => k_asm); (case k3 => k_asm); (case k5 => k_asm); (case k6 => k_is); (case k7 => k_is); (case k8 => ktr_room); (case k9 => first | exact BindsTo.of_eq rfl | exact binds_K (by k_in) rfl (by k_is) rfl rfl rfl); (case c5 => decide); (case kB => exact locs rfl); (case c2 => exact rfl); (case c3 => exact rfl); (case c4 => exact rfl); k_whole))
      k_with "my use" => (((case uB => k_asm); (case uF => k_asm); (case uX => k_asm); (case uN => k_asm); (case uT => k_asm); (case uk => first | exact rfl | assumption); (case ud => ktr_room); (case uu => ktr_units)))
      k_with "pyIter ref" => (k_dflt (k_extra "loop"))
      k_with "call ref cons nil" => (first | k_dflt (k_extra "call") | k_extra "stop")
      k_with "binaryOp LShift int int" => (k_dflt (k_extra "shl"))
      k_with "exec While Compare cons nil" => (k_dflt (k_extra "while"))
      k_with "my lit" => (first | with_reducible rfl | with_reducible exact T_0 | with_reducible exact T_1 | with_reducible exact T_0b | with_reducible exact T_0o | with_reducible exact T_0x | with_reducible exact T_sx | with_reducible exact T_so | with_reducible exact T_sd | with_reducible exact T_e | k_extra "lit")
      k_with "subscriptTail" => (k_dflt (k_extra "item"))
      k_with "subscriptTail Name BinOp str int" => (k_dflt (k_extra "item"))
      k_with "subscriptTail Name Name str int" => (k_dflt (k_extra "item"))
      k_with "binaryOp Add str str" => ((k_dflt (refine' addT ?ax ?ay ?az ?_; (case ax => walk_at "my lit"); (case ay => walk_at "my lit"); (case az => k_extra "size")); k_whole; intro t9 tk9; (try dsimp only)))
      k_with "call builtin:len" => (((with_reducible show wpAny _ _ (call (Value.builtin "len") [Value.str _ _]) _ _ _); k_dflt (refine' lenT ?ax ?az ?_; (case ax => walk_at "my lit"); (case az => k_extra "size")); k_whole; intro t9 tk9; (try dsimp only)))
      k_with "binaryOp Mult str int" => (((with_reducible show wpAny _ _ (binaryOp Operator.Mult (Value.str _ _) (Value.int _ _)) _ _ _); k_dflt (refine' mulT ?az ?az2 ?_; (case az => k_extra "size"); (case az2 => k_extra "size")); k_whole; intro t9 tk9; (try dsimp only)))
      k_with "pyIter str" => (k_dflt (k_extra "text loop"))
      k_with "exec For Name Subscript cons nil" => (((rename Fr _ _ _ _ => lF'); (with_unfolding_all refine' For_invVF lF' ?k1 ?k2 ?_; (case k1 => exact rfl); (case k2 => exact rfl); k_whole)))
      k_with "call builtin:str.index" => (k_dflt (k_extra "index"))
      k_with "call builtin:list.append" => (k_dflt (k_extra "append"))
      k_with "call builtin:str.join" => (k_dflt (k_extra "join"))
      k_with "subscriptTail Name Slice ref ref" => (first | k_dflt (k_extra "cut") | k_extra "stop")
      k_with "call type:list" => (first | k_dflt (k_extra "list") | k_extra "stop")
      k_with "compareOp NotEq ref ref" => (first | k_dflt (k_extra "neq") | k_extra "stop")
      k_with "subscriptTail Name Constant ref int" => (k_dflt (k_extra "tup0"))
      k_with "compareOp NotEq str str" => (k_dflt (k_extra "nes"))
      k_with "stop" => (refine stopC ?_)
      k_with "call" => ((refine' useStr (nt_10 _ _ _ _ _ _ _ (Int.natCast_nonneg _) (nat_lt hb)) ?uB ?uF ?uX ?uN ?uT ?uk ?ud ?uu trivial ?_); (walk_at "my use"); intro t9 h9 tk9 F9 N9; (try dsimp only); (try k_fold))
      k_with "loop" => (
        (rename Fr _ _ _ _ => lF'); (rename News _ _ _ _ => lN')
        with_unfolding_all refine' kst_listL (σ := Int × Nat) (fun _ => _) (fun c => [(Str.ofString "total", .int c.1 c.2)]) (fun _ => True) [] (fun pre c => c.1 = pre.foldl (fun t s => t + 2 ^ s.toNat) 0) (0, _) (by rfl) ?el kI lF' lN' True.intro ?ek rfl ?et ?ed
        (case el => (intro c9; (try dsimp only); k_memK))
        (case ek => kst_all)
        (case' et =>
          rintro ⟨tot, ttot⟩ pre post n t0 u1 h1 tk1 own kEq kMem kOff - kP kFr kNews
          dsimp only [kstB] at kFr kNews kP
          have hs9 := sqs_bounds n kMem
          (try dsimp only)
          (try k_fold))
        (case' ed =>
          rintro ⟨tot, ttot⟩ u1 h1 tk1 - kP kFr kNews
          dsimp only [kstB] at kFr kNews kP
          obtain rfl : tot = (b : Int) := kP.trans (total_ok hb)
          clear kP
          (try dsimp only)
          (try k_fold)))
      k_with "state" => exact total_turn (by assumption)
      k_with "nes" => ((refine' neStr (by with_reducible rfl) ?_); (try dsimp only))
      k_steps
      all_goals (
        rename News _ _ _ _ => nN
        rename Fr _ _ _ _ => fF
        refine' St.mk h14 fF ?r1 ?r2 ?r3 ?r4 ?r5 nN ?n1 ?n2 kI hb ?hx rfl
        (case r1 => rfl)
        (case r2 => rfl)
        (case r3 => rfl)
        (case r4 => rfl)
        (case r5 => rfl)
        (case hx => exact rfl)
        (case n1 => k_mem)
        (case n2 => k_mem)))
    clear kN kI kF
    simp only [List.drop_succ_cons, List.drop_zero]
    rintro s' ⟨h14, h, tk, m, b, tb, lm, us, nn, q, tq, lc, c0, t0, cs, nc, rfl, kF, ⟨e1, e2, e3, e4, e5⟩, kN, kI, hb⟩
    replace kF := fr_known [(Str.ofString "script", .ref a), (Str.ofString "square", .int q tq), (Str.ofString "cells", .ref lc), (Str.ofString "board", .int (b : Int) tb), (Str.ofString "marks", .ref lm)] kF (List.forall_mem_cons.mpr ⟨e1, List.forall_mem_cons.mpr ⟨e2, List.forall_mem_cons.mpr ⟨e3, List.forall_mem_cons.mpr ⟨e4, List.forall_mem_cons.mpr ⟨e5, List.forall_mem_nil _⟩⟩⟩⟩⟩)
    dsimp only [kstB] at kF
    clear e1 e2 e3 e4 e5
    (try k_fold)
    w_top off
    k_with_none
    k_with "my enter" => (((case kA => exact rfl); (case kF => exact rfl); (case kK => assumption); (case k1 => k_asm); (case k2 => k_asm); (case k3 => k_asm); (case k5 => k_asm); (case k6 => k_is); (case k7 => k_is); (case k8 => ktr_room); (case k9 => first | exact BindsTo.of_eq rfl | exact binds_K (by k_in) rfl (by k_is) rfl rfl rfl); (case c5 => decide); (case kB => exact locs rfl); (case c2 => exact rfl); (case c3 => exact rfl); (case c4 => exact rfl); k_whole))
    k_with "my use" => (((case uB => k_asm); (case uF => k_asm); (case uX => k_asm); (case uN => k_asm); (case uT => k_asm); (case uk => first | exact rfl | assumption); (case ud => ktr_room); (case uu => ktr_units)))
    k_with "pyIter ref" => (k_dflt (k_extra "loop"))
    k_with "call ref cons nil" => (first | k_dflt (k_extra "call") | k_extra "stop")
    k_with "binaryOp LShift int int" => (k_dflt (k_extra "shl"))
    k_with "exec While Compare cons nil" => (k_dflt (k_extra "while"))
    k_with "my lit" => (first | with_reducible rfl | with_reducible exact T_0 | with_reducible exact T_1 | with_reducible exact T_0b | with_reducible exact T_0o | with_reducible exact T_0x | with_reducible exact T_sx | with_reducible exact T_so | with_reducible exact T_sd | with_reducible exact T_e | k_extra "lit")
    k_with "subscriptTail" => (k_dflt (k_extra "item"))
    k_with "subscriptTail Name BinOp str int" => (k_dflt (k_extra "item"))
    k_with "subscriptTail Name Name str int" => (k_dflt (k_extra "item"))
    k_with "binaryOp Add str str" => ((k_dflt (refine' addT ?ax ?ay ?az ?_; (case ax => walk_at "my lit"); (case ay => walk_at "my lit"); (case az => k_extra "size")); k_whole; intro t9 tk9; (try dsimp only)))
    k_with "call builtin:len" => (((with_reducible show wpAny _ _ (call (Value.builtin "len") [Value.str _ _]) _ _ _); k_dflt (refine' lenT ?ax ?az ?_; (case ax => walk_at "my lit"); (case az => k_extra "size")); k_whole; intro t9 tk9; (try dsimp only)))
    k_with "binaryOp Mult str int" => (((with_reducible show wpAny _ _ (binaryOp Operator.Mult (Value.str _ _) (Value.int _ _)) _ _ _); k_dflt (refine' mulT ?az ?az2 ?_; (case az => k_extra "size"); (case az2 => k_extra "size")); k_whole; intro t9 tk9; (try dsimp only)))
    k_with "pyIter str" => (k_dflt (k_extra "text loop"))
    k_with "exec For Name Subscript cons nil" => (((rename Fr _ _ _ _ => lF'); (with_unfolding_all refine' For_invVF lF' ?k1 ?k2 ?_; (case k1 => exact rfl); (case k2 => exact rfl); k_whole)))
    k_with "call builtin:str.index" => (k_dflt (k_extra "index"))
    k_with "call builtin:list.append" => (k_dflt (k_extra "append"))
    k_with "call builtin:str.join" => (k_dflt (k_extra "join"))
    k_with "subscriptTail Name Slice ref ref" => (first | k_dflt (k_extra "cut") | k_extra "stop")
    k_with "call type:list" => (first | k_dflt (k_extra "list") | k_extra "stop")
    k_with "compareOp NotEq ref ref" => (first | k_dflt (k_extra "neq") | k_extra "stop")
    k_with "subscriptTail Name Constant ref int" => (k_dflt (k_extra "tup0"))
    k_with "compareOp NotEq str str" => (k_dflt (k_extra "nes"))
    k_with "stop" => (refine stopC ?_)
    k_with "call" => first
      | ((refine' useStr (nt_16 _ _ _ _ _ _ _ (Int.natCast_nonneg _) (nat_lt hb)) ?uB ?uF ?uX ?uN ?uT ?uk ?ud ?uu trivial ?_); (walk_at "my use"); intro t9 h9 tk9 F9 N9; (try dsimp only); (try k_fold))
      | ((refine' useStr (nt_8 _ _ _ _ _ _ _ (Int.natCast_nonneg _) (nat_lt hb)) ?uB ?uF ?uX ?uN ?uT ?uk ?ud ?uu trivial ?_); (walk_at "my use"); intro t9 h9 tk9 F9 N9; (try dsimp only); (try k_fold))
      | ((refine' useStr (nt_2 _ _ _ _ _ _ _ (Int.natCast_nonneg _) (nat_lt hb)) ?uB ?uF ?uX ?uN ?uT ?uk ?ud ?uu trivial ?_); (walk_at "my use"); intro t9 h9 tk9 F9 N9; (try dsimp only); (try k_fold))
      | ((refine' useStr (nt_w _ _ _ _ _ _ _ _ _ (Int.natCast_nonneg _) (nat_lt hb) (wd_b _).1 (wd_b _).2) ?uB ?uF ?uX ?uN ?uT ?uk ?ud ?uu trivial ?_); (walk_at "my use"); intro t9 h9 tk9 F9 N9; (try dsimp only); (try k_fold))
      | ((rename News _ _ _ _ => nN); (refine' useStr (digits_ok _ _ _ _ _ _ _ hb kI) ?uB ?uF ?uX ?uN ?uT ?uk ?ud ?uu (News.isList nN (by k_mem)) ?_); (walk_at "my use"); intro t9 h9 tk9 F9 N9; (try dsimp only); (try k_fold))
      | ((refine' useStr (grouped_4 _ _ _ _ _ 1 _ _ _ hb (by decide) (by decide)) ?uB ?uF ?uX ?uN ?uT ?uk ?ud ?uu trivial ?_); (walk_at "my use"); intro t9 h9 tk9 F9 N9; (try dsimp only); (try k_fold))
      | ((refine' useStr (grouped_3 _ _ _ _ _ 1 _ _ _ hb (by decide) (by decide)) ?uB ?uF ?uX ?uN ?uT ?uk ?ud ?uu trivial ?_); (walk_at "my use"); intro t9 h9 tk9 F9 N9; (try dsimp only); (try k_fold))
      | ((refine' useStr (grouped_1 _ _ _ _ _ 1 _ _ _ hb (by decide) (by decide)) ?uB ?uF ?uX ?uN ?uT ?uk ?ud ?uu trivial ?_); (walk_at "my use"); intro t9 h9 tk9 F9 N9; (try dsimp only); (try k_fold))
      | ((refine' useStr (grouped_1 _ _ _ _ _ (if _ > 1 then _ else 1) _ _ _ hb mx_nn (mx_le (wd_b _).2)) ?uB ?uF ?uX ?uN ?uT ?uk ?ud ?uu trivial ?_); (walk_at "my use"); intro t9 h9 tk9 F9 N9; (try dsimp only); (try k_fold))
    k_with "size" => first | exact sizeF (by decide) (by decide) (by decide) hb | exact sizeF (by decide) (by decide) (mx_nat (wd_b _).1 (wd_b _).2) hb
    k_with "nes" => ((refine' neStr (by first | with_reducible exact e16 | with_reducible exact e8 | with_reducible exact e2 | with_reducible exact ew) ?_); (try dsimp only))
    k_steps)
end Mine
theorem PySem.Challenge.cw_sx_vbitworks_7o_holds : PySem.Challenge.rw_sx_vbitworks_7o.Holds := by
  exact Mine.law_walk
