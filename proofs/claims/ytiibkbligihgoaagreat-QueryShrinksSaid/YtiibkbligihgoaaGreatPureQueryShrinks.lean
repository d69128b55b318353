import Derived.Test.YtiibkbligihgoaaGreatFQ3
import Derived.KernelRfl
import Derived.Laws.BitsLemmas
import Derived.Laws.Bits64
import Derived.Laws.BitsAllLaws
import Derived.Laws.BitsLemmas
import Derived.Laws.Bits64
import Derived.Laws.BitsAllLaws
namespace Go.Sp.Q3
open Go Go.Sp
set_option linter.unusedVariables false
theorem bnd {α β : Type} {x : Option α} {g : α → Option β} {v : α} (h : x = some v) : x.bind g = g v := by rw [h]; rfl
theorem ifp {α : Type} {c : Prop} [Decidable c] {x y : α} (h : c) : (if c then x else y) = x := if_pos h
theorem ifn {α : Type} {c : Prop} [Decidable c] {x y : α} (h : ¬ c) : (if c then x else y) = y := if_neg h
theorem rd_mem {α : Type} [Inhabited α] {l : List α} {i : Int} (h0 : 0 ≤ i) (h1 : i < (l.length : Int)) : rd l i ∈ l := by
  obtain ⟨h, e⟩ := rd_lt h0 h1
  rw [e]; exact List.getElem_mem h
theorem wid {x : Int} (h : -9223372036854775808 ≤ x) (h' : x ≤ 9223372036854775807) : w64 x = x := w64_of h h'
theorem wuid {x : Int} (h : 0 ≤ x) (h' : x ≤ 18446744073709551615) : u64 x = x := u64_of h h'
theorem mul_le {a b A B : Int} (h1 : 0 ≤ a) (h2 : a ≤ A) (h3 : 0 ≤ b) (h4 : b ≤ B) : 0 ≤ a * b ∧ a * b ≤ A * B :=
  ⟨Int.mul_nonneg h1 h3, Int.mul_le_mul h2 h4 h3 (by omega)⟩
theorem tdiv_nn {a b : Int} (h : 0 ≤ a) : Int.tdiv a b = a / b := Int.tdiv_eq_ediv_of_nonneg h
theorem tmod_nn {a b : Int} (h : 0 ≤ a) : Int.tmod a b = a % b := Int.tmod_eq_emod_of_nonneg h
def AllIn (l : List Int) (lo hi : Int) : Prop := ∀ x, x ∈ l → lo ≤ x ∧ x ≤ hi
theorem AllIn.nil {lo hi : Int} : AllIn [] lo hi := fun x h => by cases h
theorem AllIn.push {l : List Int} {lo hi x : Int} (h : AllIn l lo hi) (h0 : lo ≤ x) (h1 : x ≤ hi) : AllIn (l ++ [x]) lo hi := by
  intro y hy
  rcases List.mem_append.mp hy with hy | hy
  · exact h y hy
  · simp only [List.mem_singleton] at hy; subst hy; exact ⟨h0, h1⟩
theorem AllIn.rd {l : List Int} {lo hi i : Int} (h : AllIn l lo hi) (h0 : 0 ≤ i) (h1 : i < (l.length : Int)) : lo ≤ rd l i ∧ rd l i ≤ hi := h _ (rd_mem h0 h1)
theorem AllIn.mono {l : List Int} {lo hi lo' hi' : Int} (h : AllIn l lo hi) (h0 : lo' ≤ lo) (h1 : hi ≤ hi') : AllIn l lo' hi' := fun x hx => by have := h x hx; omega
theorem rd_set_eq (l : List Int) (i x : Int) (h0 : 0 ≤ i) (h1 : i < (l.length : Int)) : rd (l.set i.toNat x) i = x := by
  obtain ⟨h, e⟩ := rd_lt (xs := l.set i.toNat x) h0 (by simp; omega)
  rw [e]; simp
theorem rd_set_ne (l : List Int) (i j x : Int) (h0 : 0 ≤ i) (hj : 0 ≤ j) (h1 : j < (l.length : Int)) (hne : j ≠ i) : rd (l.set i.toNat x) j = rd l j := by
  obtain ⟨h, e⟩ := rd_lt (xs := l.set i.toNat x) hj (by simp; omega)
  obtain ⟨h', e'⟩ := rd_lt (xs := l) hj h1
  rw [e, e', List.getElem_set, if_neg (by omega)]
theorem rd_push_old (l : List Int) (x i : Int) (h0 : 0 ≤ i) (h1 : i < (l.length : Int)) : rd (l ++ [x]) i = rd l i := by
  obtain ⟨h, e⟩ := rd_lt (xs := l ++ [x]) h0 (by simp; omega)
  obtain ⟨h', e'⟩ := rd_lt (xs := l) h0 h1
  rw [e, e', List.getElem_append_left h']
theorem rd_push_new (l : List Int) (x i : Int) (h1 : i = (l.length : Int)) : rd (l ++ [x]) i = x := by
  obtain ⟨h, e⟩ := rd_lt (xs := l ++ [x]) (i := i) (by omega) (by simp; omega)
  rw [e, List.getElem_append_right (by omega)]
  simp
theorem u64_and32 (x : Int) (h0 : 0 ≤ x) (h1 : x < 18446744073709551616) : Go.bits .and .u64 x 4294967295 = x % 4294967296 := by
  rw [Go.u64_and x 4294967295 h0 h1 (by decide) (by decide)]
  have : x.toNat &&& (4294967295 : Int).toNat = x.toNat % 4294967296 := Nat.and_two_pow_sub_one_eq_mod x.toNat 32
  rw [this]
  omega
theorem shr32 (x : Int) : shr x 32 = x / 4294967296 := shr_def x 32
theorem mul64_eq (k : Nat) (a b : Int) (ha : 0 ≤ a) (ha' : a < 18446744073709551616) (hb : 0 ≤ b) (hb' : b < 18446744073709551616) :
    bits_Mul64 k a b = some (a * b / 18446744073709551616, a * b % 18446744073709551616) := by
  unfold bits_Mul64
  rw [u64_and32 a ha ha', u64_and32 b hb hb', shr32 a, shr32 b]
  have h1 := mul_le (a := a / 4294967296) (b := b / 4294967296) (A := 4294967295) (B := 4294967295) (by omega) (by omega) (by omega) (by omega)
  have h2 := mul_le (a := a / 4294967296) (b := b % 4294967296) (A := 4294967295) (B := 4294967295) (by omega) (by omega) (by omega) (by omega)
  have h3 := mul_le (a := a % 4294967296) (b := b / 4294967296) (A := 4294967295) (B := 4294967295) (by omega) (by omega) (by omega) (by omega)
  have h4 := mul_le (a := a % 4294967296) (b := b % 4294967296) (A := 4294967295) (B := 4294967295) (by omega) (by omega) (by omega) (by omega)
  have e : a * b = (a / 4294967296) * (b / 4294967296) * 18446744073709551616 + ((a / 4294967296) * (b % 4294967296) + (a % 4294967296) * (b / 4294967296)) * 4294967296 + (a % 4294967296) * (b % 4294967296) := by
    have ea : a = a / 4294967296 * 4294967296 + a % 4294967296 := by omega
    have eb : b = b / 4294967296 * 4294967296 + b % 4294967296 := by omega
    generalize a / 4294967296 = x1 at *
    generalize a % 4294967296 = x0 at *
    generalize b / 4294967296 = y1 at *
    generalize b % 4294967296 = y0 at *
    subst ea eb
    grind
  rw [u64_def (a * b), e]
  generalize (a / 4294967296) * (b / 4294967296) = p at *
  generalize (a / 4294967296) * (b % 4294967296) = q at *
  generalize (a % 4294967296) * (b / 4294967296) = r at *
  generalize (a % 4294967296) * (b % 4294967296) = s at *
  rw [wuid (x := s) (by omega) (by omega), wuid (x := p) (by omega) (by omega), wuid (x := q) (by omega) (by omega), wuid (x := r) (by omega) (by omega)]
  rw [shr32 s, wuid (x := q + s / 4294967296) (by omega) (by omega)]
  rw [u64_and32 (q + s / 4294967296) (by omega) (by omega), shr32 (q + s / 4294967296)]
  rw [wuid (x := p + (q + s / 4294967296) / 4294967296) (by omega) (by omega)]
  rw [wuid (x := (q + s / 4294967296) % 4294967296 + r) (by omega) (by omega), shr32]
  rw [wuid (by omega) (by omega)]
  have e1 : p + (q + s / 4294967296) / 4294967296 + ((q + s / 4294967296) % 4294967296 + r) / 4294967296 = (p * 18446744073709551616 + (q + r) * 4294967296 + s) / 18446744073709551616 := by omega
  rw [e1]
theorem i64_and_low (x : Int) (i : Nat) (hi : i ≤ 62) : Go.bits .and .i64 x ((2 ^ i - 1 : Nat) : Int) = (((x % 18446744073709551616).toNat % 2 ^ i : Nat) : Int) := by
  have hp : 2 ^ i ≤ 2 ^ 62 := Nat.pow_le_pow_right (by decide) hi
  have hpos : 0 < 2 ^ i := Nat.two_pow_pos i
  have e1 : (BitVec.ofInt 64 x).toNat = (x % 18446744073709551616).toNat := by simp [BitVec.toNat_ofInt]
  have hb : (2 ^ i - 1) % 2 ^ IntKind.i64.bits = 2 ^ i - 1 := Nat.mod_eq_of_lt (by show 2 ^ i - 1 < 2 ^ 64; omega)
  simp only [Go.bits, BitVec.ofInt_natCast, BitVec.toNat_and, BitVec.toNat_ofNat, hb]
  rw [show (BitVec.ofInt IntKind.i64.bits x).toNat = (x % 18446744073709551616).toNat from e1, Nat.and_two_pow_sub_one_eq_mod]
  have := Nat.mod_lt (x % 18446744073709551616).toNat hpos
  rw [IntKind.wrap_i64]
  omega
theorem i64_and_in (x : Int) (i : Nat) (m : Int) (hi : i ≤ 62) (hm : m = ((2 ^ i - 1 : Nat) : Int)) : 0 ≤ Go.bits .and .i64 x m ∧ Go.bits .and .i64 x m ≤ m := by
  subst hm
  rw [i64_and_low x i hi]
  have := Nat.mod_lt (x % 18446744073709551616).toNat (Nat.two_pow_pos i)
  omega
theorem size_eq (k : Nat) (a : Int) (h0 : -9223372036854775808 ≤ a) (h1 : a ≤ 9223372036854775807) : num_size k a = some (if a < 0 then -a else a) := by
  unfold num_size
  by_cases c : a < 0
  · rw [ifp c, ifp c]
    congr 1
    simp only [u64_def]
    omega
  · rw [ifn c, ifn c, wuid (by omega) (by omega)]
theorem xor_max (x : Int) (h0 : 0 ≤ x) (h1 : x < 18446744073709551616) : Go.bits .xor .u64 IntKind.u64.max x = 18446744073709551615 - x := by
  have hm : IntKind.u64.max = 18446744073709551615 := by decide
  rw [hm, Go.u64_xor _ _ (by decide) (by decide) h0 h1]
  have hb : (BitVec.allOnes 64 ^^^ BitVec.ofNat 64 x.toNat).toNat = 18446744073709551615 - x.toNat := by
    rw [BitVec.allOnes_xor, BitVec.toNat_not, BitVec.toNat_ofNat, Nat.mod_eq_of_lt (by omega)]
  have hb2 : (BitVec.allOnes 64 ^^^ BitVec.ofNat 64 x.toNat).toNat = 18446744073709551615 ^^^ x.toNat := by
    rw [BitVec.toNat_xor, BitVec.toNat_ofNat, Nat.mod_eq_of_lt (by omega)]; rfl
  rw [hb2] at hb
  rw [show (18446744073709551615 : Int).toNat = 18446744073709551615 from rfl, hb]
  omega
theorem neg_eq (k : Nat) (P : Int) (h0 : 0 < P) (h1 : P ≤ 85070591730234615865843651857942052864) : num_Wide_Neg k ⟨w64 (P / 18446744073709551616), P % 18446744073709551616⟩ = some ⟨-P / 18446744073709551616, -P % 18446744073709551616⟩ := by
  have e1 : u64 (w64 (P / 18446744073709551616)) = P / 18446744073709551616 := by rw [wid (by omega) (by omega), wuid (by omega) (by omega)]
  unfold num_Wide_Neg
  dsimp only
  rw [e1, xor_max (P % 18446744073709551616) (by omega) (by omega), xor_max (P / 18446744073709551616) (by omega) (by omega), ifp (by omega), ifp (by omega), ifp (by omega), ifp (by omega)]
  congr 2
  · rw [w64_def]; omega
  · omega
/-- The low and the high word of a product. -/
theorem product_eq (k : Nat) (a b : Int) (ha : -9223372036854775808 ≤ a) (ha' : a ≤ 9223372036854775807) (hb : -9223372036854775808 ≤ b) (hb' : b ≤ 9223372036854775807) :
    num_Product k a b = some ⟨a * b / 18446744073709551616, a * b % 18446744073709551616⟩ := by
  unfold num_Product
  rw [bnd (size_eq k a ha ha'), bnd (size_eq k b hb hb')]
  obtain ⟨A, hA⟩ : ∃ A, A = if a < 0 then -a else a := ⟨_, rfl⟩
  obtain ⟨B, hB⟩ : ∃ B, B = if b < 0 then -b else b := ⟨_, rfl⟩
  rw [← hA, ← hB]
  have A0 : 0 ≤ A ∧ A ≤ 9223372036854775808 := by rw [hA]; split <;> omega
  have B0 : 0 ≤ B ∧ B ≤ 9223372036854775808 := by rw [hB]; split <;> omega
  rw [bnd (mul64_eq k A B (by omega) (by omega) (by omega) (by omega))]
  dsimp only
  have hAB := mul_le A0.1 A0.2 B0.1 B0.2
  have neg : A * B = -(a * b) → (num_Wide_Neg k ⟨w64 (A * B / 18446744073709551616), A * B % 18446744073709551616⟩).bind (fun v => some v) = some ⟨a * b / 18446744073709551616, a * b % 18446744073709551616⟩ := by
    intro e
    by_cases z : a * b = 0
    · have ez : A * B = 0 := by omega
      rw [ez, z]
      have : num_Wide_Neg k ⟨w64 (0 / 18446744073709551616), 0 % 18446744073709551616⟩ = some ⟨0, 0⟩ := by kernel_rfl
      rw [this]; rfl
    · rw [neg_eq k (A * B) (by omega) (by omega), e, Int.neg_neg]; rfl
  by_cases ca : a < 0
  · rw [if_pos ca] at hA
    by_cases cb : b < 0
    · rw [if_pos cb] at hB
      have e : A * B = a * b := by rw [hA, hB, Int.neg_mul_neg]
      rw [show (decide (a < 0) != decide (b < 0)) = false by simp [ca, cb], ifn (by decide), e, wid (by omega) (by omega)]
    · rw [if_neg cb] at hB
      rw [show (decide (a < 0) != decide (b < 0)) = true by simp [ca, cb], ifp rfl]
      exact neg (by rw [hA, hB, Int.neg_mul])
  · rw [if_neg ca] at hA
    by_cases cb : b < 0
    · rw [if_pos cb] at hB
      rw [show (decide (a < 0) != decide (b < 0)) = true by simp [ca, cb], ifp rfl]
      exact neg (by rw [hA, hB, Int.mul_neg])
    · rw [if_neg cb] at hB
      have e : A * B = a * b := by rw [hA, hB]
      rw [show (decide (a < 0) != decide (b < 0)) = false by simp [ca, cb], ifn (by decide), e, wid (by omega) (by omega)]
theorem sq_le {a b : Int} (h : a ≤ b) (ha : 0 ≤ a) : a * a ≤ b * b := Int.mul_le_mul h h ha (by omega)
theorem sq_lt {a b : Int} (ha : 0 ≤ a) (hb : 0 ≤ b) (h : a * a < b * b) : a < b := by
  rcases Int.lt_or_le a b with g | g
  · exact g
  · have := sq_le g hb; omega
theorem or_bit (r : Int) (j : Nat) (hr : 0 ≤ r) (hm : r % 2 ^ (j + 1) = 0) (h : r + 2 ^ j < 18446744073709551616) (hj : j ≤ 62) : Go.bits .or .u64 r (2 ^ j) = r + 2 ^ j := by
  have hp : (0 : Int) < 2 ^ j := Int.pow_pos (by decide)
  have hlt : (2 : Int) ^ j < 2 ^ (j + 1) := by rw [Int.pow_succ]; omega
  exact Go.bits_join .u64 64 (by decide) (fun n h0 h1 => by have h2 : n < 18446744073709551616 := h1; rw [IntKind.wrap_u64]; omega) (j + 1) r (2 ^ j) hr hm (by show r < 18446744073709551616; omega) (by omega) hlt (by show (2 : Int) ^ j < 18446744073709551616; omega)
theorem shr1 (x : Int) : shr x 1 = x / 2 := shr_def x 1
theorem sqrt_end (k n : Nat) (u v r : Int) (hk : 0 < n) : num_SqrtMul.l0 k u v n r 0 = some r := by
  obtain ⟨n, rfl⟩ : ∃ m, n = m + 1 := ⟨n - 1, by omega⟩
  rw [num_SqrtMul.l0, ifn (by decide)]
theorem sqrt_loop (k : Nat) (P : Int) (hP : 0 ≤ P) (hP' : P < 85070591730234615865843651857942052864) (j : Nat) : ∀ (r : Int) (n : Nat), j ≤ 62 → 0 ≤ r → r % 2 ^ (j + 1) = 0 → r + 2 ^ (j + 1) ≤ 9223372036854775808 → r * r ≤ P → P < (r + 2 ^ (j + 1)) * (r + 2 ^ (j + 1)) → j + 1 < n →
    ∃ s, num_SqrtMul.l0 k (P / 18446744073709551616) (P % 18446744073709551616) n r (2 ^ j) = some s ∧ 0 ≤ s ∧ s ≤ 9223372036854775807 ∧ s * s ≤ P ∧ P < (s + 1) * (s + 1) := by
  induction j with
  | zero =>
    intro r n _ h0 hm hb hlo hhi hk
    obtain ⟨n, rfl⟩ : ∃ m, n = m + 1 := ⟨n - 1, by omega⟩
    have hor := or_bit r 0 h0 hm (by omega) (by omega)
    have hsq := mul_le (a := r + 1) (b := r + 1) (A := 9223372036854775807) (B := 9223372036854775807) (by omega) (by omega) (by omega) (by omega)
    rw [num_SqrtMul.l0, ifp (by decide), hor, show (2 : Int) ^ 0 = 1 by rfl, bnd (mul64_eq k (r + 1) (r + 1) (by omega) (by omega) (by omega) (by omega))]
    dsimp only
    have e2 : (1 : Int) / 2 = 0 := by decide
    have hhi2 : P < (r + 2) * (r + 2) := hhi
    rw [shr1, e2, sqrt_end k n _ _ (r + 1) (by omega), sqrt_end k n _ _ r (by omega)]
    by_cases c : (r + 1) * (r + 1) ≤ P
    · refine ⟨r + 1, ?_, by omega, by omega, c, ?_⟩
      · generalize (r + 1) * (r + 1) = Q at *
        by_cases c1 : Q / 18446744073709551616 < P / 18446744073709551616
        · rw [ifp c1]
        · rw [ifn c1, ifp (by omega), ifp (by omega)]
      · rw [show r + 1 + 1 = r + 2 by omega]; exact hhi2
    · refine ⟨r, ?_, by omega, by omega, hlo, by omega⟩
      generalize (r + 1) * (r + 1) = Q at *
      rw [ifn (by omega)]
      by_cases c1 : Q / 18446744073709551616 = P / 18446744073709551616
      · rw [ifp c1, ifn (by omega)]
      · rw [ifn c1]
  | succ j ih =>
    intro r n hj h0 hm hb hlo hhi hk
    obtain ⟨n, rfl⟩ : ∃ m, n = m + 1 := ⟨n - 1, by omega⟩
    have hp : (0 : Int) < 2 ^ j := Int.pow_pos (by decide)
    have hp1 : (2 : Int) ^ (j + 1) = 2 * 2 ^ j := by rw [Int.pow_succ]; omega
    have hp2 : (2 : Int) ^ (j + 1 + 1) = 4 * 2 ^ j := by rw [Int.pow_succ, hp1]; omega
    have hor := or_bit r (j + 1) h0 hm (by omega) (by omega)
    have hm1 : r % 2 ^ (j + 1) = 0 := by
      have hd : ((2 : Int) ^ (j + 1)) ∣ 2 ^ (j + 1 + 1) := ⟨2, by rw [Int.pow_succ]⟩
      exact Int.emod_eq_zero_of_dvd (Int.dvd_trans hd (Int.dvd_of_emod_eq_zero hm))
    have hm2 : (r + 2 ^ (j + 1)) % 2 ^ (j + 1) = 0 := by rw [Int.add_emod_right]; exact hm1
    have hdiv : (2 : Int) ^ (j + 1) / 2 = 2 ^ j := by omega
    have hsq := mul_le (a := r + 2 ^ (j + 1)) (b := r + 2 ^ (j + 1)) (A := 9223372036854775807) (B := 9223372036854775807) (by omega) (by omega) (by omega) (by omega)
    rw [num_SqrtMul.l0, ifp (by omega), hor, bnd (mul64_eq k _ _ (by omega) (by omega) (by omega) (by omega))]
    dsimp only
    rw [shr1, hdiv]
    by_cases c : (r + 2 ^ (j + 1)) * (r + 2 ^ (j + 1)) ≤ P
    · obtain ⟨s, e, hs⟩ := ih (r + 2 ^ (j + 1)) n (by omega) (by omega) hm2 (by omega) c (by rw [show r + 2 ^ (j + 1) + 2 ^ (j + 1) = r + 2 ^ (j + 1 + 1) by omega]; exact hhi) (by omega)
      refine ⟨s, ?_, hs⟩
      rw [e]
      generalize (r + 2 ^ (j + 1)) * (r + 2 ^ (j + 1)) = Q at *
      by_cases c1 : Q / 18446744073709551616 < P / 18446744073709551616
      · rw [ifp c1]
      · rw [ifn c1, ifp (by omega), ifp (by omega)]
    · obtain ⟨s, e, hs⟩ := ih r n (by omega) h0 hm1 (by omega) hlo (by omega) (by omega)
      refine ⟨s, ?_, hs⟩
      rw [e]
      generalize (r + 2 ^ (j + 1)) * (r + 2 ^ (j + 1)) = Q at *
      rw [ifn (by omega)]
      by_cases c1 : Q / 18446744073709551616 = P / 18446744073709551616
      · rw [ifp c1, ifn (by omega)]
      · rw [ifn c1]
theorem sqrtmul_ex (k : Nat) (a b : Int) (ha : 0 ≤ a) (ha' : a ≤ 9223372036854775807) (hb : 0 ≤ b) (hb' : b ≤ 9223372036854775807) (hk : 70 ≤ k) :
    ∃ s, num_SqrtMul k a b = some s ∧ 0 ≤ s ∧ s ≤ 9223372036854775807 ∧ s * s ≤ a * b ∧ a * b < (s + 1) * (s + 1) := by
  have hP := mul_le ha ha' hb hb'
  obtain ⟨s, e, hs⟩ := sqrt_loop k (a * b) hP.1 (by omega) 62 0 k (by omega) (by omega) (by decide) (by decide) (by omega) (by
    show a * b < 9223372036854775808 * 9223372036854775808
    omega) (by omega)
  refine ⟨s, ?_, hs⟩
  have hp : (2 : Int) ^ 62 = 4611686018427387904 := by decide
  rw [hp] at e
  unfold num_SqrtMul
  rw [ifn (by omega), ifn (by omega), wuid ha (by omega), wuid hb (by omega), bnd (mul64_eq k a b ha (by omega) hb (by omega))]
  dsimp only
  rw [bnd e, wid (by omega) (by omega)]
theorem root_unique {n r s : Int} (hr : 0 ≤ r) (hs : 0 ≤ s) (h1 : r * r ≤ n) (h2 : n < (r + 1) * (r + 1)) (h3 : s * s ≤ n) (h4 : n < (s + 1) * (s + 1)) : r = s := by
  have l1 : r < s + 1 := sq_lt hr (by omega) (by omega)
  have l2 : s < r + 1 := sq_lt hs (by omega) (by omega)
  omega
def cm (x y : Int) : Int := if x < y then -1 else if x > y then 1 else 0
theorem cmpi (k : Nat) (x y : Int) : cmp_Compare_int64 k x y = some (cm x y) := by
  unfold cmp_Compare_int64 cmp_isNaN_int64 cm
  rw [bnd rfl, bnd rfl, ifn (by simp), ifn (by simp)]
  split
  · rfl
  · split <;> rfl
theorem cmpu (k : Nat) (x y : Int) : cmp_Compare_uint64 k x y = some (cm x y) := by
  unfold cmp_Compare_uint64 cmp_isNaN_uint64 cm
  rw [bnd rfl, bnd rfl, ifn (by simp), ifn (by simp)]
  split
  · rfl
  · split <;> rfl
theorem or2 (k : Nat) (p q : Int) (hk : 5 ≤ k) : cmp_Or_int k [p, q] = some (if p ≠ 0 then p else q) := by
  have r0 : rd [p, q] 0 = p := rfl
  have r1 : rd [p, q] 1 = q := rfl
  have l : (([p, q] : List Int).length : Int) = 2 := rfl
  obtain ⟨j, hj⟩ : ∃ j, k = j + 3 := ⟨k - 3, by omega⟩
  have h : ∀ k', k' = j + 3 → cmp_Or_int.l0 k [p, q] k' 0 = some (if p ≠ 0 then Sum.inl p else if q ≠ 0 then Sum.inl q else Sum.inr ()) := by
    rintro _ rfl
    rw [cmp_Or_int.l0, l, ifp (by decide), ifp (by decide), r0]
    by_cases c : p ≠ 0
    · rw [ifp c, ifp c]
    · rw [ifn c, ifn c, wid (x := 0 + 1) (by decide) (by decide), show (0 : Int) + 1 = 1 by rfl, cmp_Or_int.l0, l, ifp (by decide), ifp (by decide), r1]
      by_cases d : q ≠ 0
      · rw [ifp d, ifp d]
      · rw [ifn d, ifn d, wid (x := 1 + 1) (by decide) (by decide), show (1 : Int) + 1 = 2 by rfl, cmp_Or_int.l0, l, ifn (by decide)]
  unfold cmp_Or_int
  rw [bnd (h k hj)]
  by_cases c : p ≠ 0
  · rw [ifp c, ifp c]; rfl
  · rw [ifn c, ifn c]
    by_cases d : q ≠ 0
    · rw [ifp d]; rfl
    · rw [ifn d, show q = 0 by omega]; rfl
theorem wcmp (k : Nat) (A B : Int) (hk : 5 ≤ k) : ∃ c, num_Wide_Cmp k ⟨A / 18446744073709551616, A % 18446744073709551616⟩ ⟨B / 18446744073709551616, B % 18446744073709551616⟩ = some c ∧ (c < 0 ↔ A < B) ∧ (c ≥ 0 ↔ A ≥ B) := by
  unfold num_Wide_Cmp
  dsimp only
  rw [bnd (cmpi _ _ _), bnd (cmpu _ _ _), bnd (or2 k _ _ hk)]
  refine ⟨_, rfl, ?_⟩
  unfold cm
  by_cases c1 : A / 18446744073709551616 < B / 18446744073709551616
  · rw [ifp c1, ifp (by decide)]; omega
  · rw [ifn c1]
    by_cases c2 : A / 18446744073709551616 > B / 18446744073709551616
    · rw [ifp c2, ifp (by decide)]; omega
    · rw [ifn c2, ifn (by decide)]
      by_cases c3 : A % 18446744073709551616 < B % 18446744073709551616
      · rw [ifp c3]; omega
      · rw [ifn c3]
        by_cases c4 : A % 18446744073709551616 > B % 18446744073709551616
        · rw [ifp c4]; omega
        · rw [ifn c4]; omega
/-- The root of a product, rounded down, and rounded up. -/
noncomputable def fl (a b : Int) : Int := (num_SqrtMul 70 a b).getD 0
noncomputable def rt (a b : Int) : Int := if fl a b * fl a b < a * b then fl a b + 1 else fl a b
def R64 (a : Int) : Prop := 0 ≤ a ∧ a ≤ 4611686018427387904
theorem fl_all {a b : Int} (ha : R64 a) (hb : R64 b) : (∀ k, 70 ≤ k → num_SqrtMul k a b = some (fl a b)) ∧ 0 ≤ fl a b ∧ fl a b ≤ 4611686018427387904 ∧ fl a b * fl a b ≤ a * b ∧ a * b < (fl a b + 1) * (fl a b + 1) := by
  obtain ⟨a0, a1⟩ := ha
  obtain ⟨b0, b1⟩ := hb
  obtain ⟨s, e, h0, h1, h2, h3⟩ := sqrtmul_ex 70 a b a0 (by omega) b0 (by omega) (by omega)
  have hs : ∀ k, 70 ≤ k → num_SqrtMul k a b = some s := by
    intro k hk
    obtain ⟨s', e', g0, g1, g2, g3⟩ := sqrtmul_ex k a b a0 (by omega) b0 (by omega) hk
    rw [e', root_unique g0 h0 g2 g3 h2 h3]
  have hi : fl a b = s := by unfold fl; rw [hs 70 (Nat.le_refl _)]; rfl
  have hm := mul_le a0 a1 b0 b1
  have hb : s < 4611686018427387905 := sq_lt h0 (by omega) (by omega)
  rw [hi]
  exact ⟨hs, h0, by omega, h2, h3⟩
theorem fl_mono {a b c d : Int} (ha : R64 a) (hb : R64 b) (hc : R64 c) (hd : R64 d) (h : a * b ≤ c * d) : fl a b ≤ fl c d := by
  obtain ⟨_, a0, _, a2, a3⟩ := fl_all ha hb
  obtain ⟨_, c0, _, c2, c3⟩ := fl_all hc hd
  have : fl a b < fl c d + 1 := sq_lt a0 (by omega) (by omega)
  omega
theorem rt_all {a b : Int} (ha : R64 a) (hb : R64 b) : 0 ≤ rt a b ∧ rt a b ≤ 4611686018427387905 ∧ fl a b ≤ rt a b ∧ a * b ≤ rt a b * rt a b := by
  obtain ⟨_, a0, a1, a2, a3⟩ := fl_all ha hb
  unfold rt
  split <;> omega
theorem rt_le {a b t : Int} (ha : R64 a) (hb : R64 b) (h0 : 0 ≤ t) (h : a * b ≤ t * t) : rt a b ≤ t := by
  obtain ⟨_, a0, a1, a2, a3⟩ := fl_all ha hb
  unfold rt
  split
  · have : fl a b < t := sq_lt a0 h0 (by omega)
    omega
  · have : fl a b < t + 1 := sq_lt a0 (by omega) (by
      have e : (t + 1) * (t + 1) = t * t + 2 * t + 1 := by grind
      omega)
    omega
theorem rt_mono {a b c d : Int} (ha : R64 a) (hb : R64 b) (hc : R64 c) (hd : R64 d) (h : a * b ≤ c * d) : rt a b ≤ rt c d := by
  obtain ⟨c0, _, _, c3⟩ := rt_all hc hd
  exact rt_le ha hb c0 (by omega)
theorem fl_comm {a b : Int} (ha : R64 a) (hb : R64 b) : fl a b = fl b a :=
  Int.le_antisymm (fl_mono ha hb hb ha (by rw [Int.mul_comm a b]; omega)) (fl_mono hb ha ha hb (by rw [Int.mul_comm a b]; omega))
theorem rt_comm {a b : Int} (ha : R64 a) (hb : R64 b) : rt a b = rt b a :=
  Int.le_antisymm (rt_mono ha hb hb ha (by rw [Int.mul_comm a b]; omega)) (rt_mono hb ha ha hb (by rw [Int.mul_comm a b]; omega))
/-! Boxes -/
structure NBk (x : S_Bound) : Prop where
  u : x.Unknown = false
  l : -1073741824 ≤ x.Lo
  m : x.Lo ≤ x.Hi
  h : x.Hi ≤ 1073741824
structure NOk (b : S_Box) : Prop where
  X : NBk b.X
  Y : NBk b.Y
  Z : NBk b.Z
noncomputable instance (x : S_Bound) : Decidable (NBk x) := Classical.propDecidable _
theorem sides_l0 (k : Nat) (b : S_Box) (n : Nat) (i : Int) (x : S_Bound) (i0 : 0 ≤ i) (i1 : i < 3) (hx : rd [b.X, b.Y, b.Z] i = x) : query_sides.l0 k b (n + 1) i = if NBk x then query_sides.l0 k b n (i + 1) else some (Sum.inl ([b.X, b.Y, b.Z], false)) := by
  rw [query_sides.l0, ifp i1, ifp i0, hx]
  by_cases c1 : x.Unknown = true
  · rw [ifp c1, if_neg (fun h => by rw [h.u] at c1; cases c1)]
  rw [ifn c1]
  by_cases c2 : x.Lo > x.Hi
  · rw [ifp c2, if_neg (fun h => by have := h.m; omega)]
  rw [ifn c2]
  by_cases c3 : x.Lo < -1073741824
  · rw [ifp c3, if_neg (fun h => by have := h.l; omega)]
  rw [ifn c3]
  by_cases c4 : x.Hi > 1073741824
  · rw [ifp c4, if_neg (fun h => by have := h.h; omega)]
  rw [ifn c4, if_pos ⟨Bool.eq_false_iff.mpr c1, by omega, by omega, by omega⟩, wid (by omega) (by omega)]
theorem sides_ex (k : Nat) (b : S_Box) (hk : 5 ≤ k) : ∃ t, query_sides k b = some ([b.X, b.Y, b.Z], t) ∧ (t = true ↔ NOk b) := by
  obtain ⟨j, hj⟩ : ∃ j, k = j + 4 := ⟨k - 4, by omega⟩
  unfold query_sides
  suffices h : ∀ k', k' = j + 4 → ∃ t, ((query_sides.l0 k b k' 0).bind fun z_ => Sum.elim (fun y_ => some y_) (fun _ => (some ([b.X, b.Y, b.Z], true))) z_) = some ([b.X, b.Y, b.Z], t) ∧ (t = true ↔ NOk b) from h k hj
  rintro _ rfl
  rw [sides_l0 k b _ 0 b.X (by decide) (by decide) rfl]
  by_cases c1 : NBk b.X
  · rw [if_pos c1, sides_l0 k b _ (0 + 1) b.Y (by decide) (by decide) rfl]
    by_cases c2 : NBk b.Y
    · rw [if_pos c2, sides_l0 k b _ (0 + 1 + 1) b.Z (by decide) (by decide) rfl]
      by_cases c3 : NBk b.Z
      · rw [if_pos c3, query_sides.l0, ifn (by decide)]
        exact ⟨true, rfl, fun _ => ⟨c1, c2, c3⟩, fun _ => rfl⟩
      · rw [if_neg c3]; exact ⟨false, rfl, ⟨fun h => (by cases h), fun h => absurd h.Z c3⟩⟩
    · rw [if_neg c2]; exact ⟨false, rfl, ⟨fun h => (by cases h), fun h => absurd h.Y c2⟩⟩
  · rw [if_neg c1]; exact ⟨false, rfl, ⟨fun h => (by cases h), fun h => absurd h.X c1⟩⟩
def plo (x y : S_Bound) : Int := min (min (min (x.Lo * y.Lo) (x.Lo * y.Hi)) (x.Hi * y.Lo)) (x.Hi * y.Hi)
def phi (x y : S_Bound) : Int := max (max (max (x.Lo * y.Lo) (x.Lo * y.Hi)) (x.Hi * y.Lo)) (x.Hi * y.Hi)
def qlo (x : S_Bound) : Int := if x.Lo > 0 then min (x.Lo * x.Lo) (x.Hi * x.Hi) else if x.Hi < 0 then min (x.Lo * x.Lo) (x.Hi * x.Hi) else 0
def qhi (x : S_Bound) : Int := max (x.Lo * x.Lo) (x.Hi * x.Hi)
theorem mul_bd {a b A B : Int} (h1 : -A ≤ a) (h2 : a ≤ A) (h3 : -B ≤ b) (h4 : b ≤ B) : -(A * B) ≤ a * b ∧ a * b ≤ A * B := by
  have e : (a * b).natAbs = a.natAbs * b.natAbs := Int.natAbs_mul a b
  have l : a.natAbs * b.natAbs ≤ A.toNat * B.toNat := Nat.mul_le_mul (by omega) (by omega)
  have f : ((A.toNat * B.toNat : Nat) : Int) = A * B := by rw [Int.natCast_mul]; congr 1 <;> omega
  omega
theorem b30 {a b : Int} (h1 : -1073741824 ≤ a) (h2 : a ≤ 1073741824) (h3 : -1073741824 ≤ b) (h4 : b ≤ 1073741824) : -1152921504606846976 ≤ a * b ∧ a * b ≤ 1152921504606846976 := by
  have := mul_bd (A := 1073741824) (B := 1073741824) h1 h2 h3 h4
  omega
theorem product_ok (k : Nat) {x y : S_Bound} (hx : NBk x) (hy : NBk y) : query_product k x y = some (plo x y, phi x y) ∧ -1152921504606846976 ≤ plo x y ∧ plo x y ≤ phi x y ∧ phi x y ≤ 1152921504606846976 := by
  have := hx.l; have := hx.m; have := hx.h; have := hy.l; have := hy.m; have := hy.h
  have h1 := b30 (a := x.Lo) (b := y.Lo) (by omega) (by omega) (by omega) (by omega)
  have h2 := b30 (a := x.Lo) (b := y.Hi) (by omega) (by omega) (by omega) (by omega)
  have h3 := b30 (a := x.Hi) (b := y.Lo) (by omega) (by omega) (by omega) (by omega)
  have h4 := b30 (a := x.Hi) (b := y.Hi) (by omega) (by omega) (by omega) (by omega)
  unfold query_product plo phi
  generalize x.Lo * y.Lo = A at *
  generalize x.Lo * y.Hi = B at *
  generalize x.Hi * y.Lo = C at *
  generalize x.Hi * y.Hi = D at *
  rw [wid (x := A) (by omega) (by omega), wid (x := B) (by omega) (by omega), wid (x := C) (by omega) (by omega), wid (x := D) (by omega) (by omega), mn_def, mn_def, mn_def, mx_def, mx_def, mx_def]
  exact ⟨rfl, by omega, by omega, by omega⟩
theorem sq_nn (v : Int) : 0 ≤ v * v := by
  rcases Int.le_total 0 v with g | g
  · exact Int.mul_nonneg g g
  · have := Int.mul_nonneg (show 0 ≤ -v by omega) (show 0 ≤ -v by omega); rw [Int.neg_mul_neg] at this; exact this
theorem square_ok (k : Nat) {x : S_Bound} (hx : NBk x) : query_square k x = some (qlo x, qhi x) ∧ 0 ≤ qlo x ∧ qlo x ≤ qhi x ∧ qhi x ≤ 1152921504606846976 := by
  have := hx.l; have := hx.m; have := hx.h
  have h1 := b30 (a := x.Lo) (b := x.Lo) (by omega) (by omega) (by omega) (by omega)
  have h2 := b30 (a := x.Hi) (b := x.Hi) (by omega) (by omega) (by omega) (by omega)
  have n1 := sq_nn x.Lo
  have n2 := sq_nn x.Hi
  unfold query_square qlo qhi
  generalize x.Lo * x.Lo = A at *
  generalize x.Hi * x.Hi = B at *
  rw [wid (x := A) (by omega) (by omega), wid (x := B) (by omega) (by omega), mn_def, mx_def]
  by_cases c : x.Lo > 0
  · rw [ifp c, ifp c]; exact ⟨rfl, by omega, by omega, by omega⟩
  · rw [ifn c, ifn c]
    by_cases d : x.Hi < 0
    · rw [ifp d, ifp d]; exact ⟨rfl, by omega, by omega, by omega⟩
    · rw [ifn d, ifn d]; exact ⟨rfl, by omega, by omega, by omega⟩
def lea (a b : S_Box) : Int := plo a.X b.X + plo a.Y b.Y + plo a.Z b.Z
def mos (a b : S_Box) : Int := phi a.X b.X + phi a.Y b.Y + phi a.Z b.Z
def low (a : S_Box) : Int := qlo a.X + qlo a.Y + qlo a.Z
def hig (a : S_Box) : Int := qhi a.X + qhi a.Y + qhi a.Z
open Classical in
noncomputable def nearV (a b : S_Box) (cos : Int) : Int :=
  if ¬ (NOk a ∧ NOk b) then 1 else if low a > 0 ∧ low b > 0 ∧ lea a b * 1073741824 ≥ cos * rt (hig a) (hig b) then 2 else if mos a b * 1073741824 < cos * fl (low a) (low b) then 0 else 1
theorem low_ok {a : S_Box} (h : NOk a) : R64 (low a) ∧ R64 (hig a) ∧ low a ≤ hig a ∧ low a ≤ 3458764513820540928 ∧ hig a ≤ 3458764513820540928 := by
  obtain ⟨_, x0, x1, x2⟩ := square_ok 0 h.X
  obtain ⟨_, y0, y1, y2⟩ := square_ok 0 h.Y
  obtain ⟨_, z0, z1, z2⟩ := square_ok 0 h.Z
  unfold R64 low hig
  omega
theorem lea_ok {a b : S_Box} (h : NOk a) (g : NOk b) : -3458764513820540928 ≤ lea a b ∧ lea a b ≤ mos a b ∧ mos a b ≤ 3458764513820540928 := by
  obtain ⟨_, x0, x1, x2⟩ := product_ok 0 h.X g.X
  obtain ⟨_, y0, y1, y2⟩ := product_ok 0 h.Y g.Y
  obtain ⟨_, z0, z1, z2⟩ := product_ok 0 h.Z g.Z
  unfold lea mos
  omega
theorem tail_eq (k : Nat) {a b : S_Box} {cos : Int} (c0 : 0 ≤ cos) (c1 : cos ≤ 1073741824) (h : NOk a) (g : NOk b) (hk : 80 ≤ k) :
    ((num_Product k (mos a b) 1073741824).bind fun vt312 => ((num_SqrtMul k (low a) (low b)).bind fun vt318 => ((num_Product k cos vt318).bind fun vt324 => ((num_Wide_Cmp k vt312 vt324).bind fun vt330 => (if vt330 < 0 then (some 0) else (some 1)))))) = (some (if mos a b * 1073741824 < cos * fl (low a) (low b) then 0 else 1) : Option Int) := by
  obtain ⟨l0, l1, l2⟩ := lea_ok h g
  obtain ⟨a1, a2, _⟩ := low_ok h
  obtain ⟨b1, b2, _⟩ := low_ok g
  obtain ⟨e, f0, f1, _⟩ := fl_all a1 b1
  rw [bnd (product_eq k _ _ (by omega) (by omega) (by omega) (by omega)), bnd (e k (by omega)), bnd (product_eq k _ _ (by omega) (by omega) (by omega) (by omega))]
  obtain ⟨c, ec, h1, h2⟩ := wcmp k (mos a b * 1073741824) (cos * fl (low a) (low b)) (by omega)
  rw [bnd ec]
  by_cases q : c < 0
  · rw [ifp q, if_pos (h1.mp q)]
  · rw [ifn q, if_neg (fun z => q (h1.mpr z))]
theorem near_eq (k : Nat) (a b : S_Box) (cos : Int) (c0 : 0 ≤ cos) (c1 : cos ≤ 1073741824) (hk : 80 ≤ k) : query_Near k a b cos = some (nearV a b cos) := by
  obtain ⟨t, e1, t1⟩ := sides_ex k a (by omega)
  obtain ⟨u, e2, u1⟩ := sides_ex k b (by omega)
  unfold query_Near nearV
  rw [bnd e1]; dsimp only
  rw [bnd e2]; dsimp only
  rw [ifn (by omega), ifn (by omega)]
  by_cases h : NOk a
  · rw [ifn (show ¬ ¬ t = true from fun z => z (t1.mpr h))]
    by_cases g : NOk b
    · rw [ifn (show ¬ ¬ u = true from fun z => z (u1.mpr g)), if_neg (show ¬ ¬ (NOk a ∧ NOk b) from fun z => z ⟨h, g⟩)]
      have q0 : ∀ p q r : S_Bound, List.getD [p, q, r] 0 default = p := fun _ _ _ => rfl
      have q1 : ∀ p q r : S_Bound, List.getD [p, q, r] 1 default = q := fun _ _ _ => rfl
      have q2 : ∀ p q r : S_Bound, List.getD [p, q, r] 2 default = r := fun _ _ _ => rfl
      rw [q0, q1, q2, q0, q1, q2]
      obtain ⟨x1, x2, x3, x4⟩ := product_ok k h.X g.X
      obtain ⟨y1, y2, y3, y4⟩ := product_ok k h.Y g.Y
      obtain ⟨z1, z2, z3, z4⟩ := product_ok k h.Z g.Z
      obtain ⟨p1, p2, p3, p4⟩ := square_ok k h.X
      obtain ⟨p5, p6, p7, p8⟩ := square_ok k h.Y
      obtain ⟨p9, p10, p11, p12⟩ := square_ok k h.Z
      obtain ⟨r1, r2, r3, r4⟩ := square_ok k g.X
      obtain ⟨r5, r6, r7, r8⟩ := square_ok k g.Y
      obtain ⟨r9, r10, r11, r12⟩ := square_ok k g.Z
      rw [bnd x1]; dsimp only
      rw [bnd p1]; dsimp only
      rw [bnd r1]; dsimp only
      rw [bnd y1]; dsimp only
      rw [bnd p5]; dsimp only
      rw [bnd r5]; dsimp only
      rw [bnd z1]; dsimp only
      rw [bnd p9]; dsimp only
      rw [bnd r9]; dsimp only
      have s3 : ∀ p q r : Int, -1152921504606846976 ≤ p → p ≤ 1152921504606846976 → -1152921504606846976 ≤ q → q ≤ 1152921504606846976 → -1152921504606846976 ≤ r → r ≤ 1152921504606846976 → w64 ((w64 ((w64 (0 + p)) + q)) + r) = p + q + r := fun p q r _ _ _ _ _ _ => by
        rw [wid (x := 0 + p) (by omega) (by omega), wid (x := 0 + p + q) (by omega) (by omega), wid (by omega) (by omega)]; omega
      rw [s3 (qhi a.X) _ _ (by omega) (by omega) (by omega) (by omega) (by omega) (by omega), s3 (qhi b.X) _ _ (by omega) (by omega) (by omega) (by omega) (by omega) (by omega), s3 (qlo a.X) _ _ (by omega) (by omega) (by omega) (by omega) (by omega) (by omega), s3 (qlo b.X) _ _ (by omega) (by omega) (by omega) (by omega) (by omega) (by omega),
        s3 (plo a.X b.X) _ _ (by omega) (by omega) (by omega) (by omega) (by omega) (by omega), s3 (phi a.X b.X) _ _ (by omega) (by omega) (by omega) (by omega) (by omega) (by omega)]
      obtain ⟨l0, l1, l2⟩ := lea_ok h g
      obtain ⟨a1, a2, _⟩ := low_ok h
      obtain ⟨b1, b2, _⟩ := low_ok g
      have tl := tail_eq k c0 c1 h g hk
      change (num_SqrtMul k (hig a) (hig b)).bind _ = _
      obtain ⟨e, f0, f1, f2, f3⟩ := fl_all a2 b2
      obtain ⟨m0, m1, m2, m3⟩ := rt_all a2 b2
      rw [bnd (e k (by omega)), bnd (product_eq k _ _ (by omega) (by omega) (by omega) (by omega))]
      change (num_Product k (hig a) (hig b)).bind _ = _
      obtain ⟨a21, a22⟩ := a2
      obtain ⟨b21, b22⟩ := b2
      rw [bnd (product_eq k _ _ (by omega) (by omega) (by omega) (by omega))]
      obtain ⟨c, ec, h1, h2⟩ := wcmp k (fl (hig a) (hig b) * fl (hig a) (hig b)) (hig a * hig b) (by omega)
      rw [bnd ec]
      have er : (if c < 0 then (some (w64 (fl (hig a) (hig b) + 1))) else (some (fl (hig a) (hig b))) : Option Int) = some (rt (hig a) (hig b)) := by
        unfold rt
        by_cases q : c < 0
        · rw [ifp q, if_pos (h1.mp q), wid (by omega) (by omega)]
        · rw [ifn q, if_neg (fun z => q (h1.mpr z))]
      rw [bnd er]
      change (if low a > 0 then (if low b > 0 then ((num_Product k (lea a b) 1073741824).bind _) else _) else _) = _
      by_cases w1 : low a > 0
      · rw [ifp w1]
        by_cases w2 : low b > 0
        · rw [ifp w2, bnd (product_eq k _ _ (by omega) (by omega) (by omega) (by omega)), bnd (product_eq k _ _ (by omega) (by omega) (by omega) (by omega))]
          obtain ⟨d, ed, g1, g2⟩ := wcmp k (lea a b * 1073741824) (cos * rt (hig a) (hig b)) (by omega)
          rw [bnd ed]
          by_cases q : d ≥ 0
          · rw [ifp q, if_pos ⟨w1, w2, g2.mp q⟩]
          · rw [ifn q, if_neg (fun z => q (g2.mpr z.2.2))]
            exact tl
        · rw [ifn w2, if_neg (fun z => w2 z.2.1)]
          exact tl
      · rw [ifn w1, if_neg (fun z => w1 z.1)]
        exact tl
    · rw [ifp (show ¬ u = true from fun z => g (u1.mp z)), if_pos (show ¬ (NOk a ∧ NOk b) from fun z => g z.2)]
  · rw [ifp (show ¬ t = true from fun z => h (t1.mp z)), if_pos (show ¬ (NOk a ∧ NOk b) from fun z => h z.1)]
theorem below_ex (k : Nat) (x n : Int) (h1 : 1 ≤ n) (h2 : n ≤ 4611686018427387904) : ∃ v, spymake_Below k x n = some v ∧ 0 ≤ v ∧ v < n := by
  have e1 := Int.tmod_lt_of_pos x (show 0 < n by omega)
  have e2 := Int.lt_tmod_of_pos x (show 0 < n by omega)
  unfold spymake_Below
  rw [ifn (by omega), ifp (by omega)]
  by_cases c : Int.tmod x n < 0
  · rw [ifp c]
    refine ⟨_, rfl, ?_, ?_⟩ <;> rw [wid (by omega) (by omega)] <;> omega
  · rw [ifn c]
    exact ⟨_, rfl, by omega, by omega⟩
theorem next_ex (k : Nat) (L : List Int) (a n : Int) (h1 : 1 ≤ n) (h2 : n ≤ 4611686018427387904) (a0 : 0 ≤ a) (a1 : a ≤ 4611686018427387904) :
    ∃ v, spymake_Stream_Next k ⟨L, a⟩ n = some (v, a + 1) ∧ 0 ≤ v ∧ v < n := by
  unfold spymake_Stream_Next
  dsimp only
  rw [wid (x := a + 1) (by omega) (by omega)]
  by_cases c : (L.length : Int) = 0
  · rw [ifp c]
    obtain ⟨v, hv, v0, v1⟩ := below_ex k (w64 ((a + 1) * 7919)) n h1 h2
    rw [bnd hv]
    exact ⟨v, rfl, v0, v1⟩
  · rw [ifn c, ifp c, show a + 1 - 1 = a by omega, wid (x := a) (by omega) (by omega)]
    have e1 := Int.tmod_lt_of_pos a (show 0 < (L.length : Int) by omega)
    have e2 : 0 ≤ Int.tmod a (L.length : Int) := Int.tmod_nonneg _ a0
    rw [ifp e2, ifp e1]
    obtain ⟨u, hu, _⟩ := below_ex k (rd L (Int.tmod a (L.length : Int))) 1073741824 (by decide) (by decide)
    rw [bnd hu]
    obtain ⟨v, hv, v0, v1⟩ := below_ex k (w64 (u + (w64 ((w64 (Int.tdiv a (L.length : Int))) * (w64 (7919 + (Int.tmod a (L.length : Int)))))))) n h1 h2
    rw [bnd hv]
    exact ⟨v, rfl, v0, v1⟩
theorem range_ex (k : Nat) (L : List Int) (a lo hi : Int) (h1 : lo ≤ hi) (h2 : hi - lo ≤ 1073741824) (h3 : -4611686018427387904 ≤ lo) (h4 : hi ≤ 4611686018427387904) (a0 : 0 ≤ a) (a1 : a ≤ 4611686018427387904) :
    ∃ v, spymake_Stream_Range k ⟨L, a⟩ lo hi = some (v, a + 1) ∧ lo ≤ v ∧ v ≤ hi := by
  unfold spymake_Stream_Range
  rw [ifn (by omega), wid (x := hi - lo) (by omega) (by omega), wid (x := hi - lo + 1) (by omega) (by omega)]
  obtain ⟨v, hv, v0, v1⟩ := next_ex k L a (hi - lo + 1) (by omega) (by omega) a0 a1
  rw [bnd hv]
  dsimp only
  rw [wid (by omega) (by omega)]
  exact ⟨_, rfl, by omega, by omega⟩
def V20 (v : S_Vec) : Prop := (-1048576 ≤ v.X ∧ v.X ≤ 1048576) ∧ (-1048576 ≤ v.Y ∧ v.Y ≤ 1048576) ∧ (-1048576 ≤ v.Z ∧ v.Z ≤ 1048576) ∧ ¬ (v.X = 0 ∧ v.Y = 0 ∧ v.Z = 0)
theorem zero3 (x y z : Int) : ((x == 0) && ((y == 0) && ((z == 0) && true))) = true ↔ (x = 0 ∧ y = 0 ∧ z = 0) := by simp
theorem qvec_ex (k : Nat) (L : List Int) (a : Int) (a0 : 0 ≤ a) (a1 : a ≤ 1000000) : ∃ v, spymake_Stream_Vec k ⟨L, a⟩ = some (v, a + 1 + 1 + 1 + 1) ∧ V20 v := by
  unfold spymake_Stream_Vec
  obtain ⟨i, h1, i0, i1⟩ := next_ex k L a 4 (by decide) (by decide) (by omega) (by omega)
  rw [bnd h1]; dsimp only
  have hl : AllIn ([3, 100, 5000, 1048576] : List Int) 3 1048576 := by
    intro x hx; simp only [List.mem_cons, List.not_mem_nil, or_false] at hx; omega
  have len : (([3, 100, 5000, 1048576] : List Int).length : Int) = 4 := rfl
  have hv := hl.rd i0 (by rw [len]; omega)
  rw [ifp i0, ifp (by rw [len]; omega)]
  generalize rd ([3, 100, 5000, 1048576] : List Int) i = m at *
  rw [wid (x := 0 - m) (by omega) (by omega)]
  obtain ⟨x, e1, x0, x1⟩ := range_ex k L (a + 1) (0 - m) m (by omega) (by omega) (by omega) (by omega) (by omega) (by omega)
  rw [bnd e1]; dsimp only
  obtain ⟨y, e2, y0, y1⟩ := range_ex k L (a + 1 + 1) (0 - m) m (by omega) (by omega) (by omega) (by omega) (by omega) (by omega)
  rw [bnd e2]; dsimp only
  obtain ⟨z, e3, z0, z1⟩ := range_ex k L (a + 1 + 1 + 1) (0 - m) m (by omega) (by omega) (by omega) (by omega) (by omega) (by omega)
  rw [bnd e3]; dsimp only
  by_cases c : ((x == 0) && ((y == 0) && ((z == 0) && true))) = true
  · rw [ifp c]
    rw [zero3] at c
    exact ⟨_, rfl, by unfold V20; dsimp only; omega⟩
  · rw [ifn c]
    rw [zero3] at c
    exact ⟨_, rfl, by unfold V20; dsimp only; omega⟩
/-- The box of a direction. -/
def PB (v : S_Vec) : S_Box := ⟨⟨v.X, v.X, false⟩, ⟨v.Y, v.Y, false⟩, ⟨v.Z, v.Z, false⟩⟩
def V30 (v : S_Vec) : Prop := (-1073741824 ≤ v.X ∧ v.X ≤ 1073741824) ∧ (-1073741824 ≤ v.Y ∧ v.Y ≤ 1073741824) ∧ (-1073741824 ≤ v.Z ∧ v.Z ≤ 1073741824)
theorem PB_ok {v : S_Vec} (h : V30 v) : NOk (PB v) := by
  obtain ⟨⟨a, b⟩, ⟨c, d⟩, e, f⟩ := h
  exact ⟨⟨rfl, a, by simp [PB], b⟩, ⟨rfl, c, by simp [PB], d⟩, ⟨rfl, e, by simp [PB], f⟩⟩
def dot (v w : S_Vec) : Int := v.X * w.X + v.Y * w.Y + v.Z * w.Z
theorem plo_pt (x y : Int) : plo ⟨x, x, false⟩ ⟨y, y, false⟩ = x * y := by unfold plo; dsimp only; omega
theorem phi_pt (x y : Int) : phi ⟨x, x, false⟩ ⟨y, y, false⟩ = x * y := by unfold phi; dsimp only; omega
theorem qlo_pt (x : Int) : qlo ⟨x, x, false⟩ = x * x := by
  unfold qlo; dsimp only
  by_cases c : x > 0
  · rw [if_pos c]; omega
  · rw [if_neg c]
    by_cases d : x < 0
    · rw [if_pos d]; omega
    · rw [if_neg d, show x = 0 by omega]; rfl
theorem qhi_pt (x : Int) : qhi ⟨x, x, false⟩ = x * x := by unfold qhi; dsimp only; omega
theorem lea_pt (v w : S_Vec) : lea (PB v) (PB w) = dot v w := by unfold lea PB dot; rw [plo_pt, plo_pt, plo_pt]
theorem mos_pt (v w : S_Vec) : mos (PB v) (PB w) = dot v w := by unfold mos PB dot; rw [phi_pt, phi_pt, phi_pt]
theorem low_pt (v : S_Vec) : low (PB v) = dot v v := by unfold low PB dot; rw [qlo_pt, qlo_pt, qlo_pt]
theorem hig_pt (v : S_Vec) : hig (PB v) = dot v v := by unfold hig PB dot; rw [qhi_pt, qhi_pt, qhi_pt]
theorem dot_pos {v : S_Vec} (h : ¬ (v.X = 0 ∧ v.Y = 0 ∧ v.Z = 0)) : 1 ≤ dot v v := by
  unfold dot
  have a := sq_nn v.X; have b := sq_nn v.Y; have c := sq_nn v.Z
  have p : ∀ x : Int, x ≠ 0 → 1 ≤ x * x := fun x hx => by
    have := sq_nn x
    have : x * x ≠ 0 := Int.mul_ne_zero hx hx
    omega
  by_cases x : v.X = 0
  · by_cases y : v.Y = 0
    · have := p v.Z (fun z => h ⟨x, y, z⟩); omega
    · have := p v.Y y; omega
  · have := p v.X x; omega
theorem V20.v30 {v : S_Vec} (h : V20 v) : V30 v := by obtain ⟨a, b, c, _⟩ := h; unfold V30; omega
theorem asked_eq (k : Nat) (h : 100 ≤ k) : spykeep3_asked k = some true := by
  obtain ⟨k, rfl⟩ : ∃ j, k = j + 100 := ⟨k - 100, by omega⟩
  kernel_rfl
theorem lin {a u b v : Int} (h0 : a ≤ u) (h1 : u ≤ b) : min (a * v) (b * v) ≤ u * v ∧ u * v ≤ max (a * v) (b * v) := by
  rcases Int.le_total 0 v with g | g
  · have p := Int.mul_le_mul_of_nonneg_right h0 g
    have q := Int.mul_le_mul_of_nonneg_right h1 g
    omega
  · have p := Int.mul_le_mul_of_nonpos_right h0 g
    have q := Int.mul_le_mul_of_nonpos_right h1 g
    omega
theorem lin2 {a u b v : Int} (h0 : a ≤ u) (h1 : u ≤ b) : min (v * a) (v * b) ≤ v * u ∧ v * u ≤ max (v * a) (v * b) := by
  rw [Int.mul_comm v a, Int.mul_comm v b, Int.mul_comm v u]; exact lin h0 h1
theorem prod_in {x y : S_Bound} {u v : Int} (u0 : x.Lo ≤ u) (u1 : u ≤ x.Hi) (v0 : y.Lo ≤ v) (v1 : v ≤ y.Hi) : plo x y ≤ u * v ∧ u * v ≤ phi x y := by
  have a := lin (v := v) u0 u1
  have b := lin2 (v := x.Lo) v0 v1
  have c := lin2 (v := x.Hi) v0 v1
  unfold plo phi
  omega
/-- A side within another one. -/
structure Sub (x y : S_Bound) : Prop where
  l : x.Lo ≤ y.Lo
  m : y.Lo ≤ y.Hi
  h : y.Hi ≤ x.Hi
theorem plo_mono {x y x' y' : S_Bound} (hx : Sub x x') (hy : Sub y y') : plo x y ≤ plo x' y' ∧ phi x' y' ≤ phi x y := by
  have a1 := hx.l; have a2 := hx.m; have a3 := hx.h; have b1 := hy.l; have b2 := hy.m; have b3 := hy.h
  have h1 := prod_in (x := x) (y := y) (u := x'.Lo) (v := y'.Lo) (by omega) (by omega) (by omega) (by omega)
  have h2 := prod_in (x := x) (y := y) (u := x'.Lo) (v := y'.Hi) (by omega) (by omega) (by omega) (by omega)
  have h3 := prod_in (x := x) (y := y) (u := x'.Hi) (v := y'.Lo) (by omega) (by omega) (by omega) (by omega)
  have h4 := prod_in (x := x) (y := y) (u := x'.Hi) (v := y'.Hi) (by omega) (by omega) (by omega) (by omega)
  generalize plo x y = A at *
  generalize phi x y = B at *
  unfold plo phi
  omega
theorem sq_up {a b : Int} (h0 : 0 ≤ a) (h : a ≤ b) : a * a ≤ b * b := Int.mul_le_mul h h h0 (by omega)
theorem sq_dn {a b : Int} (h0 : a ≤ 0) (h : b ≤ a) : a * a ≤ b * b := by
  have := sq_up (a := -a) (b := -b) (by omega) (by omega)
  rw [Int.neg_mul_neg, Int.neg_mul_neg] at this; exact this
theorem sq_in {x : S_Bound} {v : Int} (v0 : x.Lo ≤ v) (v1 : v ≤ x.Hi) : qlo x ≤ v * v ∧ v * v ≤ qhi x := by
  have n := sq_nn v
  have n1 := sq_nn x.Lo
  have n2 := sq_nn x.Hi
  constructor
  · unfold qlo
    by_cases c : x.Lo > 0
    · rw [if_pos c]; have := sq_up (show 0 ≤ x.Lo by omega) v0; omega
    · rw [if_neg c]
      by_cases d : x.Hi < 0
      · rw [if_pos d]; have := sq_dn (show x.Hi ≤ 0 by omega) v1; omega
      · rw [if_neg d]; exact n
  · unfold qhi
    rcases Int.le_total 0 v with g | g
    · have := sq_up g v1; omega
    · have := sq_dn g v0; omega
theorem qlo_mono {x x' : S_Bound} (h : Sub x x') : qlo x ≤ qlo x' ∧ qhi x' ≤ qhi x := by
  have a1 := h.l; have a2 := h.m; have a3 := h.h
  have h1 := sq_in (x := x) (v := x'.Lo) (by omega) (by omega)
  have h2 := sq_in (x := x) (v := x'.Hi) (by omega) (by omega)
  constructor
  · by_cases c : x'.Lo > 0
    · rw [show qlo x' = min (x'.Lo * x'.Lo) (x'.Hi * x'.Hi) from if_pos c]; omega
    · by_cases d : x'.Hi < 0
      · have e : qlo x' = min (x'.Lo * x'.Lo) (x'.Hi * x'.Hi) := by unfold qlo; rw [if_neg c, if_pos d]
        rw [e]; omega
      · have e : qlo x' = 0 := by unfold qlo; rw [if_neg c, if_neg d]
        have e2 : qlo x = 0 := by unfold qlo; rw [if_neg (by omega), if_neg (by omega)]
        rw [e, e2]; omega
  · show max (x'.Lo * x'.Lo) (x'.Hi * x'.Hi) ≤ qhi x
    omega
structure SubB (a b : S_Box) : Prop where
  X : Sub a.X b.X
  Y : Sub a.Y b.Y
  Z : Sub a.Z b.Z
theorem lea_mono {a b a' b' : S_Box} (h : SubB a a') (g : SubB b b') : lea a b ≤ lea a' b' ∧ mos a' b' ≤ mos a b := by
  have x := plo_mono h.X g.X
  have y := plo_mono h.Y g.Y
  have z := plo_mono h.Z g.Z
  unfold lea mos; omega
theorem low_mono {a a' : S_Box} (h : SubB a a') : low a ≤ low a' ∧ hig a' ≤ hig a := by
  have x := qlo_mono h.X
  have y := qlo_mono h.Y
  have z := qlo_mono h.Z
  unfold low hig; omega
theorem nn_mul {a b c d : Int} (a0 : 0 ≤ a) (b0 : 0 ≤ b) (h : a ≤ c) (g : b ≤ d) : a * b ≤ c * d := Int.mul_le_mul h g b0 (by omega)
/-- Smaller boxes keep what is sure, and what is not. -/
theorem shrink {a b a' b' : S_Box} {c : Int} (c0 : 0 ≤ c) (ha : NOk a') (hb : NOk b') (h : NOk a → NOk b → SubB a a' ∧ SubB b b') : (nearV a b c = 0 → nearV a' b' c = 0) ∧ (nearV a b c = 2 → nearV a' b' c = 2) := by
  by_cases o : NOk a ∧ NOk b
  · obtain ⟨sa, sb⟩ := h o.1 o.2
    obtain ⟨p1, p2⟩ := lea_mono sa sb
    obtain ⟨q1, q2⟩ := low_mono sa
    obtain ⟨r1, r2⟩ := low_mono sb
    obtain ⟨a1, a2, _⟩ := low_ok o.1
    obtain ⟨b1, b2, _⟩ := low_ok o.2
    obtain ⟨a3, a4, a5, _⟩ := low_ok ha
    obtain ⟨b3, b4, b5, _⟩ := low_ok hb
    obtain ⟨l0, l1, l2⟩ := lea_ok ha hb
    have f1 := fl_mono a1 b1 a3 b3 (nn_mul a1.1 b1.1 q1 r1)
    have f2 := fl_mono a3 b3 a4 b4 (nn_mul a3.1 b3.1 a5 b5)
    obtain ⟨t0, t1, t2, _⟩ := rt_all a4 b4
    have t3 := rt_mono a4 b4 a2 b2 (nn_mul a4.1 b4.1 q2 r2)
    have m1 : c * rt (hig a') (hig b') ≤ c * rt (hig a) (hig b) := Int.mul_le_mul_of_nonneg_left t3 c0
    have m2 : c * fl (low a) (low b) ≤ c * fl (low a') (low b') := Int.mul_le_mul_of_nonneg_left f1 c0
    have m3 : c * fl (low a) (low b) ≤ c * rt (hig a') (hig b') := Int.mul_le_mul_of_nonneg_left (by omega) c0
    unfold nearV
    rw [if_neg (show ¬ ¬ (NOk a ∧ NOk b) from fun z => z o), if_neg (show ¬ ¬ (NOk a' ∧ NOk b') from fun z => z ⟨ha, hb⟩)]
    constructor
    · intro e
      split at e
      · cases e
      · split at e
        · rename_i d
          rw [if_neg (by omega), if_pos (by omega)]
        · cases e
    · intro e
      split at e
      · rename_i d
        rw [if_pos ⟨by omega, by omega, by omega⟩]
      · split at e
        · cases e
        · cases e
  · have e : nearV a b c = 1 := by unfold nearV; rw [if_pos o]
    rw [e]
    exact ⟨fun h => (by cases h), fun h => (by cases h)⟩
theorem plo_comm (x y : S_Bound) : plo x y = plo y x ∧ phi x y = phi y x := by
  unfold plo phi
  rw [Int.mul_comm y.Lo x.Lo, Int.mul_comm y.Lo x.Hi, Int.mul_comm y.Hi x.Lo, Int.mul_comm y.Hi x.Hi]
  omega
theorem near_comm (a b : S_Box) (c : Int) : nearV a b c = nearV b a c := by
  unfold nearV
  by_cases o : NOk a ∧ NOk b
  · obtain ⟨a1, a2, _⟩ := low_ok o.1
    obtain ⟨b1, b2, _⟩ := low_ok o.2
    have e1 : lea a b = lea b a := by unfold lea; rw [(plo_comm a.X b.X).1, (plo_comm a.Y b.Y).1, (plo_comm a.Z b.Z).1]
    have e2 : mos a b = mos b a := by unfold mos; rw [(plo_comm a.X b.X).2, (plo_comm a.Y b.Y).2, (plo_comm a.Z b.Z).2]
    rw [if_neg (show ¬ ¬ (NOk a ∧ NOk b) from fun z => z o), if_neg (show ¬ ¬ (NOk b ∧ NOk a) from fun z => z ⟨o.2, o.1⟩), e1, e2, rt_comm a2 b2, fl_comm a1 b1]
    by_cases d : low a > 0 ∧ low b > 0 ∧ lea b a * 1073741824 ≥ c * rt (hig b) (hig a)
    · rw [if_pos d, if_pos (show low b > 0 ∧ low a > 0 ∧ lea b a * 1073741824 ≥ c * rt (hig b) (hig a) from ⟨d.2.1, d.1, d.2.2⟩)]
    · rw [if_neg d, if_neg (show ¬ (low b > 0 ∧ low a > 0 ∧ lea b a * 1073741824 ≥ c * rt (hig b) (hig a)) from fun z => d ⟨z.2.1, z.1, z.2.2⟩)]
  · rw [if_pos o, if_pos (show ¬ (NOk b ∧ NOk a) from fun z => o ⟨z.2, z.1⟩)]
def BS (x : S_Bound) : Prop := x.Unknown = true ∨ (x.Unknown = false ∧ -1310720 ≤ x.Lo ∧ x.Lo ≤ x.Hi ∧ x.Hi ≤ 1310720)
def IN (x y : S_Bound) : Prop := NBk y ∧ (x.Unknown = false → Sub x y)
theorem side_ex (k : Nat) (L : List Int) (a m c : Int) (a0 : 0 ≤ a) (a1 : a ≤ 1000010) (m0 : 0 ≤ m) (m1 : m ≤ 262144) (c0 : -1048576 ≤ c) (c1 : c ≤ 1048576) : ∃ b, spymake_Stream_Box_1 k ⟨L, a⟩ m c = some (b, a + 1 + 1) ∧ BS b := by
  unfold spymake_Stream_Box_1
  rw [wid (x := m + 1) (by omega) (by omega)]
  obtain ⟨u, h1, u0, u1⟩ := next_ex k L a (m + 1) (by omega) (by omega) (by omega) (by omega)
  rw [bnd h1]; dsimp only
  obtain ⟨v, h2, v0, v1⟩ := next_ex k L (a + 1) (m + 1) (by omega) (by omega) (by omega) (by omega)
  rw [bnd h2]; dsimp only
  rw [wid (by omega) (by omega), wid (by omega) (by omega)]
  exact ⟨_, rfl, .inr ⟨rfl, by dsimp only; omega, by dsimp only; omega, by dsimp only; omega⟩⟩
theorem box_ex (k : Nat) (L : List Int) (a : Int) (a0 : 0 ≤ a) (a1 : a ≤ 900000) : ∃ b a', spymake_Stream_Box k ⟨L, a⟩ = some (b, a') ∧ a ≤ a' ∧ a' ≤ a + 20 ∧ BS b.X ∧ BS b.Y ∧ BS b.Z := by
  unfold spymake_Stream_Box
  obtain ⟨v, e, hx, hy, hz, _⟩ := qvec_ex k L a a0 (by omega)
  rw [bnd e]; dsimp only
  obtain ⟨i, h1, i0, i1⟩ := next_ex k L (a + 1 + 1 + 1 + 1) 10 (by decide) (by decide) (by omega) (by omega)
  rw [bnd h1]; dsimp only
  by_cases c : i = 0
  · rw [ifp c]
    exact ⟨_, _, rfl, by omega, by omega, .inl rfl, .inl rfl, .inl rfl⟩
  · rw [ifn c]
    obtain ⟨j, h2, j0, j1⟩ := next_ex k L (a + 1 + 1 + 1 + 1 + 1) 4 (by decide) (by decide) (by omega) (by omega)
    rw [bnd h2]; dsimp only
    have hl : AllIn ([0, 2, 300, 262144] : List Int) 0 262144 := by
      intro x hx; simp only [List.mem_cons, List.not_mem_nil, or_false] at hx; omega
    have len : (([0, 2, 300, 262144] : List Int).length : Int) = 4 := rfl
    have hv := hl.rd j0 (by rw [len]; omega)
    rw [ifp j0, ifp (by rw [len]; omega)]
    generalize rd ([0, 2, 300, 262144] : List Int) j = m at *
    obtain ⟨x, e1, x1⟩ := side_ex k L (a + 1 + 1 + 1 + 1 + 1 + 1) m v.X (by omega) (by omega) hv.1 hv.2 hx.1 hx.2
    rw [bnd e1]; dsimp only
    obtain ⟨y, e2, y1⟩ := side_ex k L (a + 1 + 1 + 1 + 1 + 1 + 1 + 1 + 1) m v.Y (by omega) (by omega) hv.1 hv.2 hy.1 hy.2
    rw [bnd e2]; dsimp only
    obtain ⟨z, e3, z1⟩ := side_ex k L (a + 1 + 1 + 1 + 1 + 1 + 1 + 1 + 1 + 1 + 1) m v.Z (by omega) (by omega) hv.1 hv.2 hz.1 hz.2
    rw [bnd e3]; dsimp only
    exact ⟨_, _, rfl, by omega, by omega, x1, y1, z1⟩
theorem exact_ex (k : Nat) (c : Int) (h0 : -1073741824 ≤ c) (h1 : c ≤ 1073741824) : bound_Exact_Coord k c = some ⟨c, c, false⟩ := by
  unfold bound_Exact_Coord bound_Of_Coord bound_Norm_Coord bound_Check_Coord
  dsimp only
  rw [ifn (by decide), mn_def, mx_def, ifn (by omega), ifn (by omega), ifn (by omega)]
  rfl
theorem inner1_ex (k : Nat) (L : List Int) (a : Int) (x : S_Bound) (h : BS x) (a0 : 0 ≤ a) (a1 : a ≤ 900000) : ∃ y a', spykeep3_inner_1 k ⟨L, a⟩ x = some (y, a') ∧ a ≤ a' ∧ a' ≤ a + 3 ∧ IN x y := by
  unfold spykeep3_inner_1
  rcases h with h | ⟨h, h0, h1, h2⟩
  · rw [ifp h]
    obtain ⟨v, e, v0, v1⟩ := range_ex k L a (-99) 99 (by decide) (by decide) (by decide) (by decide) (by omega) (by omega)
    rw [bnd e]; dsimp only
    rw [bnd (exact_ex k v (by omega) (by omega))]
    exact ⟨_, _, rfl, by omega, by omega, ⟨rfl, by dsimp only; omega, by dsimp only; omega, by dsimp only; omega⟩, fun z => by rw [h] at z; cases z⟩
  · rw [ifn (by rw [h]; decide), wid (x := x.Hi - x.Lo) (by omega) (by omega), wid (x := x.Hi - x.Lo + 1) (by omega) (by omega)]
    obtain ⟨u, e1, u0, u1⟩ := next_ex k L a (x.Hi - x.Lo + 1) (by omega) (by omega) (by omega) (by omega)
    rw [bnd e1]; dsimp only
    obtain ⟨v, e2, v0, v1⟩ := next_ex k L (a + 1) (x.Hi - x.Lo + 1) (by omega) (by omega) (by omega) (by omega)
    rw [bnd e2]; dsimp only
    obtain ⟨s, e3, s0, s1⟩ := next_ex k L (a + 1 + 1) 2 (by decide) (by decide) (by omega) (by omega)
    rw [bnd e3]; dsimp only
    rw [wid (x := x.Lo + u) (by omega) (by omega), wid (x := x.Lo + v) (by omega) (by omega), mn_def, mx_def, mn_def, mx_def]
    by_cases c : s = 0
    · rw [ifp c]
      exact ⟨_, _, rfl, by omega, by omega, ⟨rfl, by dsimp only; omega, by dsimp only; omega, by dsimp only; omega⟩, fun _ => ⟨by dsimp only; omega, by dsimp only; omega, by dsimp only; omega⟩⟩
    · rw [ifn c]
      exact ⟨_, _, rfl, by omega, by omega, ⟨rfl, by dsimp only; omega, by dsimp only; omega, by dsimp only; omega⟩, fun _ => ⟨by dsimp only; omega, by dsimp only; omega, by dsimp only; omega⟩⟩
theorem inner_ex (k : Nat) (L : List Int) (a : Int) (b : S_Box) (hx : BS b.X) (hy : BS b.Y) (hz : BS b.Z) (a0 : 0 ≤ a) (a1 : a ≤ 800000) : ∃ y a', spykeep3_inner k ⟨L, a⟩ b = some (y, a') ∧ a ≤ a' ∧ a' ≤ a + 9 ∧ NOk y ∧ (NOk b → SubB b y) := by
  unfold spykeep3_inner
  obtain ⟨x, p, e1, p0, p1, x1, x2⟩ := inner1_ex k L a b.X hx (by omega) (by omega)
  rw [bnd e1]; dsimp only
  obtain ⟨y, q, e2, q0, q1, y1, y2⟩ := inner1_ex k L p b.Y hy (by omega) (by omega)
  rw [bnd e2]; dsimp only
  obtain ⟨z, r, e3, r0, r1, z1, z2⟩ := inner1_ex k L q b.Z hz (by omega) (by omega)
  rw [bnd e3]; dsimp only
  exact ⟨_, _, rfl, by omega, by omega, ⟨x1, y1, z1⟩, fun o => ⟨x2 o.X.u, y2 o.Y.u, z2 o.Z.u⟩⟩
theorem law (k : Nat) (l : List Int) (cos : Int) (hk : 100 ≤ k) : spykeep3_QueryShrinks k l cos = some true := by
  unfold spykeep3_QueryShrinks
  obtain ⟨a, p, e1, p0, p1, ax, ay, az⟩ := box_ex k l 0 (by decide) (by decide)
  rw [bnd e1]; dsimp only
  obtain ⟨b, q, e2, q0, q1, bx, by_, bz⟩ := box_ex k l p (by omega) (by omega)
  rw [bnd e2]; dsimp only
  obtain ⟨c, e3, c0, c1⟩ := below_ex k cos 1073741825 (by decide) (by decide)
  rw [bnd e3, bnd (near_eq k a b c c0 (by omega) (by omega))]
  obtain ⟨a', r, e4, r0, r1, oa, sa⟩ := inner_ex k l q a ax ay az (by omega) (by omega)
  rw [bnd e4]; dsimp only
  obtain ⟨b', s, e5, s0, s1, ob, sb⟩ := inner_ex k l r b bx by_ bz (by omega) (by omega)
  rw [bnd e5]; dsimp only
  rw [bnd (near_eq k a' b' c c0 (by omega) (by omega)), bnd (asked_eq k hk), ifp rfl, bnd (near_eq k b a c c0 (by omega) (by omega)), ifp (near_comm a b c)]
  obtain ⟨h0, h2⟩ := shrink c0 oa ob (fun x y => ⟨sa x, sb y⟩)
  by_cases d : nearV a b c ≠ 0
  · rw [ifp d]
    by_cases f : nearV a b c ≠ 2
    · rw [ifp f]
    · rw [ifn f, h2 (by omega)]; rfl
  · rw [ifn d, ifp (h0 (by omega)), ifp (by omega)]
theorem law_ex (l : List Int) (cos : Int) (_ : (Lit.int .i64 cos).wf = true) : ∃ k, spykeep3_QueryShrinks k l cos = some true := ⟨100, law 100 l cos (by decide)⟩

end Go.Sp.Q3
