import Derived.Test.YtiibkbligihgoaaGreatFQ5
import Derived.KernelRfl
import Derived.Laws.BitsLemmas
import Derived.Laws.Bits64
import Derived.Laws.BitsAllLaws
import Derived.Laws.BitsLemmas
import Derived.Laws.Bits64
import Derived.Laws.BitsAllLaws
namespace Go.Sp.Q5
open Go Go.Sp
set_option linter.unusedVariables false
theorem bnd {α β : Type} {x : Option α} {g : α → Option β} {v : α} (h : x = some v) : x.bind g = g v := by rw [h]; rfl
theorem ifp {α : Type} {c : Prop} [Decidable c] {x y : α} (h : c) : (if c then x else y) = x := if_pos h
theorem ifn {α : Type} {c : Prop} [Decidable c] {x y : α} (h : ¬ c) : (if c then x else y) = y := if_neg h
theorem rd_mem {α : Type} [Inhabited α] {l : List α} {i : Int} (h0 : 0 ≤ i) (h1 : i < (l.length : Int)) : rd l i ∈ l := by
  obtain ⟨h, e⟩ := rd_lt h0 h1
  rw [e]; exact List.getElem_mem h
theorem wid {x : Int} (h : -9223372036854775808 ≤ x) (h' : x ≤ 9223372036854775807) : w64 x = x := w64_of h h'
theorem wuid {x : Int} (h : 0 ≤ x) (h' : x ≤ 18446744073709551615) : u64 x = x := u64_of h h'
theorem mul_le {a b A B : Int} (h1 : 0 ≤ a) (h2 : a ≤ A) (h3 : 0 ≤ b) (h4 : b ≤ B) : 0 ≤ a * b ∧ a * b ≤ A * B :=
  ⟨Int.mul_nonneg h1 h3, Int.mul_le_mul h2 h4 h3 (by omega)⟩
theorem tdiv_nn {a b : Int} (h : 0 ≤ a) : Int.tdiv a b = a / b := Int.tdiv_eq_ediv_of_nonneg h
theorem tmod_nn {a b : Int} (h : 0 ≤ a) : Int.tmod a b = a % b := Int.tmod_eq_emod_of_nonneg h
def AllIn (l : List Int) (lo hi : Int) : Prop := ∀ x, x ∈ l → lo ≤ x ∧ x ≤ hi
theorem AllIn.nil {lo hi : Int} : AllIn [] lo hi := fun x h => by cases h
theorem AllIn.push {l : List Int} {lo hi x : Int} (h : AllIn l lo hi) (h0 : lo ≤ x) (h1 : x ≤ hi) : AllIn (l ++ [x]) lo hi := by
  intro y hy
  rcases List.mem_append.mp hy with hy | hy
  · exact h y hy
  · simp only [List.mem_singleton] at hy; subst hy; exact ⟨h0, h1⟩
theorem AllIn.rd {l : List Int} {lo hi i : Int} (h : AllIn l lo hi) (h0 : 0 ≤ i) (h1 : i < (l.length : Int)) : lo ≤ rd l i ∧ rd l i ≤ hi := h _ (rd_mem h0 h1)
theorem AllIn.mono {l : List Int} {lo hi lo' hi' : Int} (h : AllIn l lo hi) (h0 : lo' ≤ lo) (h1 : hi ≤ hi') : AllIn l lo' hi' := fun x hx => by have := h x hx; omega
theorem rd_set_eq (l : List Int) (i x : Int) (h0 : 0 ≤ i) (h1 : i < (l.length : Int)) : rd (l.set i.toNat x) i = x := by
  obtain ⟨h, e⟩ := rd_lt (xs := l.set i.toNat x) h0 (by simp; omega)
  rw [e]; simp
theorem rd_set_ne (l : List Int) (i j x : Int) (h0 : 0 ≤ i) (hj : 0 ≤ j) (h1 : j < (l.length : Int)) (hne : j ≠ i) : rd (l.set i.toNat x) j = rd l j := by
  obtain ⟨h, e⟩ := rd_lt (xs := l.set i.toNat x) hj (by simp; omega)
  obtain ⟨h', e'⟩ := rd_lt (xs := l) hj h1
  rw [e, e', List.getElem_set, if_neg (by omega)]
theorem rd_push_old (l : List Int) (x i : Int) (h0 : 0 ≤ i) (h1 : i < (l.length : Int)) : rd (l ++ [x]) i = rd l i := by
  obtain ⟨h, e⟩ := rd_lt (xs := l ++ [x]) h0 (by simp; omega)
  obtain ⟨h', e'⟩ := rd_lt (xs := l) h0 h1
  rw [e, e', List.getElem_append_left h']
theorem rd_push_new (l : List Int) (x i : Int) (h1 : i = (l.length : Int)) : rd (l ++ [x]) i = x := by
  obtain ⟨h, e⟩ := rd_lt (xs := l ++ [x]) (i := i) (by omega) (by simp; omega)
  rw [e, List.getElem_append_right (by omega)]
  simp
theorem u64_and32 (x : Int) (h0 : 0 ≤ x) (h1 : x < 18446744073709551616) : Go.bits .and .u64 x 4294967295 = x % 4294967296 := by
  rw [Go.u64_and x 4294967295 h0 h1 (by decide) (by decide)]
  have : x.toNat &&& (4294967295 : Int).toNat = x.toNat % 4294967296 := Nat.and_two_pow_sub_one_eq_mod x.toNat 32
  rw [this]
  omega
theorem shr32 (x : Int) : shr x 32 = x / 4294967296 := shr_def x 32
theorem mul64_eq (k : Nat) (a b : Int) (ha : 0 ≤ a) (ha' : a < 18446744073709551616) (hb : 0 ≤ b) (hb' : b < 18446744073709551616) :
    bits_Mul64 k a b = some (a * b / 18446744073709551616, a * b % 18446744073709551616) := by
  unfold bits_Mul64
  rw [u64_and32 a ha ha', u64_and32 b hb hb', shr32 a, shr32 b]
  have h1 := mul_le (a := a / 4294967296) (b := b / 4294967296) (A := 4294967295) (B := 4294967295) (by omega) (by omega) (by omega) (by omega)
  have h2 := mul_le (a := a / 4294967296) (b := b % 4294967296) (A := 4294967295) (B := 4294967295) (by omega) (by omega) (by omega) (by omega)
  have h3 := mul_le (a := a % 4294967296) (b := b / 4294967296) (A := 4294967295) (B := 4294967295) (by omega) (by omega) (by omega) (by omega)
  have h4 := mul_le (a := a % 4294967296) (b := b % 4294967296) (A := 4294967295) (B := 4294967295) (by omega) (by omega) (by omega) (by omega)
  have e : a * b = (a / 4294967296) * (b / 4294967296) * 18446744073709551616 + ((a / 4294967296) * (b % 4294967296) + (a % 4294967296) * (b / 4294967296)) * 4294967296 + (a % 4294967296) * (b % 4294967296) := by
    have ea : a = a / 4294967296 * 4294967296 + a % 4294967296 := by omega
    have eb : b = b / 4294967296 * 4294967296 + b % 4294967296 := by omega
    generalize a / 4294967296 = x1 at *
    generalize a % 4294967296 = x0 at *
    generalize b / 4294967296 = y1 at *
    generalize b % 4294967296 = y0 at *
    subst ea eb
    grind
  rw [u64_def (a * b), e]
  generalize (a / 4294967296) * (b / 4294967296) = p at *
  generalize (a / 4294967296) * (b % 4294967296) = q at *
  generalize (a % 4294967296) * (b / 4294967296) = r at *
  generalize (a % 4294967296) * (b % 4294967296) = s at *
  rw [wuid (x := s) (by omega) (by omega), wuid (x := p) (by omega) (by omega), wuid (x := q) (by omega) (by omega), wuid (x := r) (by omega) (by omega)]
  rw [shr32 s, wuid (x := q + s / 4294967296) (by omega) (by omega)]
  rw [u64_and32 (q + s / 4294967296) (by omega) (by omega), shr32 (q + s / 4294967296)]
  rw [wuid (x := p + (q + s / 4294967296) / 4294967296) (by omega) (by omega)]
  rw [wuid (x := (q + s / 4294967296) % 4294967296 + r) (by omega) (by omega), shr32]
  rw [wuid (by omega) (by omega)]
  have e1 : p + (q + s / 4294967296) / 4294967296 + ((q + s / 4294967296) % 4294967296 + r) / 4294967296 = (p * 18446744073709551616 + (q + r) * 4294967296 + s) / 18446744073709551616 := by omega
  rw [e1]
theorem i64_and_low (x : Int) (i : Nat) (hi : i ≤ 62) : Go.bits .and .i64 x ((2 ^ i - 1 : Nat) : Int) = (((x % 18446744073709551616).toNat % 2 ^ i : Nat) : Int) := by
  have hp : 2 ^ i ≤ 2 ^ 62 := Nat.pow_le_pow_right (by decide) hi
  have hpos : 0 < 2 ^ i := Nat.two_pow_pos i
  have e1 : (BitVec.ofInt 64 x).toNat = (x % 18446744073709551616).toNat := by simp [BitVec.toNat_ofInt]
  have hb : (2 ^ i - 1) % 2 ^ IntKind.i64.bits = 2 ^ i - 1 := Nat.mod_eq_of_lt (by show 2 ^ i - 1 < 2 ^ 64; omega)
  simp only [Go.bits, BitVec.ofInt_natCast, BitVec.toNat_and, BitVec.toNat_ofNat, hb]
  rw [show (BitVec.ofInt IntKind.i64.bits x).toNat = (x % 18446744073709551616).toNat from e1, Nat.and_two_pow_sub_one_eq_mod]
  have := Nat.mod_lt (x % 18446744073709551616).toNat hpos
  rw [IntKind.wrap_i64]
  omega
theorem i64_and_in (x : Int) (i : Nat) (m : Int) (hi : i ≤ 62) (hm : m = ((2 ^ i - 1 : Nat) : Int)) : 0 ≤ Go.bits .and .i64 x m ∧ Go.bits .and .i64 x m ≤ m := by
  subst hm
  rw [i64_and_low x i hi]
  have := Nat.mod_lt (x % 18446744073709551616).toNat (Nat.two_pow_pos i)
  omega
theorem size_eq (k : Nat) (a : Int) (h0 : -9223372036854775808 ≤ a) (h1 : a ≤ 9223372036854775807) : num_size k a = some (if a < 0 then -a else a) := by
  unfold num_size
  by_cases c : a < 0
  · rw [ifp c, ifp c]
    congr 1
    simp only [u64_def]
    omega
  · rw [ifn c, ifn c, wuid (by omega) (by omega)]
theorem xor_max (x : Int) (h0 : 0 ≤ x) (h1 : x < 18446744073709551616) : Go.bits .xor .u64 IntKind.u64.max x = 18446744073709551615 - x := by
  have hm : IntKind.u64.max = 18446744073709551615 := by decide
  rw [hm, Go.u64_xor _ _ (by decide) (by decide) h0 h1]
  have hb : (BitVec.allOnes 64 ^^^ BitVec.ofNat 64 x.toNat).toNat = 18446744073709551615 - x.toNat := by
    rw [BitVec.allOnes_xor, BitVec.toNat_not, BitVec.toNat_ofNat, Nat.mod_eq_of_lt (by omega)]
  have hb2 : (BitVec.allOnes 64 ^^^ BitVec.ofNat 64 x.toNat).toNat = 18446744073709551615 ^^^ x.toNat := by
    rw [BitVec.toNat_xor, BitVec.toNat_ofNat, Nat.mod_eq_of_lt (by omega)]; rfl
  rw [hb2] at hb
  rw [show (18446744073709551615 : Int).toNat = 18446744073709551615 from rfl, hb]
  omega
theorem neg_eq (k : Nat) (P : Int) (h0 : 0 < P) (h1 : P ≤ 85070591730234615865843651857942052864) : num_Wide_Neg k ⟨w64 (P / 18446744073709551616), P % 18446744073709551616⟩ = some ⟨-P / 18446744073709551616, -P % 18446744073709551616⟩ := by
  have e1 : u64 (w64 (P / 18446744073709551616)) = P / 18446744073709551616 := by rw [wid (by omega) (by omega), wuid (by omega) (by omega)]
  unfold num_Wide_Neg
  dsimp only
  rw [e1, xor_max (P % 18446744073709551616) (by omega) (by omega), xor_max (P / 18446744073709551616) (by omega) (by omega), ifp (by omega), ifp (by omega), ifp (by omega), ifp (by omega)]
  congr 2
  · rw [w64_def]; omega
  · omega
/-- The low and the high word of a product. -/
theorem product_eq (k : Nat) (a b : Int) (ha : -9223372036854775808 ≤ a) (ha' : a ≤ 9223372036854775807) (hb : -9223372036854775808 ≤ b) (hb' : b ≤ 9223372036854775807) :
    num_Product k a b = some ⟨a * b / 18446744073709551616, a * b % 18446744073709551616⟩ := by
  unfold num_Product
  rw [bnd (size_eq k a ha ha'), bnd (size_eq k b hb hb')]
  obtain ⟨A, hA⟩ : ∃ A, A = if a < 0 then -a else a := ⟨_, rfl⟩
  obtain ⟨B, hB⟩ : ∃ B, B = if b < 0 then -b else b := ⟨_, rfl⟩
  rw [← hA, ← hB]
  have A0 : 0 ≤ A ∧ A ≤ 9223372036854775808 := by rw [hA]; split <;> omega
  have B0 : 0 ≤ B ∧ B ≤ 9223372036854775808 := by rw [hB]; split <;> omega
  rw [bnd (mul64_eq k A B (by omega) (by omega) (by omega) (by omega))]
  dsimp only
  have hAB := mul_le A0.1 A0.2 B0.1 B0.2
  have neg : A * B = -(a * b) → (num_Wide_Neg k ⟨w64 (A * B / 18446744073709551616), A * B % 18446744073709551616⟩).bind (fun v => some v) = some ⟨a * b / 18446744073709551616, a * b % 18446744073709551616⟩ := by
    intro e
    by_cases z : a * b = 0
    · have ez : A * B = 0 := by omega
      rw [ez, z]
      have : num_Wide_Neg k ⟨w64 (0 / 18446744073709551616), 0 % 18446744073709551616⟩ = some ⟨0, 0⟩ := by kernel_rfl
      rw [this]; rfl
    · rw [neg_eq k (A * B) (by omega) (by omega), e, Int.neg_neg]; rfl
  by_cases ca : a < 0
  · rw [if_pos ca] at hA
    by_cases cb : b < 0
    · rw [if_pos cb] at hB
      have e : A * B = a * b := by rw [hA, hB, Int.neg_mul_neg]
      rw [show (decide (a < 0) != decide (b < 0)) = false by simp [ca, cb], ifn (by decide), e, wid (by omega) (by omega)]
    · rw [if_neg cb] at hB
      rw [show (decide (a < 0) != decide (b < 0)) = true by simp [ca, cb], ifp rfl]
      exact neg (by rw [hA, hB, Int.neg_mul])
  · rw [if_neg ca] at hA
    by_cases cb : b < 0
    · rw [if_pos cb] at hB
      rw [show (decide (a < 0) != decide (b < 0)) = true by simp [ca, cb], ifp rfl]
      exact neg (by rw [hA, hB, Int.mul_neg])
    · rw [if_neg cb] at hB
      have e : A * B = a * b := by rw [hA, hB]
      rw [show (decide (a < 0) != decide (b < 0)) = false by simp [ca, cb], ifn (by decide), e, wid (by omega) (by omega)]
theorem sq_le {a b : Int} (h : a ≤ b) (ha : 0 ≤ a) : a * a ≤ b * b := Int.mul_le_mul h h ha (by omega)
theorem sq_lt {a b : Int} (ha : 0 ≤ a) (hb : 0 ≤ b) (h : a * a < b * b) : a < b := by
  rcases Int.lt_or_le a b with g | g
  · exact g
  · have := sq_le g hb; omega
theorem or_bit (r : Int) (j : Nat) (hr : 0 ≤ r) (hm : r % 2 ^ (j + 1) = 0) (h : r + 2 ^ j < 18446744073709551616) (hj : j ≤ 62) : Go.bits .or .u64 r (2 ^ j) = r + 2 ^ j := by
  have hp : (0 : Int) < 2 ^ j := Int.pow_pos (by decide)
  have hlt : (2 : Int) ^ j < 2 ^ (j + 1) := by rw [Int.pow_succ]; omega
  exact Go.bits_join .u64 64 (by decide) (fun n h0 h1 => by have h2 : n < 18446744073709551616 := h1; rw [IntKind.wrap_u64]; omega) (j + 1) r (2 ^ j) hr hm (by show r < 18446744073709551616; omega) (by omega) hlt (by show (2 : Int) ^ j < 18446744073709551616; omega)
theorem shr1 (x : Int) : shr x 1 = x / 2 := shr_def x 1
theorem sqrt_end (k n : Nat) (u v r : Int) (hk : 0 < n) : num_SqrtMul.l0 k u v n r 0 = some r := by
  obtain ⟨n, rfl⟩ : ∃ m, n = m + 1 := ⟨n - 1, by omega⟩
  rw [num_SqrtMul.l0, ifn (by decide)]
theorem sqrt_loop (k : Nat) (P : Int) (hP : 0 ≤ P) (hP' : P < 85070591730234615865843651857942052864) (j : Nat) : ∀ (r : Int) (n : Nat), j ≤ 62 → 0 ≤ r → r % 2 ^ (j + 1) = 0 → r + 2 ^ (j + 1) ≤ 9223372036854775808 → r * r ≤ P → P < (r + 2 ^ (j + 1)) * (r + 2 ^ (j + 1)) → j + 1 < n →
    ∃ s, num_SqrtMul.l0 k (P / 18446744073709551616) (P % 18446744073709551616) n r (2 ^ j) = some s ∧ 0 ≤ s ∧ s ≤ 9223372036854775807 ∧ s * s ≤ P ∧ P < (s + 1) * (s + 1) := by
  induction j with
  | zero =>
    intro r n _ h0 hm hb hlo hhi hk
    obtain ⟨n, rfl⟩ : ∃ m, n = m + 1 := ⟨n - 1, by omega⟩
    have hor := or_bit r 0 h0 hm (by omega) (by omega)
    have hsq := mul_le (a := r + 1) (b := r + 1) (A := 9223372036854775807) (B := 9223372036854775807) (by omega) (by omega) (by omega) (by omega)
    rw [num_SqrtMul.l0, ifp (by decide), hor, show (2 : Int) ^ 0 = 1 by rfl, bnd (mul64_eq k (r + 1) (r + 1) (by omega) (by omega) (by omega) (by omega))]
    dsimp only
    have e2 : (1 : Int) / 2 = 0 := by decide
    have hhi2 : P < (r + 2) * (r + 2) := hhi
    rw [shr1, e2, sqrt_end k n _ _ (r + 1) (by omega), sqrt_end k n _ _ r (by omega)]
    by_cases c : (r + 1) * (r + 1) ≤ P
    · refine ⟨r + 1, ?_, by omega, by omega, c, ?_⟩
      · generalize (r + 1) * (r + 1) = Q at *
        by_cases c1 : Q / 18446744073709551616 < P / 18446744073709551616
        · rw [ifp c1]
        · rw [ifn c1, ifp (by omega), ifp (by omega)]
      · rw [show r + 1 + 1 = r + 2 by omega]; exact hhi2
    · refine ⟨r, ?_, by omega, by omega, hlo, by omega⟩
      generalize (r + 1) * (r + 1) = Q at *
      rw [ifn (by omega)]
      by_cases c1 : Q / 18446744073709551616 = P / 18446744073709551616
      · rw [ifp c1, ifn (by omega)]
      · rw [ifn c1]
  | succ j ih =>
    intro r n hj h0 hm hb hlo hhi hk
    obtain ⟨n, rfl⟩ : ∃ m, n = m + 1 := ⟨n - 1, by omega⟩
    have hp : (0 : Int) < 2 ^ j := Int.pow_pos (by decide)
    have hp1 : (2 : Int) ^ (j + 1) = 2 * 2 ^ j := by rw [Int.pow_succ]; omega
    have hp2 : (2 : Int) ^ (j + 1 + 1) = 4 * 2 ^ j := by rw [Int.pow_succ, hp1]; omega
    have hor := or_bit r (j + 1) h0 hm (by omega) (by omega)
    have hm1 : r % 2 ^ (j + 1) = 0 := by
      have hd : ((2 : Int) ^ (j + 1)) ∣ 2 ^ (j + 1 + 1) := ⟨2, by rw [Int.pow_succ]⟩
      exact Int.emod_eq_zero_of_dvd (Int.dvd_trans hd (Int.dvd_of_emod_eq_zero hm))
    have hm2 : (r + 2 ^ (j + 1)) % 2 ^ (j + 1) = 0 := by rw [Int.add_emod_right]; exact hm1
    have hdiv : (2 : Int) ^ (j + 1) / 2 = 2 ^ j := by omega
    have hsq := mul_le (a := r + 2 ^ (j + 1)) (b := r + 2 ^ (j + 1)) (A := 9223372036854775807) (B := 9223372036854775807) (by omega) (by omega) (by omega) (by omega)
    rw [num_SqrtMul.l0, ifp (by omega), hor, bnd (mul64_eq k _ _ (by omega) (by omega) (by omega) (by omega))]
    dsimp only
    rw [shr1, hdiv]
    by_cases c : (r + 2 ^ (j + 1)) * (r + 2 ^ (j + 1)) ≤ P
    · obtain ⟨s, e, hs⟩ := ih (r + 2 ^ (j + 1)) n (by omega) (by omega) hm2 (by omega) c (by rw [show r + 2 ^ (j + 1) + 2 ^ (j + 1) = r + 2 ^ (j + 1 + 1) by omega]; exact hhi) (by omega)
      refine ⟨s, ?_, hs⟩
      rw [e]
      generalize (r + 2 ^ (j + 1)) * (r + 2 ^ (j + 1)) = Q at *
      by_cases c1 : Q / 18446744073709551616 < P / 18446744073709551616
      · rw [ifp c1]
      · rw [ifn c1, ifp (by omega), ifp (by omega)]
    · obtain ⟨s, e, hs⟩ := ih r n (by omega) h0 hm1 (by omega) hlo (by omega) (by omega)
      refine ⟨s, ?_, hs⟩
      rw [e]
      generalize (r + 2 ^ (j + 1)) * (r + 2 ^ (j + 1)) = Q at *
      rw [ifn (by omega)]
      by_cases c1 : Q / 18446744073709551616 = P / 18446744073709551616
      · rw [ifp c1, ifn (by omega)]
      · rw [ifn c1]
theorem sqrtmul_ex (k : Nat) (a b : Int) (ha : 0 ≤ a) (ha' : a ≤ 9223372036854775807) (hb : 0 ≤ b) (hb' : b ≤ 9223372036854775807) (hk : 70 ≤ k) :
    ∃ s, num_SqrtMul k a b = some s ∧ 0 ≤ s ∧ s ≤ 9223372036854775807 ∧ s * s ≤ a * b ∧ a * b < (s + 1) * (s + 1) := by
  have hP := mul_le ha ha' hb hb'
  obtain ⟨s, e, hs⟩ := sqrt_loop k (a * b) hP.1 (by omega) 62 0 k (by omega) (by omega) (by decide) (by decide) (by omega) (by
    show a * b < 9223372036854775808 * 9223372036854775808
    omega) (by omega)
  refine ⟨s, ?_, hs⟩
  have hp : (2 : Int) ^ 62 = 4611686018427387904 := by decide
  rw [hp] at e
  unfold num_SqrtMul
  rw [ifn (by omega), ifn (by omega), wuid ha (by omega), wuid hb (by omega), bnd (mul64_eq k a b ha (by omega) hb (by omega))]
  dsimp only
  rw [bnd e, wid (by omega) (by omega)]
theorem root_unique {n r s : Int} (hr : 0 ≤ r) (hs : 0 ≤ s) (h1 : r * r ≤ n) (h2 : n < (r + 1) * (r + 1)) (h3 : s * s ≤ n) (h4 : n < (s + 1) * (s + 1)) : r = s := by
  have l1 : r < s + 1 := sq_lt hr (by omega) (by omega)
  have l2 : s < r + 1 := sq_lt hs (by omega) (by omega)
  omega
def cm (x y : Int) : Int := if x < y then -1 else if x > y then 1 else 0
theorem cmpi (k : Nat) (x y : Int) : cmp_Compare_int64 k x y = some (cm x y) := by
  unfold cmp_Compare_int64 cmp_isNaN_int64 cm
  rw [bnd rfl, bnd rfl, ifn (by simp), ifn (by simp)]
  split
  · rfl
  · split <;> rfl
theorem cmpu (k : Nat) (x y : Int) : cmp_Compare_uint64 k x y = some (cm x y) := by
  unfold cmp_Compare_uint64 cmp_isNaN_uint64 cm
  rw [bnd rfl, bnd rfl, ifn (by simp), ifn (by simp)]
  split
  · rfl
  · split <;> rfl
theorem or2 (k : Nat) (p q : Int) (hk : 5 ≤ k) : cmp_Or_int k [p, q] = some (if p ≠ 0 then p else q) := by
  have r0 : rd [p, q] 0 = p := rfl
  have r1 : rd [p, q] 1 = q := rfl
  have l : (([p, q] : List Int).length : Int) = 2 := rfl
  obtain ⟨j, hj⟩ : ∃ j, k = j + 3 := ⟨k - 3, by omega⟩
  have h : ∀ k', k' = j + 3 → cmp_Or_int.l0 k [p, q] k' 0 = some (if p ≠ 0 then Sum.inl p else if q ≠ 0 then Sum.inl q else Sum.inr ()) := by
    rintro _ rfl
    rw [cmp_Or_int.l0, l, ifp (by decide), ifp (by decide), r0]
    by_cases c : p ≠ 0
    · rw [ifp c, ifp c]
    · rw [ifn c, ifn c, wid (x := 0 + 1) (by decide) (by decide), show (0 : Int) + 1 = 1 by rfl, cmp_Or_int.l0, l, ifp (by decide), ifp (by decide), r1]
      by_cases d : q ≠ 0
      · rw [ifp d, ifp d]
      · rw [ifn d, ifn d, wid (x := 1 + 1) (by decide) (by decide), show (1 : Int) + 1 = 2 by rfl, cmp_Or_int.l0, l, ifn (by decide)]
  unfold cmp_Or_int
  rw [bnd (h k hj)]
  by_cases c : p ≠ 0
  · rw [ifp c, ifp c]; rfl
  · rw [ifn c, ifn c]
    by_cases d : q ≠ 0
    · rw [ifp d]; rfl
    · rw [ifn d, show q = 0 by omega]; rfl
theorem wcmp (k : Nat) (A B : Int) (hk : 5 ≤ k) : ∃ c, num_Wide_Cmp k ⟨A / 18446744073709551616, A % 18446744073709551616⟩ ⟨B / 18446744073709551616, B % 18446744073709551616⟩ = some c ∧ (c < 0 ↔ A < B) ∧ (c ≥ 0 ↔ A ≥ B) := by
  unfold num_Wide_Cmp
  dsimp only
  rw [bnd (cmpi _ _ _), bnd (cmpu _ _ _), bnd (or2 k _ _ hk)]
  refine ⟨_, rfl, ?_⟩
  unfold cm
  by_cases c1 : A / 18446744073709551616 < B / 18446744073709551616
  · rw [ifp c1, ifp (by decide)]; omega
  · rw [ifn c1]
    by_cases c2 : A / 18446744073709551616 > B / 18446744073709551616
    · rw [ifp c2, ifp (by decide)]; omega
    · rw [ifn c2, ifn (by decide)]
      by_cases c3 : A % 18446744073709551616 < B % 18446744073709551616
      · rw [ifp c3]; omega
      · rw [ifn c3]
        by_cases c4 : A % 18446744073709551616 > B % 18446744073709551616
        · rw [ifp c4]; omega
        · rw [ifn c4]; omega
/-- The root of a product, rounded down, and rounded up. -/
noncomputable def fl (a b : Int) : Int := (num_SqrtMul 70 a b).getD 0
noncomputable def rt (a b : Int) : Int := if fl a b * fl a b < a * b then fl a b + 1 else fl a b
def R64 (a : Int) : Prop := 0 ≤ a ∧ a ≤ 4611686018427387904
theorem fl_all {a b : Int} (ha : R64 a) (hb : R64 b) : (∀ k, 70 ≤ k → num_SqrtMul k a b = some (fl a b)) ∧ 0 ≤ fl a b ∧ fl a b ≤ 4611686018427387904 ∧ fl a b * fl a b ≤ a * b ∧ a * b < (fl a b + 1) * (fl a b + 1) := by
  obtain ⟨a0, a1⟩ := ha
  obtain ⟨b0, b1⟩ := hb
  obtain ⟨s, e, h0, h1, h2, h3⟩ := sqrtmul_ex 70 a b a0 (by omega) b0 (by omega) (by omega)
  have hs : ∀ k, 70 ≤ k → num_SqrtMul k a b = some s := by
    intro k hk
    obtain ⟨s', e', g0, g1, g2, g3⟩ := sqrtmul_ex k a b a0 (by omega) b0 (by omega) hk
    rw [e', root_unique g0 h0 g2 g3 h2 h3]
  have hi : fl a b = s := by unfold fl; rw [hs 70 (Nat.le_refl _)]; rfl
  have hm := mul_le a0 a1 b0 b1
  have hb : s < 4611686018427387905 := sq_lt h0 (by omega) (by omega)
  rw [hi]
  exact ⟨hs, h0, by omega, h2, h3⟩
theorem fl_mono {a b c d : Int} (ha : R64 a) (hb : R64 b) (hc : R64 c) (hd : R64 d) (h : a * b ≤ c * d) : fl a b ≤ fl c d := by
  obtain ⟨_, a0, _, a2, a3⟩ := fl_all ha hb
  obtain ⟨_, c0, _, c2, c3⟩ := fl_all hc hd
  have : fl a b < fl c d + 1 := sq_lt a0 (by omega) (by omega)
  omega
theorem rt_all {a b : Int} (ha : R64 a) (hb : R64 b) : 0 ≤ rt a b ∧ rt a b ≤ 4611686018427387905 ∧ fl a b ≤ rt a b ∧ a * b ≤ rt a b * rt a b := by
  obtain ⟨_, a0, a1, a2, a3⟩ := fl_all ha hb
  unfold rt
  split <;> omega
theorem rt_le {a b t : Int} (ha : R64 a) (hb : R64 b) (h0 : 0 ≤ t) (h : a * b ≤ t * t) : rt a b ≤ t := by
  obtain ⟨_, a0, a1, a2, a3⟩ := fl_all ha hb
  unfold rt
  split
  · have : fl a b < t := sq_lt a0 h0 (by omega)
    omega
  · have : fl a b < t + 1 := sq_lt a0 (by omega) (by
      have e : (t + 1) * (t + 1) = t * t + 2 * t + 1 := by grind
      omega)
    omega
theorem rt_mono {a b c d : Int} (ha : R64 a) (hb : R64 b) (hc : R64 c) (hd : R64 d) (h : a * b ≤ c * d) : rt a b ≤ rt c d := by
  obtain ⟨c0, _, _, c3⟩ := rt_all hc hd
  exact rt_le ha hb c0 (by omega)
theorem fl_comm {a b : Int} (ha : R64 a) (hb : R64 b) : fl a b = fl b a :=
  Int.le_antisymm (fl_mono ha hb hb ha (by rw [Int.mul_comm a b]; omega)) (fl_mono hb ha ha hb (by rw [Int.mul_comm a b]; omega))
theorem rt_comm {a b : Int} (ha : R64 a) (hb : R64 b) : rt a b = rt b a :=
  Int.le_antisymm (rt_mono ha hb hb ha (by rw [Int.mul_comm a b]; omega)) (rt_mono hb ha ha hb (by rw [Int.mul_comm a b]; omega))
/-! Boxes -/
structure NBk (x : S_Bound) : Prop where
  u : x.Unknown = false
  l : -1073741824 ≤ x.Lo
  m : x.Lo ≤ x.Hi
  h : x.Hi ≤ 1073741824
structure NOk (b : S_Box) : Prop where
  X : NBk b.X
  Y : NBk b.Y
  Z : NBk b.Z
noncomputable instance (x : S_Bound) : Decidable (NBk x) := Classical.propDecidable _
theorem sides_l0 (k : Nat) (b : S_Box) (n : Nat) (i : Int) (x : S_Bound) (i0 : 0 ≤ i) (i1 : i < 3) (hx : rd [b.X, b.Y, b.Z] i = x) : query_sides.l0 k b (n + 1) i = if NBk x then query_sides.l0 k b n (i + 1) else some (Sum.inl ([b.X, b.Y, b.Z], false)) := by
  rw [query_sides.l0, ifp i1, ifp i0, hx]
  by_cases c1 : x.Unknown = true
  · rw [ifp c1, if_neg (fun h => by rw [h.u] at c1; cases c1)]
  rw [ifn c1]
  by_cases c2 : x.Lo > x.Hi
  · rw [ifp c2, if_neg (fun h => by have := h.m; omega)]
  rw [ifn c2]
  by_cases c3 : x.Lo < -1073741824
  · rw [ifp c3, if_neg (fun h => by have := h.l; omega)]
  rw [ifn c3]
  by_cases c4 : x.Hi > 1073741824
  · rw [ifp c4, if_neg (fun h => by have := h.h; omega)]
  rw [ifn c4, if_pos ⟨Bool.eq_false_iff.mpr c1, by omega, by omega, by omega⟩, wid (by omega) (by omega)]
theorem sides_ex (k : Nat) (b : S_Box) (hk : 5 ≤ k) : ∃ t, query_sides k b = some ([b.X, b.Y, b.Z], t) ∧ (t = true ↔ NOk b) := by
  obtain ⟨j, hj⟩ : ∃ j, k = j + 4 := ⟨k - 4, by omega⟩
  unfold query_sides
  suffices h : ∀ k', k' = j + 4 → ∃ t, ((query_sides.l0 k b k' 0).bind fun z_ => Sum.elim (fun y_ => some y_) (fun _ => (some ([b.X, b.Y, b.Z], true))) z_) = some ([b.X, b.Y, b.Z], t) ∧ (t = true ↔ NOk b) from h k hj
  rintro _ rfl
  rw [sides_l0 k b _ 0 b.X (by decide) (by decide) rfl]
  by_cases c1 : NBk b.X
  · rw [if_pos c1, sides_l0 k b _ (0 + 1) b.Y (by decide) (by decide) rfl]
    by_cases c2 : NBk b.Y
    · rw [if_pos c2, sides_l0 k b _ (0 + 1 + 1) b.Z (by decide) (by decide) rfl]
      by_cases c3 : NBk b.Z
      · rw [if_pos c3, query_sides.l0, ifn (by decide)]
        exact ⟨true, rfl, fun _ => ⟨c1, c2, c3⟩, fun _ => rfl⟩
      · rw [if_neg c3]; exact ⟨false, rfl, ⟨fun h => (by cases h), fun h => absurd h.Z c3⟩⟩
    · rw [if_neg c2]; exact ⟨false, rfl, ⟨fun h => (by cases h), fun h => absurd h.Y c2⟩⟩
  · rw [if_neg c1]; exact ⟨false, rfl, ⟨fun h => (by cases h), fun h => absurd h.X c1⟩⟩
def plo (x y : S_Bound) : Int := min (min (min (x.Lo * y.Lo) (x.Lo * y.Hi)) (x.Hi * y.Lo)) (x.Hi * y.Hi)
def phi (x y : S_Bound) : Int := max (max (max (x.Lo * y.Lo) (x.Lo * y.Hi)) (x.Hi * y.Lo)) (x.Hi * y.Hi)
def qlo (x : S_Bound) : Int := if x.Lo > 0 then min (x.Lo * x.Lo) (x.Hi * x.Hi) else if x.Hi < 0 then min (x.Lo * x.Lo) (x.Hi * x.Hi) else 0
def qhi (x : S_Bound) : Int := max (x.Lo * x.Lo) (x.Hi * x.Hi)
theorem mul_bd {a b A B : Int} (h1 : -A ≤ a) (h2 : a ≤ A) (h3 : -B ≤ b) (h4 : b ≤ B) : -(A * B) ≤ a * b ∧ a * b ≤ A * B := by
  have e : (a * b).natAbs = a.natAbs * b.natAbs := Int.natAbs_mul a b
  have l : a.natAbs * b.natAbs ≤ A.toNat * B.toNat := Nat.mul_le_mul (by omega) (by omega)
  have f : ((A.toNat * B.toNat : Nat) : Int) = A * B := by rw [Int.natCast_mul]; congr 1 <;> omega
  omega
theorem b30 {a b : Int} (h1 : -1073741824 ≤ a) (h2 : a ≤ 1073741824) (h3 : -1073741824 ≤ b) (h4 : b ≤ 1073741824) : -1152921504606846976 ≤ a * b ∧ a * b ≤ 1152921504606846976 := by
  have := mul_bd (A := 1073741824) (B := 1073741824) h1 h2 h3 h4
  omega
theorem product_ok (k : Nat) {x y : S_Bound} (hx : NBk x) (hy : NBk y) : query_product k x y = some (plo x y, phi x y) ∧ -1152921504606846976 ≤ plo x y ∧ plo x y ≤ phi x y ∧ phi x y ≤ 1152921504606846976 := by
  have := hx.l; have := hx.m; have := hx.h; have := hy.l; have := hy.m; have := hy.h
  have h1 := b30 (a := x.Lo) (b := y.Lo) (by omega) (by omega) (by omega) (by omega)
  have h2 := b30 (a := x.Lo) (b := y.Hi) (by omega) (by omega) (by omega) (by omega)
  have h3 := b30 (a := x.Hi) (b := y.Lo) (by omega) (by omega) (by omega) (by omega)
  have h4 := b30 (a := x.Hi) (b := y.Hi) (by omega) (by omega) (by omega) (by omega)
  unfold query_product plo phi
  generalize x.Lo * y.Lo = A at *
  generalize x.Lo * y.Hi = B at *
  generalize x.Hi * y.Lo = C at *
  generalize x.Hi * y.Hi = D at *
  rw [wid (x := A) (by omega) (by omega), wid (x := B) (by omega) (by omega), wid (x := C) (by omega) (by omega), wid (x := D) (by omega) (by omega), mn_def, mn_def, mn_def, mx_def, mx_def, mx_def]
  exact ⟨rfl, by omega, by omega, by omega⟩
theorem sq_nn (v : Int) : 0 ≤ v * v := by
  rcases Int.le_total 0 v with g | g
  · exact Int.mul_nonneg g g
  · have := Int.mul_nonneg (show 0 ≤ -v by omega) (show 0 ≤ -v by omega); rw [Int.neg_mul_neg] at this; exact this
theorem square_ok (k : Nat) {x : S_Bound} (hx : NBk x) : query_square k x = some (qlo x, qhi x) ∧ 0 ≤ qlo x ∧ qlo x ≤ qhi x ∧ qhi x ≤ 1152921504606846976 := by
  have := hx.l; have := hx.m; have := hx.h
  have h1 := b30 (a := x.Lo) (b := x.Lo) (by omega) (by omega) (by omega) (by omega)
  have h2 := b30 (a := x.Hi) (b := x.Hi) (by omega) (by omega) (by omega) (by omega)
  have n1 := sq_nn x.Lo
  have n2 := sq_nn x.Hi
  unfold query_square qlo qhi
  generalize x.Lo * x.Lo = A at *
  generalize x.Hi * x.Hi = B at *
  rw [wid (x := A) (by omega) (by omega), wid (x := B) (by omega) (by omega), mn_def, mx_def]
  by_cases c : x.Lo > 0
  · rw [ifp c, ifp c]; exact ⟨rfl, by omega, by omega, by omega⟩
  · rw [ifn c, ifn c]
    by_cases d : x.Hi < 0
    · rw [ifp d, ifp d]; exact ⟨rfl, by omega, by omega, by omega⟩
    · rw [ifn d, ifn d]; exact ⟨rfl, by omega, by omega, by omega⟩
def lea (a b : S_Box) : Int := plo a.X b.X + plo a.Y b.Y + plo a.Z b.Z
def mos (a b : S_Box) : Int := phi a.X b.X + phi a.Y b.Y + phi a.Z b.Z
def low (a : S_Box) : Int := qlo a.X + qlo a.Y + qlo a.Z
def hig (a : S_Box) : Int := qhi a.X + qhi a.Y + qhi a.Z
open Classical in
noncomputable def nearV (a b : S_Box) (cos : Int) : Int :=
  if ¬ (NOk a ∧ NOk b) then 1 else if low a > 0 ∧ low b > 0 ∧ lea a b * 1073741824 ≥ cos * rt (hig a) (hig b) then 2 else if mos a b * 1073741824 < cos * fl (low a) (low b) then 0 else 1
theorem low_ok {a : S_Box} (h : NOk a) : R64 (low a) ∧ R64 (hig a) ∧ low a ≤ hig a ∧ low a ≤ 3458764513820540928 ∧ hig a ≤ 3458764513820540928 := by
  obtain ⟨_, x0, x1, x2⟩ := square_ok 0 h.X
  obtain ⟨_, y0, y1, y2⟩ := square_ok 0 h.Y
  obtain ⟨_, z0, z1, z2⟩ := square_ok 0 h.Z
  unfold R64 low hig
  omega
theorem lea_ok {a b : S_Box} (h : NOk a) (g : NOk b) : -3458764513820540928 ≤ lea a b ∧ lea a b ≤ mos a b ∧ mos a b ≤ 3458764513820540928 := by
  obtain ⟨_, x0, x1, x2⟩ := product_ok 0 h.X g.X
  obtain ⟨_, y0, y1, y2⟩ := product_ok 0 h.Y g.Y
  obtain ⟨_, z0, z1, z2⟩ := product_ok 0 h.Z g.Z
  unfold lea mos
  omega
theorem tail_eq (k : Nat) {a b : S_Box} {cos : Int} (c0 : 0 ≤ cos) (c1 : cos ≤ 1073741824) (h : NOk a) (g : NOk b) (hk : 80 ≤ k) :
    ((num_Product k (mos a b) 1073741824).bind fun vt312 => ((num_SqrtMul k (low a) (low b)).bind fun vt318 => ((num_Product k cos vt318).bind fun vt324 => ((num_Wide_Cmp k vt312 vt324).bind fun vt330 => (if vt330 < 0 then (some 0) else (some 1)))))) = (some (if mos a b * 1073741824 < cos * fl (low a) (low b) then 0 else 1) : Option Int) := by
  obtain ⟨l0, l1, l2⟩ := lea_ok h g
  obtain ⟨a1, a2, _⟩ := low_ok h
  obtain ⟨b1, b2, _⟩ := low_ok g
  obtain ⟨e, f0, f1, _⟩ := fl_all a1 b1
  rw [bnd (product_eq k _ _ (by omega) (by omega) (by omega) (by omega)), bnd (e k (by omega)), bnd (product_eq k _ _ (by omega) (by omega) (by omega) (by omega))]
  obtain ⟨c, ec, h1, h2⟩ := wcmp k (mos a b * 1073741824) (cos * fl (low a) (low b)) (by omega)
  rw [bnd ec]
  by_cases q : c < 0
  · rw [ifp q, if_pos (h1.mp q)]
  · rw [ifn q, if_neg (fun z => q (h1.mpr z))]
theorem near_eq (k : Nat) (a b : S_Box) (cos : Int) (c0 : 0 ≤ cos) (c1 : cos ≤ 1073741824) (hk : 80 ≤ k) : query_Near k a b cos = some (nearV a b cos) := by
  obtain ⟨t, e1, t1⟩ := sides_ex k a (by omega)
  obtain ⟨u, e2, u1⟩ := sides_ex k b (by omega)
  unfold query_Near nearV
  rw [bnd e1]; dsimp only
  rw [bnd e2]; dsimp only
  rw [ifn (by omega), ifn (by omega)]
  by_cases h : NOk a
  · rw [ifn (show ¬ ¬ t = true from fun z => z (t1.mpr h))]
    by_cases g : NOk b
    · rw [ifn (show ¬ ¬ u = true from fun z => z (u1.mpr g)), if_neg (show ¬ ¬ (NOk a ∧ NOk b) from fun z => z ⟨h, g⟩)]
      have q0 : ∀ p q r : S_Bound, List.getD [p, q, r] 0 default = p := fun _ _ _ => rfl
      have q1 : ∀ p q r : S_Bound, List.getD [p, q, r] 1 default = q := fun _ _ _ => rfl
      have q2 : ∀ p q r : S_Bound, List.getD [p, q, r] 2 default = r := fun _ _ _ => rfl
      rw [q0, q1, q2, q0, q1, q2]
      obtain ⟨x1, x2, x3, x4⟩ := product_ok k h.X g.X
      obtain ⟨y1, y2, y3, y4⟩ := product_ok k h.Y g.Y
      obtain ⟨z1, z2, z3, z4⟩ := product_ok k h.Z g.Z
      obtain ⟨p1, p2, p3, p4⟩ := square_ok k h.X
      obtain ⟨p5, p6, p7, p8⟩ := square_ok k h.Y
      obtain ⟨p9, p10, p11, p12⟩ := square_ok k h.Z
      obtain ⟨r1, r2, r3, r4⟩ := square_ok k g.X
      obtain ⟨r5, r6, r7, r8⟩ := square_ok k g.Y
      obtain ⟨r9, r10, r11, r12⟩ := square_ok k g.Z
      rw [bnd x1]; dsimp only
      rw [bnd p1]; dsimp only
      rw [bnd r1]; dsimp only
      rw [bnd y1]; dsimp only
      rw [bnd p5]; dsimp only
      rw [bnd r5]; dsimp only
      rw [bnd z1]; dsimp only
      rw [bnd p9]; dsimp only
      rw [bnd r9]; dsimp only
      have s3 : ∀ p q r : Int, -1152921504606846976 ≤ p → p ≤ 1152921504606846976 → -1152921504606846976 ≤ q → q ≤ 1152921504606846976 → -1152921504606846976 ≤ r → r ≤ 1152921504606846976 → w64 ((w64 ((w64 (0 + p)) + q)) + r) = p + q + r := fun p q r _ _ _ _ _ _ => by
        rw [wid (x := 0 + p) (by omega) (by omega), wid (x := 0 + p + q) (by omega) (by omega), wid (by omega) (by omega)]; omega
      rw [s3 (qhi a.X) _ _ (by omega) (by omega) (by omega) (by omega) (by omega) (by omega), s3 (qhi b.X) _ _ (by omega) (by omega) (by omega) (by omega) (by omega) (by omega), s3 (qlo a.X) _ _ (by omega) (by omega) (by omega) (by omega) (by omega) (by omega), s3 (qlo b.X) _ _ (by omega) (by omega) (by omega) (by omega) (by omega) (by omega),
        s3 (plo a.X b.X) _ _ (by omega) (by omega) (by omega) (by omega) (by omega) (by omega), s3 (phi a.X b.X) _ _ (by omega) (by omega) (by omega) (by omega) (by omega) (by omega)]
      obtain ⟨l0, l1, l2⟩ := lea_ok h g
      obtain ⟨a1, a2, _⟩ := low_ok h
      obtain ⟨b1, b2, _⟩ := low_ok g
      have tl := tail_eq k c0 c1 h g hk
      change (num_SqrtMul k (hig a) (hig b)).bind _ = _
      obtain ⟨e, f0, f1, f2, f3⟩ := fl_all a2 b2
      obtain ⟨m0, m1, m2, m3⟩ := rt_all a2 b2
      rw [bnd (e k (by omega)), bnd (product_eq k _ _ (by omega) (by omega) (by omega) (by omega))]
      change (num_Product k (hig a) (hig b)).bind _ = _
      obtain ⟨a21, a22⟩ := a2
      obtain ⟨b21, b22⟩ := b2
      rw [bnd (product_eq k _ _ (by omega) (by omega) (by omega) (by omega))]
      obtain ⟨c, ec, h1, h2⟩ := wcmp k (fl (hig a) (hig b) * fl (hig a) (hig b)) (hig a * hig b) (by omega)
      rw [bnd ec]
      have er : (if c < 0 then (some (w64 (fl (hig a) (hig b) + 1))) else (some (fl (hig a) (hig b))) : Option Int) = some (rt (hig a) (hig b)) := by
        unfold rt
        by_cases q : c < 0
        · rw [ifp q, if_pos (h1.mp q), wid (by omega) (by omega)]
        · rw [ifn q, if_neg (fun z => q (h1.mpr z))]
      rw [bnd er]
      change (if low a > 0 then (if low b > 0 then ((num_Product k (lea a b) 1073741824).bind _) else _) else _) = _
      by_cases w1 : low a > 0
      · rw [ifp w1]
        by_cases w2 : low b > 0
        · rw [ifp w2, bnd (product_eq k _ _ (by omega) (by omega) (by omega) (by omega)), bnd (product_eq k _ _ (by omega) (by omega) (by omega) (by omega))]
          obtain ⟨d, ed, g1, g2⟩ := wcmp k (lea a b * 1073741824) (cos * rt (hig a) (hig b)) (by omega)
          rw [bnd ed]
          by_cases q : d ≥ 0
          · rw [ifp q, if_pos ⟨w1, w2, g2.mp q⟩]
          · rw [ifn q, if_neg (fun z => q (g2.mpr z.2.2))]
            exact tl
        · rw [ifn w2, if_neg (fun z => w2 z.2.1)]
          exact tl
      · rw [ifn w1, if_neg (fun z => w1 z.1)]
        exact tl
    · rw [ifp (show ¬ u = true from fun z => g (u1.mp z)), if_pos (show ¬ (NOk a ∧ NOk b) from fun z => g z.2)]
  · rw [ifp (show ¬ t = true from fun z => h (t1.mp z)), if_pos (show ¬ (NOk a ∧ NOk b) from fun z => h z.1)]
theorem below_ex (k : Nat) (x n : Int) (h1 : 1 ≤ n) (h2 : n ≤ 4611686018427387904) : ∃ v, spymake_Below k x n = some v ∧ 0 ≤ v ∧ v < n := by
  have e1 := Int.tmod_lt_of_pos x (show 0 < n by omega)
  have e2 := Int.lt_tmod_of_pos x (show 0 < n by omega)
  unfold spymake_Below
  rw [ifn (by omega), ifp (by omega)]
  by_cases c : Int.tmod x n < 0
  · rw [ifp c]
    refine ⟨_, rfl, ?_, ?_⟩ <;> rw [wid (by omega) (by omega)] <;> omega
  · rw [ifn c]
    exact ⟨_, rfl, by omega, by omega⟩
theorem next_ex (k : Nat) (L : List Int) (a n : Int) (h1 : 1 ≤ n) (h2 : n ≤ 4611686018427387904) (a0 : 0 ≤ a) (a1 : a ≤ 4611686018427387904) :
    ∃ v, spymake_Stream_Next k ⟨L, a⟩ n = some (v, a + 1) ∧ 0 ≤ v ∧ v < n := by
  unfold spymake_Stream_Next
  dsimp only
  rw [wid (x := a + 1) (by omega) (by omega)]
  by_cases c : (L.length : Int) = 0
  · rw [ifp c]
    obtain ⟨v, hv, v0, v1⟩ := below_ex k (w64 ((a + 1) * 7919)) n h1 h2
    rw [bnd hv]
    exact ⟨v, rfl, v0, v1⟩
  · rw [ifn c, ifp c, show a + 1 - 1 = a by omega, wid (x := a) (by omega) (by omega)]
    have e1 := Int.tmod_lt_of_pos a (show 0 < (L.length : Int) by omega)
    have e2 : 0 ≤ Int.tmod a (L.length : Int) := Int.tmod_nonneg _ a0
    rw [ifp e2, ifp e1]
    obtain ⟨u, hu, _⟩ := below_ex k (rd L (Int.tmod a (L.length : Int))) 1073741824 (by decide) (by decide)
    rw [bnd hu]
    obtain ⟨v, hv, v0, v1⟩ := below_ex k (w64 (u + (w64 ((w64 (Int.tdiv a (L.length : Int))) * (w64 (7919 + (Int.tmod a (L.length : Int)))))))) n h1 h2
    rw [bnd hv]
    exact ⟨v, rfl, v0, v1⟩
theorem range_ex (k : Nat) (L : List Int) (a lo hi : Int) (h1 : lo ≤ hi) (h2 : hi - lo ≤ 1073741824) (h3 : -4611686018427387904 ≤ lo) (h4 : hi ≤ 4611686018427387904) (a0 : 0 ≤ a) (a1 : a ≤ 4611686018427387904) :
    ∃ v, spymake_Stream_Range k ⟨L, a⟩ lo hi = some (v, a + 1) ∧ lo ≤ v ∧ v ≤ hi := by
  unfold spymake_Stream_Range
  rw [ifn (by omega), wid (x := hi - lo) (by omega) (by omega), wid (x := hi - lo + 1) (by omega) (by omega)]
  obtain ⟨v, hv, v0, v1⟩ := next_ex k L a (hi - lo + 1) (by omega) (by omega) a0 a1
  rw [bnd hv]
  dsimp only
  rw [wid (by omega) (by omega)]
  exact ⟨_, rfl, by omega, by omega⟩
def V20 (v : S_Vec) : Prop := (-1048576 ≤ v.X ∧ v.X ≤ 1048576) ∧ (-1048576 ≤ v.Y ∧ v.Y ≤ 1048576) ∧ (-1048576 ≤ v.Z ∧ v.Z ≤ 1048576) ∧ ¬ (v.X = 0 ∧ v.Y = 0 ∧ v.Z = 0)
theorem zero3 (x y z : Int) : ((x == 0) && ((y == 0) && ((z == 0) && true))) = true ↔ (x = 0 ∧ y = 0 ∧ z = 0) := by simp
theorem qvec_ex (k : Nat) (L : List Int) (a : Int) (a0 : 0 ≤ a) (a1 : a ≤ 1000000) : ∃ v, spymake_Stream_Vec k ⟨L, a⟩ = some (v, a + 1 + 1 + 1 + 1) ∧ V20 v := by
  unfold spymake_Stream_Vec
  obtain ⟨i, h1, i0, i1⟩ := next_ex k L a 4 (by decide) (by decide) (by omega) (by omega)
  rw [bnd h1]; dsimp only
  have hl : AllIn ([3, 100, 5000, 1048576] : List Int) 3 1048576 := by
    intro x hx; simp only [List.mem_cons, List.not_mem_nil, or_false] at hx; omega
  have len : (([3, 100, 5000, 1048576] : List Int).length : Int) = 4 := rfl
  have hv := hl.rd i0 (by rw [len]; omega)
  rw [ifp i0, ifp (by rw [len]; omega)]
  generalize rd ([3, 100, 5000, 1048576] : List Int) i = m at *
  rw [wid (x := 0 - m) (by omega) (by omega)]
  obtain ⟨x, e1, x0, x1⟩ := range_ex k L (a + 1) (0 - m) m (by omega) (by omega) (by omega) (by omega) (by omega) (by omega)
  rw [bnd e1]; dsimp only
  obtain ⟨y, e2, y0, y1⟩ := range_ex k L (a + 1 + 1) (0 - m) m (by omega) (by omega) (by omega) (by omega) (by omega) (by omega)
  rw [bnd e2]; dsimp only
  obtain ⟨z, e3, z0, z1⟩ := range_ex k L (a + 1 + 1 + 1) (0 - m) m (by omega) (by omega) (by omega) (by omega) (by omega) (by omega)
  rw [bnd e3]; dsimp only
  by_cases c : ((x == 0) && ((y == 0) && ((z == 0) && true))) = true
  · rw [ifp c]
    rw [zero3] at c
    exact ⟨_, rfl, by unfold V20; dsimp only; omega⟩
  · rw [ifn c]
    rw [zero3] at c
    exact ⟨_, rfl, by unfold V20; dsimp only; omega⟩
/-- The box of a direction. -/
def PB (v : S_Vec) : S_Box := ⟨⟨v.X, v.X, false⟩, ⟨v.Y, v.Y, false⟩, ⟨v.Z, v.Z, false⟩⟩
def V30 (v : S_Vec) : Prop := (-1073741824 ≤ v.X ∧ v.X ≤ 1073741824) ∧ (-1073741824 ≤ v.Y ∧ v.Y ≤ 1073741824) ∧ (-1073741824 ≤ v.Z ∧ v.Z ≤ 1073741824)
theorem PB_ok {v : S_Vec} (h : V30 v) : NOk (PB v) := by
  obtain ⟨⟨a, b⟩, ⟨c, d⟩, e, f⟩ := h
  exact ⟨⟨rfl, a, by simp [PB], b⟩, ⟨rfl, c, by simp [PB], d⟩, ⟨rfl, e, by simp [PB], f⟩⟩
def dot (v w : S_Vec) : Int := v.X * w.X + v.Y * w.Y + v.Z * w.Z
theorem plo_pt (x y : Int) : plo ⟨x, x, false⟩ ⟨y, y, false⟩ = x * y := by unfold plo; dsimp only; omega
theorem phi_pt (x y : Int) : phi ⟨x, x, false⟩ ⟨y, y, false⟩ = x * y := by unfold phi; dsimp only; omega
theorem qlo_pt (x : Int) : qlo ⟨x, x, false⟩ = x * x := by
  unfold qlo; dsimp only
  by_cases c : x > 0
  · rw [if_pos c]; omega
  · rw [if_neg c]
    by_cases d : x < 0
    · rw [if_pos d]; omega
    · rw [if_neg d, show x = 0 by omega]; rfl
theorem qhi_pt (x : Int) : qhi ⟨x, x, false⟩ = x * x := by unfold qhi; dsimp only; omega
theorem lea_pt (v w : S_Vec) : lea (PB v) (PB w) = dot v w := by unfold lea PB dot; rw [plo_pt, plo_pt, plo_pt]
theorem mos_pt (v w : S_Vec) : mos (PB v) (PB w) = dot v w := by unfold mos PB dot; rw [phi_pt, phi_pt, phi_pt]
theorem low_pt (v : S_Vec) : low (PB v) = dot v v := by unfold low PB dot; rw [qlo_pt, qlo_pt, qlo_pt]
theorem hig_pt (v : S_Vec) : hig (PB v) = dot v v := by unfold hig PB dot; rw [qhi_pt, qhi_pt, qhi_pt]
theorem dot_pos {v : S_Vec} (h : ¬ (v.X = 0 ∧ v.Y = 0 ∧ v.Z = 0)) : 1 ≤ dot v v := by
  unfold dot
  have a := sq_nn v.X; have b := sq_nn v.Y; have c := sq_nn v.Z
  have p : ∀ x : Int, x ≠ 0 → 1 ≤ x * x := fun x hx => by
    have := sq_nn x
    have : x * x ≠ 0 := Int.mul_ne_zero hx hx
    omega
  by_cases x : v.X = 0
  · by_cases y : v.Y = 0
    · have := p v.Z (fun z => h ⟨x, y, z⟩); omega
    · have := p v.Y y; omega
  · have := p v.X x; omega
theorem V20.v30 {v : S_Vec} (h : V20 v) : V30 v := by obtain ⟨a, b, c, _⟩ := h; unfold V30; omega
theorem asked_eq (k : Nat) (h : 100 ≤ k) : spykeep3_asked k = some true := by
  obtain ⟨k, rfl⟩ : ∃ j, k = j + 100 := ⟨k - 100, by omega⟩
  kernel_rfl
/-- A valid bound. -/
structure BOk (b : S_Bound) (M : Int) : Prop where
  un : b.Unknown = true → b.Lo = 0 ∧ b.Hi = 0
  lo : -M ≤ b.Lo
  hi : b.Hi ≤ M
  le : b.Lo ≤ b.Hi
theorem ends_Coord (k : Nat) (b : S_Bound) (M : Int) (h : BOk b M) (m0 : 0 ≤ M) (m1 : M ≤ 1152921504606846976) : catalog_ends_Coord k b M = some 0 := by
  have h1 := h.lo
  have h2 := h.hi
  have h3 := h.le
  have hc : bound_Check_Coord k b = some 0 := by
    unfold bound_Check_Coord
    by_cases c : b.Unknown = true
    · obtain ⟨u, v⟩ := h.un c
      rw [ifp c, ifn (by omega), ifn (by omega), ifn (by rw [mn_def]; omega), ifn (by rw [mx_def]; omega), ifn (by omega)]
    · rw [ifn c, ifn (by rw [mn_def]; omega), ifn (by rw [mx_def]; omega), ifn (by omega)]
  unfold catalog_ends_Coord
  rw [bnd hc, ifn (by decide), wid (by omega) (by omega), ifn (by omega), ifn (by omega)]
theorem ends_Quanta (k : Nat) (b : S_Bound) (M : Int) (h : BOk b M) (m0 : 0 ≤ M) (m1 : M ≤ 1152921504606846976) : catalog_ends_Quanta k b M = some 0 := by
  have h1 := h.lo
  have h2 := h.hi
  have h3 := h.le
  have hc : bound_Check_Quanta k b = some 0 := by
    unfold bound_Check_Quanta
    by_cases c : b.Unknown = true
    · obtain ⟨u, v⟩ := h.un c
      rw [ifp c, ifn (by omega), ifn (by omega), ifn (by rw [mn_def]; omega), ifn (by rw [mx_def]; omega), ifn (by omega)]
    · rw [ifn c, ifn (by rw [mn_def]; omega), ifn (by rw [mx_def]; omega), ifn (by omega)]
  unfold catalog_ends_Quanta
  rw [bnd hc, ifn (by decide), wid (by omega) (by omega), ifn (by omega), ifn (by omega)]
theorem ends_Tick (k : Nat) (b : S_Bound) (M : Int) (h : BOk b M) (m0 : 0 ≤ M) (m1 : M ≤ 1152921504606846976) : catalog_ends_Tick k b M = some 0 := by
  have h1 := h.lo
  have h2 := h.hi
  have h3 := h.le
  have hc : bound_Check_Tick k b = some 0 := by
    unfold bound_Check_Tick
    by_cases c : b.Unknown = true
    · obtain ⟨u, v⟩ := h.un c
      rw [ifp c, ifn (by omega), ifn (by omega), ifn (by rw [mn_def]; omega), ifn (by rw [mx_def]; omega), ifn (by omega)]
    · rw [ifn c, ifn (by rw [mn_def]; omega), ifn (by rw [mx_def]; omega), ifn (by omega)]
  unfold catalog_ends_Tick
  rw [bnd hc, ifn (by decide), wid (by omega) (by omega), ifn (by omega), ifn (by omega)]
theorem rd_at {α : Type} [Inhabited α] {l pre post : List α} {x : α} {i : Int} (hl : l = pre ++ x :: post) (hi : i = (pre.length : Int)) : rd l i = x := by
  subst hl hi
  obtain ⟨h, e⟩ := rd_lt (xs := pre ++ x :: post) (i := (pre.length : Int)) (by omega) (by simp; omega)
  rw [e]
  simp
theorem pw_rd {α : Type} [Inhabited α] {R : α → α → Prop} {l : List α} (h : l.Pairwise R) {i j : Int} (i0 : 0 ≤ i) (ij : i < j) (jl : j < (l.length : Int)) : R (rd l i) (rd l j) := by
  obtain ⟨hi, ei⟩ := rd_lt (xs := l) i0 (by omega)
  obtain ⟨hj, ej⟩ := rd_lt (xs := l) (show 0 ≤ j by omega) jl
  rw [ei, ej]
  exact List.pairwise_iff_getElem.mp h _ _ hi hj (by omega)
theorem vec_ex (k : Nat) (L : List Int) (a : Int) (a0 : 0 ≤ a) (a1 : a ≤ 1000000) : ∃ v a', spymake_Stream_Vec k ⟨L, a⟩ = some (v, a') ∧ a ≤ a' ∧ a' ≤ a + 4 ∧ (-1048576 ≤ v.X ∧ v.X ≤ 1048576) ∧ (-1048576 ≤ v.Y ∧ v.Y ≤ 1048576) ∧ (-1048576 ≤ v.Z ∧ v.Z ≤ 1048576) := by
  unfold spymake_Stream_Vec
  obtain ⟨i, h1, i0, i1⟩ := next_ex k L a 4 (by decide) (by decide) (by omega) (by omega)
  rw [bnd h1]; dsimp only
  have hl : AllIn ([3, 100, 5000, 1048576] : List Int) 3 1048576 := by
    intro x hx; simp only [List.mem_cons, List.not_mem_nil, or_false] at hx; omega
  have len : (([3, 100, 5000, 1048576] : List Int).length : Int) = 4 := rfl
  have hv := hl.rd i0 (by rw [len]; omega)
  rw [ifp i0, ifp (by rw [len]; omega)]
  generalize rd ([3, 100, 5000, 1048576] : List Int) i = m at *
  rw [wid (x := 0 - m) (by omega) (by omega)]
  obtain ⟨x, e1, x0, x1⟩ := range_ex k L (a + 1) (0 - m) m (by omega) (by omega) (by omega) (by omega) (by omega) (by omega)
  rw [bnd e1]; dsimp only
  obtain ⟨y, e2, y0, y1⟩ := range_ex k L (a + 1 + 1) (0 - m) m (by omega) (by omega) (by omega) (by omega) (by omega) (by omega)
  rw [bnd e2]; dsimp only
  obtain ⟨z, e3, z0, z1⟩ := range_ex k L (a + 1 + 1 + 1) (0 - m) m (by omega) (by omega) (by omega) (by omega) (by omega) (by omega)
  rw [bnd e3]; dsimp only
  by_cases c : ((x == 0) && ((y == 0) && ((z == 0) && true))) = true
  · rw [ifp c]
    refine ⟨_, _, rfl, by omega, by omega, ⟨?_, ?_⟩, ⟨?_, ?_⟩, ⟨?_, ?_⟩⟩ <;> dsimp only <;> omega
  · rw [ifn c]
    refine ⟨_, _, rfl, by omega, by omega, ⟨?_, ?_⟩, ⟨?_, ?_⟩, ⟨?_, ?_⟩⟩ <;> dsimp only <;> omega
theorem side_ex (k : Nat) (L : List Int) (a m c : Int) (a0 : 0 ≤ a) (a1 : a ≤ 1000010) (m0 : 0 ≤ m) (m1 : m ≤ 262144) (c0 : -1048576 ≤ c) (c1 : c ≤ 1048576) : ∃ b, spymake_Stream_Box_1 k ⟨L, a⟩ m c = some (b, a + 1 + 1) ∧ BOk b 1073741824 := by
  unfold spymake_Stream_Box_1
  rw [wid (x := m + 1) (by omega) (by omega)]
  obtain ⟨u, h1, u0, u1⟩ := next_ex k L a (m + 1) (by omega) (by omega) (by omega) (by omega)
  rw [bnd h1]; dsimp only
  obtain ⟨v, h2, v0, v1⟩ := next_ex k L (a + 1) (m + 1) (by omega) (by omega) (by omega) (by omega)
  rw [bnd h2]; dsimp only
  rw [wid (by omega) (by omega), wid (by omega) (by omega)]
  exact ⟨_, rfl, ⟨fun h => (by cases h), by dsimp only; omega, by dsimp only; omega, by dsimp only; omega⟩⟩
theorem none_ok {M : Int} (h : 0 ≤ M) : BOk ⟨0, 0, true⟩ M := ⟨fun _ => ⟨rfl, rfl⟩, by dsimp only; omega, by dsimp only; omega, by dsimp only; omega⟩
structure XOk (b : S_Box) : Prop where
  x : BOk b.X 1073741824
  y : BOk b.Y 1073741824
  z : BOk b.Z 1073741824
theorem box_ex (k : Nat) (L : List Int) (a : Int) (a0 : 0 ≤ a) (a1 : a ≤ 999990) : ∃ b a', spymake_Stream_Box k ⟨L, a⟩ = some (b, a') ∧ a ≤ a' ∧ a' ≤ a + 12 ∧ XOk b := by
  unfold spymake_Stream_Box
  obtain ⟨v, b, e, b0, b1, hx, hy, hz⟩ := vec_ex k L a a0 (by omega)
  rw [bnd e]; dsimp only
  obtain ⟨i, h1, i0, i1⟩ := next_ex k L b 10 (by decide) (by decide) (by omega) (by omega)
  rw [bnd h1]; dsimp only
  by_cases c : i = 0
  · rw [ifp c]
    exact ⟨_, _, rfl, by omega, by omega, none_ok (by decide), none_ok (by decide), none_ok (by decide)⟩
  · rw [ifn c]
    obtain ⟨j, h2, j0, j1⟩ := next_ex k L (b + 1) 4 (by decide) (by decide) (by omega) (by omega)
    rw [bnd h2]; dsimp only
    have hl : AllIn ([0, 2, 300, 262144] : List Int) 0 262144 := by
      intro x hx; simp only [List.mem_cons, List.not_mem_nil, or_false] at hx; omega
    have len : (([0, 2, 300, 262144] : List Int).length : Int) = 4 := rfl
    have hv := hl.rd j0 (by rw [len]; omega)
    rw [ifp j0, ifp (by rw [len]; omega)]
    generalize rd ([0, 2, 300, 262144] : List Int) j = m at *
    obtain ⟨x, e1, x1⟩ := side_ex k L (b + 1 + 1) m v.X (by omega) (by omega) hv.1 hv.2 hx.1 hx.2
    rw [bnd e1]; dsimp only
    obtain ⟨y, e2, y1⟩ := side_ex k L (b + 1 + 1 + 1 + 1) m v.Y (by omega) (by omega) hv.1 hv.2 hy.1 hy.2
    rw [bnd e2]; dsimp only
    obtain ⟨z, e3, z1⟩ := side_ex k L (b + 1 + 1 + 1 + 1 + 1 + 1) m v.Z (by omega) (by omega) hv.1 hv.2 hz.1 hz.2
    rw [bnd e3]; dsimp only
    exact ⟨_, _, rfl, by omega, by omega, x1, y1, z1⟩
/-- A valid row. -/
structure RV (r : S_Row) : Prop where
  id1 : 1 ≤ r.ID
  id2 : r.ID ≤ 2147483647
  box : XOk r.Box
  flux : BOk r.Flux 1125899906842624
  when_ : BOk r.When 17592186044416
  fr : r.Frames.Pairwise (· < ·)
  fi : AllIn r.Frames 1 1048576
  l1 : 1 ≤ r.Frames.length
  l2 : r.Frames.length ≤ 8
  m0 : 0 ≤ r.Marks
  m1 : r.Marks ≤ 3
theorem or_ex (k : Nat) (h : 3 ≤ k) : cmp_Or_Errno k [0, 0] = some 0 := by
  obtain ⟨k, rfl⟩ : ∃ j, k = j + 3 := ⟨k - 3, by omega⟩
  kernel_rfl
theorem check_l1 (k : Nat) (r : S_Row) (hr : RV r) : ∀ (d m : Nat) (i : Int), i + d = (r.Frames.length : Int) → 0 ≤ i → d < m → catalog_CheckRow.l1 k r m i = some (Sum.inr ()) := by
  intro d
  have hl2 := hr.l2
  induction d with
  | zero =>
    intro m i hi i0 hm
    obtain ⟨m, rfl⟩ : ∃ q, m = q + 1 := ⟨m - 1, by omega⟩
    rw [catalog_CheckRow.l1, ifn (by omega)]
  | succ d ih =>
    intro m i hi i0 hm
    obtain ⟨m, rfl⟩ : ∃ q, m = q + 1 := ⟨m - 1, by omega⟩
    have hf := hr.fi.rd i0 (show i < (r.Frames.length : Int) by omega)
    rw [catalog_CheckRow.l1, ifp (by omega), ifp i0, ifn (by omega), ifn (by omega)]
    have hn := ih m (i + 1) (by omega) (by omega) (by omega)
    by_cases c : i > 0
    · have hp := pw_rd hr.fr (i := i - 1) (j := i) (by omega) (by omega) (by omega)
      rw [ifp c, wid (x := i - 1) (by omega) (by omega), ifp (by omega), ifp (by omega), ifn (by omega), wid (by omega) (by omega)]
      exact hn
    · rw [ifn c, wid (by omega) (by omega)]
      exact hn
theorem checkRow_ex (k : Nat) (r : S_Row) (hr : RV r) (hk : 10 ≤ k) : catalog_CheckRow k r = some 0 := by
  unfold catalog_CheckRow
  have h1 := hr.id1
  have h2 := hr.id2
  have l1 := hr.l1
  have l2 := hr.l2
  have m0 := hr.m0
  have m1 := hr.m1
  have hl0 : catalog_CheckRow.l0 k r k 0 = some (Sum.inr ()) := by
    obtain ⟨m, rfl⟩ : ∃ q, k = q + 4 := ⟨k - 4, by omega⟩
    rw [catalog_CheckRow.l0, ifp (by decide), ifp (by decide)]
    show (catalog_ends_Coord _ r.Box.X 1073741824).bind _ = _
    rw [bnd (ends_Coord _ _ _ hr.box.x (by decide) (by decide)), ifn (by decide), show w64 (0 + 1) = 1 from rfl, catalog_CheckRow.l0, ifp (by decide), ifp (by decide)]
    show (catalog_ends_Coord _ r.Box.Y 1073741824).bind _ = _
    rw [bnd (ends_Coord _ _ _ hr.box.y (by decide) (by decide)), ifn (by decide), show w64 (1 + 1) = 2 from rfl, catalog_CheckRow.l0, ifp (by decide), ifp (by decide)]
    show (catalog_ends_Coord _ r.Box.Z 1073741824).bind _ = _
    rw [bnd (ends_Coord _ _ _ hr.box.z (by decide) (by decide)), ifn (by decide), show w64 (2 + 1) = 3 from rfl, catalog_CheckRow.l0, ifn (by decide)]
  rw [ifn (by omega), ifn (by omega), bnd hl0]
  show (catalog_ends_Quanta _ _ _).bind _ = _
  rw [bnd (ends_Quanta _ _ _ hr.flux (by decide) (by decide)), bnd (ends_Tick _ _ _ hr.when_ (by decide) (by decide)), bnd (or_ex k (by omega)), ifn (by decide), ifn (by omega), ifn (by omega), bnd (check_l1 k r hr r.Frames.length k 0 (by omega) (by decide) (by omega))]
  show (if r.Marks < 0 then _ else _) = _
  rw [ifn (by omega), ifn (by omega)]
theorem bq_ex (k : Nat) (L : List Int) (a : Int) (a0 : 0 ≤ a) (a1 : a ≤ 1000010) : ∃ b a', spymake_Bound_Quanta k ⟨L, a⟩ 1000 = some (b, a') ∧ a ≤ a' ∧ a' ≤ a + 3 ∧ BOk b 1125899906842624 := by
  unfold spymake_Bound_Quanta
  obtain ⟨i, h1, i0, i1⟩ := next_ex k L a 8 (by decide) (by decide) (by omega) (by omega)
  rw [bnd h1]; dsimp only
  rw [show w64 (0 - 1000) = -1000 from rfl]
  by_cases c : i = 0
  · rw [ifp c]; exact ⟨_, _, rfl, by omega, by omega, none_ok (by decide)⟩
  · rw [ifn c]
    obtain ⟨u, h2, u0, u1⟩ := range_ex k L (a + 1) (-1000) 1000 (by omega) (by omega) (by omega) (by omega) (by omega) (by omega)
    by_cases c : i = 1
    · rw [ifp c, bnd h2]; exact ⟨_, _, rfl, by omega, by omega, fun h => (by cases h), by dsimp only; omega, by dsimp only; omega, by dsimp only; omega⟩
    · rw [ifn c, bnd h2]; dsimp only
      obtain ⟨v, h3, v0, v1⟩ := range_ex k L (a + 1 + 1) (-1000) 1000 (by omega) (by omega) (by omega) (by omega) (by omega) (by omega)
      rw [bnd h3]; dsimp only
      rw [mn_def, mx_def]
      exact ⟨_, _, rfl, by omega, by omega, fun h => (by cases h), by dsimp only; omega, by dsimp only; omega, by dsimp only; omega⟩
theorem bt_ex (k : Nat) (L : List Int) (a : Int) (a0 : 0 ≤ a) (a1 : a ≤ 1000010) : ∃ b a', spymake_Bound_Tick k ⟨L, a⟩ 5000 = some (b, a') ∧ a ≤ a' ∧ a' ≤ a + 3 ∧ BOk b 17592186044416 := by
  unfold spymake_Bound_Tick
  obtain ⟨i, h1, i0, i1⟩ := next_ex k L a 8 (by decide) (by decide) (by omega) (by omega)
  rw [bnd h1]; dsimp only
  rw [show w64 (0 - 5000) = -5000 from rfl]
  by_cases c : i = 0
  · rw [ifp c]; exact ⟨_, _, rfl, by omega, by omega, none_ok (by decide)⟩
  · rw [ifn c]
    obtain ⟨u, h2, u0, u1⟩ := range_ex k L (a + 1) (-5000) 5000 (by omega) (by omega) (by omega) (by omega) (by omega) (by omega)
    by_cases c : i = 1
    · rw [ifp c, bnd h2]; exact ⟨_, _, rfl, by omega, by omega, fun h => (by cases h), by dsimp only; omega, by dsimp only; omega, by dsimp only; omega⟩
    · rw [ifn c, bnd h2]; dsimp only
      obtain ⟨v, h3, v0, v1⟩ := range_ex k L (a + 1 + 1) (-5000) 5000 (by omega) (by omega) (by omega) (by omega) (by omega) (by omega)
      rw [bnd h3]; dsimp only
      rw [mn_def, mx_def]
      exact ⟨_, _, rfl, by omega, by omega, fun h => (by cases h), by dsimp only; omega, by dsimp only; omega, by dsimp only; omega⟩
theorem row_l0 (k : Nat) (L : List Int) (v0 n : Int) (n1 : n ≤ 3) : ∀ (d m : Nat) (q i a : Int) (F : List Int), i + d = n → 0 ≤ i → d < m → 0 ≤ a → a + d ≤ 1000100 → (F.length : Int) = i → 0 ≤ q → q ≤ 50 * i → F.Pairwise (· < ·) → AllIn F 1 q →
    ∃ a' F', spymake_Stream_Row.l0 k n ⟨L, v0⟩ m q i a F = some (a', F') ∧ a' = a + d ∧ (F'.length : Int) = n ∧ F'.Pairwise (· < ·) ∧ AllIn F' 1 1048576 := by
  intro d
  induction d with
  | zero =>
    intro m q i a F hi i0 hm a0 a1 hF q0 q1 hp hA
    obtain ⟨m, rfl⟩ : ∃ z, m = z + 1 := ⟨m - 1, by omega⟩
    rw [spymake_Stream_Row.l0, ifn (by omega)]
    exact ⟨_, _, rfl, by omega, by omega, hp, hA.mono (by omega) (by omega)⟩
  | succ d ih =>
    intro m q i a F hi i0 hm a0 a1 hF q0 q1 hp hA
    obtain ⟨m, rfl⟩ : ∃ z, m = z + 1 := ⟨m - 1, by omega⟩
    rw [spymake_Stream_Row.l0, ifp (by omega)]
    obtain ⟨v, h2, v0, v1⟩ := range_ex k L a 1 50 (by omega) (by omega) (by omega) (by omega) (by omega) (by omega)
    rw [bnd h2]; dsimp only
    rw [ifp (by omega), wid (x := q + v) (by omega) (by omega), wid (x := i + 1) (by omega) (by omega)]
    obtain ⟨a', F', e, e1, e2⟩ := ih m (q + v) (i + 1) (a + 1) (F ++ [q + v]) (by omega) (by omega) (by omega) (by omega) (by omega) (by rw [List.length_append, List.length_cons, List.length_nil]; omega) (by omega) (by omega)
      (List.pairwise_append.mpr ⟨hp, List.pairwise_singleton _ _, fun x hx y hy => by
        simp only [List.mem_singleton] at hy
        have := hA x hx
        omega⟩) ((hA.mono (by omega) (by omega)).push (by omega) (by omega))
    exact ⟨a', F', e, by omega, e2⟩
theorem row_l0_any (k : Nat) (L : List Int) (v0 v1 n : Int) : ∀ (m : Nat) (q i a : Int) (F : List Int), spymake_Stream_Row.l0 k n ⟨L, v0⟩ m q i a F = spymake_Stream_Row.l0 k n ⟨L, v1⟩ m q i a F := by
  intro m
  induction m with
  | zero => intro q i a F; rfl
  | succ m ih =>
    intro q i a F
    rw [spymake_Stream_Row.l0, spymake_Stream_Row.l0]
    simp only [ih]
theorem row_ex (k : Nat) (L : List Int) (a i : Int) (a0 : 0 ≤ a) (a1 : a ≤ 999900) (i0 : 1 ≤ i) (i1 : i ≤ 2147483647) (hk : 10 ≤ k) : ∃ r a', spymake_Stream_Row k ⟨L, a⟩ i = some (r, a') ∧ a ≤ a' ∧ a' ≤ a + 24 ∧ RV r ∧ r.ID = i := by
  unfold spymake_Stream_Row
  obtain ⟨b, p1, e1, p10, p11, hb⟩ := box_ex k L a (by omega) (by omega)
  rw [bnd e1]; dsimp only
  obtain ⟨fx, p2, e2, p20, p21, hf⟩ := bq_ex k L p1 (by omega) (by omega)
  rw [bnd e2]; dsimp only
  obtain ⟨w, p3, e3, p30, p31, hw⟩ := bt_ex k L p2 (by omega) (by omega)
  rw [bnd e3]; dsimp only
  obtain ⟨mk, e4, m0, m1⟩ := next_ex k L p3 4 (by decide) (by decide) (by omega) (by omega)
  rw [bnd e4]; dsimp only
  obtain ⟨n, e5, n0, n1⟩ := range_ex k L (p3 + 1) 1 3 (by omega) (by omega) (by omega) (by omega) (by omega) (by omega)
  rw [bnd e5]; dsimp only
  obtain ⟨a', F, e6, g1, g2, g3, g4⟩ := row_l0 k L (p3 + 1 + 1) n n1 n.toNat k 0 0 (p3 + 1 + 1) [] (by omega) (by omega) (by omega) (by omega) (by omega) rfl (by omega) (by omega) List.Pairwise.nil AllIn.nil
  have e6' : spymake_Stream_Row.l0 k n ⟨L, a⟩ k 0 0 (p3 + 1 + 1) [] = some (a', F) := by
    rw [← e6]
    exact row_l0_any k L a (p3 + 1 + 1) n k 0 0 (p3 + 1 + 1) []
  rw [bnd e6']; dsimp only
  exact ⟨_, _, rfl, by omega, by omega, ⟨i0, i1, hb, hf, hw, g3, g4, by dsimp only; omega, by dsimp only; omega, m0, by dsimp only; omega⟩, rfl⟩
def RowsOk (l : List S_Row) : Prop := l.Pairwise (fun x y => x.ID < y.ID) ∧ ∀ r, r ∈ l → RV r
theorem RowsOk.nil : RowsOk [] := ⟨List.Pairwise.nil, fun r h => by cases h⟩
theorem rows_l0 (k : Nat) (L : List Int) (v0 n : Int) (hk : 10 ≤ k) (n1 : n ≤ 100) : ∀ (d m : Nat) (out : List S_Row) (q i a : Int), i + d = n → 0 ≤ i → d < m → 0 ≤ a → a + 25 * d ≤ 999000 → (out.length : Int) = i → 0 ≤ q → q ≤ 4 * i → RowsOk out → (∀ r, r ∈ out → r.ID ≤ q) →
    ∃ out' a', spymake_Stream_Rows.l0 k n ⟨L, v0⟩ m out q i a = some (out', a') ∧ a ≤ a' ∧ a' ≤ a + 25 * d ∧ (out'.length : Int) = n ∧ RowsOk out' ∧ ∀ r, r ∈ out' → r.ID ≤ 4 * n := by
  intro d
  induction d with
  | zero =>
    intro m out q i a hi i0 hm a0 a1 ho q0 q1 hr hq
    obtain ⟨m, rfl⟩ : ∃ z, m = z + 1 := ⟨m - 1, by omega⟩
    rw [spymake_Stream_Rows.l0, ifn (by omega)]
    exact ⟨_, _, rfl, by omega, by omega, by omega, hr, fun r h => by have := hq r h; omega⟩
  | succ d ih =>
    intro m out q i a hi i0 hm a0 a1 ho q0 q1 hr hq
    obtain ⟨m, rfl⟩ : ∃ z, m = z + 1 := ⟨m - 1, by omega⟩
    rw [spymake_Stream_Rows.l0, ifp (by omega)]
    obtain ⟨v, h2, v0, v1⟩ := range_ex k L a 1 4 (by omega) (by omega) (by omega) (by omega) (by omega) (by omega)
    rw [bnd h2]; dsimp only
    rw [wid (x := q + v) (by omega) (by omega), wid (x := i + 1) (by omega) (by omega)]
    obtain ⟨r, b, h3, b0, b1, hv, hid⟩ := row_ex k L (a + 1) (q + v) (by omega) (by omega) (by omega) (by omega) hk
    rw [bnd h3]; dsimp only
    rw [ifp (by omega)]
    obtain ⟨out', a', e, e1, e2, e3⟩ := ih m (out ++ [r]) (q + v) (i + 1) b (by omega) (by omega) (by omega) (by omega) (by omega) (by rw [List.length_append, List.length_cons, List.length_nil]; omega) (by omega) (by omega)
      ⟨List.pairwise_append.mpr ⟨hr.1, List.pairwise_singleton _ _, fun x hx y hy => by
        simp only [List.mem_singleton] at hy
        have := hq x hx
        subst hy
        omega⟩, fun x hx => by
          rcases List.mem_append.mp hx with hx | hx
          · exact hr.2 x hx
          · simp only [List.mem_singleton] at hx; subst hx; exact hv⟩
      (fun x hx => by
          rcases List.mem_append.mp hx with hx | hx
          · have := hq x hx; omega
          · simp only [List.mem_singleton] at hx; subst hx; omega)
    exact ⟨out', a', e, by omega, by omega, e3⟩
theorem rows_l0_any (k : Nat) (L : List Int) (v0 v1 n : Int) : ∀ (m : Nat) (out : List S_Row) (q i a : Int), spymake_Stream_Rows.l0 k n ⟨L, v0⟩ m out q i a = spymake_Stream_Rows.l0 k n ⟨L, v1⟩ m out q i a := by
  intro m
  induction m with
  | zero => intro out q i a; rfl
  | succ m ih =>
    intro out q i a
    rw [spymake_Stream_Rows.l0, spymake_Stream_Rows.l0]
    simp only [ih]
theorem rows_ex (k : Nat) (L : List Int) (a most : Int) (a0 : 0 ≤ a) (a1 : a ≤ 900000) (m0 : 0 ≤ most) (m1 : most ≤ 20) (hk : 100 ≤ k) :
    ∃ l a', spymake_Stream_Rows k ⟨L, a⟩ most = some (l, a') ∧ a ≤ a' ∧ a' ≤ a + 600 ∧ (l.length : Int) ≤ most ∧ RowsOk l ∧ ∀ r, r ∈ l → r.ID ≤ 100 := by
  unfold spymake_Stream_Rows
  rw [wid (x := most + 1) (by omega) (by omega)]
  obtain ⟨n, e1, n0, n1⟩ := next_ex k L a (most + 1) (by omega) (by omega) (by omega) (by omega)
  rw [bnd e1]; dsimp only
  obtain ⟨l, a', e2, b0, b1, hl, hr, hi⟩ := rows_l0 k L a n (by omega) (by omega) n.toNat k [] 0 0 (a + 1) (by omega) (by omega) (by omega) (by omega) (by omega) rfl (by omega) (by omega) RowsOk.nil (fun r h => by cases h)
  rw [bnd e2]
  exact ⟨l, a', rfl, by omega, by omega, by omega, hr, fun r h => by have := hi r h; omega⟩
/-! lists of rows -/
theorem check_l0 (k : Nat) (l : List S_Row) (hl : RowsOk l) (hk : 10 ≤ k) (hL : (l.length : Int) ≤ 200) : ∀ (d m : Nat) (i : Int), i + d = (l.length : Int) → 0 ≤ i → d < m → catalog_Check.l0 k l m i = some (Sum.inr ()) := by
  intro d
  induction d with
  | zero =>
    intro m i hi i0 hm
    obtain ⟨m, rfl⟩ : ∃ q, m = q + 1 := ⟨m - 1, by omega⟩
    rw [catalog_Check.l0, ifn (by omega)]
  | succ d ih =>
    intro m i hi i0 hm
    obtain ⟨m, rfl⟩ : ∃ q, m = q + 1 := ⟨m - 1, by omega⟩
    have hv := hl.2 _ (rd_mem i0 (show i < (l.length : Int) by omega))
    rw [catalog_Check.l0, ifp (by omega), ifp i0, bnd (checkRow_ex k _ hv hk), ifn (by decide)]
    have hn := ih m (i + 1) (by omega) (by omega) (by omega)
    by_cases c : i > 0
    · have hp := pw_rd hl.1 (i := i - 1) (j := i) (by omega) (by omega) (by omega)
      rw [ifp c, wid (x := i - 1) (by omega) (by omega), ifp (by omega), ifp (by omega), ifn (by omega), wid (by omega) (by omega)]
      exact hn
    · rw [ifn c, wid (by omega) (by omega)]
      exact hn
theorem checkl_ex (k : Nat) (l : List S_Row) (hl : RowsOk l) (hk : 300 ≤ k) (hL : (l.length : Int) ≤ 200) : catalog_Check k l = some 0 := by
  unfold catalog_Check
  rw [ifn (by omega), bnd (check_l0 k l hl (by omega) hL l.length k 0 (by omega) (by omega) (by omega))]
  rfl
structure CV (c : S_Cone) : Prop where
  at_ : V20 c.At
  c0 : 0 ≤ c.Cos
  c1 : c.Cos ≤ 1073741824
/-- A valid question. -/
structure AV (q : S_Ask) : Prop where
  n : (q.Cones.length : Int) ≤ 3
  c : ∀ c, c ∈ q.Cones → CV c
  f0 : -6000 ≤ q.From
  ft : q.From ≤ q.To
  t1 : q.To ≤ 17592186044416
  l0 : 0 ≤ q.Least
  l1 : q.Least ≤ 1000
  b0 : 0 ≤ q.Ban
  b1 : q.Ban ≤ 3
theorem pow29 (u : Int) (h0 : 1 ≤ u) (h1 : u ≤ 29) : 1 ≤ w64 (1 * 2 ^ (min u.toNat 64)) ∧ w64 (1 * 2 ^ (min u.toNat 64)) ≤ 536870912 := by
  have e : min u.toNat 64 = u.toNat := by omega
  have p0 : (0 : Int) < 2 ^ u.toNat := Int.pow_pos (by decide)
  have p1 : (2 : Nat) ^ u.toNat ≤ 2 ^ 29 := Nat.pow_le_pow_right (by decide) (by omega)
  have p2 : (2 : Int) ^ u.toNat ≤ 536870912 := by
    have : (((2 : Nat) ^ u.toNat : Nat) : Int) ≤ ((2 ^ 29 : Nat) : Int) := Int.ofNat_le.mpr p1
    rw [Int.natCast_pow] at this
    exact this
  rw [e, Int.one_mul, wid (by omega) (by omega)]
  omega
theorem cone_push {l : List S_Cone} {c : S_Cone} (h : ∀ x, x ∈ l → CV x) (hc : CV c) : ∀ x, x ∈ l ++ [c] → CV x := by
  intro x hx
  rcases List.mem_append.mp hx with hx | hx
  · exact h x hx
  · simp only [List.mem_singleton] at hx; rw [hx]; exact hc
theorem push_l {l : List S_Cone} {c : S_Cone} {n : Int} (h : (l.length : Int) = n) : ((l ++ [c]).length : Int) = n + 1 := by simp; omega
theorem ask_l0 (k : Nat) (L : List Int) (v0 n : Int) (rows : List S_Row) (hr : RowsOk rows) (hrl : (rows.length : Int) ≤ 20) (n1 : n ≤ 2) : ∀ (d m : Nat) (i a : Int) (C : List S_Cone), i + d = n → 0 ≤ i → d < m → 0 ≤ a → a + 10 * d ≤ 900000 → (C.length : Int) = i → (∀ c, c ∈ C → CV c) →
    ∃ a' C', spykeep3_Ask.l0 k n ⟨L, v0⟩ rows m i a C = some (a', C') ∧ a ≤ a' ∧ a' ≤ a + 10 * d ∧ (C'.length : Int) = n ∧ ∀ c, c ∈ C' → CV c := by
  intro d
  induction d with
  | zero =>
    intro m i a C hi i0 hm a0 a1 hC hA
    obtain ⟨m, rfl⟩ : ∃ z, m = z + 1 := ⟨m - 1, by omega⟩
    rw [spykeep3_Ask.l0, ifn (by omega)]
    exact ⟨_, _, rfl, by omega, by omega, by omega, hA⟩
  | succ d ih =>
    intro m i a C hi i0 hm a0 a1 hC hA
    obtain ⟨m, rfl⟩ : ∃ z, m = z + 1 := ⟨m - 1, by omega⟩
    rw [spykeep3_Ask.l0, ifp (by omega)]
    obtain ⟨v, e1, hv⟩ := qvec_ex k L a a0 (by omega)
    rw [bnd e1]; dsimp only
    obtain ⟨s, e2, s0, s1⟩ := next_ex k L (a + 1 + 1 + 1 + 1) 1073741825 (by decide) (by decide) (by omega) (by omega)
    rw [bnd e2]; dsimp only
    have go : ∀ (b : Int) (c : S_Cone), CV c → a ≤ b → b ≤ a + 10 → ∃ a' C', (if (C.length + 1) * 32 ≤ 140737488355328 then (spykeep3_Ask.l0 k n ⟨L, v0⟩ rows m (w64 (i + 1)) b (C ++ ([c] : List S_Cone))) else none) = some (a', C') ∧ a ≤ a' ∧ a' ≤ a + 10 * ((d + 1 : Nat) : Int) ∧ (C'.length : Int) = n ∧ ∀ c, c ∈ C' → CV c := by
      intro b c hc b0 b1
      rw [ifp (by omega), wid (x := i + 1) (by omega) (by omega)]
      obtain ⟨a', C', e, g1, g2, g3, g4⟩ := ih m (i + 1) b (C ++ [c]) (by omega) (by omega) (by omega) (by omega) (by omega) (push_l hC) (cone_push hA hc)
      exact ⟨a', C', e, by omega, by omega, g3, g4⟩
    have hc1 : CV ⟨v, s⟩ := ⟨hv, s0, by dsimp only; omega⟩
    by_cases c1 : (rows.length : Int) > 0
    · rw [ifp c1]
      obtain ⟨p, e3, p0, p1⟩ := next_ex k L (a + 1 + 1 + 1 + 1 + 1) 3 (by decide) (by decide) (by omega) (by omega)
      rw [bnd e3]; dsimp only
      by_cases c2 : p > 0
      · rw [ifp c2]
        obtain ⟨j, e4, j0, j1⟩ := next_ex k L (a + 1 + 1 + 1 + 1 + 1 + 1) (rows.length : Int) (by omega) (by omega) (by omega) (by omega)
        rw [bnd e4]; dsimp only
        rw [ifp j0, ifp j1]
        have hb := (hr.2 _ (rd_mem j0 j1)).box
        have x0 := hb.x.lo; have x1 := hb.x.hi; have x2 := hb.x.le
        have y0 := hb.y.lo; have y1 := hb.y.hi; have y2 := hb.y.le
        have z0 := hb.z.lo; have z1 := hb.z.hi; have z2 := hb.z.le
        generalize (rd rows j).Box = B at *
        by_cases c3 : (!((B.X.Lo == 0) && ((B.Y.Lo == 0) && ((B.Z.Lo == 0) && true)))) = true
        · rw [ifp c3]
          rw [Bool.not_eq_true', ← Bool.not_eq_true, zero3] at c3
          rw [wid (x := 0 - B.X.Lo) (by omega) (by omega), wid (x := 0 - B.Y.Lo) (by omega) (by omega), wid (x := 0 - B.Z.Lo) (by omega) (by omega), mx_def, mx_def, mx_def, mx_def, mx_def]
          by_cases c4 : max (max (max (max (max B.X.Lo (0 - B.X.Lo)) B.Y.Lo) (0 - B.Y.Lo)) B.Z.Lo) (0 - B.Z.Lo) ≤ 1048576
          · rw [ifp c4]
            obtain ⟨u, e5, u0, u1⟩ := range_ex k L (a + 1 + 1 + 1 + 1 + 1 + 1 + 1) 1 29 (by decide) (by decide) (by decide) (by decide) (by omega) (by omega)
            rw [bnd e5]; dsimp only
            obtain ⟨q0, q1⟩ := pow29 u u0 u1
            rw [ifp (by omega)]
            obtain ⟨t, e6, t0, t1⟩ := next_ex k L (a + 1 + 1 + 1 + 1 + 1 + 1 + 1 + 1) _ q0 (by omega) (by omega) (by omega)
            rw [bnd e6]; dsimp only
            rw [wid (x := 1073741824 - t) (by omega) (by omega)]
            exact go _ _ ⟨by unfold V20; dsimp only; omega, by dsimp only; omega, by dsimp only; omega⟩ (by omega) (by omega)
          · rw [ifn c4]; exact go _ _ hc1 (by omega) (by omega)
        · rw [ifn c3]; exact go _ _ hc1 (by omega) (by omega)
      · rw [ifn c2]; exact go _ _ hc1 (by omega) (by omega)
    · rw [ifn c1]; exact go _ _ hc1 (by omega) (by omega)
theorem ask_l0_any (k : Nat) (L : List Int) (v0 v1 n : Int) (rows : List S_Row) : ∀ (m : Nat) (i a : Int) (C : List S_Cone), spykeep3_Ask.l0 k n ⟨L, v0⟩ rows m i a C = spykeep3_Ask.l0 k n ⟨L, v1⟩ rows m i a C := by
  intro m
  induction m with
  | zero => intro i a C; rfl
  | succ m ih =>
    intro i a C
    rw [spykeep3_Ask.l0, spykeep3_Ask.l0]
    simp only [ih]
theorem ask_ex (k : Nat) (L : List Int) (a : Int) (rows : List S_Row) (a0 : 0 ≤ a) (a1 : a ≤ 800000) (hr : RowsOk rows) (hrl : (rows.length : Int) ≤ 20) (hk : 10 ≤ k) :
    ∃ q a', spykeep3_Ask k ⟨L, a⟩ rows = some (q, a') ∧ a ≤ a' ∧ a' ≤ a + 100 ∧ AV q ∧ (q.Cones.length : Int) ≤ 2 ∧ q.Least ≤ 299 := by
  unfold spykeep3_Ask
  obtain ⟨f, e1, f0, f1⟩ := range_ex k L a (-6000) 1000 (by decide) (by decide) (by decide) (by decide) (by omega) (by omega)
  rw [bnd e1]; dsimp only
  obtain ⟨w, e2, w0, w1⟩ := next_ex k L (a + 1) 300 (by decide) (by decide) (by omega) (by omega)
  rw [bnd e2]; dsimp only
  obtain ⟨b, e3, b0, b1⟩ := next_ex k L (a + 1 + 1) 4 (by decide) (by decide) (by omega) (by omega)
  rw [bnd e3]; dsimp only
  obtain ⟨g, e4, g0, g1⟩ := next_ex k L (a + 1 + 1 + 1) 3 (by decide) (by decide) (by omega) (by omega)
  rw [bnd e4]; dsimp only
  have h1 : ∃ c T, (if g = 0 then ((spymake_Stream_Next k (⟨L, a + 1 + 1 + 1 + 1⟩ : S_Stream) 9000).bind fun (vt66, vt67) => (some (vt67, (w64 (f + vt66))))) else (some (a + 1 + 1 + 1 + 1, 17592186044416)) : Option (Int × Int)) = some (c, T) ∧ a ≤ c ∧ c ≤ a + 10 ∧ f ≤ T ∧ T ≤ 17592186044416 := by
    by_cases z : g = 0
    · rw [ifp z]
      obtain ⟨t, e5, t0, t1⟩ := next_ex k L (a + 1 + 1 + 1 + 1) 9000 (by decide) (by decide) (by omega) (by omega)
      rw [bnd e5]; dsimp only
      rw [wid (x := f + t) (by omega) (by omega)]
      exact ⟨_, _, rfl, by omega, by omega, by omega, by omega⟩
    · rw [ifn z]; exact ⟨_, _, rfl, by omega, by omega, by omega, by omega⟩
  obtain ⟨c, T, h1, c0, c1, T0, T1⟩ := h1
  rw [bnd h1]; dsimp only
  obtain ⟨y, e6, y0, y1⟩ := next_ex k L c 2 (by decide) (by decide) (by omega) (by omega)
  rw [bnd e6]; dsimp only
  have h2 : ∃ l B, (if y = 0 then (some (0, 0)) else (some (w, b)) : Option (Int × Int)) = some (l, B) ∧ 0 ≤ l ∧ l ≤ 299 ∧ 0 ≤ B ∧ B ≤ 3 := by
    by_cases z : y = 0
    · rw [ifp z]; exact ⟨_, _, rfl, by omega, by omega, by omega, by omega⟩
    · rw [ifn z]; exact ⟨_, _, rfl, by omega, by omega, by omega, by omega⟩
  obtain ⟨l, B, h2, l0, l1, B0, B1⟩ := h2
  rw [bnd h2]; dsimp only
  obtain ⟨n, e7, n0, n1⟩ := next_ex k L (c + 1) 3 (by decide) (by decide) (by omega) (by omega)
  rw [bnd e7]; dsimp only
  obtain ⟨a', C, e8, q0, q1, q2, q3⟩ := ask_l0 k L a n rows hr hrl (by omega) n.toNat k 0 (c + 1 + 1) [] (by omega) (by decide) (by omega) (by omega) (by omega) rfl (fun c h => by cases h)
  rw [bnd e8]; dsimp only
  exact ⟨_, _, rfl, by omega, by omega, ⟨by dsimp only; omega, q3, f0, T0, T1, l0, by dsimp only; omega, B0, B1⟩, by dsimp only; omega, l1⟩
theorem vcheck_ok (k : Nat) (v : S_Vec) (h : V20 v) : sphere_Check k v = some 0 := by
  obtain ⟨a, b, c, d⟩ := h
  unfold sphere_Check
  rw [mx_def, mx_def, mn_def, mn_def, ifn (by omega), ifn (by omega), ifn (by rw [zero3]; exact d)]
theorem askcheck_l0 (k : Nat) (q : S_Ask) (h : AV q) : ∀ (d m : Nat) (i : Int), i + d = (q.Cones.length : Int) → 0 ≤ i → d < m → query_CheckAsk.l0 k q m i = some (Sum.inr ()) := by
  intro d
  have hn := h.n
  induction d with
  | zero =>
    intro m i hi i0 hm
    obtain ⟨m, rfl⟩ : ∃ z, m = z + 1 := ⟨m - 1, by omega⟩
    rw [query_CheckAsk.l0, ifn (by omega)]
  | succ d ih =>
    intro m i hi i0 hm
    obtain ⟨m, rfl⟩ : ∃ z, m = z + 1 := ⟨m - 1, by omega⟩
    have hc := h.c _ (rd_mem i0 (show i < (q.Cones.length : Int) by omega))
    have c0 := hc.c0
    have c1 := hc.c1
    rw [query_CheckAsk.l0, ifp (by omega), ifp i0, bnd (vcheck_ok k _ hc.at_), ifn (by decide), ifn (by omega), ifn (by omega), wid (x := i + 1) (by omega) (by omega)]
    exact ih m (i + 1) (by omega) (by omega) (by omega)
theorem askcheck (k : Nat) (q : S_Ask) (h : AV q) (hk : 10 ≤ k) : query_CheckAsk k q = some 0 := by
  have hn := h.n; have f0 := h.f0; have ft := h.ft; have t1 := h.t1; have l0 := h.l0; have l1 := h.l1; have b0 := h.b0; have b1 := h.b1
  unfold query_CheckAsk
  rw [ifn (by omega), bnd (askcheck_l0 k q h q.Cones.length k 0 (by omega) (by decide) (by omega))]
  show (if mn q.From q.To < _ then _ else _) = _
  rw [mn_def, mx_def, ifn (by omega), ifn (by omega), ifn (by omega), ifn (by omega), ifn (by omega), ifn (by omega), ifn (by omega)]
def bt (b : S_Bound) (lo hi : Int) : Int := if b.Unknown = true then 1 else if b.Hi < lo then 0 else if b.Lo > hi then 0 else if b.Lo ≥ lo then (if b.Hi ≤ hi then 2 else 1) else 1
theorem btT (k : Nat) (b : S_Bound) (lo hi : Int) : query_between_Tick k b lo hi = some (bt b lo hi) := by
  unfold query_between_Tick bt
  repeat' split
  all_goals rfl
theorem btQ (k : Nat) (b : S_Bound) (lo hi : Int) : query_between_Quanta k b lo hi = some (bt b lo hi) := by
  unfold query_between_Quanta bt
  repeat' split
  all_goals rfl
theorem bt_mono (b : S_Bound) {lo lo' hi : Int} (h : lo ≤ lo') : 0 ≤ bt b lo' hi ∧ bt b lo' hi ≤ bt b lo hi := by
  unfold bt
  repeat' split
  all_goals omega
theorem near_02 (a b : S_Box) (c : Int) : 0 ≤ nearV a b c ∧ nearV a b c ≤ 2 := by
  unfold nearV
  split
  · decide
  · split
    · decide
    · split <;> decide
noncomputable def gc (b : S_Box) : List S_Cone → Int → Int
  | [], g => g
  | c :: cs, g => gc b cs (mn g (nearV b (PB c.At) c.Cos))
theorem gc_append (b : S_Box) (cs : List S_Cone) (c : S_Cone) : ∀ g, gc b (cs ++ [c]) g = mn (gc b cs g) (nearV b (PB c.At) c.Cos) := by
  induction cs with
  | nil => intro g; rfl
  | cons x cs ih => intro g; exact ih _
theorem gc_mono (b : S_Box) (cs : List S_Cone) : ∀ {g g' : Int}, 0 ≤ g → g ≤ g' → 0 ≤ gc b cs g ∧ gc b cs g ≤ gc b cs g' := by
  induction cs with
  | nil => intro g g' h0 h; exact ⟨h0, h⟩
  | cons x cs ih =>
    intro g g' h0 h
    have := near_02 b (PB x.At) x.Cos
    exact ih (by rw [mn_def]; omega) (by rw [mn_def, mn_def]; omega)
def g0 (r : S_Row) (q : S_Ask) : Int := if (Go.bits .and .i64 r.Marks q.Ban) ≠ 0 then 0 else mn (bt r.When q.From q.To) (bt r.Flux q.Least 1125899906842624)
noncomputable def gr (r : S_Row) (q : S_Ask) : Int := gc r.Box q.Cones (g0 r q)
theorem point_ok (k : Nat) (v : S_Vec) : query_point k v = some (PB v) := rfl
theorem rdrop {α : Type} [Inhabited α] (l : List α) (i : Int) (h0 : 0 ≤ i) (h1 : i < (l.length : Int)) : l.drop i.toNat = rd l i :: l.drop (i + 1).toNat := by
  obtain ⟨h, e⟩ := rd_lt (xs := l) h0 h1
  rw [e, show (i + 1).toNat = i.toNat + 1 by omega, List.drop_eq_getElem_cons h]
theorem grade_l0 (k : Nat) (q : S_Ask) (r : S_Row) (hc : ∀ c, c ∈ q.Cones → CV c) (hl : (q.Cones.length : Int) ≤ 10) (hk : 80 ≤ k) : ∀ (d m : Nat) (i g : Int), i + d = (q.Cones.length : Int) → 0 ≤ i → d < m → query_grade.l0 k q r m g i = some (gc r.Box (q.Cones.drop i.toNat) g) := by
  intro d
  induction d with
  | zero =>
    intro m i g hi i0 hm
    obtain ⟨m, rfl⟩ : ∃ z, m = z + 1 := ⟨m - 1, by omega⟩
    rw [query_grade.l0, ifn (by omega), List.drop_of_length_le (by omega)]; rfl
  | succ d ih =>
    intro m i g hi i0 hm
    obtain ⟨m, rfl⟩ : ∃ z, m = z + 1 := ⟨m - 1, by omega⟩
    have h := hc _ (rd_mem i0 (show i < (q.Cones.length : Int) by omega))
    rw [query_grade.l0, ifp (by omega), ifp i0, bnd (point_ok k _), bnd (near_eq k _ _ _ h.c0 h.c1 hk), wid (x := i + 1) (by omega) (by omega), ih m (i + 1) _ (by omega) (by omega) (by omega), rdrop q.Cones i i0 (by omega)]
    rfl
theorem grade_eq (k : Nat) (q : S_Ask) (r : S_Row) (hc : ∀ c, c ∈ q.Cones → CV c) (hl : (q.Cones.length : Int) ≤ 10) (hk : 80 ≤ k) : query_grade k r q = some (gr r q) := by
  unfold query_grade
  rw [bnd (btT _ _ _ _), bnd (btQ _ _ _ _)]
  have e : (if (Go.bits .and .i64 r.Marks q.Ban) ≠ 0 then (some 0) else (some (mn (bt r.When q.From q.To) (bt r.Flux q.Least 1125899906842624))) : Option Int) = some (g0 r q) := by
    unfold g0; split <;> rfl
  rw [bnd e, bnd (grade_l0 k q r hc hl hk q.Cones.length k 0 _ (by omega) (by decide) (by omega))]
  rfl
theorem g0_nn (r : S_Row) (q : S_Ask) : 0 ≤ g0 r q := by
  unfold g0
  split
  · decide
  · have := (bt_mono r.When (lo := q.From) (lo' := q.From) (hi := q.To) (Int.le_refl _)).1
    have := (bt_mono r.Flux (lo := q.Least) (lo' := q.Least) (hi := 1125899906842624) (Int.le_refl _)).1
    rw [mn_def]; omega
theorem gr_nn (r : S_Row) (q : S_Ask) : 0 ≤ gr r q := (gc_mono r.Box q.Cones (g0_nn r q) (Int.le_refl _)).1
def oneA (r : S_Row) (g : Int) : List S_Answer := if g ≠ 0 then [⟨r.ID, g⟩] else []
noncomputable def scanV (q : S_Ask) : List S_Row → List S_Answer
  | [] => []
  | r :: rs => oneA r (gr r q) ++ scanV q rs
theorem scan_len (q : S_Ask) : ∀ rs : List S_Row, (scanV q rs).length ≤ rs.length
  | [] => Nat.le_refl _
  | r :: rs => by
    have := scan_len q rs
    rw [scanV, List.length_append, List.length_cons]
    have : (oneA r (gr r q)).length ≤ 1 := by unfold oneA; split <;> simp
    omega
theorem scan_l0 (k : Nat) (q : S_Ask) (rows : List S_Row) (hc : ∀ c, c ∈ q.Cones → CV c) (hl : (q.Cones.length : Int) ≤ 10) (hr : (rows.length : Int) ≤ 100) (hk : 80 ≤ k) : ∀ (d m : Nat) (i : Int) (out : List S_Answer), i + d = (rows.length : Int) → 0 ≤ i → d < m → (out.length : Int) ≤ i →
    query_Scan.l0 k rows q m out i = some (out ++ scanV q (rows.drop i.toNat)) := by
  intro d
  induction d with
  | zero =>
    intro m i out hi i0 hm ho
    obtain ⟨m, rfl⟩ : ∃ z, m = z + 1 := ⟨m - 1, by omega⟩
    rw [query_Scan.l0, ifn (by omega), List.drop_of_length_le (by omega), scanV, List.append_nil]
  | succ d ih =>
    intro m i out hi i0 hm ho
    obtain ⟨m, rfl⟩ : ∃ z, m = z + 1 := ⟨m - 1, by omega⟩
    rw [query_Scan.l0, ifp (by omega), ifp i0, bnd (grade_eq k q _ hc hl hk), rdrop rows i i0 (by omega), scanV]
    unfold oneA
    by_cases c : gr (rd rows i) q ≠ 0
    · rw [ifp c, ifp (by omega), ifp c, wid (x := i + 1) (by omega) (by omega), ih m (i + 1) _ (by omega) (by omega) (by omega) (by rw [List.length_append, List.length_singleton]; omega), List.append_assoc]
    · rw [ifn c, ifn c, wid (x := i + 1) (by omega) (by omega), ih m (i + 1) _ (by omega) (by omega) (by omega) (by omega), List.nil_append]
theorem scan_eq (k : Nat) (q : S_Ask) (rows : List S_Row) (h : AV q) (hr : RowsOk rows) (hl : (rows.length : Int) ≤ 100) (hk : 300 ≤ k) : query_Scan k rows q = some (scanV q rows, 0) := by
  have hn := h.n
  unfold query_Scan
  rw [bnd (checkl_ex k rows hr hk (by omega)), ifn (by decide), bnd (askcheck k q h (by omega)), ifn (by decide), bnd (scan_l0 k q rows h.c (by omega) hl (by omega) rows.length k 0 [] (by omega) (by decide) (by omega) (by simp))]
  rfl
theorem mem_scan (q : S_Ask) {y : S_Answer} : ∀ {rs : List S_Row}, y ∈ scanV q rs ↔ ∃ r, r ∈ rs ∧ gr r q ≠ 0 ∧ y = ⟨r.ID, gr r q⟩
  | [] => by simp [scanV]
  | r :: rs => by
    rw [scanV, List.mem_append, mem_scan q]
    have e : y ∈ oneA r (gr r q) ↔ gr r q ≠ 0 ∧ y = ⟨r.ID, gr r q⟩ := by
      unfold oneA
      split
      · rename_i c; simp [c]
      · rename_i c; simp at c; simp [c]
    rw [e]
    constructor
    · rintro (⟨a, b⟩ | ⟨r', a, b⟩)
      · exact ⟨r, List.mem_cons_self .., a, b⟩
      · exact ⟨r', List.mem_cons_of_mem _ a, b⟩
    · rintro ⟨r', a, b⟩
      rcases List.mem_cons.mp a with rfl | a
      · exact .inl b
      · exact .inr ⟨r', a, b⟩
theorem same_row {rows : List S_Row} (h : RowsOk rows) {r s : S_Row} (hr : r ∈ rows) (hs : s ∈ rows) (e : r.ID = s.ID) : r = s := by
  have hp := h.1
  clear h
  induction rows with
  | nil => cases hr
  | cons x rs ih =>
    rw [List.pairwise_cons] at hp
    rcases List.mem_cons.mp hr with h1 | h1
    · rcases List.mem_cons.mp hs with h2 | h2
      · rw [h1, h2]
      · have := hp.1 s h2; rw [← h1] at this; omega
    · rcases List.mem_cons.mp hs with h2 | h2
      · have := hp.1 r h1; rw [← h2] at this; omega
      · exact ih h1 h2 hp.2
theorem index_l0 (k : Nat) (y : S_Answer) (a : List S_Answer) (hl : (a.length : Int) ≤ 100) : ∀ (d m : Nat) (i : Int), i + d = (a.length : Int) → 0 ≤ i → d < m → (∃ x, x ∈ a.drop i.toNat ∧ x.ID = y.ID) → ∃ j, slices_IndexFunc_Answer__spykeep3_QueryLimits_1.l0 k a y m i = some (Sum.inl j) ∧ 0 ≤ j ∧ j < (a.length : Int) ∧ (rd a j).ID = y.ID := by
  intro d
  induction d with
  | zero =>
    intro m i hi i0 hm ⟨x, hx, _⟩
    rw [List.drop_of_length_le (by omega)] at hx
    cases hx
  | succ d ih =>
    intro m i hi i0 hm ⟨x, hx, e⟩
    obtain ⟨m, rfl⟩ : ∃ z, m = z + 1 := ⟨m - 1, by omega⟩
    rw [slices_IndexFunc_Answer__spykeep3_QueryLimits_1.l0, ifp (by omega), ifp i0, bnd (show spykeep3_QueryLimits_1 k y (rd a i) = some ((rd a i).ID == y.ID) from rfl)]
    by_cases c : (rd a i).ID = y.ID
    · rw [ifp (beq_iff_eq.mpr c)]
      exact ⟨i, rfl, i0, by omega, c⟩
    · rw [ifn (by rw [beq_iff_eq]; exact c), wid (x := i + 1) (by omega) (by omega)]
      rw [rdrop a i i0 (by omega)] at hx
      rcases List.mem_cons.mp hx with rfl | hx
      · exact absurd e c
      · exact ih m (i + 1) (by omega) (by omega) (by omega) ⟨x, hx, e⟩
theorem index_ex (k : Nat) (y : S_Answer) (a : List S_Answer) (hl : (a.length : Int) ≤ 100) (hk : 110 ≤ k) (h : ∃ x, x ∈ a ∧ x.ID = y.ID) : ∃ j, slices_IndexFunc_Answer__spykeep3_QueryLimits_1 k y a = some j ∧ 0 ≤ j ∧ j < (a.length : Int) ∧ (rd a j).ID = y.ID := by
  obtain ⟨j, e, j0, j1, j2⟩ := index_l0 k y a hl a.length k 0 (by omega) (by decide) (by omega) h
  unfold slices_IndexFunc_Answer__spykeep3_QueryLimits_1
  rw [bnd e]
  exact ⟨j, rfl, j0, j1, j2⟩
theorem cmp_l0 (k : Nat) (b a : List S_Answer) (hb : (b.length : Int) ≤ 100) (ha : (a.length : Int) ≤ 100) (hk : 110 ≤ k) (h : ∀ y, y ∈ b → (∃ x, x ∈ a ∧ x.ID = y.ID) ∧ ∀ x, x ∈ a → x.ID = y.ID → y.Grade ≤ x.Grade) : ∀ (d m : Nat) (i : Int), i + d = (b.length : Int) → 0 ≤ i → d < m → spykeep3_QueryLimits.l0 k b a m i = some (Sum.inr ()) := by
  intro d
  induction d with
  | zero =>
    intro m i hi i0 hm
    obtain ⟨m, rfl⟩ : ∃ z, m = z + 1 := ⟨m - 1, by omega⟩
    rw [spykeep3_QueryLimits.l0, ifn (by omega)]
  | succ d ih =>
    intro m i hi i0 hm
    obtain ⟨m, rfl⟩ : ∃ z, m = z + 1 := ⟨m - 1, by omega⟩
    obtain ⟨h1, h2⟩ := h _ (rd_mem i0 (show i < (b.length : Int) by omega))
    obtain ⟨j, e, j0, j1, j2⟩ := index_ex k _ a ha hk h1
    have h3 := h2 _ (rd_mem j0 j1) j2
    rw [spykeep3_QueryLimits.l0, ifp (by omega), ifp i0, bnd e, ifn (by omega), ifp j0, ifp j1, ifn (by omega), wid (x := i + 1) (by omega) (by omega)]
    exact ih m (i + 1) (by omega) (by omega) (by omega)
theorem law (k : Nat) (l : List Int) (hk : 500 ≤ k) : spykeep3_QueryLimits k l = some true := by
  unfold spykeep3_QueryLimits
  obtain ⟨rows, a, e1, a0, a1, hl, hr, _⟩ := rows_ex k l 0 12 (by decide) (by decide) (by decide) (by decide) (by omega)
  rw [bnd e1]; dsimp only
  obtain ⟨q, b, e2, b0, b1, hq, hn, hle⟩ := ask_ex k l a rows (by omega) (by omega) hr (by omega) (by omega)
  rw [bnd e2]; dsimp only
  have hc : slices_Clone_Cone k q.Cones = some q.Cones := by
    unfold slices_Clone_Cone
    rw [ifp (by simp; omega)]; rfl
  rw [bnd hc]
  obtain ⟨v, e3, hv⟩ := qvec_ex k l b (by omega) (by omega)
  rw [bnd e3]; dsimp only
  obtain ⟨s, e4, s0, s1⟩ := next_ex k l (b + 1 + 1 + 1 + 1) 1073741824 (by decide) (by decide) (by omega) (by omega)
  rw [bnd e4]; dsimp only
  rw [ifp (by omega)]
  obtain ⟨t, e5, t0, t1⟩ := next_ex k l (b + 1 + 1 + 1 + 1 + 1) 500 (by decide) (by decide) (by omega) (by omega)
  rw [bnd e5]; dsimp only
  obtain ⟨u, e6, u0, u1⟩ := next_ex k l (b + 1 + 1 + 1 + 1 + 1 + 1) 50 (by decide) (by decide) (by omega) (by omega)
  rw [bnd e6]; dsimp only
  have f0 := hq.f0; have ft := hq.ft; have tt := hq.t1; have l0 := hq.l0; have bb0 := hq.b0; have bb1 := hq.b1
  rw [bnd (scan_eq k q rows hq hr (by omega) (by omega)), wid (x := q.From + t) (by omega) (by omega), wid (x := q.Least + u) (by omega) (by omega), mn_def]
  dsimp only
  have hc : CV ⟨v, s⟩ := ⟨hv, s0, by dsimp only; omega⟩
  obtain ⟨p, hp⟩ : ∃ p, p = (⟨q.Cones ++ [⟨v, s⟩], min q.To (q.From + t), q.To, q.Least + u, q.Ban⟩ : S_Ask) := ⟨_, rfl⟩
  have hpA : AV p := by
    rw [hp]
    exact ⟨by dsimp only; rw [List.length_append, List.length_singleton]; omega, cone_push hq.c hc, by dsimp only; omega, by dsimp only; omega, tt, by dsimp only; omega, by dsimp only; omega, bb0, bb1⟩
  rw [← hp, bnd (scan_eq k p rows hpA hr (by omega) (by omega))]
  dsimp only
  rw [bnd (asked_eq k (by omega)), ifn (by decide), ifn (by decide), ifn (by decide)]
  have mono : ∀ r, gr r p ≤ gr r q := by
    intro r
    rw [hp]
    unfold gr
    dsimp only
    rw [gc_append, mn_def]
    have h1 : g0 r ⟨q.Cones ++ [⟨v, s⟩], min q.To (q.From + t), q.To, q.Least + u, q.Ban⟩ ≤ g0 r q := by
      unfold g0
      dsimp only
      split
      · exact Int.le_refl _
      · have h2 := bt_mono r.When (lo := q.From) (lo' := min q.To (q.From + t)) (hi := q.To) (by omega)
        have h3 := bt_mono r.Flux (lo := q.Least) (lo' := q.Least + u) (hi := 1125899906842624) (by omega)
        rw [mn_def, mn_def]; omega
    have h4 := gc_mono r.Box q.Cones (g0_nn r ⟨q.Cones ++ [⟨v, s⟩], min q.To (q.From + t), q.To, q.Least + u, q.Ban⟩) h1
    omega
  have la := scan_len q rows
  have lb := scan_len p rows
  have h : ∀ y, y ∈ scanV p rows → (∃ x, x ∈ scanV q rows ∧ x.ID = y.ID) ∧ ∀ x, x ∈ scanV q rows → x.ID = y.ID → y.Grade ≤ x.Grade := by
    intro y hy
    obtain ⟨r, r1, r2, rfl⟩ := (mem_scan p).mp hy
    have m := mono r
    have n := gr_nn r p
    refine ⟨⟨⟨r.ID, gr r q⟩, (mem_scan q).mpr ⟨r, r1, by omega, rfl⟩, rfl⟩, fun x hx e => ?_⟩
    obtain ⟨r', r3, r4, rfl⟩ := (mem_scan q).mp hx
    have := same_row hr r3 r1 e
    subst this
    exact m
  rw [bnd (cmp_l0 k (scanV p rows) (scanV q rows) (by omega) (by omega) (by omega) h (scanV p rows).length k 0 (by omega) (by decide) (by omega))]
  rfl
theorem law_ex (l : List Int) : ∃ k, spykeep3_QueryLimits k l = some true := ⟨500, law 500 l (by decide)⟩

end Go.Sp.Q5
