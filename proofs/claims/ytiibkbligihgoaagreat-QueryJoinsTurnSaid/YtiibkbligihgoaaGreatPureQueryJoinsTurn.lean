/- A text of this claim. -/
import Derived.Test.YtiibkbligihgoaaGreatFJ7
import Derived.KernelRfl
import Derived.Laws.BitsLemmas
import Derived.Laws.Bits64
import Derived.Laws.BitsAllLaws
import Derived.Laws.BitsLemmas
import Derived.Laws.Bits64
import Derived.Laws.BitsAllLaws
namespace Go.Sp.J7
open Go Go.Sp
set_option linter.unusedVariables false
theorem bnd {α β : Type} {x : Option α} {g : α → Option β} {v : α} (h : x = some v) : x.bind g = g v := by rw [h]; rfl
theorem ifp {α : Type} {c : Prop} [Decidable c] {x y : α} (h : c) : (if c then x else y) = x := if_pos h
theorem ifn {α : Type} {c : Prop} [Decidable c] {x y : α} (h : ¬ c) : (if c then x else y) = y := if_neg h
theorem rd_mem {α : Type} [Inhabited α] {l : List α} {i : Int} (h0 : 0 ≤ i) (h1 : i < (l.length : Int)) : rd l i ∈ l := by
  obtain ⟨h, e⟩ := rd_lt h0 h1
  rw [e]; exact List.getElem_mem h
theorem wid {x : Int} (h : -9223372036854775808 ≤ x) (h' : x ≤ 9223372036854775807) : w64 x = x := w64_of h h'
theorem wuid {x : Int} (h : 0 ≤ x) (h' : x ≤ 18446744073709551615) : u64 x = x := u64_of h h'
theorem mul_le {a b A B : Int} (h1 : 0 ≤ a) (h2 : a ≤ A) (h3 : 0 ≤ b) (h4 : b ≤ B) : 0 ≤ a * b ∧ a * b ≤ A * B :=
  ⟨Int.mul_nonneg h1 h3, Int.mul_le_mul h2 h4 h3 (by omega)⟩
theorem tdiv_nn {a b : Int} (h : 0 ≤ a) : Int.tdiv a b = a / b := Int.tdiv_eq_ediv_of_nonneg h
def AllIn (l : List Int) (lo hi : Int) : Prop := ∀ x, x ∈ l → lo ≤ x ∧ x ≤ hi
theorem AllIn.nil {lo hi : Int} : AllIn [] lo hi := fun x h => by cases h
theorem AllIn.push {l : List Int} {lo hi x : Int} (h : AllIn l lo hi) (h0 : lo ≤ x) (h1 : x ≤ hi) : AllIn (l ++ [x]) lo hi := by
  intro y hy
  rcases List.mem_append.mp hy with hy | hy
  · exact h y hy
  · simp only [List.mem_singleton] at hy; subst hy; exact ⟨h0, h1⟩
theorem AllIn.rd {l : List Int} {lo hi i : Int} (h : AllIn l lo hi) (h0 : 0 ≤ i) (h1 : i < (l.length : Int)) : lo ≤ rd l i ∧ rd l i ≤ hi := h _ (rd_mem h0 h1)
theorem AllIn.mono {l : List Int} {lo hi lo' hi' : Int} (h : AllIn l lo hi) (h0 : lo' ≤ lo) (h1 : hi ≤ hi') : AllIn l lo' hi' := fun x hx => by have := h x hx; omega
theorem u64_and32 (x : Int) (h0 : 0 ≤ x) (h1 : x < 18446744073709551616) : Go.bits .and .u64 x 4294967295 = x % 4294967296 := by
  rw [Go.u64_and x 4294967295 h0 h1 (by decide) (by decide)]
  have : x.toNat &&& (4294967295 : Int).toNat = x.toNat % 4294967296 := Nat.and_two_pow_sub_one_eq_mod x.toNat 32
  rw [this]
  omega
theorem shr32 (x : Int) : shr x 32 = x / 4294967296 := shr_def x 32
theorem mul64_eq (k : Nat) (a b : Int) (ha : 0 ≤ a) (ha' : a < 18446744073709551616) (hb : 0 ≤ b) (hb' : b < 18446744073709551616) :
    bits_Mul64 k a b = some (a * b / 18446744073709551616, a * b % 18446744073709551616) := by
  unfold bits_Mul64
  rw [u64_and32 a ha ha', u64_and32 b hb hb', shr32 a, shr32 b]
  have h1 := mul_le (a := a / 4294967296) (b := b / 4294967296) (A := 4294967295) (B := 4294967295) (by omega) (by omega) (by omega) (by omega)
  have h2 := mul_le (a := a / 4294967296) (b := b % 4294967296) (A := 4294967295) (B := 4294967295) (by omega) (by omega) (by omega) (by omega)
  have h3 := mul_le (a := a % 4294967296) (b := b / 4294967296) (A := 4294967295) (B := 4294967295) (by omega) (by omega) (by omega) (by omega)
  have h4 := mul_le (a := a % 4294967296) (b := b % 4294967296) (A := 4294967295) (B := 4294967295) (by omega) (by omega) (by omega) (by omega)
  have e : a * b = (a / 4294967296) * (b / 4294967296) * 18446744073709551616 + ((a / 4294967296) * (b % 4294967296) + (a % 4294967296) * (b / 4294967296)) * 4294967296 + (a % 4294967296) * (b % 4294967296) := by
    have ea : a = a / 4294967296 * 4294967296 + a % 4294967296 := by omega
    have eb : b = b / 4294967296 * 4294967296 + b % 4294967296 := by omega
    generalize a / 4294967296 = x1 at *
    generalize a % 4294967296 = x0 at *
    generalize b / 4294967296 = y1 at *
    generalize b % 4294967296 = y0 at *
    subst ea eb
    grind
  rw [u64_def (a * b), e]
  generalize (a / 4294967296) * (b / 4294967296) = p at *
  generalize (a / 4294967296) * (b % 4294967296) = q at *
  generalize (a % 4294967296) * (b / 4294967296) = r at *
  generalize (a % 4294967296) * (b % 4294967296) = s at *
  rw [wuid (x := s) (by omega) (by omega), wuid (x := p) (by omega) (by omega), wuid (x := q) (by omega) (by omega), wuid (x := r) (by omega) (by omega)]
  rw [shr32 s, wuid (x := q + s / 4294967296) (by omega) (by omega)]
  rw [u64_and32 (q + s / 4294967296) (by omega) (by omega), shr32 (q + s / 4294967296)]
  rw [wuid (x := p + (q + s / 4294967296) / 4294967296) (by omega) (by omega)]
  rw [wuid (x := (q + s / 4294967296) % 4294967296 + r) (by omega) (by omega), shr32]
  rw [wuid (by omega) (by omega)]
  have e1 : p + (q + s / 4294967296) / 4294967296 + ((q + s / 4294967296) % 4294967296 + r) / 4294967296 = (p * 18446744073709551616 + (q + r) * 4294967296 + s) / 18446744073709551616 := by omega
  rw [e1]
theorem size_eq (k : Nat) (a : Int) (h0 : -9223372036854775808 ≤ a) (h1 : a ≤ 9223372036854775807) : num_size k a = some (if a < 0 then -a else a) := by
  unfold num_size
  by_cases c : a < 0
  · rw [ifp c, ifp c]
    congr 1
    simp only [u64_def]
    omega
  · rw [ifn c, ifn c, wuid (by omega) (by omega)]
theorem xor_max (x : Int) (h0 : 0 ≤ x) (h1 : x < 18446744073709551616) : Go.bits .xor .u64 IntKind.u64.max x = 18446744073709551615 - x := by
  have hm : IntKind.u64.max = 18446744073709551615 := by decide
  rw [hm, Go.u64_xor _ _ (by decide) (by decide) h0 h1]
  have hb : (BitVec.allOnes 64 ^^^ BitVec.ofNat 64 x.toNat).toNat = 18446744073709551615 - x.toNat := by
    rw [BitVec.allOnes_xor, BitVec.toNat_not, BitVec.toNat_ofNat, Nat.mod_eq_of_lt (by omega)]
  have hb2 : (BitVec.allOnes 64 ^^^ BitVec.ofNat 64 x.toNat).toNat = 18446744073709551615 ^^^ x.toNat := by
    rw [BitVec.toNat_xor, BitVec.toNat_ofNat, Nat.mod_eq_of_lt (by omega)]; rfl
  rw [hb2] at hb
  rw [show (18446744073709551615 : Int).toNat = 18446744073709551615 from rfl, hb]
  omega
theorem neg_eq (k : Nat) (P : Int) (h0 : 0 < P) (h1 : P ≤ 85070591730234615865843651857942052864) : num_Wide_Neg k ⟨w64 (P / 18446744073709551616), P % 18446744073709551616⟩ = some ⟨-P / 18446744073709551616, -P % 18446744073709551616⟩ := by
  have e1 : u64 (w64 (P / 18446744073709551616)) = P / 18446744073709551616 := by rw [wid (by omega) (by omega), wuid (by omega) (by omega)]
  unfold num_Wide_Neg
  dsimp only
  rw [e1, xor_max (P % 18446744073709551616) (by omega) (by omega), xor_max (P / 18446744073709551616) (by omega) (by omega), ifp (by omega), ifp (by omega), ifp (by omega), ifp (by omega)]
  congr 2
  · rw [w64_def]; omega
  · omega
theorem product_eq (k : Nat) (a b : Int) (ha : -9223372036854775808 ≤ a) (ha' : a ≤ 9223372036854775807) (hb : -9223372036854775808 ≤ b) (hb' : b ≤ 9223372036854775807) :
    num_Product k a b = some ⟨a * b / 18446744073709551616, a * b % 18446744073709551616⟩ := by
  unfold num_Product
  rw [bnd (size_eq k a ha ha'), bnd (size_eq k b hb hb')]
  obtain ⟨A, hA⟩ : ∃ A, A = if a < 0 then -a else a := ⟨_, rfl⟩
  obtain ⟨B, hB⟩ : ∃ B, B = if b < 0 then -b else b := ⟨_, rfl⟩
  rw [← hA, ← hB]
  have A0 : 0 ≤ A ∧ A ≤ 9223372036854775808 := by rw [hA]; split <;> omega
  have B0 : 0 ≤ B ∧ B ≤ 9223372036854775808 := by rw [hB]; split <;> omega
  rw [bnd (mul64_eq k A B (by omega) (by omega) (by omega) (by omega))]
  dsimp only
  have hAB := mul_le A0.1 A0.2 B0.1 B0.2
  have neg : A * B = -(a * b) → (num_Wide_Neg k ⟨w64 (A * B / 18446744073709551616), A * B % 18446744073709551616⟩).bind (fun v => some v) = some ⟨a * b / 18446744073709551616, a * b % 18446744073709551616⟩ := by
    intro e
    by_cases z : a * b = 0
    · have ez : A * B = 0 := by omega
      rw [ez, z]
      have : num_Wide_Neg k ⟨w64 (0 / 18446744073709551616), 0 % 18446744073709551616⟩ = some ⟨0, 0⟩ := by kernel_rfl
      rw [this]; rfl
    · rw [neg_eq k (A * B) (by omega) (by omega), e, Int.neg_neg]; rfl
  by_cases ca : a < 0
  · rw [if_pos ca] at hA
    by_cases cb : b < 0
    · rw [if_pos cb] at hB
      have e : A * B = a * b := by rw [hA, hB, Int.neg_mul_neg]
      rw [show (decide (a < 0) != decide (b < 0)) = false by simp [ca, cb], ifn (by decide), e, wid (by omega) (by omega)]
    · rw [if_neg cb] at hB
      rw [show (decide (a < 0) != decide (b < 0)) = true by simp [ca, cb], ifp rfl]
      exact neg (by rw [hA, hB, Int.neg_mul])
  · rw [if_neg ca] at hA
    by_cases cb : b < 0
    · rw [if_pos cb] at hB
      rw [show (decide (a < 0) != decide (b < 0)) = true by simp [ca, cb], ifp rfl]
      exact neg (by rw [hA, hB, Int.mul_neg])
    · rw [if_neg cb] at hB
      have e : A * B = a * b := by rw [hA, hB]
      rw [show (decide (a < 0) != decide (b < 0)) = false by simp [ca, cb], ifn (by decide), e, wid (by omega) (by omega)]
theorem sq_le {a b : Int} (h : a ≤ b) (ha : 0 ≤ a) : a * a ≤ b * b := Int.mul_le_mul h h ha (by omega)
theorem sq_lt {a b : Int} (ha : 0 ≤ a) (hb : 0 ≤ b) (h : a * a < b * b) : a < b := by
  rcases Int.lt_or_le a b with g | g
  · exact g
  · have := sq_le g hb; omega
theorem or_bit (r : Int) (j : Nat) (hr : 0 ≤ r) (hm : r % 2 ^ (j + 1) = 0) (h : r + 2 ^ j < 18446744073709551616) (hj : j ≤ 62) : Go.bits .or .u64 r (2 ^ j) = r + 2 ^ j := by
  have hp : (0 : Int) < 2 ^ j := Int.pow_pos (by decide)
  have hlt : (2 : Int) ^ j < 2 ^ (j + 1) := by rw [Int.pow_succ]; omega
  exact Go.bits_join .u64 64 (by decide) (fun n h0 h1 => by have h2 : n < 18446744073709551616 := h1; rw [IntKind.wrap_u64]; omega) (j + 1) r (2 ^ j) hr hm (by show r < 18446744073709551616; omega) (by omega) hlt (by show (2 : Int) ^ j < 18446744073709551616; omega)
theorem shr1 (x : Int) : shr x 1 = x / 2 := shr_def x 1
theorem sqrt_end (k n : Nat) (u v r : Int) (hk : 0 < n) : num_SqrtMul.l0 k u v n r 0 = some r := by
  obtain ⟨n, rfl⟩ : ∃ m, n = m + 1 := ⟨n - 1, by omega⟩
  rw [num_SqrtMul.l0, ifn (by decide)]
theorem sqrt_loop (k : Nat) (P : Int) (hP : 0 ≤ P) (hP' : P < 85070591730234615865843651857942052864) (j : Nat) : ∀ (r : Int) (n : Nat), j ≤ 62 → 0 ≤ r → r % 2 ^ (j + 1) = 0 → r + 2 ^ (j + 1) ≤ 9223372036854775808 → r * r ≤ P → P < (r + 2 ^ (j + 1)) * (r + 2 ^ (j + 1)) → j + 1 < n →
    ∃ s, num_SqrtMul.l0 k (P / 18446744073709551616) (P % 18446744073709551616) n r (2 ^ j) = some s ∧ 0 ≤ s ∧ s ≤ 9223372036854775807 ∧ s * s ≤ P ∧ P < (s + 1) * (s + 1) := by
  induction j with
  | zero =>
    intro r n _ h0 hm hb hlo hhi hk
    obtain ⟨n, rfl⟩ : ∃ m, n = m + 1 := ⟨n - 1, by omega⟩
    have hor := or_bit r 0 h0 hm (by omega) (by omega)
    have hsq := mul_le (a := r + 1) (b := r + 1) (A := 9223372036854775807) (B := 9223372036854775807) (by omega) (by omega) (by omega) (by omega)
    rw [num_SqrtMul.l0, ifp (by decide), hor, show (2 : Int) ^ 0 = 1 by rfl, bnd (mul64_eq k (r + 1) (r + 1) (by omega) (by omega) (by omega) (by omega))]
    dsimp only
    have e2 : (1 : Int) / 2 = 0 := by decide
    have hhi2 : P < (r + 2) * (r + 2) := hhi
    rw [shr1, e2, sqrt_end k n _ _ (r + 1) (by omega), sqrt_end k n _ _ r (by omega)]
    by_cases c : (r + 1) * (r + 1) ≤ P
    · refine ⟨r + 1, ?_, by omega, by omega, c, ?_⟩
      · generalize (r + 1) * (r + 1) = Q at *
        by_cases c1 : Q / 18446744073709551616 < P / 18446744073709551616
        · rw [ifp c1]
        · rw [ifn c1, ifp (by omega), ifp (by omega)]
      · rw [show r + 1 + 1 = r + 2 by omega]; exact hhi2
    · refine ⟨r, ?_, by omega, by omega, hlo, by omega⟩
      generalize (r + 1) * (r + 1) = Q at *
      rw [ifn (by omega)]
      by_cases c1 : Q / 18446744073709551616 = P / 18446744073709551616
      · rw [ifp c1, ifn (by omega)]
      · rw [ifn c1]
  | succ j ih =>
    intro r n hj h0 hm hb hlo hhi hk
    obtain ⟨n, rfl⟩ : ∃ m, n = m + 1 := ⟨n - 1, by omega⟩
    have hp : (0 : Int) < 2 ^ j := Int.pow_pos (by decide)
    have hp1 : (2 : Int) ^ (j + 1) = 2 * 2 ^ j := by rw [Int.pow_succ]; omega
    have hp2 : (2 : Int) ^ (j + 1 + 1) = 4 * 2 ^ j := by rw [Int.pow_succ, hp1]; omega
    have hor := or_bit r (j + 1) h0 hm (by omega) (by omega)
    have hm1 : r % 2 ^ (j + 1) = 0 := by
      have hd : ((2 : Int) ^ (j + 1)) ∣ 2 ^ (j + 1 + 1) := ⟨2, by rw [Int.pow_succ]⟩
      exact Int.emod_eq_zero_of_dvd (Int.dvd_trans hd (Int.dvd_of_emod_eq_zero hm))
    have hm2 : (r + 2 ^ (j + 1)) % 2 ^ (j + 1) = 0 := by rw [Int.add_emod_right]; exact hm1
    have hdiv : (2 : Int) ^ (j + 1) / 2 = 2 ^ j := by omega
    have hsq := mul_le (a := r + 2 ^ (j + 1)) (b := r + 2 ^ (j + 1)) (A := 9223372036854775807) (B := 9223372036854775807) (by omega) (by omega) (by omega) (by omega)
    rw [num_SqrtMul.l0, ifp (by omega), hor, bnd (mul64_eq k _ _ (by omega) (by omega) (by omega) (by omega))]
    dsimp only
    rw [shr1, hdiv]
    by_cases c : (r + 2 ^ (j + 1)) * (r + 2 ^ (j + 1)) ≤ P
    · obtain ⟨s, e, hs⟩ := ih (r + 2 ^ (j + 1)) n (by omega) (by omega) hm2 (by omega) c (by rw [show r + 2 ^ (j + 1) + 2 ^ (j + 1) = r + 2 ^ (j + 1 + 1) by omega]; exact hhi) (by omega)
      refine ⟨s, ?_, hs⟩
      rw [e]
      generalize (r + 2 ^ (j + 1)) * (r + 2 ^ (j + 1)) = Q at *
      by_cases c1 : Q / 18446744073709551616 < P / 18446744073709551616
      · rw [ifp c1]
      · rw [ifn c1, ifp (by omega), ifp (by omega)]
    · obtain ⟨s, e, hs⟩ := ih r n (by omega) h0 hm1 (by omega) hlo (by omega) (by omega)
      refine ⟨s, ?_, hs⟩
      rw [e]
      generalize (r + 2 ^ (j + 1)) * (r + 2 ^ (j + 1)) = Q at *
      rw [ifn (by omega)]
      by_cases c1 : Q / 18446744073709551616 = P / 18446744073709551616
      · rw [ifp c1, ifn (by omega)]
      · rw [ifn c1]
theorem sqrtmul_ex (k : Nat) (a b : Int) (ha : 0 ≤ a) (ha' : a ≤ 9223372036854775807) (hb : 0 ≤ b) (hb' : b ≤ 9223372036854775807) (hk : 70 ≤ k) :
    ∃ s, num_SqrtMul k a b = some s ∧ 0 ≤ s ∧ s ≤ 9223372036854775807 ∧ s * s ≤ a * b ∧ a * b < (s + 1) * (s + 1) := by
  have hP := mul_le ha ha' hb hb'
  obtain ⟨s, e, hs⟩ := sqrt_loop k (a * b) hP.1 (by omega) 62 0 k (by omega) (by omega) (by decide) (by decide) (by omega) (by
    show a * b < 9223372036854775808 * 9223372036854775808
    omega) (by omega)
  refine ⟨s, ?_, hs⟩
  have hp : (2 : Int) ^ 62 = 4611686018427387904 := by decide
  rw [hp] at e
  unfold num_SqrtMul
  rw [ifn (by omega), ifn (by omega), wuid ha (by omega), wuid hb (by omega), bnd (mul64_eq k a b ha (by omega) hb (by omega))]
  dsimp only
  rw [bnd e, wid (by omega) (by omega)]
theorem root_unique {n r s : Int} (hr : 0 ≤ r) (hs : 0 ≤ s) (h1 : r * r ≤ n) (h2 : n < (r + 1) * (r + 1)) (h3 : s * s ≤ n) (h4 : n < (s + 1) * (s + 1)) : r = s := by
  have l1 : r < s + 1 := sq_lt hr (by omega) (by omega)
  have l2 : s < r + 1 := sq_lt hs (by omega) (by omega)
  omega
def cm (x y : Int) : Int := if x < y then -1 else if x > y then 1 else 0
theorem cmpi (k : Nat) (x y : Int) : cmp_Compare_int64 k x y = some (cm x y) := by
  unfold cmp_Compare_int64 cmp_isNaN_int64 cm
  rw [bnd rfl, bnd rfl, ifn (by simp), ifn (by simp)]
  split
  · rfl
  · split <;> rfl
theorem cmpu (k : Nat) (x y : Int) : cmp_Compare_uint64 k x y = some (cm x y) := by
  unfold cmp_Compare_uint64 cmp_isNaN_uint64 cm
  rw [bnd rfl, bnd rfl, ifn (by simp), ifn (by simp)]
  split
  · rfl
  · split <;> rfl
theorem or2 (k : Nat) (p q : Int) (hk : 5 ≤ k) : cmp_Or_int k [p, q] = some (if p ≠ 0 then p else q) := by
  have r0 : rd [p, q] 0 = p := rfl
  have r1 : rd [p, q] 1 = q := rfl
  have l : (([p, q] : List Int).length : Int) = 2 := rfl
  obtain ⟨j, hj⟩ : ∃ j, k = j + 3 := ⟨k - 3, by omega⟩
  have h : ∀ k', k' = j + 3 → cmp_Or_int.l0 k [p, q] k' 0 = some (if p ≠ 0 then Sum.inl p else if q ≠ 0 then Sum.inl q else Sum.inr ()) := by
    rintro _ rfl
    rw [cmp_Or_int.l0, l, ifp (by decide), ifp (by decide), r0]
    by_cases c : p ≠ 0
    · rw [ifp c, ifp c]
    · rw [ifn c, ifn c, wid (x := 0 + 1) (by decide) (by decide), show (0 : Int) + 1 = 1 by rfl, cmp_Or_int.l0, l, ifp (by decide), ifp (by decide), r1]
      by_cases d : q ≠ 0
      · rw [ifp d, ifp d]
      · rw [ifn d, ifn d, wid (x := 1 + 1) (by decide) (by decide), show (1 : Int) + 1 = 2 by rfl, cmp_Or_int.l0, l, ifn (by decide)]
  unfold cmp_Or_int
  rw [bnd (h k hj)]
  by_cases c : p ≠ 0
  · rw [ifp c, ifp c]; rfl
  · rw [ifn c, ifn c]
    by_cases d : q ≠ 0
    · rw [ifp d]; rfl
    · rw [ifn d, show q = 0 by omega]; rfl
theorem wcmp (k : Nat) (A B : Int) (hk : 5 ≤ k) : ∃ c, num_Wide_Cmp k ⟨A / 18446744073709551616, A % 18446744073709551616⟩ ⟨B / 18446744073709551616, B % 18446744073709551616⟩ = some c ∧ (c < 0 ↔ A < B) ∧ (c ≥ 0 ↔ A ≥ B) := by
  unfold num_Wide_Cmp
  dsimp only
  rw [bnd (cmpi _ _ _), bnd (cmpu _ _ _), bnd (or2 k _ _ hk)]
  refine ⟨_, rfl, ?_⟩
  unfold cm
  by_cases c1 : A / 18446744073709551616 < B / 18446744073709551616
  · rw [ifp c1, ifp (by decide)]; omega
  · rw [ifn c1]
    by_cases c2 : A / 18446744073709551616 > B / 18446744073709551616
    · rw [ifp c2, ifp (by decide)]; omega
    · rw [ifn c2, ifn (by decide)]
      by_cases c3 : A % 18446744073709551616 < B % 18446744073709551616
      · rw [ifp c3]; omega
      · rw [ifn c3]
        by_cases c4 : A % 18446744073709551616 > B % 18446744073709551616
        · rw [ifp c4]; omega
        · rw [ifn c4]; omega
noncomputable def fl (a b : Int) : Int := (num_SqrtMul 70 a b).getD 0
noncomputable def rt (a b : Int) : Int := if fl a b * fl a b < a * b then fl a b + 1 else fl a b
def R64 (a : Int) : Prop := 0 ≤ a ∧ a ≤ 4611686018427387904
theorem fl_all {a b : Int} (ha : R64 a) (hb : R64 b) : (∀ k, 70 ≤ k → num_SqrtMul k a b = some (fl a b)) ∧ 0 ≤ fl a b ∧ fl a b ≤ 4611686018427387904 ∧ fl a b * fl a b ≤ a * b ∧ a * b < (fl a b + 1) * (fl a b + 1) := by
  obtain ⟨a0, a1⟩ := ha
  obtain ⟨b0, b1⟩ := hb
  obtain ⟨s, e, h0, h1, h2, h3⟩ := sqrtmul_ex 70 a b a0 (by omega) b0 (by omega) (by omega)
  have hs : ∀ k, 70 ≤ k → num_SqrtMul k a b = some s := by
    intro k hk
    obtain ⟨s', e', g0, g1, g2, g3⟩ := sqrtmul_ex k a b a0 (by omega) b0 (by omega) hk
    rw [e', root_unique g0 h0 g2 g3 h2 h3]
  have hi : fl a b = s := by unfold fl; rw [hs 70 (Nat.le_refl _)]; rfl
  have hm := mul_le a0 a1 b0 b1
  have hb : s < 4611686018427387905 := sq_lt h0 (by omega) (by omega)
  rw [hi]
  exact ⟨hs, h0, by omega, h2, h3⟩
theorem fl_mono {a b c d : Int} (ha : R64 a) (hb : R64 b) (hc : R64 c) (hd : R64 d) (h : a * b ≤ c * d) : fl a b ≤ fl c d := by
  obtain ⟨_, a0, _, a2, a3⟩ := fl_all ha hb
  obtain ⟨_, c0, _, c2, c3⟩ := fl_all hc hd
  have : fl a b < fl c d + 1 := sq_lt a0 (by omega) (by omega)
  omega
theorem rt_all {a b : Int} (ha : R64 a) (hb : R64 b) : 0 ≤ rt a b ∧ rt a b ≤ 4611686018427387905 ∧ fl a b ≤ rt a b ∧ a * b ≤ rt a b * rt a b := by
  obtain ⟨_, a0, a1, a2, a3⟩ := fl_all ha hb
  unfold rt
  split <;> omega
theorem rt_le {a b t : Int} (ha : R64 a) (hb : R64 b) (h0 : 0 ≤ t) (h : a * b ≤ t * t) : rt a b ≤ t := by
  obtain ⟨_, a0, a1, a2, a3⟩ := fl_all ha hb
  unfold rt
  split
  · have : fl a b < t := sq_lt a0 h0 (by omega)
    omega
  · have : fl a b < t + 1 := sq_lt a0 (by omega) (by
      have e : (t + 1) * (t + 1) = t * t + 2 * t + 1 := by grind
      omega)
    omega
theorem rt_mono {a b c d : Int} (ha : R64 a) (hb : R64 b) (hc : R64 c) (hd : R64 d) (h : a * b ≤ c * d) : rt a b ≤ rt c d := by
  obtain ⟨c0, _, _, c3⟩ := rt_all hc hd
  exact rt_le ha hb c0 (by omega)
theorem fl_comm {a b : Int} (ha : R64 a) (hb : R64 b) : fl a b = fl b a :=
  Int.le_antisymm (fl_mono ha hb hb ha (by rw [Int.mul_comm a b]; omega)) (fl_mono hb ha ha hb (by rw [Int.mul_comm a b]; omega))
theorem rt_comm {a b : Int} (ha : R64 a) (hb : R64 b) : rt a b = rt b a :=
  Int.le_antisymm (rt_mono ha hb hb ha (by rw [Int.mul_comm a b]; omega)) (rt_mono hb ha ha hb (by rw [Int.mul_comm a b]; omega))
structure NBk (x : S_Bound) : Prop where
  u : x.Unknown = false
  l : -1073741824 ≤ x.Lo
  m : x.Lo ≤ x.Hi
  h : x.Hi ≤ 1073741824
structure NOk (b : S_Box) : Prop where
  X : NBk b.X
  Y : NBk b.Y
  Z : NBk b.Z
noncomputable instance (x : S_Bound) : Decidable (NBk x) := Classical.propDecidable _
theorem sides_l0 (k : Nat) (b : S_Box) (n : Nat) (i : Int) (x : S_Bound) (i0 : 0 ≤ i) (i1 : i < 3) (hx : rd [b.X, b.Y, b.Z] i = x) : query_sides.l0 k b (n + 1) i = if NBk x then query_sides.l0 k b n (i + 1) else some (Sum.inl ([b.X, b.Y, b.Z], false)) := by
  rw [query_sides.l0, ifp i1, ifp i0, hx]
  by_cases c1 : x.Unknown = true
  · rw [ifp c1, if_neg (fun h => by rw [h.u] at c1; cases c1)]
  rw [ifn c1]
  by_cases c2 : x.Lo > x.Hi
  · rw [ifp c2, if_neg (fun h => by have := h.m; omega)]
  rw [ifn c2]
  by_cases c3 : x.Lo < -1073741824
  · rw [ifp c3, if_neg (fun h => by have := h.l; omega)]
  rw [ifn c3]
  by_cases c4 : x.Hi > 1073741824
  · rw [ifp c4, if_neg (fun h => by have := h.h; omega)]
  rw [ifn c4, if_pos ⟨Bool.eq_false_iff.mpr c1, by omega, by omega, by omega⟩, wid (by omega) (by omega)]
theorem sides_ex (k : Nat) (b : S_Box) (hk : 5 ≤ k) : ∃ t, query_sides k b = some ([b.X, b.Y, b.Z], t) ∧ (t = true ↔ NOk b) := by
  obtain ⟨j, hj⟩ : ∃ j, k = j + 4 := ⟨k - 4, by omega⟩
  unfold query_sides
  suffices h : ∀ k', k' = j + 4 → ∃ t, ((query_sides.l0 k b k' 0).bind fun z_ => Sum.elim (fun y_ => some y_) (fun _ => (some ([b.X, b.Y, b.Z], true))) z_) = some ([b.X, b.Y, b.Z], t) ∧ (t = true ↔ NOk b) from h k hj
  rintro _ rfl
  rw [sides_l0 k b _ 0 b.X (by decide) (by decide) rfl]
  by_cases c1 : NBk b.X
  · rw [if_pos c1, sides_l0 k b _ (0 + 1) b.Y (by decide) (by decide) rfl]
    by_cases c2 : NBk b.Y
    · rw [if_pos c2, sides_l0 k b _ (0 + 1 + 1) b.Z (by decide) (by decide) rfl]
      by_cases c3 : NBk b.Z
      · rw [if_pos c3, query_sides.l0, ifn (by decide)]
        exact ⟨true, rfl, fun _ => ⟨c1, c2, c3⟩, fun _ => rfl⟩
      · rw [if_neg c3]; exact ⟨false, rfl, ⟨fun h => (by cases h), fun h => absurd h.Z c3⟩⟩
    · rw [if_neg c2]; exact ⟨false, rfl, ⟨fun h => (by cases h), fun h => absurd h.Y c2⟩⟩
  · rw [if_neg c1]; exact ⟨false, rfl, ⟨fun h => (by cases h), fun h => absurd h.X c1⟩⟩
def plo (x y : S_Bound) : Int := min (min (min (x.Lo * y.Lo) (x.Lo * y.Hi)) (x.Hi * y.Lo)) (x.Hi * y.Hi)
def phi (x y : S_Bound) : Int := max (max (max (x.Lo * y.Lo) (x.Lo * y.Hi)) (x.Hi * y.Lo)) (x.Hi * y.Hi)
def qlo (x : S_Bound) : Int := if x.Lo > 0 then min (x.Lo * x.Lo) (x.Hi * x.Hi) else if x.Hi < 0 then min (x.Lo * x.Lo) (x.Hi * x.Hi) else 0
def qhi (x : S_Bound) : Int := max (x.Lo * x.Lo) (x.Hi * x.Hi)
theorem mul_bd {a b A B : Int} (h1 : -A ≤ a) (h2 : a ≤ A) (h3 : -B ≤ b) (h4 : b ≤ B) : -(A * B) ≤ a * b ∧ a * b ≤ A * B := by
  have e : (a * b).natAbs = a.natAbs * b.natAbs := Int.natAbs_mul a b
  have l : a.natAbs * b.natAbs ≤ A.toNat * B.toNat := Nat.mul_le_mul (by omega) (by omega)
  have f : ((A.toNat * B.toNat : Nat) : Int) = A * B := by rw [Int.natCast_mul]; congr 1 <;> omega
  omega
theorem b30 {a b : Int} (h1 : -1073741824 ≤ a) (h2 : a ≤ 1073741824) (h3 : -1073741824 ≤ b) (h4 : b ≤ 1073741824) : -1152921504606846976 ≤ a * b ∧ a * b ≤ 1152921504606846976 := by
  have := mul_bd (A := 1073741824) (B := 1073741824) h1 h2 h3 h4
  omega
theorem product_ok (k : Nat) {x y : S_Bound} (hx : NBk x) (hy : NBk y) : query_product k x y = some (plo x y, phi x y) ∧ -1152921504606846976 ≤ plo x y ∧ plo x y ≤ phi x y ∧ phi x y ≤ 1152921504606846976 := by
  have := hx.l; have := hx.m; have := hx.h; have := hy.l; have := hy.m; have := hy.h
  have h1 := b30 (a := x.Lo) (b := y.Lo) (by omega) (by omega) (by omega) (by omega)
  have h2 := b30 (a := x.Lo) (b := y.Hi) (by omega) (by omega) (by omega) (by omega)
  have h3 := b30 (a := x.Hi) (b := y.Lo) (by omega) (by omega) (by omega) (by omega)
  have h4 := b30 (a := x.Hi) (b := y.Hi) (by omega) (by omega) (by omega) (by omega)
  unfold query_product plo phi
  generalize x.Lo * y.Lo = A at *
  generalize x.Lo * y.Hi = B at *
  generalize x.Hi * y.Lo = C at *
  generalize x.Hi * y.Hi = D at *
  rw [wid (x := A) (by omega) (by omega), wid (x := B) (by omega) (by omega), wid (x := C) (by omega) (by omega), wid (x := D) (by omega) (by omega), mn_def, mn_def, mn_def, mx_def, mx_def, mx_def]
  exact ⟨rfl, by omega, by omega, by omega⟩
theorem sq_nn (v : Int) : 0 ≤ v * v := by
  rcases Int.le_total 0 v with g | g
  · exact Int.mul_nonneg g g
  · have := Int.mul_nonneg (show 0 ≤ -v by omega) (show 0 ≤ -v by omega); rw [Int.neg_mul_neg] at this; exact this
theorem square_ok (k : Nat) {x : S_Bound} (hx : NBk x) : query_square k x = some (qlo x, qhi x) ∧ 0 ≤ qlo x ∧ qlo x ≤ qhi x ∧ qhi x ≤ 1152921504606846976 := by
  have := hx.l; have := hx.m; have := hx.h
  have h1 := b30 (a := x.Lo) (b := x.Lo) (by omega) (by omega) (by omega) (by omega)
  have h2 := b30 (a := x.Hi) (b := x.Hi) (by omega) (by omega) (by omega) (by omega)
  have n1 := sq_nn x.Lo
  have n2 := sq_nn x.Hi
  unfold query_square qlo qhi
  generalize x.Lo * x.Lo = A at *
  generalize x.Hi * x.Hi = B at *
  rw [wid (x := A) (by omega) (by omega), wid (x := B) (by omega) (by omega), mn_def, mx_def]
  by_cases c : x.Lo > 0
  · rw [ifp c, ifp c]; exact ⟨rfl, by omega, by omega, by omega⟩
  · rw [ifn c, ifn c]
    by_cases d : x.Hi < 0
    · rw [ifp d, ifp d]; exact ⟨rfl, by omega, by omega, by omega⟩
    · rw [ifn d, ifn d]; exact ⟨rfl, by omega, by omega, by omega⟩
def lea (a b : S_Box) : Int := plo a.X b.X + plo a.Y b.Y + plo a.Z b.Z
def mos (a b : S_Box) : Int := phi a.X b.X + phi a.Y b.Y + phi a.Z b.Z
def low (a : S_Box) : Int := qlo a.X + qlo a.Y + qlo a.Z
def hig (a : S_Box) : Int := qhi a.X + qhi a.Y + qhi a.Z
open Classical in
noncomputable def nearV (a b : S_Box) (cos : Int) : Int :=
  if ¬ (NOk a ∧ NOk b) then 1 else if low a > 0 ∧ low b > 0 ∧ lea a b * 1073741824 ≥ cos * rt (hig a) (hig b) then 2 else if mos a b * 1073741824 < cos * fl (low a) (low b) then 0 else 1
theorem low_ok {a : S_Box} (h : NOk a) : R64 (low a) ∧ R64 (hig a) ∧ low a ≤ hig a ∧ low a ≤ 3458764513820540928 ∧ hig a ≤ 3458764513820540928 := by
  obtain ⟨_, x0, x1, x2⟩ := square_ok 0 h.X
  obtain ⟨_, y0, y1, y2⟩ := square_ok 0 h.Y
  obtain ⟨_, z0, z1, z2⟩ := square_ok 0 h.Z
  unfold R64 low hig
  omega
theorem lea_ok {a b : S_Box} (h : NOk a) (g : NOk b) : -3458764513820540928 ≤ lea a b ∧ lea a b ≤ mos a b ∧ mos a b ≤ 3458764513820540928 := by
  obtain ⟨_, x0, x1, x2⟩ := product_ok 0 h.X g.X
  obtain ⟨_, y0, y1, y2⟩ := product_ok 0 h.Y g.Y
  obtain ⟨_, z0, z1, z2⟩ := product_ok 0 h.Z g.Z
  unfold lea mos
  omega
theorem tail_eq (k : Nat) {a b : S_Box} {cos : Int} (c0 : 0 ≤ cos) (c1 : cos ≤ 1073741824) (h : NOk a) (g : NOk b) (hk : 80 ≤ k) :
    ((num_Product k (mos a b) 1073741824).bind fun vt312 => ((num_SqrtMul k (low a) (low b)).bind fun vt318 => ((num_Product k cos vt318).bind fun vt324 => ((num_Wide_Cmp k vt312 vt324).bind fun vt330 => (if vt330 < 0 then (some 0) else (some 1)))))) = (some (if mos a b * 1073741824 < cos * fl (low a) (low b) then 0 else 1) : Option Int) := by
  obtain ⟨l0, l1, l2⟩ := lea_ok h g
  obtain ⟨a1, a2, _⟩ := low_ok h
  obtain ⟨b1, b2, _⟩ := low_ok g
  obtain ⟨e, f0, f1, _⟩ := fl_all a1 b1
  rw [bnd (product_eq k _ _ (by omega) (by omega) (by omega) (by omega)), bnd (e k (by omega)), bnd (product_eq k _ _ (by omega) (by omega) (by omega) (by omega))]
  obtain ⟨c, ec, h1, h2⟩ := wcmp k (mos a b * 1073741824) (cos * fl (low a) (low b)) (by omega)
  rw [bnd ec]
  by_cases q : c < 0
  · rw [ifp q, if_pos (h1.mp q)]
  · rw [ifn q, if_neg (fun z => q (h1.mpr z))]
theorem near_eq (k : Nat) (a b : S_Box) (cos : Int) (c0 : 0 ≤ cos) (c1 : cos ≤ 1073741824) (hk : 80 ≤ k) : query_Near k a b cos = some (nearV a b cos) := by
  obtain ⟨t, e1, t1⟩ := sides_ex k a (by omega)
  obtain ⟨u, e2, u1⟩ := sides_ex k b (by omega)
  unfold query_Near nearV
  rw [bnd e1]; dsimp only
  rw [bnd e2]; dsimp only
  rw [ifn (by omega), ifn (by omega)]
  by_cases h : NOk a
  · rw [ifn (show ¬ ¬ t = true from fun z => z (t1.mpr h))]
    by_cases g : NOk b
    · rw [ifn (show ¬ ¬ u = true from fun z => z (u1.mpr g)), if_neg (show ¬ ¬ (NOk a ∧ NOk b) from fun z => z ⟨h, g⟩)]
      have q0 : ∀ p q r : S_Bound, List.getD [p, q, r] 0 default = p := fun _ _ _ => rfl
      have q1 : ∀ p q r : S_Bound, List.getD [p, q, r] 1 default = q := fun _ _ _ => rfl
      have q2 : ∀ p q r : S_Bound, List.getD [p, q, r] 2 default = r := fun _ _ _ => rfl
      rw [q0, q1, q2, q0, q1, q2]
      obtain ⟨x1, x2, x3, x4⟩ := product_ok k h.X g.X
      obtain ⟨y1, y2, y3, y4⟩ := product_ok k h.Y g.Y
      obtain ⟨z1, z2, z3, z4⟩ := product_ok k h.Z g.Z
      obtain ⟨p1, p2, p3, p4⟩ := square_ok k h.X
      obtain ⟨p5, p6, p7, p8⟩ := square_ok k h.Y
      obtain ⟨p9, p10, p11, p12⟩ := square_ok k h.Z
      obtain ⟨r1, r2, r3, r4⟩ := square_ok k g.X
      obtain ⟨r5, r6, r7, r8⟩ := square_ok k g.Y
      obtain ⟨r9, r10, r11, r12⟩ := square_ok k g.Z
      rw [bnd x1]; dsimp only
      rw [bnd p1]; dsimp only
      rw [bnd r1]; dsimp only
      rw [bnd y1]; dsimp only
      rw [bnd p5]; dsimp only
      rw [bnd r5]; dsimp only
      rw [bnd z1]; dsimp only
      rw [bnd p9]; dsimp only
      rw [bnd r9]; dsimp only
      have s3 : ∀ p q r : Int, -1152921504606846976 ≤ p → p ≤ 1152921504606846976 → -1152921504606846976 ≤ q → q ≤ 1152921504606846976 → -1152921504606846976 ≤ r → r ≤ 1152921504606846976 → w64 ((w64 ((w64 (0 + p)) + q)) + r) = p + q + r := fun p q r _ _ _ _ _ _ => by
        rw [wid (x := 0 + p) (by omega) (by omega), wid (x := 0 + p + q) (by omega) (by omega), wid (by omega) (by omega)]; omega
      rw [s3 (qhi a.X) _ _ (by omega) (by omega) (by omega) (by omega) (by omega) (by omega), s3 (qhi b.X) _ _ (by omega) (by omega) (by omega) (by omega) (by omega) (by omega), s3 (qlo a.X) _ _ (by omega) (by omega) (by omega) (by omega) (by omega) (by omega), s3 (qlo b.X) _ _ (by omega) (by omega) (by omega) (by omega) (by omega) (by omega),
        s3 (plo a.X b.X) _ _ (by omega) (by omega) (by omega) (by omega) (by omega) (by omega), s3 (phi a.X b.X) _ _ (by omega) (by omega) (by omega) (by omega) (by omega) (by omega)]
      obtain ⟨l0, l1, l2⟩ := lea_ok h g
      obtain ⟨a1, a2, _⟩ := low_ok h
      obtain ⟨b1, b2, _⟩ := low_ok g
      have tl := tail_eq k c0 c1 h g hk
      change (num_SqrtMul k (hig a) (hig b)).bind _ = _
      obtain ⟨e, f0, f1, f2, f3⟩ := fl_all a2 b2
      obtain ⟨m0, m1, m2, m3⟩ := rt_all a2 b2
      rw [bnd (e k (by omega)), bnd (product_eq k _ _ (by omega) (by omega) (by omega) (by omega))]
      change (num_Product k (hig a) (hig b)).bind _ = _
      obtain ⟨a21, a22⟩ := a2
      obtain ⟨b21, b22⟩ := b2
      rw [bnd (product_eq k _ _ (by omega) (by omega) (by omega) (by omega))]
      obtain ⟨c, ec, h1, h2⟩ := wcmp k (fl (hig a) (hig b) * fl (hig a) (hig b)) (hig a * hig b) (by omega)
      rw [bnd ec]
      have er : (if c < 0 then (some (w64 (fl (hig a) (hig b) + 1))) else (some (fl (hig a) (hig b))) : Option Int) = some (rt (hig a) (hig b)) := by
        unfold rt
        by_cases q : c < 0
        · rw [ifp q, if_pos (h1.mp q), wid (by omega) (by omega)]
        · rw [ifn q, if_neg (fun z => q (h1.mpr z))]
      rw [bnd er]
      change (if low a > 0 then (if low b > 0 then ((num_Product k (lea a b) 1073741824).bind _) else _) else _) = _
      by_cases w1 : low a > 0
      · rw [ifp w1]
        by_cases w2 : low b > 0
        · rw [ifp w2, bnd (product_eq k _ _ (by omega) (by omega) (by omega) (by omega)), bnd (product_eq k _ _ (by omega) (by omega) (by omega) (by omega))]
          obtain ⟨d, ed, g1, g2⟩ := wcmp k (lea a b * 1073741824) (cos * rt (hig a) (hig b)) (by omega)
          rw [bnd ed]
          by_cases q : d ≥ 0
          · rw [ifp q, if_pos ⟨w1, w2, g2.mp q⟩]
          · rw [ifn q, if_neg (fun z => q (g2.mpr z.2.2))]
            exact tl
        · rw [ifn w2, if_neg (fun z => w2 z.2.1)]
          exact tl
      · rw [ifn w1, if_neg (fun z => w1 z.1)]
        exact tl
    · rw [ifp (show ¬ u = true from fun z => g (u1.mp z)), if_pos (show ¬ (NOk a ∧ NOk b) from fun z => g z.2)]
  · rw [ifp (show ¬ t = true from fun z => h (t1.mp z)), if_pos (show ¬ (NOk a ∧ NOk b) from fun z => h z.1)]
theorem below_ex (k : Nat) (x n : Int) (h1 : 1 ≤ n) (h2 : n ≤ 4611686018427387904) : ∃ v, spymake_Below k x n = some v ∧ 0 ≤ v ∧ v < n := by
  have e1 := Int.tmod_lt_of_pos x (show 0 < n by omega)
  have e2 := Int.lt_tmod_of_pos x (show 0 < n by omega)
  unfold spymake_Below
  rw [ifn (by omega), ifp (by omega)]
  by_cases c : Int.tmod x n < 0
  · rw [ifp c]
    refine ⟨_, rfl, ?_, ?_⟩ <;> rw [wid (by omega) (by omega)] <;> omega
  · rw [ifn c]
    exact ⟨_, rfl, by omega, by omega⟩
theorem next_ex (k : Nat) (L : List Int) (a n : Int) (h1 : 1 ≤ n) (h2 : n ≤ 4611686018427387904) (a0 : 0 ≤ a) (a1 : a ≤ 4611686018427387904) :
    ∃ v, spymake_Stream_Next k ⟨L, a⟩ n = some (v, a + 1) ∧ 0 ≤ v ∧ v < n := by
  unfold spymake_Stream_Next
  dsimp only
  rw [wid (x := a + 1) (by omega) (by omega)]
  by_cases c : (L.length : Int) = 0
  · rw [ifp c]
    obtain ⟨v, hv, v0, v1⟩ := below_ex k (w64 ((a + 1) * 7919)) n h1 h2
    rw [bnd hv]
    exact ⟨v, rfl, v0, v1⟩
  · rw [ifn c, ifp c, show a + 1 - 1 = a by omega, wid (x := a) (by omega) (by omega)]
    have e1 := Int.tmod_lt_of_pos a (show 0 < (L.length : Int) by omega)
    have e2 : 0 ≤ Int.tmod a (L.length : Int) := Int.tmod_nonneg _ a0
    rw [ifp e2, ifp e1]
    obtain ⟨u, hu, _⟩ := below_ex k (rd L (Int.tmod a (L.length : Int))) 1073741824 (by decide) (by decide)
    rw [bnd hu]
    obtain ⟨v, hv, v0, v1⟩ := below_ex k (w64 (u + (w64 ((w64 (Int.tdiv a (L.length : Int))) * (w64 (7919 + (Int.tmod a (L.length : Int)))))))) n h1 h2
    rw [bnd hv]
    exact ⟨v, rfl, v0, v1⟩
theorem range_ex (k : Nat) (L : List Int) (a lo hi : Int) (h1 : lo ≤ hi) (h2 : hi - lo ≤ 1073741824) (h3 : -4611686018427387904 ≤ lo) (h4 : hi ≤ 4611686018427387904) (a0 : 0 ≤ a) (a1 : a ≤ 4611686018427387904) :
    ∃ v, spymake_Stream_Range k ⟨L, a⟩ lo hi = some (v, a + 1) ∧ lo ≤ v ∧ v ≤ hi := by
  unfold spymake_Stream_Range
  rw [ifn (by omega), wid (x := hi - lo) (by omega) (by omega), wid (x := hi - lo + 1) (by omega) (by omega)]
  obtain ⟨v, hv, v0, v1⟩ := next_ex k L a (hi - lo + 1) (by omega) (by omega) a0 a1
  rw [bnd hv]
  dsimp only
  rw [wid (by omega) (by omega)]
  exact ⟨_, rfl, by omega, by omega⟩
def V20 (v : S_Vec) : Prop := (-1048576 ≤ v.X ∧ v.X ≤ 1048576) ∧ (-1048576 ≤ v.Y ∧ v.Y ≤ 1048576) ∧ (-1048576 ≤ v.Z ∧ v.Z ≤ 1048576) ∧ ¬ (v.X = 0 ∧ v.Y = 0 ∧ v.Z = 0)
theorem zero3 (x y z : Int) : ((x == 0) && ((y == 0) && ((z == 0) && true))) = true ↔ (x = 0 ∧ y = 0 ∧ z = 0) := by simp
theorem asked_eq (k : Nat) (h : 100 ≤ k) : spykeep3_asked k = some true := by
  obtain ⟨k, rfl⟩ : ∃ j, k = j + 100 := ⟨k - 100, by omega⟩
  kernel_rfl
structure BOk (b : S_Bound) (M : Int) : Prop where
  un : b.Unknown = true → b.Lo = 0 ∧ b.Hi = 0
  lo : -M ≤ b.Lo
  hi : b.Hi ≤ M
  le : b.Lo ≤ b.Hi
theorem ends_Coord (k : Nat) (b : S_Bound) (M : Int) (h : BOk b M) (m0 : 0 ≤ M) (m1 : M ≤ 1152921504606846976) : catalog_ends_Coord k b M = some 0 := by
  have h1 := h.lo
  have h2 := h.hi
  have h3 := h.le
  have hc : bound_Check_Coord k b = some 0 := by
    unfold bound_Check_Coord
    by_cases c : b.Unknown = true
    · obtain ⟨u, v⟩ := h.un c
      rw [ifp c, ifn (by omega), ifn (by omega), ifn (by rw [mn_def]; omega), ifn (by rw [mx_def]; omega), ifn (by omega)]
    · rw [ifn c, ifn (by rw [mn_def]; omega), ifn (by rw [mx_def]; omega), ifn (by omega)]
  unfold catalog_ends_Coord
  rw [bnd hc, ifn (by decide), wid (by omega) (by omega), ifn (by omega), ifn (by omega)]
theorem ends_Quanta (k : Nat) (b : S_Bound) (M : Int) (h : BOk b M) (m0 : 0 ≤ M) (m1 : M ≤ 1152921504606846976) : catalog_ends_Quanta k b M = some 0 := by
  have h1 := h.lo
  have h2 := h.hi
  have h3 := h.le
  have hc : bound_Check_Quanta k b = some 0 := by
    unfold bound_Check_Quanta
    by_cases c : b.Unknown = true
    · obtain ⟨u, v⟩ := h.un c
      rw [ifp c, ifn (by omega), ifn (by omega), ifn (by rw [mn_def]; omega), ifn (by rw [mx_def]; omega), ifn (by omega)]
    · rw [ifn c, ifn (by rw [mn_def]; omega), ifn (by rw [mx_def]; omega), ifn (by omega)]
  unfold catalog_ends_Quanta
  rw [bnd hc, ifn (by decide), wid (by omega) (by omega), ifn (by omega), ifn (by omega)]
theorem ends_Tick (k : Nat) (b : S_Bound) (M : Int) (h : BOk b M) (m0 : 0 ≤ M) (m1 : M ≤ 1152921504606846976) : catalog_ends_Tick k b M = some 0 := by
  have h1 := h.lo
  have h2 := h.hi
  have h3 := h.le
  have hc : bound_Check_Tick k b = some 0 := by
    unfold bound_Check_Tick
    by_cases c : b.Unknown = true
    · obtain ⟨u, v⟩ := h.un c
      rw [ifp c, ifn (by omega), ifn (by omega), ifn (by rw [mn_def]; omega), ifn (by rw [mx_def]; omega), ifn (by omega)]
    · rw [ifn c, ifn (by rw [mn_def]; omega), ifn (by rw [mx_def]; omega), ifn (by omega)]
  unfold catalog_ends_Tick
  rw [bnd hc, ifn (by decide), wid (by omega) (by omega), ifn (by omega), ifn (by omega)]
theorem pw_rd {α : Type} [Inhabited α] {R : α → α → Prop} {l : List α} (h : l.Pairwise R) {i j : Int} (i0 : 0 ≤ i) (ij : i < j) (jl : j < (l.length : Int)) : R (rd l i) (rd l j) := by
  obtain ⟨hi, ei⟩ := rd_lt (xs := l) i0 (by omega)
  obtain ⟨hj, ej⟩ := rd_lt (xs := l) (show 0 ≤ j by omega) jl
  rw [ei, ej]
  exact List.pairwise_iff_getElem.mp h _ _ hi hj (by omega)
theorem vec_ex (k : Nat) (L : List Int) (a : Int) (a0 : 0 ≤ a) (a1 : a ≤ 1000000) : ∃ v a', spymake_Stream_Vec k ⟨L, a⟩ = some (v, a') ∧ a ≤ a' ∧ a' ≤ a + 4 ∧ (-1048576 ≤ v.X ∧ v.X ≤ 1048576) ∧ (-1048576 ≤ v.Y ∧ v.Y ≤ 1048576) ∧ (-1048576 ≤ v.Z ∧ v.Z ≤ 1048576) := by
  unfold spymake_Stream_Vec
  obtain ⟨i, h1, i0, i1⟩ := next_ex k L a 4 (by decide) (by decide) (by omega) (by omega)
  rw [bnd h1]; dsimp only
  have hl : AllIn ([3, 100, 5000, 1048576] : List Int) 3 1048576 := by
    intro x hx; simp only [List.mem_cons, List.not_mem_nil, or_false] at hx; omega
  have len : (([3, 100, 5000, 1048576] : List Int).length : Int) = 4 := rfl
  have hv := hl.rd i0 (by rw [len]; omega)
  rw [ifp i0, ifp (by rw [len]; omega)]
  generalize rd ([3, 100, 5000, 1048576] : List Int) i = m at *
  rw [wid (x := 0 - m) (by omega) (by omega)]
  obtain ⟨x, e1, x0, x1⟩ := range_ex k L (a + 1) (0 - m) m (by omega) (by omega) (by omega) (by omega) (by omega) (by omega)
  rw [bnd e1]; dsimp only
  obtain ⟨y, e2, y0, y1⟩ := range_ex k L (a + 1 + 1) (0 - m) m (by omega) (by omega) (by omega) (by omega) (by omega) (by omega)
  rw [bnd e2]; dsimp only
  obtain ⟨z, e3, z0, z1⟩ := range_ex k L (a + 1 + 1 + 1) (0 - m) m (by omega) (by omega) (by omega) (by omega) (by omega) (by omega)
  rw [bnd e3]; dsimp only
  by_cases c : ((x == 0) && ((y == 0) && ((z == 0) && true))) = true
  · rw [ifp c]
    refine ⟨_, _, rfl, by omega, by omega, ⟨?_, ?_⟩, ⟨?_, ?_⟩, ⟨?_, ?_⟩⟩ <;> dsimp only <;> omega
  · rw [ifn c]
    refine ⟨_, _, rfl, by omega, by omega, ⟨?_, ?_⟩, ⟨?_, ?_⟩, ⟨?_, ?_⟩⟩ <;> dsimp only <;> omega
theorem side_ex (k : Nat) (L : List Int) (a m c : Int) (a0 : 0 ≤ a) (a1 : a ≤ 1000010) (m0 : 0 ≤ m) (m1 : m ≤ 262144) (c0 : -1048576 ≤ c) (c1 : c ≤ 1048576) : ∃ b, spymake_Stream_Box_1 k ⟨L, a⟩ m c = some (b, a + 1 + 1) ∧ BOk b 1073741824 := by
  unfold spymake_Stream_Box_1
  rw [wid (x := m + 1) (by omega) (by omega)]
  obtain ⟨u, h1, u0, u1⟩ := next_ex k L a (m + 1) (by omega) (by omega) (by omega) (by omega)
  rw [bnd h1]; dsimp only
  obtain ⟨v, h2, v0, v1⟩ := next_ex k L (a + 1) (m + 1) (by omega) (by omega) (by omega) (by omega)
  rw [bnd h2]; dsimp only
  rw [wid (by omega) (by omega), wid (by omega) (by omega)]
  exact ⟨_, rfl, ⟨fun h => (by cases h), by dsimp only; omega, by dsimp only; omega, by dsimp only; omega⟩⟩
theorem none_ok {M : Int} (h : 0 ≤ M) : BOk ⟨0, 0, true⟩ M := ⟨fun _ => ⟨rfl, rfl⟩, by dsimp only; omega, by dsimp only; omega, by dsimp only; omega⟩
structure XOk (b : S_Box) : Prop where
  x : BOk b.X 1073741824
  y : BOk b.Y 1073741824
  z : BOk b.Z 1073741824
theorem box_ex (k : Nat) (L : List Int) (a : Int) (a0 : 0 ≤ a) (a1 : a ≤ 999990) : ∃ b a', spymake_Stream_Box k ⟨L, a⟩ = some (b, a') ∧ a ≤ a' ∧ a' ≤ a + 12 ∧ XOk b := by
  unfold spymake_Stream_Box
  obtain ⟨v, b, e, b0, b1, hx, hy, hz⟩ := vec_ex k L a a0 (by omega)
  rw [bnd e]; dsimp only
  obtain ⟨i, h1, i0, i1⟩ := next_ex k L b 10 (by decide) (by decide) (by omega) (by omega)
  rw [bnd h1]; dsimp only
  by_cases c : i = 0
  · rw [ifp c]
    exact ⟨_, _, rfl, by omega, by omega, none_ok (by decide), none_ok (by decide), none_ok (by decide)⟩
  · rw [ifn c]
    obtain ⟨j, h2, j0, j1⟩ := next_ex k L (b + 1) 4 (by decide) (by decide) (by omega) (by omega)
    rw [bnd h2]; dsimp only
    have hl : AllIn ([0, 2, 300, 262144] : List Int) 0 262144 := by
      intro x hx; simp only [List.mem_cons, List.not_mem_nil, or_false] at hx; omega
    have len : (([0, 2, 300, 262144] : List Int).length : Int) = 4 := rfl
    have hv := hl.rd j0 (by rw [len]; omega)
    rw [ifp j0, ifp (by rw [len]; omega)]
    generalize rd ([0, 2, 300, 262144] : List Int) j = m at *
    obtain ⟨x, e1, x1⟩ := side_ex k L (b + 1 + 1) m v.X (by omega) (by omega) hv.1 hv.2 hx.1 hx.2
    rw [bnd e1]; dsimp only
    obtain ⟨y, e2, y1⟩ := side_ex k L (b + 1 + 1 + 1 + 1) m v.Y (by omega) (by omega) hv.1 hv.2 hy.1 hy.2
    rw [bnd e2]; dsimp only
    obtain ⟨z, e3, z1⟩ := side_ex k L (b + 1 + 1 + 1 + 1 + 1 + 1) m v.Z (by omega) (by omega) hv.1 hv.2 hz.1 hz.2
    rw [bnd e3]; dsimp only
    exact ⟨_, _, rfl, by omega, by omega, x1, y1, z1⟩
structure RV (r : S_Row) : Prop where
  id1 : 1 ≤ r.ID
  id2 : r.ID ≤ 2147483647
  box : XOk r.Box
  flux : BOk r.Flux 1125899906842624
  when_ : BOk r.When 17592186044416
  fr : r.Frames.Pairwise (· < ·)
  fi : AllIn r.Frames 1 1048576
  l1 : 1 ≤ r.Frames.length
  l2 : r.Frames.length ≤ 8
  m0 : 0 ≤ r.Marks
  m1 : r.Marks ≤ 3
theorem or_ex (k : Nat) (h : 3 ≤ k) : cmp_Or_Errno k [0, 0] = some 0 := by
  obtain ⟨k, rfl⟩ : ∃ j, k = j + 3 := ⟨k - 3, by omega⟩
  kernel_rfl
theorem check_l1 (k : Nat) (r : S_Row) (hr : RV r) : ∀ (d m : Nat) (i : Int), i + d = (r.Frames.length : Int) → 0 ≤ i → d < m → catalog_CheckRow.l1 k r m i = some (Sum.inr ()) := by
  intro d
  have hl2 := hr.l2
  induction d with
  | zero =>
    intro m i hi i0 hm
    obtain ⟨m, rfl⟩ : ∃ q, m = q + 1 := ⟨m - 1, by omega⟩
    rw [catalog_CheckRow.l1, ifn (by omega)]
  | succ d ih =>
    intro m i hi i0 hm
    obtain ⟨m, rfl⟩ : ∃ q, m = q + 1 := ⟨m - 1, by omega⟩
    have hf := hr.fi.rd i0 (show i < (r.Frames.length : Int) by omega)
    rw [catalog_CheckRow.l1, ifp (by omega), ifp i0, ifn (by omega), ifn (by omega)]
    have hn := ih m (i + 1) (by omega) (by omega) (by omega)
    by_cases c : i > 0
    · have hp := pw_rd hr.fr (i := i - 1) (j := i) (by omega) (by omega) (by omega)
      rw [ifp c, wid (x := i - 1) (by omega) (by omega), ifp (by omega), ifp (by omega), ifn (by omega), wid (by omega) (by omega)]
      exact hn
    · rw [ifn c, wid (by omega) (by omega)]
      exact hn
theorem checkRow_ex (k : Nat) (r : S_Row) (hr : RV r) (hk : 10 ≤ k) : catalog_CheckRow k r = some 0 := by
  unfold catalog_CheckRow
  have h1 := hr.id1
  have h2 := hr.id2
  have l1 := hr.l1
  have l2 := hr.l2
  have m0 := hr.m0
  have m1 := hr.m1
  have hl0 : catalog_CheckRow.l0 k r k 0 = some (Sum.inr ()) := by
    obtain ⟨m, rfl⟩ : ∃ q, k = q + 4 := ⟨k - 4, by omega⟩
    rw [catalog_CheckRow.l0, ifp (by decide), ifp (by decide)]
    show (catalog_ends_Coord _ r.Box.X 1073741824).bind _ = _
    rw [bnd (ends_Coord _ _ _ hr.box.x (by decide) (by decide)), ifn (by decide), show w64 (0 + 1) = 1 from rfl, catalog_CheckRow.l0, ifp (by decide), ifp (by decide)]
    show (catalog_ends_Coord _ r.Box.Y 1073741824).bind _ = _
    rw [bnd (ends_Coord _ _ _ hr.box.y (by decide) (by decide)), ifn (by decide), show w64 (1 + 1) = 2 from rfl, catalog_CheckRow.l0, ifp (by decide), ifp (by decide)]
    show (catalog_ends_Coord _ r.Box.Z 1073741824).bind _ = _
    rw [bnd (ends_Coord _ _ _ hr.box.z (by decide) (by decide)), ifn (by decide), show w64 (2 + 1) = 3 from rfl, catalog_CheckRow.l0, ifn (by decide)]
  rw [ifn (by omega), ifn (by omega), bnd hl0]
  show (catalog_ends_Quanta _ _ _).bind _ = _
  rw [bnd (ends_Quanta _ _ _ hr.flux (by decide) (by decide)), bnd (ends_Tick _ _ _ hr.when_ (by decide) (by decide)), bnd (or_ex k (by omega)), ifn (by decide), ifn (by omega), ifn (by omega), bnd (check_l1 k r hr r.Frames.length k 0 (by omega) (by decide) (by omega))]
  show (if r.Marks < 0 then _ else _) = _
  rw [ifn (by omega), ifn (by omega)]
theorem bq_ex (k : Nat) (L : List Int) (a : Int) (a0 : 0 ≤ a) (a1 : a ≤ 1000010) : ∃ b a', spymake_Bound_Quanta k ⟨L, a⟩ 1000 = some (b, a') ∧ a ≤ a' ∧ a' ≤ a + 3 ∧ BOk b 1125899906842624 := by
  unfold spymake_Bound_Quanta
  obtain ⟨i, h1, i0, i1⟩ := next_ex k L a 8 (by decide) (by decide) (by omega) (by omega)
  rw [bnd h1]; dsimp only
  rw [show w64 (0 - 1000) = -1000 from rfl]
  by_cases c : i = 0
  · rw [ifp c]; exact ⟨_, _, rfl, by omega, by omega, none_ok (by decide)⟩
  · rw [ifn c]
    obtain ⟨u, h2, u0, u1⟩ := range_ex k L (a + 1) (-1000) 1000 (by omega) (by omega) (by omega) (by omega) (by omega) (by omega)
    by_cases c : i = 1
    · rw [ifp c, bnd h2]; exact ⟨_, _, rfl, by omega, by omega, fun h => (by cases h), by dsimp only; omega, by dsimp only; omega, by dsimp only; omega⟩
    · rw [ifn c, bnd h2]; dsimp only
      obtain ⟨v, h3, v0, v1⟩ := range_ex k L (a + 1 + 1) (-1000) 1000 (by omega) (by omega) (by omega) (by omega) (by omega) (by omega)
      rw [bnd h3]; dsimp only
      rw [mn_def, mx_def]
      exact ⟨_, _, rfl, by omega, by omega, fun h => (by cases h), by dsimp only; omega, by dsimp only; omega, by dsimp only; omega⟩
theorem bt_ex (k : Nat) (L : List Int) (a : Int) (a0 : 0 ≤ a) (a1 : a ≤ 1000010) : ∃ b a', spymake_Bound_Tick k ⟨L, a⟩ 5000 = some (b, a') ∧ a ≤ a' ∧ a' ≤ a + 3 ∧ BOk b 17592186044416 := by
  unfold spymake_Bound_Tick
  obtain ⟨i, h1, i0, i1⟩ := next_ex k L a 8 (by decide) (by decide) (by omega) (by omega)
  rw [bnd h1]; dsimp only
  rw [show w64 (0 - 5000) = -5000 from rfl]
  by_cases c : i = 0
  · rw [ifp c]; exact ⟨_, _, rfl, by omega, by omega, none_ok (by decide)⟩
  · rw [ifn c]
    obtain ⟨u, h2, u0, u1⟩ := range_ex k L (a + 1) (-5000) 5000 (by omega) (by omega) (by omega) (by omega) (by omega) (by omega)
    by_cases c : i = 1
    · rw [ifp c, bnd h2]; exact ⟨_, _, rfl, by omega, by omega, fun h => (by cases h), by dsimp only; omega, by dsimp only; omega, by dsimp only; omega⟩
    · rw [ifn c, bnd h2]; dsimp only
      obtain ⟨v, h3, v0, v1⟩ := range_ex k L (a + 1 + 1) (-5000) 5000 (by omega) (by omega) (by omega) (by omega) (by omega) (by omega)
      rw [bnd h3]; dsimp only
      rw [mn_def, mx_def]
      exact ⟨_, _, rfl, by omega, by omega, fun h => (by cases h), by dsimp only; omega, by dsimp only; omega, by dsimp only; omega⟩
theorem row_l0 (k : Nat) (L : List Int) (v0 n : Int) (n1 : n ≤ 3) : ∀ (d m : Nat) (q i a : Int) (F : List Int), i + d = n → 0 ≤ i → d < m → 0 ≤ a → a + d ≤ 1000100 → (F.length : Int) = i → 0 ≤ q → q ≤ 50 * i → F.Pairwise (· < ·) → AllIn F 1 q →
    ∃ a' F', spymake_Stream_Row.l0 k n ⟨L, v0⟩ m q i a F = some (a', F') ∧ a' = a + d ∧ (F'.length : Int) = n ∧ F'.Pairwise (· < ·) ∧ AllIn F' 1 1048576 := by
  intro d
  induction d with
  | zero =>
    intro m q i a F hi i0 hm a0 a1 hF q0 q1 hp hA
    obtain ⟨m, rfl⟩ : ∃ z, m = z + 1 := ⟨m - 1, by omega⟩
    rw [spymake_Stream_Row.l0, ifn (by omega)]
    exact ⟨_, _, rfl, by omega, by omega, hp, hA.mono (by omega) (by omega)⟩
  | succ d ih =>
    intro m q i a F hi i0 hm a0 a1 hF q0 q1 hp hA
    obtain ⟨m, rfl⟩ : ∃ z, m = z + 1 := ⟨m - 1, by omega⟩
    rw [spymake_Stream_Row.l0, ifp (by omega)]
    obtain ⟨v, h2, v0, v1⟩ := range_ex k L a 1 50 (by omega) (by omega) (by omega) (by omega) (by omega) (by omega)
    rw [bnd h2]; dsimp only
    rw [ifp (by omega), wid (x := q + v) (by omega) (by omega), wid (x := i + 1) (by omega) (by omega)]
    obtain ⟨a', F', e, e1, e2⟩ := ih m (q + v) (i + 1) (a + 1) (F ++ [q + v]) (by omega) (by omega) (by omega) (by omega) (by omega) (by rw [List.length_append, List.length_cons, List.length_nil]; omega) (by omega) (by omega)
      (List.pairwise_append.mpr ⟨hp, List.pairwise_singleton _ _, fun x hx y hy => by
        simp only [List.mem_singleton] at hy
        have := hA x hx
        omega⟩) ((hA.mono (by omega) (by omega)).push (by omega) (by omega))
    exact ⟨a', F', e, by omega, e2⟩
theorem row_l0_any (k : Nat) (L : List Int) (v0 v1 n : Int) : ∀ (m : Nat) (q i a : Int) (F : List Int), spymake_Stream_Row.l0 k n ⟨L, v0⟩ m q i a F = spymake_Stream_Row.l0 k n ⟨L, v1⟩ m q i a F := by
  intro m
  induction m with
  | zero => intro q i a F; rfl
  | succ m ih =>
    intro q i a F
    rw [spymake_Stream_Row.l0, spymake_Stream_Row.l0]
    simp only [ih]
theorem row_ex (k : Nat) (L : List Int) (a i : Int) (a0 : 0 ≤ a) (a1 : a ≤ 999900) (i0 : 1 ≤ i) (i1 : i ≤ 2147483647) (hk : 10 ≤ k) : ∃ r a', spymake_Stream_Row k ⟨L, a⟩ i = some (r, a') ∧ a ≤ a' ∧ a' ≤ a + 24 ∧ RV r ∧ r.ID = i := by
  unfold spymake_Stream_Row
  obtain ⟨b, p1, e1, p10, p11, hb⟩ := box_ex k L a (by omega) (by omega)
  rw [bnd e1]; dsimp only
  obtain ⟨fx, p2, e2, p20, p21, hf⟩ := bq_ex k L p1 (by omega) (by omega)
  rw [bnd e2]; dsimp only
  obtain ⟨w, p3, e3, p30, p31, hw⟩ := bt_ex k L p2 (by omega) (by omega)
  rw [bnd e3]; dsimp only
  obtain ⟨mk, e4, m0, m1⟩ := next_ex k L p3 4 (by decide) (by decide) (by omega) (by omega)
  rw [bnd e4]; dsimp only
  obtain ⟨n, e5, n0, n1⟩ := range_ex k L (p3 + 1) 1 3 (by omega) (by omega) (by omega) (by omega) (by omega) (by omega)
  rw [bnd e5]; dsimp only
  obtain ⟨a', F, e6, g1, g2, g3, g4⟩ := row_l0 k L (p3 + 1 + 1) n n1 n.toNat k 0 0 (p3 + 1 + 1) [] (by omega) (by omega) (by omega) (by omega) (by omega) rfl (by omega) (by omega) List.Pairwise.nil AllIn.nil
  have e6' : spymake_Stream_Row.l0 k n ⟨L, a⟩ k 0 0 (p3 + 1 + 1) [] = some (a', F) := by
    rw [← e6]
    exact row_l0_any k L a (p3 + 1 + 1) n k 0 0 (p3 + 1 + 1) []
  rw [bnd e6']; dsimp only
  exact ⟨_, _, rfl, by omega, by omega, ⟨i0, i1, hb, hf, hw, g3, g4, by dsimp only; omega, by dsimp only; omega, m0, by dsimp only; omega⟩, rfl⟩
def RowsOk (l : List S_Row) : Prop := l.Pairwise (fun x y => x.ID < y.ID) ∧ ∀ r, r ∈ l → RV r
theorem RowsOk.nil : RowsOk [] := ⟨List.Pairwise.nil, fun r h => by cases h⟩
theorem rows_l0 (k : Nat) (L : List Int) (v0 n : Int) (hk : 10 ≤ k) (n1 : n ≤ 100) : ∀ (d m : Nat) (out : List S_Row) (q i a : Int), i + d = n → 0 ≤ i → d < m → 0 ≤ a → a + 25 * d ≤ 999000 → (out.length : Int) = i → 0 ≤ q → q ≤ 4 * i → RowsOk out → (∀ r, r ∈ out → r.ID ≤ q) →
    ∃ out' a', spymake_Stream_Rows.l0 k n ⟨L, v0⟩ m out q i a = some (out', a') ∧ a ≤ a' ∧ a' ≤ a + 25 * d ∧ (out'.length : Int) = n ∧ RowsOk out' ∧ ∀ r, r ∈ out' → r.ID ≤ 4 * n := by
  intro d
  induction d with
  | zero =>
    intro m out q i a hi i0 hm a0 a1 ho q0 q1 hr hq
    obtain ⟨m, rfl⟩ : ∃ z, m = z + 1 := ⟨m - 1, by omega⟩
    rw [spymake_Stream_Rows.l0, ifn (by omega)]
    exact ⟨_, _, rfl, by omega, by omega, by omega, hr, fun r h => by have := hq r h; omega⟩
  | succ d ih =>
    intro m out q i a hi i0 hm a0 a1 ho q0 q1 hr hq
    obtain ⟨m, rfl⟩ : ∃ z, m = z + 1 := ⟨m - 1, by omega⟩
    rw [spymake_Stream_Rows.l0, ifp (by omega)]
    obtain ⟨v, h2, v0, v1⟩ := range_ex k L a 1 4 (by omega) (by omega) (by omega) (by omega) (by omega) (by omega)
    rw [bnd h2]; dsimp only
    rw [wid (x := q + v) (by omega) (by omega), wid (x := i + 1) (by omega) (by omega)]
    obtain ⟨r, b, h3, b0, b1, hv, hid⟩ := row_ex k L (a + 1) (q + v) (by omega) (by omega) (by omega) (by omega) hk
    rw [bnd h3]; dsimp only
    rw [ifp (by omega)]
    obtain ⟨out', a', e, e1, e2, e3⟩ := ih m (out ++ [r]) (q + v) (i + 1) b (by omega) (by omega) (by omega) (by omega) (by omega) (by rw [List.length_append, List.length_cons, List.length_nil]; omega) (by omega) (by omega)
      ⟨List.pairwise_append.mpr ⟨hr.1, List.pairwise_singleton _ _, fun x hx y hy => by
        simp only [List.mem_singleton] at hy
        have := hq x hx
        subst hy
        omega⟩, fun x hx => by
          rcases List.mem_append.mp hx with hx | hx
          · exact hr.2 x hx
          · simp only [List.mem_singleton] at hx; subst hx; exact hv⟩
      (fun x hx => by
          rcases List.mem_append.mp hx with hx | hx
          · have := hq x hx; omega
          · simp only [List.mem_singleton] at hx; subst hx; omega)
    exact ⟨out', a', e, by omega, by omega, e3⟩
theorem rows_ex (k : Nat) (L : List Int) (a most : Int) (a0 : 0 ≤ a) (a1 : a ≤ 900000) (m0 : 0 ≤ most) (m1 : most ≤ 20) (hk : 100 ≤ k) :
    ∃ l a', spymake_Stream_Rows k ⟨L, a⟩ most = some (l, a') ∧ a ≤ a' ∧ a' ≤ a + 600 ∧ (l.length : Int) ≤ most ∧ RowsOk l ∧ ∀ r, r ∈ l → r.ID ≤ 100 := by
  unfold spymake_Stream_Rows
  rw [wid (x := most + 1) (by omega) (by omega)]
  obtain ⟨n, e1, n0, n1⟩ := next_ex k L a (most + 1) (by omega) (by omega) (by omega) (by omega)
  rw [bnd e1]; dsimp only
  obtain ⟨l, a', e2, b0, b1, hl, hr, hi⟩ := rows_l0 k L a n (by omega) (by omega) n.toNat k [] 0 0 (a + 1) (by omega) (by omega) (by omega) (by omega) (by omega) rfl (by omega) (by omega) RowsOk.nil (fun r h => by cases h)
  rw [bnd e2]
  exact ⟨l, a', rfl, by omega, by omega, by omega, hr, fun r h => by have := hi r h; omega⟩
theorem check_l0 (k : Nat) (l : List S_Row) (hl : RowsOk l) (hk : 10 ≤ k) (hL : (l.length : Int) ≤ 200) : ∀ (d m : Nat) (i : Int), i + d = (l.length : Int) → 0 ≤ i → d < m → catalog_Check.l0 k l m i = some (Sum.inr ()) := by
  intro d
  induction d with
  | zero =>
    intro m i hi i0 hm
    obtain ⟨m, rfl⟩ : ∃ q, m = q + 1 := ⟨m - 1, by omega⟩
    rw [catalog_Check.l0, ifn (by omega)]
  | succ d ih =>
    intro m i hi i0 hm
    obtain ⟨m, rfl⟩ : ∃ q, m = q + 1 := ⟨m - 1, by omega⟩
    have hv := hl.2 _ (rd_mem i0 (show i < (l.length : Int) by omega))
    rw [catalog_Check.l0, ifp (by omega), ifp i0, bnd (checkRow_ex k _ hv hk), ifn (by decide)]
    have hn := ih m (i + 1) (by omega) (by omega) (by omega)
    by_cases c : i > 0
    · have hp := pw_rd hl.1 (i := i - 1) (j := i) (by omega) (by omega) (by omega)
      rw [ifp c, wid (x := i - 1) (by omega) (by omega), ifp (by omega), ifp (by omega), ifn (by omega), wid (by omega) (by omega)]
      exact hn
    · rw [ifn c, wid (by omega) (by omega)]
      exact hn
theorem checkl_ex (k : Nat) (l : List S_Row) (hl : RowsOk l) (hk : 300 ≤ k) (hL : (l.length : Int) ≤ 200) : catalog_Check k l = some 0 := by
  unfold catalog_Check
  rw [ifn (by omega), bnd (check_l0 k l hl (by omega) hL l.length k 0 (by omega) (by omega) (by omega))]
  rfl
theorem vcheck_ok (k : Nat) (v : S_Vec) (h : V20 v) : sphere_Check k v = some 0 := by
  obtain ⟨a, b, c, d⟩ := h
  unfold sphere_Check
  rw [mx_def, mx_def, mn_def, mn_def, ifn (by omega), ifn (by omega), ifn (by rw [zero3]; exact d)]
theorem half2 (x : Int) : ∃ y, Int.tdiv x 2 = y ∧ (0 ≤ x → 0 ≤ y ∧ 2 * y ≤ x) ∧ (x ≤ 0 → y ≤ 0 ∧ x ≤ 2 * y) := by
  rcases Int.le_total 0 x with h | h
  · rw [tdiv_nn h]; exact ⟨_, rfl, fun _ => by omega, fun _ => by omega⟩
  · have e : Int.tdiv x 2 = -((-x) / 2) := by rw [← tdiv_nn (by omega), Int.neg_tdiv, Int.neg_neg]
    rw [e]; exact ⟨_, rfl, fun _ => by omega, fun _ => by omega⟩
theorem half2w (x : Int) (P : Int) (h0 : -(2 * P) ≤ x) (h1 : x ≤ 2 * P) (hP : P ≤ 4611686018427387904) : -P ≤ w64 (Int.tdiv x 2) ∧ w64 (Int.tdiv x 2) ≤ P := by
  obtain ⟨y, e, a, b⟩ := half2 x
  rw [e, wid (by omega) (by omega)]
  omega
theorem pow20 : ∀ e, e < 21 → (2 : Int) ^ e ≤ 1048576 := by decide
theorem mid_l0 (k : Nat) : ∀ (e n : Nat) (x y z : Int), e ≤ 20 → (-(1048576 * 2 ^ e) ≤ x ∧ x ≤ 1048576 * 2 ^ e) → (-(1048576 * 2 ^ e) ≤ y ∧ y ≤ 1048576 * 2 ^ e) → (-(1048576 * 2 ^ e) ≤ z ∧ z ≤ 1048576 * 2 ^ e) → e < n →
    ∃ x' y' z', query_middle.l0 k n x y z = some (x', y', z') ∧ (-1048576 ≤ x' ∧ x' ≤ 1048576) ∧ (-1048576 ≤ y' ∧ y' ≤ 1048576) ∧ (-1048576 ≤ z' ∧ z' ≤ 1048576) := by
  intro e
  induction e with
  | zero =>
    intro n x y z _ hx hy hz hn
    obtain ⟨n, rfl⟩ : ∃ q, n = q + 1 := ⟨n - 1, by omega⟩
    rw [query_middle.l0, mx_def, mx_def, mn_def, mn_def, ifn (by omega), ifn (by omega)]
    exact ⟨_, _, _, rfl, by omega, by omega, by omega⟩
  | succ e ih =>
    intro n x y z he hx hy hz hn
    obtain ⟨n, rfl⟩ : ∃ q, n = q + 1 := ⟨n - 1, by omega⟩
    have hp := pow20 e (by omega)
    rw [Int.pow_succ] at hx hy hz
    have r := ih n (w64 (Int.tdiv x 2)) (w64 (Int.tdiv y 2)) (w64 (Int.tdiv z 2)) (by omega) (half2w x _ (by omega) (by omega) (by omega)) (half2w y _ (by omega) (by omega) (by omega)) (half2w z _ (by omega) (by omega) (by omega)) (by omega)
    rw [query_middle.l0, mx_def, mx_def, mn_def, mn_def]
    by_cases c1 : max (max x y) z > 1048576
    · rw [ifp c1]; exact r
    · rw [ifn c1]
      by_cases c2 : min (min x y) z < -1048576
      · rw [ifp c2]; exact r
      · rw [ifn c2]; exact ⟨_, _, _, rfl, by omega, by omega, by omega⟩
theorem mid1 (k : Nat) (x : S_Bound) (h : NBk x) : ∃ v, query_middle_1 k x = some v ∧ -1073741824 ≤ v ∧ v ≤ 1073741824 := by
  have a := h.l; have b := h.m; have c := h.h
  unfold query_middle_1
  rw [wid (x := x.Hi - x.Lo) (by omega) (by omega)]
  obtain ⟨y, e, f, _⟩ := half2 (x.Hi - x.Lo)
  rw [e, wid (x := y) (by omega) (by omega), wid (by omega) (by omega)]
  exact ⟨_, rfl, by omega, by omega⟩
theorem middle_ex (k : Nat) (b : S_Box) (hk : 20 ≤ k) : ∃ v t, query_middle k b = some (v, t) ∧ (t = true → V20 v ∧ NOk b) := by
  obtain ⟨t, e, ht⟩ := sides_ex k b (by omega)
  unfold query_middle
  rw [bnd e]; dsimp only
  by_cases c : t = true
  · have hb := ht.mp c
    rw [ifn (fun h => h c)]
    obtain ⟨x, e1, x1⟩ := mid1 k b.X hb.X
    obtain ⟨y, e2, y1⟩ := mid1 k b.Y hb.Y
    obtain ⟨z, e3, z1⟩ := mid1 k b.Z hb.Z
    have p : (1048576 : Int) * 2 ^ 10 = 1073741824 := by decide
    obtain ⟨x', y', z', e4, a1, a2, a3⟩ := mid_l0 k 10 k x y z (by decide) (by rw [p]; exact x1) (by rw [p]; exact y1) (by rw [p]; exact z1) (by omega)
    rw [bnd e1, bnd e2, bnd e3, bnd e4]
    refine ⟨_, _, rfl, fun h => ⟨⟨a1, a2, a3, fun g => ?_⟩, hb⟩⟩
    rw [(zero3 x' y' z').mpr g] at h; cases h
  · rw [ifp c]
    exact ⟨_, _, rfl, fun h => by cases h⟩
theorem fits (x : Int) : (Lit.int .i64 (w64 x)).wf = true := by
  have h : -9223372036854775808 ≤ w64 x ∧ w64 x ≤ 9223372036854775807 := by rw [w64_def]; omega
  simp [Lit.wf, IntKind.min, IntKind.max, IntKind.bits, IntKind.signed]; omega
theorem tile_l0 (k : Nat) (p q : Int) : ∀ (e n : Nat) (t b : Int), b + 1 = e → e ≤ 100 → e < n → (Lit.int .i64 t).wf = true → ∃ r, tile_Of.l0 k p q n t b = some r ∧ (Lit.int .i64 r).wf = true := by
  intro e
  induction e with
  | zero =>
    intro n t b h _ hn ht
    obtain ⟨n, rfl⟩ : ∃ q, n = q + 1 := ⟨n - 1, by omega⟩
    rw [tile_Of.l0, ifn (by omega)]
    exact ⟨_, rfl, ht⟩
  | succ e ih =>
    intro n t b h he hn ht
    obtain ⟨n, rfl⟩ : ∃ q, n = q + 1 := ⟨n - 1, by omega⟩
    rw [tile_Of.l0, ifp (by omega), ifp (by omega), wid (x := b - 1) (by omega) (by omega)]
    exact ih n _ (b - 1) (by omega) (by omega) (by omega) (fits _)
theorem tile_1 (k : Nat) (v u x : Int) (v0 : 1 ≤ v) (v1 : v ≤ 1048576) (u0 : 0 ≤ u) : ∃ r, tile_Of_1 k v u x = some r := by
  unfold tile_Of_1
  rw [wid (x := 2 * v) (by omega) (by omega), ifp (by omega), ifp (by omega)]
  exact ⟨_, rfl⟩
def ab (x : Int) : Int := max x (-x)
theorem ab_eq {x : Int} (h : -1048576 ≤ x ∧ x ≤ 1048576) : mx x (w64 (0 - x)) = ab x := by
  rw [wid (by omega) (by omega), mx_def, Int.zero_sub]; rfl
theorem face_ex (k : Nat) (v : S_Vec) (h : V20 v) (hk : 10 ≤ k) : ∃ c s, tile_faceOf k v = some (2 * c + s) ∧ (c = 0 ∨ c = 1 ∨ c = 2) ∧ (s = 0 ∨ s = 1) ∧ 1 ≤ ab (rd [v.X, v.Y, v.Z] c) ∧ ab (rd [v.X, v.Y, v.Z] c) ≤ 1048576 := by
  obtain ⟨hx, hy, hz, nz⟩ := h
  obtain ⟨j, rfl⟩ : ∃ j, k = j + 4 := ⟨k - 4, by omega⟩
  have ax : 0 ≤ ab v.X ∧ ab v.X ≤ 1048576 ∧ (ab v.X = 0 → v.X = 0) := by unfold ab; omega
  have ay : 0 ≤ ab v.Y ∧ ab v.Y ≤ 1048576 ∧ (ab v.Y = 0 → v.Y = 0) := by unfold ab; omega
  have az : 0 ≤ ab v.Z ∧ ab v.Z ≤ 1048576 ∧ (ab v.Z = 0 → v.Z = 0) := by unfold ab; omega
  have r0 : rd [v.X, v.Y, v.Z] 0 = v.X := rfl
  have r1 : rd [v.X, v.Y, v.Z] 1 = v.Y := rfl
  have r2 : rd [v.X, v.Y, v.Z] 2 = v.Z := rfl
  have w1 : w64 (0 + 1) = 1 := by decide
  have w2 : w64 (1 + 1) = 2 := by decide
  have w3 : w64 (2 + 1) = 3 := by decide
  have fin : ∀ c : Int, (c = 0 ∨ c = 1 ∨ c = 2) → (1 ≤ ab (rd [v.X, v.Y, v.Z] c)) → (ab (rd [v.X, v.Y, v.Z] c) ≤ 1048576) → tile_faceOf.l0 (j + 4) [v.X, v.Y, v.Z] (j + 4) 0 0 = some c →
      ∃ c s, tile_faceOf (j + 4) v = some (2 * c + s) ∧ (c = 0 ∨ c = 1 ∨ c = 2) ∧ (s = 0 ∨ s = 1) ∧ 1 ≤ ab (rd [v.X, v.Y, v.Z] c) ∧ ab (rd [v.X, v.Y, v.Z] c) ≤ 1048576 := by
    intro c hc g1 g2 e
    unfold tile_faceOf tile_parts
    rw [bnd rfl, bnd e, ifp (by omega), ifp (by omega), wid (x := 2 * c) (by omega) (by omega), wid (x := 2 * c + 1) (by omega) (by omega)]
    split
    · exact ⟨c, 1, rfl, hc, .inr rfl, g1, g2⟩
    · exact ⟨c, 0, by rw [Int.add_zero], hc, .inl rfl, g1, g2⟩
  have st : ∀ (n : Nat) (c i : Int), 0 ≤ i → i < 3 → 0 ≤ c → c < 3 → tile_faceOf.l0 (j + 4) [v.X, v.Y, v.Z] (n + 1) c i = if mx (rd [v.X, v.Y, v.Z] i) (w64 (0 - rd [v.X, v.Y, v.Z] i)) > mx (rd [v.X, v.Y, v.Z] c) (w64 (0 - rd [v.X, v.Y, v.Z] c)) then tile_faceOf.l0 (j + 4) [v.X, v.Y, v.Z] n i (w64 (i + 1)) else tile_faceOf.l0 (j + 4) [v.X, v.Y, v.Z] n c (w64 (i + 1)) := by
    intro n c i i0 i1 c0 c1
    rw [tile_faceOf.l0, ifp i1, ifp i0, ifp c0, ifp c1]; rfl
  have en : ∀ (n : Nat) (c : Int), tile_faceOf.l0 (j + 4) [v.X, v.Y, v.Z] (n + 1) c 3 = some c := by
    intro n c; rw [tile_faceOf.l0, ifn (by decide)]
  have e0 : tile_faceOf.l0 (j + 4) [v.X, v.Y, v.Z] (j + 4) 0 0 = tile_faceOf.l0 (j + 4) [v.X, v.Y, v.Z] (j + 3) 0 1 := by
    rw [st (j + 3) 0 0 (by decide) (by decide) (by decide) (by decide), ifn (by omega), w1]
  have e1 := st (j + 2) 0 1 (by decide) (by decide) (by decide) (by decide)
  rw [r0, r1, ab_eq hx, ab_eq hy, w2] at e1
  by_cases c1 : ab v.Y > ab v.X
  · rw [ifp c1] at e1
    have e2 := st (j + 1) 1 2 (by decide) (by decide) (by decide) (by decide)
    rw [r1, r2, ab_eq hy, ab_eq hz, w3] at e2
    by_cases c2 : ab v.Z > ab v.Y
    · rw [ifp c2, en] at e2
      exact fin 2 (.inr (.inr rfl)) (by rw [r2]; omega) (by rw [r2]; omega) (by rw [e0, e1, e2])
    · rw [ifn c2, en] at e2
      exact fin 1 (.inr (.inl rfl)) (by rw [r1]; omega) (by rw [r1]; omega) (by rw [e0, e1, e2])
  · rw [ifn c1] at e1
    have e2 := st (j + 1) 0 2 (by decide) (by decide) (by decide) (by decide)
    rw [r0, r2, ab_eq hx, ab_eq hz, w3] at e2
    by_cases c2 : ab v.Z > ab v.X
    · rw [ifp c2, en] at e2
      exact fin 2 (.inr (.inr rfl)) (by rw [r2]; omega) (by rw [r2]; omega) (by rw [e0, e1, e2])
    · rw [ifn c2, en] at e2
      exact fin 0 (.inl rfl) (by rw [r0]; omega) (by rw [r0]; omega) (by rw [e0, e1, e2])
theorem tile_ex (k : Nat) (v : S_Vec) (level : Int) (h : V20 v) (l0 : 0 ≤ level) (l1 : level ≤ 12) (hk : 20 ≤ k) : ∃ t, tile_Of k v level = some (t, 0) ∧ (Lit.int .i64 t).wf = true := by
  obtain ⟨c, s, e, hc, hs, g1, g2⟩ := face_ex k v h (by omega)
  obtain ⟨hx, hy, hz, _⟩ := h
  have hax : ∃ i m, tile_axes k (2 * c + s) = some (c, i, m) ∧ (0 ≤ i ∧ i < 3) ∧ 0 ≤ m ∧ m < 3 := by
    rcases hc with rfl | rfl | rfl <;> rcases hs with rfl | rfl
    · exact ⟨1, 2, by unfold tile_axes; decide, by decide, by decide, by decide⟩
    · exact ⟨1, 2, by unfold tile_axes; decide, by decide, by decide, by decide⟩
    · exact ⟨2, 0, by unfold tile_axes; decide, by decide, by decide, by decide⟩
    · exact ⟨2, 0, by unfold tile_axes; decide, by decide, by decide, by decide⟩
    · exact ⟨0, 1, by unfold tile_axes; decide, by decide, by decide, by decide⟩
    · exact ⟨0, 1, by unfold tile_axes; decide, by decide, by decide, by decide⟩
  obtain ⟨i, m, ea, hi, hm⟩ := hax
  have hv : mx (rd [v.X, v.Y, v.Z] c) (w64 (0 - rd [v.X, v.Y, v.Z] c)) = ab (rd [v.X, v.Y, v.Z] c) := by
    refine ab_eq ?_
    rcases hc with rfl | rfl | rfl
    · exact hx
    · exact hy
    · exact hz
  unfold tile_Of
  rw [bnd (vcheck_ok k v ⟨hx, hy, hz, by assumption⟩), ifn (by decide), ifn (by omega), ifn (by omega), bnd e]
  unfold tile_parts
  rw [bnd rfl, bnd ea]; dsimp only
  rw [ifp (by omega), ifp (by omega), ifp hi.1, ifp hi.2, ifp hm.1, ifp hm.2]
  rw [show ([([v.X, v.Y, v.Z] : List Int).getD 0 default, ([v.X, v.Y, v.Z] : List Int).getD 1 default, ([v.X, v.Y, v.Z] : List Int).getD 2 default] : List Int) = [v.X, v.Y, v.Z] from rfl, hv]
  obtain ⟨p, ep⟩ := tile_1 k _ level (rd [v.X, v.Y, v.Z] i) g1 g2 l0
  obtain ⟨q, eq⟩ := tile_1 k _ level (rd [v.X, v.Y, v.Z] m) g1 g2 l0
  rw [bnd ep, bnd eq, wid (x := level - 1) (by omega) (by omega)]
  obtain ⟨r, er, hr⟩ := tile_l0 k p q level.toNat k (w64 (8 + (2 * c + s))) (level - 1) (by omega) (by omega) (by omega) (fits _)
  rw [bnd er]
  exact ⟨r, rfl, hr⟩
theorem lin {a u b v : Int} (h0 : a ≤ u) (h1 : u ≤ b) : min (a * v) (b * v) ≤ u * v ∧ u * v ≤ max (a * v) (b * v) := by
  rcases Int.le_total 0 v with g | g
  · have p := Int.mul_le_mul_of_nonneg_right h0 g
    have q := Int.mul_le_mul_of_nonneg_right h1 g
    omega
  · have p := Int.mul_le_mul_of_nonpos_right h0 g
    have q := Int.mul_le_mul_of_nonpos_right h1 g
    omega
theorem lin2 {a u b v : Int} (h0 : a ≤ u) (h1 : u ≤ b) : min (v * a) (v * b) ≤ v * u ∧ v * u ≤ max (v * a) (v * b) := by
  rw [Int.mul_comm v a, Int.mul_comm v b, Int.mul_comm v u]; exact lin h0 h1
theorem prod_in {x y : S_Bound} {u v : Int} (u0 : x.Lo ≤ u) (u1 : u ≤ x.Hi) (v0 : y.Lo ≤ v) (v1 : v ≤ y.Hi) : plo x y ≤ u * v ∧ u * v ≤ phi x y := by
  have a := lin (v := v) u0 u1
  have b := lin2 (v := x.Lo) v0 v1
  have c := lin2 (v := x.Hi) v0 v1
  unfold plo phi
  omega
structure Sub (x y : S_Bound) : Prop where
  l : x.Lo ≤ y.Lo
  m : y.Lo ≤ y.Hi
  h : y.Hi ≤ x.Hi
theorem plo_mono {x y x' y' : S_Bound} (hx : Sub x x') (hy : Sub y y') : plo x y ≤ plo x' y' ∧ phi x' y' ≤ phi x y := by
  have a1 := hx.l; have a2 := hx.m; have a3 := hx.h; have b1 := hy.l; have b2 := hy.m; have b3 := hy.h
  have h1 := prod_in (x := x) (y := y) (u := x'.Lo) (v := y'.Lo) (by omega) (by omega) (by omega) (by omega)
  have h2 := prod_in (x := x) (y := y) (u := x'.Lo) (v := y'.Hi) (by omega) (by omega) (by omega) (by omega)
  have h3 := prod_in (x := x) (y := y) (u := x'.Hi) (v := y'.Lo) (by omega) (by omega) (by omega) (by omega)
  have h4 := prod_in (x := x) (y := y) (u := x'.Hi) (v := y'.Hi) (by omega) (by omega) (by omega) (by omega)
  generalize plo x y = A at *
  generalize phi x y = B at *
  unfold plo phi
  omega
theorem sq_up {a b : Int} (h0 : 0 ≤ a) (h : a ≤ b) : a * a ≤ b * b := Int.mul_le_mul h h h0 (by omega)
theorem sq_dn {a b : Int} (h0 : a ≤ 0) (h : b ≤ a) : a * a ≤ b * b := by
  have := sq_up (a := -a) (b := -b) (by omega) (by omega)
  rw [Int.neg_mul_neg, Int.neg_mul_neg] at this; exact this
theorem sq_in {x : S_Bound} {v : Int} (v0 : x.Lo ≤ v) (v1 : v ≤ x.Hi) : qlo x ≤ v * v ∧ v * v ≤ qhi x := by
  have n := sq_nn v
  have n1 := sq_nn x.Lo
  have n2 := sq_nn x.Hi
  constructor
  · unfold qlo
    by_cases c : x.Lo > 0
    · rw [if_pos c]; have := sq_up (show 0 ≤ x.Lo by omega) v0; omega
    · rw [if_neg c]
      by_cases d : x.Hi < 0
      · rw [if_pos d]; have := sq_dn (show x.Hi ≤ 0 by omega) v1; omega
      · rw [if_neg d]; exact n
  · unfold qhi
    rcases Int.le_total 0 v with g | g
    · have := sq_up g v1; omega
    · have := sq_dn g v0; omega
theorem qlo_mono {x x' : S_Bound} (h : Sub x x') : qlo x ≤ qlo x' ∧ qhi x' ≤ qhi x := by
  have a1 := h.l; have a2 := h.m; have a3 := h.h
  have h1 := sq_in (x := x) (v := x'.Lo) (by omega) (by omega)
  have h2 := sq_in (x := x) (v := x'.Hi) (by omega) (by omega)
  constructor
  · by_cases c : x'.Lo > 0
    · rw [show qlo x' = min (x'.Lo * x'.Lo) (x'.Hi * x'.Hi) from if_pos c]; omega
    · by_cases d : x'.Hi < 0
      · have e : qlo x' = min (x'.Lo * x'.Lo) (x'.Hi * x'.Hi) := by unfold qlo; rw [if_neg c, if_pos d]
        rw [e]; omega
      · have e : qlo x' = 0 := by unfold qlo; rw [if_neg c, if_neg d]
        have e2 : qlo x = 0 := by unfold qlo; rw [if_neg (by omega), if_neg (by omega)]
        rw [e, e2]; omega
  · show max (x'.Lo * x'.Lo) (x'.Hi * x'.Hi) ≤ qhi x
    omega
structure SubB (a b : S_Box) : Prop where
  X : Sub a.X b.X
  Y : Sub a.Y b.Y
  Z : Sub a.Z b.Z
theorem lea_mono {a b a' b' : S_Box} (h : SubB a a') (g : SubB b b') : lea a b ≤ lea a' b' ∧ mos a' b' ≤ mos a b := by
  have x := plo_mono h.X g.X
  have y := plo_mono h.Y g.Y
  have z := plo_mono h.Z g.Z
  unfold lea mos; omega
theorem low_mono {a a' : S_Box} (h : SubB a a') : low a ≤ low a' ∧ hig a' ≤ hig a := by
  have x := qlo_mono h.X
  have y := qlo_mono h.Y
  have z := qlo_mono h.Z
  unfold low hig; omega
theorem nn_mul {a b c d : Int} (a0 : 0 ≤ a) (b0 : 0 ≤ b) (h : a ≤ c) (g : b ≤ d) : a * b ≤ c * d := Int.mul_le_mul h g b0 (by omega)
theorem shrink {a b a' b' : S_Box} {c : Int} (c0 : 0 ≤ c) (ha : NOk a') (hb : NOk b') (h : NOk a → NOk b → SubB a a' ∧ SubB b b') : (nearV a b c = 0 → nearV a' b' c = 0) ∧ (nearV a b c = 2 → nearV a' b' c = 2) := by
  by_cases o : NOk a ∧ NOk b
  · obtain ⟨sa, sb⟩ := h o.1 o.2
    obtain ⟨p1, p2⟩ := lea_mono sa sb
    obtain ⟨q1, q2⟩ := low_mono sa
    obtain ⟨r1, r2⟩ := low_mono sb
    obtain ⟨a1, a2, _⟩ := low_ok o.1
    obtain ⟨b1, b2, _⟩ := low_ok o.2
    obtain ⟨a3, a4, a5, _⟩ := low_ok ha
    obtain ⟨b3, b4, b5, _⟩ := low_ok hb
    obtain ⟨l0, l1, l2⟩ := lea_ok ha hb
    have f1 := fl_mono a1 b1 a3 b3 (nn_mul a1.1 b1.1 q1 r1)
    have f2 := fl_mono a3 b3 a4 b4 (nn_mul a3.1 b3.1 a5 b5)
    obtain ⟨t0, t1, t2, _⟩ := rt_all a4 b4
    have t3 := rt_mono a4 b4 a2 b2 (nn_mul a4.1 b4.1 q2 r2)
    have m1 : c * rt (hig a') (hig b') ≤ c * rt (hig a) (hig b) := Int.mul_le_mul_of_nonneg_left t3 c0
    have m2 : c * fl (low a) (low b) ≤ c * fl (low a') (low b') := Int.mul_le_mul_of_nonneg_left f1 c0
    have m3 : c * fl (low a) (low b) ≤ c * rt (hig a') (hig b') := Int.mul_le_mul_of_nonneg_left (by omega) c0
    unfold nearV
    rw [if_neg (show ¬ ¬ (NOk a ∧ NOk b) from fun z => z o), if_neg (show ¬ ¬ (NOk a' ∧ NOk b') from fun z => z ⟨ha, hb⟩)]
    constructor
    · intro e
      split at e
      · cases e
      · split at e
        · rename_i d
          rw [if_neg (by omega), if_pos (by omega)]
        · cases e
    · intro e
      split at e
      · rename_i d
        rw [if_pos ⟨by omega, by omega, by omega⟩]
      · split at e
        · cases e
        · cases e
  · have e : nearV a b c = 1 := by unfold nearV; rw [if_pos o]
    rw [e]
    exact ⟨fun h => (by cases h), fun h => (by cases h)⟩
theorem plo_comm (x y : S_Bound) : plo x y = plo y x ∧ phi x y = phi y x := by
  unfold plo phi
  rw [Int.mul_comm y.Lo x.Lo, Int.mul_comm y.Lo x.Hi, Int.mul_comm y.Hi x.Lo, Int.mul_comm y.Hi x.Hi]
  omega
theorem near_comm (a b : S_Box) (c : Int) : nearV a b c = nearV b a c := by
  unfold nearV
  by_cases o : NOk a ∧ NOk b
  · obtain ⟨a1, a2, _⟩ := low_ok o.1
    obtain ⟨b1, b2, _⟩ := low_ok o.2
    have e1 : lea a b = lea b a := by unfold lea; rw [(plo_comm a.X b.X).1, (plo_comm a.Y b.Y).1, (plo_comm a.Z b.Z).1]
    have e2 : mos a b = mos b a := by unfold mos; rw [(plo_comm a.X b.X).2, (plo_comm a.Y b.Y).2, (plo_comm a.Z b.Z).2]
    rw [if_neg (show ¬ ¬ (NOk a ∧ NOk b) from fun z => z o), if_neg (show ¬ ¬ (NOk b ∧ NOk a) from fun z => z ⟨o.2, o.1⟩), e1, e2, rt_comm a2 b2, fl_comm a1 b1]
    by_cases d : low a > 0 ∧ low b > 0 ∧ lea b a * 1073741824 ≥ c * rt (hig b) (hig a)
    · rw [if_pos d, if_pos (show low b > 0 ∧ low a > 0 ∧ lea b a * 1073741824 ≥ c * rt (hig b) (hig a) from ⟨d.2.1, d.1, d.2.2⟩)]
    · rw [if_neg d, if_neg (show ¬ (low b > 0 ∧ low a > 0 ∧ lea b a * 1073741824 ≥ c * rt (hig b) (hig a)) from fun z => d ⟨z.2.1, z.1, z.2.2⟩)]
  · rw [if_pos o, if_pos (show ¬ (NOk b ∧ NOk a) from fun z => o ⟨z.2, z.1⟩)]
theorem cloneI_ex (k : Nat) (l : List Int) (h : l.length ≤ 1000000) : slices_Clone_int k l = some l := by
  unfold slices_Clone_int
  rw [ifp (by simp; omega)]; rfl
theorem set_self {α : Type} [Inhabited α] (l : List α) (i : Int) (i0 : 0 ≤ i) (h : i < (l.length : Int)) : l.set i.toNat (rd l i) = l := by
  obtain ⟨h1, e⟩ := rd_lt i0 h
  rw [e, List.set_getElem_self]
theorem copy_l0 (k : Nat) (l : List S_Row) (hl : l.length ≤ 10000) (hf : ∀ c, c ∈ l → c.Frames.length ≤ 8) : ∀ (d m : Nat) (i : Int), i + d = (l.length : Int) → 0 ≤ i → d < m → catalog_Copy.l0 k l m l i = some l := by
  intro d
  induction d with
  | zero =>
    intro m i hi i0 hm
    obtain ⟨m, rfl⟩ : ∃ q, m = q + 1 := ⟨m - 1, by omega⟩
    rw [catalog_Copy.l0, ifn (by omega)]
  | succ d ih =>
    intro m i hi i0 hm
    obtain ⟨m, rfl⟩ : ∃ q, m = q + 1 := ⟨m - 1, by omega⟩
    have hv := hf _ (rd_mem i0 (show i < (l.length : Int) by omega))
    rw [catalog_Copy.l0, ifp (by omega), ifp i0, ifp (by omega), bnd (cloneI_ex k _ (by omega)), wid (by omega) (by omega)]
    rw [show (⟨(rd l i).ID, (rd l i).Box, (rd l i).Flux, (rd l i).When, (rd l i).Frames, (rd l i).Marks⟩ : S_Row) = rd l i from rfl, set_self l i i0 (by omega)]
    exact ih m (i + 1) (by omega) (by omega) (by omega)
theorem copy_ex (k : Nat) (l : List S_Row) (hl : l.length ≤ 10000) (hf : ∀ c, c ∈ l → c.Frames.length ≤ 8) (hk : l.length < k) : catalog_Copy k l = some l := by
  unfold catalog_Copy slices_Clone_Row
  rw [ifp (by simp; omega), bnd rfl, List.nil_append, bnd (copy_l0 k l hl hf l.length k 0 (by omega) (by omega) hk)]
def und : Nat → S_node → List Int
  | 0, nd => nd.rows
  | d + 1, nd => nd.kids.flatMap (und d) ++ nd.rows
structure Hold (rows : List S_Row) (b : S_Box) (t : S_Bound) (l : List Int) : Prop where
  ok : NOk b
  tu : t.Unknown = false
  r : ∀ i, i ∈ l → 0 ≤ i ∧ i < (rows.length : Int)
  ro : ∀ i, i ∈ l → NOk (rd rows i).Box
  bx : ∀ i, i ∈ l → SubB b (rd rows i).Box
  tm : ∀ i, i ∈ l → (rd rows i).When.Unknown = false ∧ t.Lo ≤ (rd rows i).When.Lo ∧ (rd rows i).When.Hi ≤ t.Hi
def Good (rows : List S_Row) : Nat → S_node → Prop
  | 0, nd => Hold rows nd.box nd.when (und 0 nd) ∧ nd.rows ≠ [] ∧ nd.kids = []
  | d + 1, nd => Hold rows nd.box nd.when (und (d + 1) nd) ∧ nd.kids ≠ [] ∧ nd.rows = [] ∧ ∀ x, x ∈ nd.kids → Good rows d x
variable {rows : List S_Row}
theorem Good.hold : ∀ {d : Nat} {nd : S_node}, Good rows d nd → Hold rows nd.box nd.when (und d nd)
  | 0, _, h => h.1
  | _ + 1, _, h => h.1
theorem Good.some : ∀ {d : Nat} {nd : S_node}, Good rows d nd → und d nd ≠ []
  | 0, nd, h => h.2.1
  | d + 1, nd, h => by
    obtain ⟨_, h1, _, h2⟩ := h
    cases e : nd.kids with
    | nil => exact absurd e h1
    | cons x l =>
      have := Good.some (h2 x (by rw [e]; simp))
      rw [und, e, List.flatMap_cons]
      intro g
      rw [List.append_assoc, List.append_eq_nil_iff] at g
      exact this g.1
def hb (a b : S_Bound) : S_Bound := ⟨mn a.Lo b.Lo, mx a.Hi b.Hi, false⟩
def hB (a b : S_Box) : S_Box := ⟨hb a.X b.X, hb a.Y b.Y, hb a.Z b.Z⟩
theorem hb_ok {a b : S_Bound} (h : NBk a) (g : NBk b) : NBk (hb a b) := by
  have h1 := h.l; have h2 := h.m; have h3 := h.h; have g1 := g.l; have g2 := g.m; have g3 := g.h
  exact ⟨rfl, by unfold hb; dsimp only; rw [mn_def]; omega, by unfold hb; dsimp only; rw [mn_def, mx_def]; omega, by unfold hb; dsimp only; rw [mx_def]; omega⟩
theorem hb_l {a b x : S_Bound} (h : Sub a x) : Sub (hb a b) x := by
  have h1 := h.l; have h2 := h.m; have h3 := h.h
  exact ⟨by unfold hb; dsimp only; rw [mn_def]; omega, h2, by unfold hb; dsimp only; rw [mx_def]; omega⟩
theorem hb_r {a b x : S_Bound} (h : Sub b x) : Sub (hb a b) x := by
  have h1 := h.l; have h2 := h.m; have h3 := h.h
  exact ⟨by unfold hb; dsimp only; rw [mn_def]; omega, h2, by unfold hb; dsimp only; rw [mx_def]; omega⟩
theorem Hold.join {a b : S_Box} {s t : S_Bound} {l m : List Int} (h : Hold rows a s l) (g : Hold rows b t m) : Hold rows (hB a b) (hb s t) (l ++ m) where
  ok := ⟨hb_ok h.ok.X g.ok.X, hb_ok h.ok.Y g.ok.Y, hb_ok h.ok.Z g.ok.Z⟩
  tu := rfl
  r := fun i hi => (List.mem_append.mp hi).elim (h.r i) (g.r i)
  ro := fun i hi => (List.mem_append.mp hi).elim (h.ro i) (g.ro i)
  bx := fun i hi => (List.mem_append.mp hi).elim (fun hi => ⟨hb_l (h.bx i hi).X, hb_l (h.bx i hi).Y, hb_l (h.bx i hi).Z⟩) (fun hi => ⟨hb_r (g.bx i hi).X, hb_r (g.bx i hi).Y, hb_r (g.bx i hi).Z⟩)
  tm := fun i hi => (List.mem_append.mp hi).elim (fun hi => by
      obtain ⟨x, y, z⟩ := h.tm i hi
      exact ⟨x, by unfold hb; dsimp only; rw [mn_def]; omega, by unfold hb; dsimp only; rw [mx_def]; omega⟩) (fun hi => by
      obtain ⟨x, y, z⟩ := g.tm i hi
      exact ⟨x, by unfold hb; dsimp only; rw [mn_def]; omega, by unfold hb; dsimp only; rw [mx_def]; omega⟩)
theorem Hold.perm {a : S_Box} {s : S_Bound} {l m : List Int} (h : Hold rows a s l) (p : l.Perm m) : Hold rows a s m where
  ok := h.ok
  tu := h.tu
  r := fun i hi => h.r i (p.mem_iff.mpr hi)
  ro := fun i hi => h.ro i (p.mem_iff.mpr hi)
  bx := fun i hi => h.bx i (p.mem_iff.mpr hi)
  tm := fun i hi => h.tm i (p.mem_iff.mpr hi)
theorem sub_self {x : S_Bound} (h : NBk x) : Sub x x := ⟨Int.le_refl _, h.m, Int.le_refl _⟩
theorem hold_one {i : Int} (i0 : 0 ≤ i) (i1 : i < (rows.length : Int)) (h : NOk (rd rows i).Box) (g : (rd rows i).When.Unknown = false) : Hold rows (rd rows i).Box (rd rows i).When [i] where
  ok := h
  tu := g
  r := fun j hj => by rw [List.mem_singleton.mp hj]; exact ⟨i0, i1⟩
  ro := fun j hj => by rw [List.mem_singleton.mp hj]; exact h
  bx := fun j hj => by rw [List.mem_singleton.mp hj]; exact ⟨sub_self h.X, sub_self h.Y, sub_self h.Z⟩
  tm := fun j hj => by rw [List.mem_singleton.mp hj]; exact ⟨g, Int.le_refl _, Int.le_refl _⟩
theorem join_eq (k : Nat) (n : S_node) (b : S_Box) (t : S_Bound) : query_node_join k n b t = some ((hB n.box b).X.Lo, (hB n.box b).X.Hi, (hB n.box b).X.Unknown, (hB n.box b).Y.Lo, (hB n.box b).Y.Hi, (hB n.box b).Y.Unknown, (hB n.box b).Z.Lo, (hB n.box b).Z.Hi, (hB n.box b).Z.Unknown, (hb n.when t).Lo, (hb n.when t).Hi, (hb n.when t).Unknown, n.kids, n.rows) := rfl
structure MapOk (rows : List S_Row) (d : Nat) (m : List (Int × S_node)) : Prop where
  nd : m.Pairwise fun p q => p.1 ≠ q.1
  wf : ∀ p, p ∈ m → (Lit.int .i64 p.1).wf = true
  good : ∀ p, p ∈ m → Good rows d p.2
def mund (d : Nat) (m : List (Int × S_node)) : List Int := m.flatMap fun p => und d p.2
theorem mfind_some : ∀ {m : List (Int × S_node)} {t : Int}, (mfind m t).isSome = true → ∃ pre post nd, m = pre ++ (t, nd) :: post ∧ mget default m t = nd ∧ ∀ v, mput m t v = pre ++ (t, v) :: post
  | [], t, h => by rw [mfind] at h; cases h
  | p :: m, t, h => by
    rw [mfind] at h
    by_cases c : p.1 = t
    · refine ⟨[], m, p.2, by rw [← c]; rfl, by unfold mget; rw [mfind, if_pos c]; rfl, fun v => by rw [mput, if_pos c]; rfl⟩
    · rw [if_neg c] at h
      obtain ⟨pre, post, nd, e1, e2, e3⟩ := mfind_some h
      refine ⟨p :: pre, post, nd, by rw [e1]; rfl, ?_, fun v => by rw [mput, if_neg c, e3]; rfl⟩
      unfold mget at e2 ⊢
      rw [mfind, if_neg c]; exact e2
theorem mfind_none : ∀ {m : List (Int × S_node)} {t : Int}, ¬ (mfind m t).isSome = true → (∀ v, mput m t v = m ++ [(t, v)]) ∧ ∀ p, p ∈ m → p.1 ≠ t
  | [], t, h => ⟨fun v => rfl, fun p hp => by cases hp⟩
  | p :: m, t, h => by
    rw [mfind] at h
    by_cases c : p.1 = t
    · rw [if_pos c] at h; exact absurd rfl h
    · rw [if_neg c] at h
      obtain ⟨h1, h2⟩ := mfind_none h
      refine ⟨fun v => by rw [mput, if_neg c, h1]; rfl, fun q hq => ?_⟩
      rcases List.mem_cons.mp hq with rfl | hq
      · exact c
      · exact h2 q hq
theorem mfind_mem : ∀ {m : List (Int × S_node)} {p : Int × S_node}, m.Pairwise (fun p q => p.1 ≠ q.1) → p ∈ m → mfind m p.1 = some p.2
  | [], p, _, h => by cases h
  | q :: m, p, hn, h => by
    rw [List.pairwise_cons] at hn
    rw [mfind]
    rcases List.mem_cons.mp h with rfl | h
    · rw [if_pos rfl]
    · rw [if_neg (hn.1 p h)]; exact mfind_mem hn.2 h
theorem len_flat {α : Type} (f : α → List Int) : ∀ {l : List α}, (∀ x, x ∈ l → f x ≠ []) → l.length ≤ (l.flatMap f).length
  | [], _ => Nat.zero_le _
  | x :: l, h => by
    have h1 := len_flat f (l := l) (fun y hy => h y (List.mem_cons_of_mem _ hy))
    have h2 := List.length_pos_iff.mpr (h x (List.mem_cons_self ..))
    rw [List.flatMap_cons, List.length_append, List.length_cons]; omega
theorem MapOk.len {d : Nat} {m : List (Int × S_node)} (h : MapOk rows d m) : m.length ≤ (mund d m).length := len_flat _ fun p hp => (h.good p hp).some
theorem MapOk.nil (d : Nat) : MapOk rows d [] := ⟨List.Pairwise.nil, fun p h => (by cases h), fun p h => (by cases h)⟩
theorem MapOk.turn {d : Nat} {m : List (Int × S_node)} {t : Int} {v : S_node} {x : List Int} (h : MapOk rows d m) (c : (mfind m t).isSome = true) (hv : Good rows d v) (hx : (und d v).Perm (und d (mget default m t) ++ x)) :
    MapOk rows d (mput m t v) ∧ (mund d (mput m t v)).Perm (mund d m ++ x) := by
  obtain ⟨pre, post, nd, e1, e2, e3⟩ := mfind_some c
  rw [e2] at hx
  rw [e3]
  have hn := h.nd; have hw := h.wf; have hg := h.good
  rw [e1] at hn hw hg
  rw [List.pairwise_append, List.pairwise_cons] at hn
  refine ⟨⟨?_, fun p hp => ?_, fun p hp => ?_⟩, ?_⟩
  · rw [List.pairwise_append, List.pairwise_cons]
    refine ⟨hn.1, ⟨hn.2.1.1, hn.2.1.2⟩, fun a ha b hb => ?_⟩
    rcases List.mem_cons.mp hb with rfl | hb
    · exact hn.2.2 a ha (t, nd) (List.mem_cons_self ..)
    · exact hn.2.2 a ha b (List.mem_cons_of_mem _ hb)
  · rcases List.mem_append.mp hp with hp | hp
    · exact hw p (List.mem_append_left _ hp)
    · rcases List.mem_cons.mp hp with rfl | hp
      · exact hw (t, nd) (by simp)
      · exact hw p (by simp [hp])
  · rcases List.mem_append.mp hp with hp | hp
    · exact hg p (List.mem_append_left _ hp)
    · rcases List.mem_cons.mp hp with rfl | hp
      · exact hv
      · exact hg p (by simp [hp])
  · unfold mund
    rw [e1, List.flatMap_append, List.flatMap_cons, List.flatMap_append, List.flatMap_cons]
    rw [List.append_assoc]
    refine List.Perm.append_left _ ?_
    refine (hx.append_right _).trans ?_
    rw [List.append_assoc, List.append_assoc]
    exact List.Perm.append_left _ List.perm_append_comm
theorem MapOk.more {d : Nat} {m : List (Int × S_node)} {t : Int} {v : S_node} (h : MapOk rows d m) (c : ¬ (mfind m t).isSome = true) (ht : (Lit.int .i64 t).wf = true) (hv : Good rows d v) :
    MapOk rows d (mput m t v) ∧ mund d (mput m t v) = mund d m ++ und d v := by
  obtain ⟨e, hne⟩ := mfind_none c
  rw [e]
  refine ⟨⟨?_, fun p hp => ?_, fun p hp => ?_⟩, ?_⟩
  · rw [List.pairwise_append]
    exact ⟨h.nd, List.pairwise_singleton _ _, fun a ha b hb => by rw [List.mem_singleton.mp hb]; exact hne a ha⟩
  · rcases List.mem_append.mp hp with hp | hp
    · exact h.wf p hp
    · rw [List.mem_singleton.mp hp]; exact ht
  · rcases List.mem_append.mp hp with hp | hp
    · exact h.good p hp
    · rw [List.mem_singleton.mp hp]; exact hv
  · unfold mund; simp
theorem keys_ex {d : Nat} {m : List (Int × S_node)} (h : MapOk rows d m) (hl : (mund d m).length ≤ 1000) : ∃ K, sortedKeys m = some K ∧ K.Perm (m.map fun p => p.1) := by
  have := h.len
  unfold sortedKeys
  rw [ifp (List.all_eq_true.mpr h.wf), ifp (by omega)]
  exact ⟨_, rfl, List.mergeSort_perm _ _⟩
theorem keys_und {d : Nat} {m : List (Int × S_node)} {K : List Int} (h : MapOk rows d m) (hK : K.Perm (m.map fun p => p.1)) : (K.flatMap fun t => und d (mget default m t)).Perm (mund d m) := by
  refine (hK.flatMap_right _).trans ?_
  rw [List.flatMap_map]
  unfold mund
  have : ∀ p, p ∈ m → und d (mget default m p.1) = und d p.2 := fun p hp => by unfold mget; rw [mfind_mem h.nd hp]; rfl
  rw [show (m.flatMap fun p => und d (mget default m p.1)) = m.flatMap fun p => und d p.2 from by
    simp only [List.flatMap]; rw [List.map_congr_left this]]
theorem keys_in {d : Nat} {m : List (Int × S_node)} {K : List Int} (h : MapOk rows d m) (hK : K.Perm (m.map fun p => p.1)) : ∀ t, t ∈ K → (mfind m t).isSome = true ∧ Good rows d (mget default m t) ∧ (Lit.int .i64 t).wf = true := by
  intro t ht
  obtain ⟨p, hp, rfl⟩ := List.mem_map.mp (hK.mem_iff.mp ht)
  have e := mfind_mem h.nd hp
  exact ⟨by rw [e]; rfl, by unfold mget; rw [e]; exact h.good p hp, h.wf p hp⟩
theorem rd_at' {α : Type} [Inhabited α] {pre post : List α} {x : α} {i : Int} (hi : i = (pre.length : Int)) : rd (pre ++ x :: post) i = x := by
  obtain ⟨g, e⟩ := rd_lt (xs := pre ++ x :: post) (i := i) (by omega) (by simp; omega)
  rw [e, List.getElem_append_right (by omega)]
  simp [hi]
def upto (n : Nat) : List Int := (List.range n).map Int.ofNat
theorem upto_succ (n : Nat) : upto (n + 1) = upto n ++ [(n : Int)] := by unfold upto; rw [List.range_succ]; simp
theorem upto_len (n : Nat) : (upto n).length = n := by unfold upto; simp
theorem und_mem {d : Nat} {m : List (Int × S_node)} {t : Int} (h : (mfind m t).isSome = true) : (und d (mget default m t)).length ≤ (mund d m).length := by
  obtain ⟨pre, post, nd, e1, e2, _⟩ := mfind_some h
  rw [e2, e1]; unfold mund
  rw [List.flatMap_append, List.flatMap_cons, List.length_append, List.length_append]; dsimp only; omega
variable {rows : List S_Row}
theorem mfind_good {d : Nat} {m : List (Int × S_node)} {t : Int} (hm : MapOk rows d m) (h : (mfind m t).isSome = true) : Good rows d (mget default m t) := by
  obtain ⟨pre, post, nd, e1, e2, _⟩ := mfind_some h
  rw [e2]; exact hm.good (t, nd) (by rw [e1]; simp)
theorem new_l0 (k : Nat) (level : Int) (hr : (rows.length : Int) ≤ 100) (l0 : 0 ≤ level) (l1 : level ≤ 12) (hk : 20 ≤ k) : ∀ (e n : Nat) (m : List (Int × S_node)) (i : Int) (q : Nat) (lo : List Int), i = (q : Int) → i + e = (rows.length : Int) → e < n → MapOk rows 0 m → (lo ++ mund 0 m).Perm (upto q) →
    ∃ m' lo', query_New.l0 k rows level n m i lo = some (m', lo') ∧ MapOk rows 0 m' ∧ (lo' ++ mund 0 m').Perm (upto rows.length) := by
  intro e
  induction e with
  | zero =>
    intro n m i q lo hq hi hn hm hp
    obtain ⟨n, rfl⟩ : ∃ q, n = q + 1 := ⟨n - 1, by omega⟩
    rw [query_New.l0, ifn (by omega)]
    exact ⟨m, lo, rfl, hm, by rw [show rows.length = q by omega]; exact hp⟩
  | succ e ih =>
    intro n m i q lo hq hi hn hm hp
    obtain ⟨n, rfl⟩ : ∃ q, n = q + 1 := ⟨n - 1, by omega⟩
    have hpl := hp.length_eq
    rw [upto_len, List.length_append] at hpl
    obtain ⟨v, t, e1, ht⟩ := middle_ex k (rd rows i).Box hk
    rw [query_New.l0, ifp (by omega), ifp (by omega), bnd e1]; dsimp only
    rw [wid (x := i + 1) (by omega) (by omega)]
    have loose := ih n m (i + 1) (q + 1) (lo ++ [i]) (by omega) (by omega) (by omega) hm (by
      rw [upto_succ, ← hq, List.append_assoc]
      refine List.Perm.trans ?_ (hp.append_right [i])
      rw [List.append_assoc]
      exact List.Perm.append_left _ List.perm_append_comm)
    by_cases c1 : t = true
    · obtain ⟨hv, hbx⟩ := ht c1
      rw [ifn (fun h => h c1)]
      by_cases c2 : (rd rows i).When.Unknown = true
      · rw [ifp c2, ifp (by omega)]; exact loose
      · rw [ifn c2]
        have hw : (rd rows i).When.Unknown = false := Bool.eq_false_iff.mpr c2
        have h1 := hold_one (rows := rows) (i := i) (by omega) (by omega) hbx hw
        obtain ⟨T, e2, hT⟩ := tile_ex k v level hv l0 l1 hk
        rw [bnd e2]; dsimp only
        by_cases c3 : (mfind m T).isSome = true
        · have hg := mfind_good hm c3
          have hl := und_mem (d := 0) c3
          have hl' : (und 0 (mget default m T)).length = (mget default m T).rows.length := rfl
          rw [ifp c3, bnd (join_eq _ _ _ _)]; dsimp only
          rw [ifp (by omega)]
          have hj := hg.hold.join h1
          obtain ⟨a1, a2⟩ := hm.turn (v := ⟨hB (mget default m T).box (rd rows i).Box, hb (mget default m T).when (rd rows i).When, (mget default m T).kids, (mget default m T).rows ++ [i]⟩) (x := [i]) c3 ⟨hj, by simp, hg.2.2⟩ (List.Perm.refl _)
          exact ih n _ (i + 1) (q + 1) lo (by omega) (by omega) (by omega) a1 (by
            rw [upto_succ, ← hq]
            refine List.Perm.trans ?_ (hp.append_right [i])
            rw [List.append_assoc]
            exact List.Perm.append_left _ a2)
        · rw [ifn c3]
          obtain ⟨a1, a2⟩ := hm.more (v := ⟨(rd rows i).Box, (rd rows i).When, [], [i]⟩) c3 hT ⟨h1, by simp, rfl⟩
          exact ih n _ (i + 1) (q + 1) lo (by omega) (by omega) (by omega) a1 (by
            rw [upto_succ, ← hq, a2, ← List.append_assoc]
            exact hp.append_right [i])
    · rw [ifp c1, ifp (by omega)]; exact loose
theorem new_l2 (k : Nat) (d : Nat) (at_ : List (Int × S_node)) (K : List Int) (U : Int → List Int) (hU : U = fun t => und d (mget default at_ t)) (hK : ∀ t, t ∈ K → (mfind at_ t).isSome = true ∧ Good rows d (mget default at_ t) ∧ (Lit.int .i64 t).wf = true) (hl : (K.flatMap U).length ≤ 1000) (hKl : K.length ≤ 1000) :
    ∀ (Q P : List Int) (n : Nat) (up : List (Int × S_node)) (i : Int), i = (P.length : Int) → K = P ++ Q → Q.length < n → MapOk rows (d + 1) up → (mund (d + 1) up).Perm (P.flatMap U) →
    ∃ up', query_New.l2 k K at_ n up i = some up' ∧ MapOk rows (d + 1) up' ∧ (mund (d + 1) up').Perm (K.flatMap U) := by
  intro Q
  induction Q with
  | nil =>
    intro P n up i hi hP hn hm hp
    obtain ⟨n, rfl⟩ : ∃ q, n = q + 1 := ⟨n - 1, by omega⟩
    rw [List.append_nil] at hP
    rw [query_New.l2, ifn (by rw [hP]; omega)]
    exact ⟨up, rfl, hm, by rw [hP]; exact hp⟩
  | cons t Q ih =>
    intro P n up i hi hP hn hm hp
    obtain ⟨n, rfl⟩ : ∃ q, n = q + 1 := ⟨n - 1, by omega⟩
    rw [List.length_cons] at hn
    have lK : (K.length : Int) = P.length + (Q.length + 1) := by rw [hP]; simp
    have et : rd K i = t := by rw [hP]; exact rd_at' hi
    obtain ⟨k1, k2, k3⟩ := hK t (by rw [hP]; simp)
    have hpl := hp.length_eq
    have hpK : (P.flatMap U).length ≤ (K.flatMap U).length := by rw [hP, List.flatMap_append, List.length_append]; omega
    have next : ∀ up', MapOk rows (d + 1) up' → (mund (d + 1) up').Perm (mund (d + 1) up ++ U t) → ∃ up'', query_New.l2 k K at_ n up' (i + 1) = some up'' ∧ MapOk rows (d + 1) up'' ∧ (mund (d + 1) up'').Perm (K.flatMap U) := by
      intro up' h1 h2
      refine ih (P ++ [t]) n up' (i + 1) (by simp; omega) (by rw [hP]; simp) (by omega) h1 ?_
      rw [List.flatMap_append, List.flatMap_singleton]
      exact h2.trans (hp.append_right _)
    rw [query_New.l2, ifp (by omega), ifp (by omega), et, ifp k1, wid (x := i + 1) (by omega) (by omega)]
    have ut : U t = und d (mget default at_ t) := by rw [hU]
    generalize hT : w64 (Int.tdiv t 4) = T
    have fT : (Lit.int .i64 T).wf = true := by rw [← hT]; exact fits _
    generalize mget (default : S_node) at_ t = kid at *
    by_cases c3 : (mfind up T).isSome = true
    · have hg := mfind_good hm c3
      have hl1 := und_mem (d := d + 1) c3
      rw [ifp c3, bnd (join_eq _ _ _ _)]; dsimp only
      generalize hc : mget (default : S_node) up T = cur at *
      obtain ⟨g1, g2, g3, g4⟩ := hg
      have hk1 : cur.kids.length ≤ (und (d + 1) cur).length := by
        rw [und, List.length_append]
        have := len_flat (und d) (l := cur.kids) fun x hx => (g4 x hx).some
        omega
      have eu : und (d + 1) cur = cur.kids.flatMap (und d) := by rw [und, g3, List.append_nil]
      have en : und (d + 1) ⟨hB cur.box kid.box, hb cur.when kid.when, cur.kids ++ [kid], cur.rows⟩ = und (d + 1) cur ++ U t := by
        rw [und, eu, g3, List.append_nil, List.flatMap_append, List.flatMap_singleton, ut]
      rw [ifp (by omega)]
      obtain ⟨a1, a2⟩ := hm.turn (v := ⟨hB cur.box kid.box, hb cur.when kid.when, cur.kids ++ [kid], cur.rows⟩) (x := U t) c3 ⟨by
          rw [en, ut]; exact g1.join k2.hold, by simp, g3, fun x hx => by
          rcases List.mem_append.mp hx with hx | hx
          · exact g4 x hx
          · rw [List.mem_singleton.mp hx]; exact k2⟩ (by rw [hc, en])
      exact next _ a1 a2
    · rw [ifn c3]
      have en : und (d + 1) ⟨kid.box, kid.when, [kid], []⟩ = U t := by rw [und, List.append_nil, List.flatMap_singleton, ut]
      obtain ⟨a1, a2⟩ := hm.more (v := ⟨kid.box, kid.when, [kid], []⟩) c3 fT ⟨by rw [en, ut]; exact k2.hold, by simp, rfl, fun x hx => by rw [List.mem_singleton.mp hx]; exact k2⟩
      exact next _ a1 (by rw [a2, en])
theorem new_l1 (k : Nat) (level : Int) (hk : 1010 ≤ k) (l1 : level ≤ 12) : ∀ (e n d : Nat) (at_ : List (Int × S_node)) (i : Int), i = (d : Int) → i + e = level → e < n → MapOk rows d at_ → (mund d at_).length ≤ 1000 →
    ∃ at', query_New.l1 k level n at_ i = some at' ∧ MapOk rows (d + e) at' ∧ (mund (d + e) at').Perm (mund d at_) := by
  intro e
  induction e with
  | zero =>
    intro n d at_ i hd hi hn hm hl
    obtain ⟨n, rfl⟩ : ∃ q, n = q + 1 := ⟨n - 1, by omega⟩
    rw [query_New.l1, ifn (by omega)]
    exact ⟨at_, rfl, hm, List.Perm.refl _⟩
  | succ e ih =>
    intro n d at_ i hd hi hn hm hl
    obtain ⟨n, rfl⟩ : ∃ q, n = q + 1 := ⟨n - 1, by omega⟩
    obtain ⟨K, e1, hK⟩ := keys_ex hm hl
    have hkl := hK.length_eq
    rw [List.length_map] at hkl
    have hml := hm.len
    have hu := keys_und hm hK
    obtain ⟨up, e2, u1, u2⟩ := new_l2 k d at_ K _ rfl (keys_in hm hK) (by rw [hu.length_eq]; exact hl) (by omega) K [] k [] 0 rfl rfl (by omega) (MapOk.nil _) (List.Perm.refl _)
    rw [query_New.l1, ifp (by omega), bnd e1, bnd e2, wid (x := i + 1) (by omega) (by omega)]
    have hp := u2.trans hu
    obtain ⟨at', e3, v1, v2⟩ := ih n (d + 1) up (i + 1) (by omega) (by omega) (by omega) u1 (by rw [hp.length_eq]; exact hl)
    rw [show d + (e + 1) = d + 1 + e by omega]
    exact ⟨at', e3, v1, v2.trans hp⟩
theorem new_l3 (k : Nat) (at_ : List (Int × S_node)) (K : List Int) (hK : ∀ t, t ∈ K → (mfind at_ t).isSome = true) (hl : K.length ≤ 1000) : ∀ (Q P : List Int) (n : Nat) (i : Int), i = (P.length : Int) → K = P ++ Q → Q.length < n →
    query_New.l3 k K at_ n i (P.map fun t => mget default at_ t) = some (K.map fun t => mget default at_ t) := by
  intro Q
  induction Q with
  | nil =>
    intro P n i hi hP hn
    obtain ⟨n, rfl⟩ : ∃ q, n = q + 1 := ⟨n - 1, by omega⟩
    rw [List.append_nil] at hP
    rw [query_New.l3, ifn (by rw [hP]; omega), hP]
  | cons t Q ih =>
    intro P n i hi hP hn
    obtain ⟨n, rfl⟩ : ∃ q, n = q + 1 := ⟨n - 1, by omega⟩
    rw [List.length_cons] at hn
    have lK : (K.length : Int) = P.length + (Q.length + 1) := by rw [hP]; simp
    have et : rd K i = t := by rw [hP]; exact rd_at' hi
    rw [query_New.l3, ifp (by omega), ifp (by omega), et, ifp (hK t (by rw [hP]; simp)), ifp (by rw [List.length_map]; omega), wid (x := i + 1) (by omega) (by omega)]
    have := ih (P ++ [t]) n (i + 1) (by simp; omega) (by rw [hP]; simp) (by omega)
    rw [List.map_append, List.map_singleton] at this
    exact this
theorem new_ex (k : Nat) (level : Int) (h : RowsOk rows) (hr : (rows.length : Int) ≤ 100) (l0 : 0 ≤ level) (l1 : level ≤ 12) (hk : 2000 ≤ k) :
    ∃ roots lo, query_New k rows level = some (⟨rows, level, roots, lo⟩, 0) ∧ (∀ x, x ∈ roots → Good rows level.toNat x) ∧ (lo ++ roots.flatMap (und level.toNat)).Perm (upto rows.length) := by
  unfold query_New
  rw [bnd (checkl_ex k rows h (by omega) (by omega)), ifn (by decide), ifn (by omega), ifn (by omega), bnd (copy_ex k rows (by omega) (fun c hc => (h.2 c hc).l2) (by omega))]
  obtain ⟨m, lo, e1, m1, p1⟩ := new_l0 (rows := rows) k level hr l0 l1 (by omega) rows.length k [] 0 0 [] rfl (by omega) (by omega) (MapOk.nil _) (List.Perm.refl _)
  have pl := p1.length_eq
  rw [upto_len, List.length_append] at pl
  obtain ⟨m', e2, m2, p2⟩ := new_l1 (rows := rows) k level (by omega) l1 level.toNat k 0 m 0 rfl (by omega) (by omega) m1 (by omega)
  rw [Nat.zero_add] at m2 p2
  have pl2 := p2.length_eq
  obtain ⟨K, e3, hK⟩ := keys_ex m2 (by omega)
  have hkl := hK.length_eq
  rw [List.length_map] at hkl
  have hml := m2.len
  have hin := keys_in m2 hK
  have e4 := new_l3 k m' K (fun t ht => (hin t ht).1) (by omega) K [] k 0 rfl rfl (by omega)
  rw [bnd e1]; dsimp only
  rw [bnd e2, bnd e3]
  rw [show ((List.map (fun t => mget default m' t) []) : List S_node) = [] from rfl] at e4
  rw [bnd e4]
  refine ⟨_, _, rfl, fun x hx => ?_, ?_⟩
  · obtain ⟨t, ht, rfl⟩ := List.mem_map.mp hx
    exact (hin t ht).2.1
  · rw [List.flatMap_map]
    exact (List.Perm.append_left _ ((keys_und m2 hK).trans p2)).trans p1
noncomputable def oneP (c : Int) (a r : S_Row) : List S_Pair := if nearV a.Box r.Box c ≠ 0 then [⟨a.ID, r.ID, nearV a.Box r.Box c⟩] else []
noncomputable def ansP (rows : List S_Row) (c : Int) (r : S_Row) (l : List Int) : List S_Pair := l.flatMap fun i => oneP c (rd rows i) r
section
variable {rows : List S_Row} {X : S_Index} {c : Int} {r : S_Row}
theorem pruneP {b : S_Box} {t : S_Bound} {l : List Int} (c0 : 0 ≤ c) (h : Hold rows b t l) (e : nearV b r.Box c = 0) : ∀ i, i ∈ l → nearV (rd rows i).Box r.Box c = 0 := by
  intro i hi
  by_cases hb : NOk r.Box
  · exact (shrink c0 (h.ro i hi) hb (fun _ _ => ⟨h.bx i hi, ⟨sub_self hb.X, sub_self hb.Y, sub_self hb.Z⟩⟩)).1 e
  · unfold nearV at e
    rw [if_pos (fun z => hb z.2)] at e
    cases e
theorem oneP_len (a : S_Row) : (oneP c a r).length ≤ 1 := by unfold oneP; split <;> simp
theorem ansP_len : ∀ l : List Int, (ansP rows c r l).length ≤ l.length
  | [] => Nat.le_refl _
  | i :: l => by
    have h1 := ansP_len l
    have h2 := oneP_len (c := c) (r := r) (rd rows i)
    unfold ansP at h1 ⊢
    rw [List.flatMap_cons, List.length_append, List.length_cons]; omega
theorem ansP_app (l m : List Int) : ansP rows c r (l ++ m) = ansP rows c r l ++ ansP rows c r m := by unfold ansP; rw [List.flatMap_append]
theorem ansP_nil {l : List Int} (h : ∀ i, i ∈ l → nearV (rd rows i).Box r.Box c = 0) : ansP rows c r l = [] := by
  unfold ansP
  rw [List.flatMap_eq_nil_iff]
  intro i hi
  unfold oneP
  rw [h i hi, if_neg (by decide)]
variable (k : Nat) (hX : X.rows = rows) (c0 : 0 ≤ c) (c1 : c ≤ 1073741824)
include hX c0 c1
theorem join1 (hk : 80 ≤ k) (out : List S_Pair) (i : Int) (i0 : 0 ≤ i) (i1 : i < (rows.length : Int)) (ho : out.length ≤ 1000) : query_Index_Join_1 k X r c out i = some (out ++ ansP rows c r [i]) := by
  unfold query_Index_Join_1
  rw [hX, ifp i0, ifp i1, bnd (near_eq k _ _ _ c0 c1 hk)]
  unfold ansP
  rw [List.flatMap_singleton]
  unfold oneP
  by_cases g : nearV (rd rows i).Box r.Box c ≠ 0
  · rw [ifp g, ifp (by omega), ifp g]
  · rw [ifn g, ifn g, List.append_nil]
theorem jwalk_l1 (hk : 80 ≤ k) (l : List S_node) (x : Int) (R : List Int) (hR : (rd l x).rows = R) (hr : ∀ i, i ∈ R → 0 ≤ i ∧ i < (rows.length : Int)) : ∀ (Q P : List Int) (n : Nat) (i : Int) (out : List S_Pair), i = (P.length : Int) → R = P ++ Q → Q.length < n → P.length + Q.length ≤ 1000 → out.length + Q.length ≤ 1000 →
    query_walk__query_Index_Join_2__query_Index_Join_1.l1 k l x X r c n i out = some (out ++ ansP rows c r Q) := by
  intro Q
  induction Q with
  | nil =>
    intro P n i out hi hP hn hl ho
    obtain ⟨n, rfl⟩ : ∃ q, n = q + 1 := ⟨n - 1, by omega⟩
    rw [List.append_nil] at hP
    rw [query_walk__query_Index_Join_2__query_Index_Join_1.l1, hR, ifn (by rw [hP]; omega)]
    unfold ansP; rw [List.flatMap_nil, List.append_nil]
  | cons t Q ih =>
    intro P n i out hi hP hn hl ho
    obtain ⟨n, rfl⟩ : ∃ q, n = q + 1 := ⟨n - 1, by omega⟩
    rw [List.length_cons] at hn hl ho
    have lR : (R.length : Int) = P.length + (Q.length + 1) := by rw [hP]; simp
    have et : rd R i = t := by rw [hP]; exact rd_at' hi
    obtain ⟨t0, t1⟩ := hr t (by rw [hP]; simp)
    rw [query_walk__query_Index_Join_2__query_Index_Join_1.l1, hR, ifp (by omega), ifp (by omega), et, bnd (join1 k hX c0 c1 hk out t t0 t1 (by omega)), wid (x := i + 1) (by omega) (by omega)]
    have ol : (out ++ ansP rows c r [t]).length ≤ out.length + 1 := by
      have := ansP_len (rows := rows) (c := c) (r := r) [t]
      rw [List.length_singleton] at this
      rw [List.length_append]; omega
    rw [ih (P ++ [t]) n (i + 1) _ (by simp; omega) (by rw [hP]; simp) (by omega) (by simp; omega) (by omega), List.append_assoc, ← ansP_app]
    rfl
theorem jwalk_l0 (hk : 1100 ≤ k) (self_ : S_Row → Int → S_Index → List S_Pair → List S_node → Option (Int × List S_Pair)) (l : List S_node) (U V : S_node → List Int) (hl : l.length ≤ 1000)
    (hold : ∀ nd, nd ∈ l → Hold rows nd.box nd.when (U nd)) (hU : ∀ nd, nd ∈ l → U nd = V nd ++ nd.rows)
    (hs : ∀ nd, nd ∈ l → ∀ out : List S_Pair, out.length + (V nd).length ≤ 1000 → ∃ q, self_ r c X out nd.kids = some (q, out ++ ansP rows c r (V nd))) :
    ∀ (Q P : List S_node) (n : Nat) (cost i : Int) (out : List S_Pair), i = (P.length : Int) → l = P ++ Q → Q.length < n → out.length + (Q.flatMap U).length ≤ 1000 →
    ∃ q, query_walk__query_Index_Join_2__query_Index_Join_1.l0 k self_ l r c X n cost i out = some (q, out ++ ansP rows c r (Q.flatMap U)) := by
  intro Q
  induction Q with
  | nil =>
    intro P n cost i out hi hP hn ho
    obtain ⟨n, rfl⟩ : ∃ q, n = q + 1 := ⟨n - 1, by omega⟩
    rw [List.append_nil] at hP
    rw [query_walk__query_Index_Join_2__query_Index_Join_1.l0, ifn (by rw [hP]; omega)]
    refine ⟨cost, ?_⟩
    unfold ansP; rw [List.flatMap_nil, List.flatMap_nil, List.append_nil]
  | cons nd Q ih =>
    intro P n cost i out hi hP hn ho
    obtain ⟨n, rfl⟩ : ∃ q, n = q + 1 := ⟨n - 1, by omega⟩
    rw [List.length_cons] at hn
    rw [List.flatMap_cons, List.length_append] at ho
    have lR : (l.length : Int) = P.length + (Q.length + 1) := by rw [hP]; simp
    have et : rd l i = nd := by rw [hP]; exact rd_at' hi
    have hm : nd ∈ l := by rw [hP]; simp
    have lU : (U nd).length = (V nd).length + nd.rows.length := by rw [hU nd hm, List.length_append]
    have e2 : query_Index_Join_2 k r c nd = some (nearV nd.box r.Box c != 0) := by
      unfold query_Index_Join_2
      rw [bnd (near_eq k _ _ _ c0 c1 (by omega))]
    rw [query_walk__query_Index_Join_2__query_Index_Join_1.l0, ifp (by omega), ifp (by omega), et, bnd e2, wid (x := i + 1) (by omega) (by omega)]
    rw [List.flatMap_cons, ansP_app]
    by_cases g : nearV nd.box r.Box c = 0
    · rw [ifp (by rw [g]; decide), ansP_nil (pruneP c0 (hold nd hm) g), List.nil_append]
      exact ih (P ++ [nd]) n cost (i + 1) out (by simp; omega) (by rw [hP]; simp) (by omega) (by omega)
    · rw [ifn (by simp [g])]
      obtain ⟨q, e1⟩ := hs nd hm out (by omega)
      have al := ansP_len (rows := rows) (c := c) (r := r) (V nd)
      have al2 := ansP_len (rows := rows) (c := c) (r := r) nd.rows
      rw [bnd e1]; dsimp only
      rw [bnd (jwalk_l1 k hX c0 c1 (by omega) l i nd.rows (by rw [et]) (fun j hj => (hold nd hm).r j (by rw [hU nd hm]; simp [hj])) nd.rows [] k 0 _ rfl rfl (by omega) (by simp; omega) (by rw [List.length_append]; omega))]
      obtain ⟨q', e⟩ := ih (P ++ [nd]) n (w64 (cost + w64 ((nd.rows.length : Int) + q))) (i + 1) (out ++ ansP rows c r (V nd) ++ ansP rows c r nd.rows) (by simp; omega) (by rw [hP]; simp) (by omega) (by rw [List.length_append, List.length_append]; omega)
      refine ⟨q', ?_⟩
      rw [e, hU nd hm, ansP_app]
      simp only [List.append_assoc]
theorem jwalk_r (hk : 1100 ≤ k) : ∀ (d f : Nat) (l : List S_node) (out : List S_Pair), d ≤ 12 → d + 2 ≤ f → (∀ nd, nd ∈ l → Good rows d nd) → out.length + (l.flatMap (und d)).length ≤ 1000 →
    ∃ q, query_walk__query_Index_Join_2__query_Index_Join_1.r k f r c X out l = some (q, out ++ ansP rows c r (l.flatMap (und d))) := by
  intro d
  induction d with
  | zero =>
    intro f l out hd hf hg ho
    obtain ⟨f, rfl⟩ : ∃ q, f = q + 1 := ⟨f - 1, by omega⟩
    have hl := len_flat (und 0) (l := l) fun x hx => (hg x hx).some
    rw [query_walk__query_Index_Join_2__query_Index_Join_1.r]
    obtain ⟨q, e⟩ := jwalk_l0 k hX c0 c1 hk (query_walk__query_Index_Join_2__query_Index_Join_1.r k f) l (und 0) (fun _ => []) (by omega) (fun nd h => (hg nd h).hold) (fun nd h => rfl) (fun nd h o hoo => by
      obtain ⟨f, rfl⟩ : ∃ q, f = q + 1 := ⟨f - 1, by omega⟩
      obtain ⟨j, hj⟩ : ∃ j, k = j + 1 := ⟨k - 1, by omega⟩
      have e0 : ∀ m, m = j + 1 → query_walk__query_Index_Join_2__query_Index_Join_1.l0 k (query_walk__query_Index_Join_2__query_Index_Join_1.r k f) [] r c X m 0 0 o = some (0, o) := by
        rintro _ rfl
        rw [query_walk__query_Index_Join_2__query_Index_Join_1.l0, ifn (by decide)]
      refine ⟨0, ?_⟩
      rw [(hg nd h).2.2, query_walk__query_Index_Join_2__query_Index_Join_1.r]
      rw [show (([] : List S_node).length : Int) = 0 from rfl, bnd (e0 k hj)]
      unfold ansP; rw [List.flatMap_nil, List.append_nil]) l [] k (l.length : Int) 0 out rfl rfl (by omega) ho
    rw [bnd e]
    exact ⟨q, rfl⟩
  | succ d ih =>
    intro f l out hd hf hg ho
    obtain ⟨f, rfl⟩ : ∃ q, f = q + 1 := ⟨f - 1, by omega⟩
    have hl := len_flat (und (d + 1)) (l := l) fun x hx => (hg x hx).some
    rw [query_walk__query_Index_Join_2__query_Index_Join_1.r]
    obtain ⟨q, e⟩ := jwalk_l0 k hX c0 c1 hk (query_walk__query_Index_Join_2__query_Index_Join_1.r k f) l (und (d + 1)) (fun nd => nd.kids.flatMap (und d)) (by omega) (fun nd h => (hg nd h).hold) (fun nd h => by rw [und]) (fun nd h o hoo => by
      obtain ⟨g1, g2, g3, g4⟩ := hg nd h
      exact ih f nd.kids o (by omega) (by omega) g4 hoo) l [] k (l.length : Int) 0 out rfl rfl (by omega) ho
    rw [bnd e]
    exact ⟨q, rfl⟩
theorem jloose (hk : 80 ≤ k) (other : List S_Row) (x : Int) (ho : rd other x = r) (hr : ∀ i, i ∈ X.loose → 0 ≤ i ∧ i < (rows.length : Int)) (hl : X.loose.length ≤ 500) : ∀ (Q P : List Int) (n : Nat) (i : Int) (out : List S_Pair), i = (P.length : Int) → X.loose = P ++ Q → Q.length < n → out.length + Q.length ≤ 1000 →
    query_Index_Join.l1 k X other x c n i out = some (out ++ ansP rows c r Q) := by
  intro Q
  induction Q with
  | nil =>
    intro P n i out hi hP hn ho
    obtain ⟨n, rfl⟩ : ∃ q, n = q + 1 := ⟨n - 1, by omega⟩
    rw [List.append_nil] at hP
    rw [query_Index_Join.l1, ifn (by rw [hP]; omega)]
    unfold ansP; rw [List.flatMap_nil, List.append_nil]
  | cons t Q ih =>
    intro P n i out hi hP hn hoo
    obtain ⟨n, rfl⟩ : ∃ q, n = q + 1 := ⟨n - 1, by omega⟩
    rw [List.length_cons] at hn hoo
    have lR : (X.loose.length : Int) = P.length + (Q.length + 1) := by rw [hP]; simp
    have et : rd X.loose i = t := by rw [hP]; exact rd_at' hi
    obtain ⟨t0, t1⟩ := hr t (by rw [hP]; simp)
    rw [query_Index_Join.l1, ifp (by omega), ifp (by omega), et, ho, bnd (join1 k hX c0 c1 hk out t t0 t1 (by omega)), wid (x := i + 1) (by omega) (by omega)]
    have ol : (out ++ ansP rows c r [t]).length ≤ out.length + 1 := by
      have := ansP_len (rows := rows) (c := c) (r := r) [t]
      rw [List.length_singleton] at this
      rw [List.length_append]; omega
    rw [ih (P ++ [t]) n (i + 1) _ (by simp; omega) (by rw [hP]; simp) (by omega) (by omega), List.append_assoc, ← ansP_app]
    rfl
end
theorem upto_rd (l : List S_Row) : (upto l.length).map (fun i => rd l i) = l := by
  unfold upto
  rw [List.map_map]
  refine List.ext_getElem (by simp) fun i h1 h2 => ?_
  simp only [List.getElem_map, List.getElem_range]
  obtain ⟨g, e⟩ := rd_lt (xs := l) (i := Int.ofNat i) (by exact Int.natCast_nonneg _) (by exact Int.ofNat_lt.mpr h2)
  exact e
noncomputable def prs (c : Int) (rows other : List S_Row) : List S_Pair := other.flatMap fun r => rows.flatMap fun a => oneP c a r
theorem ansP_upto (rows : List S_Row) (c : Int) (r : S_Row) : ansP rows c r (upto rows.length) = rows.flatMap fun a => oneP c a r := by
  unfold ansP
  have e := List.flatMap_map (fun i => rd rows i) (fun a => oneP c a r) (upto rows.length)
  rw [upto_rd] at e
  rw [e]
theorem mem_oneP {c : Int} {a r : S_Row} {p : S_Pair} (h : p ∈ oneP c a r) : p = ⟨a.ID, r.ID, nearV a.Box r.Box c⟩ := by
  unfold oneP at h
  split at h
  · exact List.mem_singleton.mp h
  · cases h
theorem mem_prs {c : Int} {rows other : List S_Row} {p : S_Pair} (h : p ∈ prs c rows other) : ∃ a r, a ∈ rows ∧ r ∈ other ∧ p = ⟨a.ID, r.ID, nearV a.Box r.Box c⟩ := by
  unfold prs at h
  obtain ⟨r, hr, h⟩ := List.mem_flatMap.mp h
  obtain ⟨a, ha, h⟩ := List.mem_flatMap.mp h
  exact ⟨a, r, ha, hr, mem_oneP h⟩
def dst (x y : S_Pair) : Prop := ¬ (x.Left = y.Left ∧ x.Right = y.Right)
theorem prs_dst (c : Int) {rows other : List S_Row} (h : rows.Pairwise fun x y => x.ID < y.ID) (g : other.Pairwise fun x y => x.ID < y.ID) : (prs c rows other).Pairwise dst := by
  unfold prs
  rw [List.pairwise_flatMap]
  refine ⟨fun r hr => ?_, g.imp fun {r s} hrs x hx y hy => ?_⟩
  · rw [List.pairwise_flatMap]
    refine ⟨fun a ha => ?_, h.imp fun {a b} hab x hx y hy => ?_⟩
    · unfold oneP; split
      · exact List.pairwise_singleton _ _
      · exact List.Pairwise.nil
    · rw [mem_oneP hx, mem_oneP hy]; unfold dst; dsimp only; omega
  · obtain ⟨a, _, hx⟩ := List.mem_flatMap.mp hx
    obtain ⟨b, _, hy⟩ := List.mem_flatMap.mp hy
    rw [mem_oneP hx, mem_oneP hy]; unfold dst; dsimp only; omega
theorem flat_app {α β : Type} (f g : α → List β) : ∀ m : List α, (m.flatMap f ++ m.flatMap g).Perm (m.flatMap fun a => f a ++ g a)
  | [] => List.Perm.refl _
  | a :: m => by
    rw [List.flatMap_cons, List.flatMap_cons, List.flatMap_cons]
    refine List.Perm.trans ?_ ((flat_app f g m).append_left (f a ++ g a))
    rw [List.append_assoc, List.append_assoc]
    refine List.Perm.append_left _ ?_
    rw [← List.append_assoc, ← List.append_assoc]
    exact List.perm_append_comm.append_right _
theorem flat_congr {α β : Type} {f g : α → List β} (h : ∀ a, (f a).Perm (g a)) : ∀ {m : List α}, (m.flatMap f).Perm (m.flatMap g)
  | [] => List.Perm.refl _
  | a :: m => by rw [List.flatMap_cons, List.flatMap_cons]; exact (h a).append (flat_congr h)
theorem flat_swap {α β γ : Type} (F : α → β → List γ) (m : List β) : ∀ l : List α, (l.flatMap fun x => m.flatMap fun y => F x y).Perm (m.flatMap fun y => l.flatMap fun x => F x y)
  | [] => by
    have : ∀ m : List β, (m.flatMap fun _ => ([] : List γ)) = [] := fun m => by rw [List.flatMap_eq_nil_iff]; intro x _; rfl
    simp [this]
  | x :: l => by
    rw [List.flatMap_cons]
    refine ((flat_swap F m l).append_left _).trans ?_
    exact flat_app (fun y => F x y) (fun y => l.flatMap fun x => F x y) m
def tn (p : S_Pair) : S_Pair := ⟨p.Right, p.Left, p.Grade⟩
theorem prs_turn (c : Int) (rows other : List S_Row) : ((prs c rows other).map tn).Perm (prs c other rows) := by
  have e : (prs c rows other).map tn = other.flatMap fun r => rows.flatMap fun a => oneP c r a := by
    unfold prs
    rw [List.map_flatMap]
    congr 1; funext r
    rw [List.map_flatMap]
    congr 1; funext a
    unfold oneP
    rw [near_comm a.Box r.Box c]
    split <;> rfl
  rw [e]
  exact flat_swap (fun r a => oneP c r a) rows other
theorem prs_len (c : Int) (rows : List S_Row) : ∀ other : List S_Row, (prs c rows other).length ≤ other.length * rows.length
  | [] => by simp [prs]
  | r :: other => by
    have h := prs_len c rows other
    unfold prs at h ⊢
    rw [List.flatMap_cons, List.length_append, List.length_cons, Nat.add_mul, Nat.one_mul]
    have : ∀ rows : List S_Row, (rows.flatMap fun a => oneP c a r).length ≤ rows.length := by
      intro rows
      induction rows with
      | nil => exact Nat.le_refl _
      | cons a rows ih =>
        have := oneP_len (c := c) (r := r) a
        rw [List.flatMap_cons, List.length_append, List.length_cons]; omega
    have := this rows
    omega
theorem join_l0 (k : Nat) {rows : List S_Row} {X : S_Index} {c : Int} (hX : X.rows = rows) (c0 : 0 ≤ c) (c1 : c ≤ 1073741824) (hk : 1100 ≤ k) (d : Nat) (hd : d ≤ 12) (hg : ∀ x, x ∈ X.roots → Good rows d x) (hr : ∀ i, i ∈ X.loose → 0 ≤ i ∧ i < (rows.length : Int)) (hl : X.loose.length + (X.roots.flatMap (und d)).length ≤ 8) (other : List S_Row) (ho : other.length ≤ 8) :
    ∀ (Q P : List S_Row) (n : Nat) (i : Int) (out : List S_Pair), i = (P.length : Int) → other = P ++ Q → Q.length < n → out.length + Q.length * 8 ≤ 100 →
    query_Index_Join.l0 k other X c n i out = some (out ++ Q.flatMap fun r => ansP rows c r (X.loose ++ X.roots.flatMap (und d))) := by
  intro Q
  induction Q with
  | nil =>
    intro P n i out hi hP hn hoo
    obtain ⟨n, rfl⟩ : ∃ q, n = q + 1 := ⟨n - 1, by omega⟩
    rw [List.append_nil] at hP
    rw [query_Index_Join.l0, ifn (by rw [hP]; omega), List.flatMap_nil, List.append_nil]
  | cons r Q ih =>
    intro P n i out hi hP hn hoo
    obtain ⟨n, rfl⟩ : ∃ q, n = q + 1 := ⟨n - 1, by omega⟩
    rw [List.length_cons] at hn hoo
    have lR : (other.length : Int) = P.length + (Q.length + 1) := by rw [hP]; simp
    have et : rd other i = r := by rw [hP]; exact rd_at' hi
    have a1 := ansP_len (rows := rows) (c := c) (r := r) X.loose
    have a2 := ansP_len (rows := rows) (c := c) (r := r) (X.roots.flatMap (und d))
    rw [query_Index_Join.l0, ifp (by omega), ifp (by omega), bnd (jloose k hX c0 c1 (by omega) other i et hr (by omega) X.loose [] k 0 out rfl rfl (by omega) (by omega)), et]
    obtain ⟨q, e⟩ := jwalk_r (r := r) k hX c0 c1 hk d k X.roots (out ++ ansP rows c r X.loose) hd (by omega) hg (by rw [List.length_append]; omega)
    unfold query_walk__query_Index_Join_2__query_Index_Join_1
    rw [bnd e]; dsimp only
    rw [wid (x := i + 1) (by omega) (by omega), ih (P ++ [r]) n (i + 1) _ (by simp; omega) (by rw [hP]; simp) (by omega) (by rw [List.length_append, List.length_append]; omega)]
    rw [List.flatMap_cons, ansP_app]
    simp only [List.append_assoc]
theorem join_ex (k : Nat) {rows other : List S_Row} (level c : Int) (roots : List S_node) (lo : List Int) (hR : RowsOk rows) (hO : RowsOk other) (hr : rows.length ≤ 8) (ho : other.length ≤ 8) (l0 : 0 ≤ level) (l1 : level ≤ 12) (c0 : 0 ≤ c) (c1 : c ≤ 1073741824) (hk : 2000 ≤ k)
    (hg : ∀ x, x ∈ roots → Good rows level.toNat x) (hp : (lo ++ roots.flatMap (und level.toNat)).Perm (upto rows.length)) :
    ∃ R, query_Index_Join k ⟨rows, level, roots, lo⟩ other c = some (R, 0) ∧ R.Perm (prs c rows other) := by
  have hl := hp.length_eq
  rw [upto_len, List.length_append] at hl
  have hin : ∀ i, i ∈ lo → 0 ≤ i ∧ i < (rows.length : Int) := by
    intro i hi
    have := hp.mem_iff.mp (List.mem_append_left _ hi)
    unfold upto at this
    obtain ⟨j, hj, rfl⟩ := List.mem_map.mp this
    have := List.mem_range.mp hj
    exact ⟨Int.natCast_nonneg _, Int.ofNat_lt.mpr this⟩
  unfold query_Index_Join
  rw [bnd (checkl_ex k other hO (by omega) (by omega)), ifn (by decide), ifn (by omega), ifn (by omega)]
  rw [bnd (join_l0 (rows := rows) (X := ⟨rows, level, roots, lo⟩) k rfl c0 c1 (by omega) level.toNat (by omega) hg hin (by dsimp only; omega) other ho other [] k 0 [] rfl rfl (by omega) (by simp; omega)), List.nil_append]
  have pa : (other.flatMap fun r => ansP rows c r (lo ++ roots.flatMap (und level.toNat))).Perm (prs c rows other) := by
    unfold prs
    refine flat_congr fun r => ?_
    rw [← ansP_upto]; unfold ansP
    exact hp.flatMap_right _
  dsimp only
  generalize (other.flatMap fun r => ansP rows c r (lo ++ roots.flatMap (und level.toNat))) = T at *
  have plen := prs_len c rows other
  have plen2 : other.length * rows.length ≤ 8 * 8 := Nat.mul_le_mul ho hr
  have tl := pa.length_eq
  unfold slices_SortFunc_Pair__query_Index_Join_3
  rw [ifp (fun p hp => by
    obtain ⟨a, r, ha, hr, rfl⟩ := mem_prs (pa.mem_iff.mp hp)
    have h1 := (hR.2 a ha).id1; have h2 := (hR.2 a ha).id2; have h3 := (hO.2 r hr).id1; have h4 := (hO.2 r hr).id2
    dsimp only; omega)]
  rw [ifp (show T.Pairwise (fun x y => ¬ (x.Left = y.Left ∧ x.Right = y.Right)) from (pa.pairwise_iff (R := dst) (fun {x y} h g => h ⟨g.1.symm, g.2.symm⟩)).mpr (prs_dst c hR.1 hO.1)), ifp (by omega), bnd rfl]
  exact ⟨_, rfl, (List.mergeSort_perm _ _).trans pa⟩
theorem index_l0 (k : Nat) (q : S_Pair) (b : List S_Pair) (hl : (b.length : Int) ≤ 1000) : ∀ (d m : Nat) (i : Int), i + d = (b.length : Int) → 0 ≤ i → d < m → (∃ x, x ∈ b.drop i.toNat ∧ x = q) → ∃ j, slices_Index_Pair.l0 k b q m i = some (Sum.inl j) ∧ 0 ≤ j := by
  intro d
  induction d with
  | zero =>
    intro m i hi i0 hm ⟨x, hx, _⟩
    rw [List.drop_of_length_le (by omega)] at hx
    cases hx
  | succ d ih =>
    intro m i hi i0 hm ⟨x, hx, e⟩
    obtain ⟨m, rfl⟩ : ∃ z, m = z + 1 := ⟨m - 1, by omega⟩
    obtain ⟨h, e1⟩ := rd_lt (xs := b) (i := i) i0 (by omega)
    rw [List.drop_eq_getElem_cons h, ← e1, show i.toNat + 1 = (i + 1).toNat by omega] at hx
    rw [slices_Index_Pair.l0, ifp (by omega), ifp i0]
    by_cases g : ((q.Left == ((rd b i).Left)) && ((q.Right == ((rd b i).Right)) && ((q.Grade == ((rd b i).Grade)) && true))) = true
    · rw [ifp g]; exact ⟨i, rfl, i0⟩
    · rw [ifn g, wid (x := i + 1) (by omega) (by omega)]
      rcases List.mem_cons.mp hx with rfl | hx
      · exact absurd (by rw [← e]; simp) g
      · exact ih m (i + 1) (by omega) (by omega) (by omega) ⟨x, hx, e⟩
theorem contains_ex (k : Nat) (q : S_Pair) (b : List S_Pair) (hl : (b.length : Int) ≤ 1000) (hk : 1010 ≤ k) (h : q ∈ b) : slices_Contains_Pair k b q = some true := by
  obtain ⟨j, e, j0⟩ := index_l0 k q b hl b.length k 0 (by omega) (by decide) (by omega) ⟨q, h, rfl⟩
  unfold slices_Contains_Pair slices_Index_Pair
  rw [bnd (show ((slices_Index_Pair.l0 k b q k 0).bind fun z_ => Sum.elim (fun y_ => some y_) (fun _ => (some (-1))) z_) = some j by rw [bnd e]; rfl)]
  simp [j0]
theorem all_l0 (k : Nat) (a b : List S_Pair) (ha : (a.length : Int) ≤ 1000) (hb : (b.length : Int) ≤ 1000) (hk : 1010 ≤ k) (h : ∀ p, p ∈ a → tn p ∈ b) : ∀ (d m : Nat) (i : Int), i + d = (a.length : Int) → 0 ≤ i → d < m → spykeep3_QueryJoinsTurn.l0 k a b m i = some (Sum.inr ()) := by
  intro d
  induction d with
  | zero =>
    intro m i hi i0 hm
    obtain ⟨m, rfl⟩ : ∃ z, m = z + 1 := ⟨m - 1, by omega⟩
    rw [spykeep3_QueryJoinsTurn.l0, ifn (by omega)]
  | succ d ih =>
    intro m i hi i0 hm
    obtain ⟨m, rfl⟩ : ∃ z, m = z + 1 := ⟨m - 1, by omega⟩
    have h1 := h _ (rd_mem i0 (show i < (a.length : Int) by omega))
    rw [spykeep3_QueryJoinsTurn.l0, ifp (by omega), ifp i0, bnd (show slices_Contains_Pair k b ⟨(rd a i).Right, (rd a i).Left, (rd a i).Grade⟩ = some true from contains_ex k _ b hb hk h1), ifn (by decide), wid (x := i + 1) (by omega) (by omega)]
    exact ih m (i + 1) (by omega) (by omega) (by omega)
theorem pow30 : ∀ u, u < 31 → (2 : Int) ^ u ≤ 1073741824 := by decide
theorem law (k : Nat) (l : List Int) (deep cos : Int) (hk : 2000 ≤ k) : spykeep3_QueryJoinsTurn k l deep cos = some true := by
  unfold spykeep3_QueryJoinsTurn
  obtain ⟨rows, p, e1, p0, p1, hl, hR, _⟩ := rows_ex k l 0 8 (by decide) (by decide) (by decide) (by decide) (by omega)
  rw [bnd e1]; dsimp only
  obtain ⟨other, q, e2, q0, q1, hl2, hO, _⟩ := rows_ex k l p 8 (by omega) (by omega) (by decide) (by decide) (by omega)
  rw [bnd e2]; dsimp only
  obtain ⟨u, e3, u0, u1⟩ := range_ex k l q 1 30 (by decide) (by decide) (by decide) (by decide) (by omega) (by omega)
  rw [bnd e3]; dsimp only
  rw [ifp (by omega)]
  have hp := pow30 (min u.toNat 64) (by omega)
  have hp0 : (0 : Int) < 2 ^ (min u.toNat 64) := Int.pow_pos (by decide)
  rw [wid (x := 1 * 2 ^ (min u.toNat 64)) (by omega) (by omega)]
  obtain ⟨v, e4, v0, v1⟩ := below_ex k cos (1 * 2 ^ (min u.toNat 64)) (by omega) (by omega)
  obtain ⟨x, e5, x0, x1⟩ := below_ex k deep 9 (by decide) (by decide)
  obtain ⟨y, e6, y0, y1⟩ := below_ex k (w64 (Int.tdiv deep 9)) 9 (by decide) (by decide)
  obtain ⟨roots, lo, e7, hg, hpm⟩ := new_ex (rows := rows) k x hR (by omega) x0 (by omega) hk
  obtain ⟨roots2, lo2, e8, hg2, hpm2⟩ := new_ex (rows := other) k y hO (by omega) y0 (by omega) hk
  rw [bnd e4, bnd e5, bnd e7]; dsimp only
  rw [bnd e6, bnd e8]; dsimp only
  rw [bnd (asked_eq k (by omega)), ifn (by decide), ifn (by decide), ifn (by decide), wid (x := 1073741824 - v) (by omega) (by omega)]
  obtain ⟨A, e9, pA⟩ := join_ex (rows := rows) (other := other) k x (1073741824 - v) roots lo hR hO (by omega) (by omega) x0 (by omega) (by omega) (by omega) hk hg hpm
  obtain ⟨B, e10, pB⟩ := join_ex (rows := other) (other := rows) k y (1073741824 - v) roots2 lo2 hO hR (by omega) (by omega) y0 (by omega) (by omega) (by omega) hk hg2 hpm2
  rw [bnd e9]; dsimp only
  rw [bnd e10]; dsimp only
  have pt := prs_turn (1073741824 - v) rows other
  have lA := pA.length_eq
  have lB := pB.length_eq
  have lt := pt.length_eq
  rw [List.length_map] at lt
  have plen := prs_len (1073741824 - v) rows other
  have plen2 : other.length * rows.length ≤ 8 * 8 := Nat.mul_le_mul (by omega) (by omega)
  rw [ifn (by decide), ifn (by decide), ifn (by omega)]
  rw [bnd (all_l0 k A B (by omega) (by omega) (by omega) (fun p hp => pB.mem_iff.mpr (pt.mem_iff.mp (List.mem_map.mpr ⟨p, pA.mem_iff.mp hp, rfl⟩))) A.length k 0 (by omega) (by decide) (by omega))]
  rfl
theorem law_ex (l : List Int) (deep cos : Int) (_ : (Lit.int .i64 deep).wf = true) (_ : (Lit.int .i64 cos).wf = true) : ∃ k, spykeep3_QueryJoinsTurn k l deep cos = some true := ⟨2000, law 2000 l deep cos (by decide)⟩
end Go.Sp.J7
