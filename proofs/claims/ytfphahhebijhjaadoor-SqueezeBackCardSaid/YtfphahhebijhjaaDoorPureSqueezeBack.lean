import Derived.Test.YtfphahhebijhjaaDoorFB1
import Derived.KernelRfl
import Derived.Laws.BitsLemmas
import Derived.Laws.Bits64
import Derived.Laws.BitsAllLaws
import Derived.Lib.ItoaLen
namespace Go.Sp.B1
open Go Go.Sp
set_option linter.unusedVariables false
theorem bnd {α β : Type} {x : Option α} {g : α → Option β} {v : α} (h : x = some v) : x.bind g = g v := by rw [h]; rfl
theorem ifp {α : Type} {c : Prop} [Decidable c] {x y : α} (h : c) : (if c then x else y) = x := if_pos h
theorem ifn {α : Type} {c : Prop} [Decidable c] {x y : α} (h : ¬ c) : (if c then x else y) = y := if_neg h
theorem rd_mem {α : Type} [Inhabited α] {l : List α} {i : Int} (h0 : 0 ≤ i) (h1 : i < (l.length : Int)) : rd l i ∈ l := by
  obtain ⟨h, e⟩ := rd_lt h0 h1
  rw [e]; exact List.getElem_mem h
theorem wid {x : Int} (h : -9223372036854775808 ≤ x) (h' : x ≤ 9223372036854775807) : w64 x = x := w64_of h h'
theorem wuid {x : Int} (h : 0 ≤ x) (h' : x ≤ 18446744073709551615) : u64 x = x := u64_of h h'
theorem mul_le {a b A B : Int} (h1 : 0 ≤ a) (h2 : a ≤ A) (h3 : 0 ≤ b) (h4 : b ≤ B) : 0 ≤ a * b ∧ a * b ≤ A * B :=
  ⟨Int.mul_nonneg h1 h3, Int.mul_le_mul h2 h4 h3 (by omega)⟩
theorem tdiv_nn {a b : Int} (h : 0 ≤ a) : Int.tdiv a b = a / b := Int.tdiv_eq_ediv_of_nonneg h
theorem tmod_nn {a b : Int} (h : 0 ≤ a) : Int.tmod a b = a % b := Int.tmod_eq_emod_of_nonneg h
def AllIn (l : List Int) (lo hi : Int) : Prop := ∀ x, x ∈ l → lo ≤ x ∧ x ≤ hi
theorem AllIn.nil {lo hi : Int} : AllIn [] lo hi := fun x h => by cases h
theorem AllIn.push {l : List Int} {lo hi x : Int} (h : AllIn l lo hi) (h0 : lo ≤ x) (h1 : x ≤ hi) : AllIn (l ++ [x]) lo hi := by
  intro y hy
  rcases List.mem_append.mp hy with hy | hy
  · exact h y hy
  · simp only [List.mem_singleton] at hy; subst hy; exact ⟨h0, h1⟩
theorem AllIn.rd {l : List Int} {lo hi i : Int} (h : AllIn l lo hi) (h0 : 0 ≤ i) (h1 : i < (l.length : Int)) : lo ≤ rd l i ∧ rd l i ≤ hi := h _ (rd_mem h0 h1)
theorem AllIn.mono {l : List Int} {lo hi lo' hi' : Int} (h : AllIn l lo hi) (h0 : lo' ≤ lo) (h1 : hi ≤ hi') : AllIn l lo' hi' := fun x hx => by have := h x hx; omega
theorem rd_set_eq (l : List Int) (i x : Int) (h0 : 0 ≤ i) (h1 : i < (l.length : Int)) : rd (l.set i.toNat x) i = x := by
  obtain ⟨h, e⟩ := rd_lt (xs := l.set i.toNat x) h0 (by simp; omega)
  rw [e]; simp
theorem rd_set_ne (l : List Int) (i j x : Int) (h0 : 0 ≤ i) (hj : 0 ≤ j) (h1 : j < (l.length : Int)) (hne : j ≠ i) : rd (l.set i.toNat x) j = rd l j := by
  obtain ⟨h, e⟩ := rd_lt (xs := l.set i.toNat x) hj (by simp; omega)
  obtain ⟨h', e'⟩ := rd_lt (xs := l) hj h1
  rw [e, e', List.getElem_set, if_neg (by omega)]
theorem rd_push_old (l : List Int) (x i : Int) (h0 : 0 ≤ i) (h1 : i < (l.length : Int)) : rd (l ++ [x]) i = rd l i := by
  obtain ⟨h, e⟩ := rd_lt (xs := l ++ [x]) h0 (by simp; omega)
  obtain ⟨h', e'⟩ := rd_lt (xs := l) h0 h1
  rw [e, e', List.getElem_append_left h']
theorem rd_push_new (l : List Int) (x i : Int) (h1 : i = (l.length : Int)) : rd (l ++ [x]) i = x := by
  obtain ⟨h, e⟩ := rd_lt (xs := l ++ [x]) (i := i) (by omega) (by simp; omega)
  rw [e, List.getElem_append_right (by omega)]
  simp
theorem below_ex (k : Nat) (x n : Int) (h1 : 1 ≤ n) (h2 : n ≤ 4611686018427387904) : ∃ v, spymake_Below k x n = some v ∧ 0 ≤ v ∧ v < n := by
  have e1 := Int.tmod_lt_of_pos x (show 0 < n by omega)
  have e2 := Int.lt_tmod_of_pos x (show 0 < n by omega)
  unfold spymake_Below
  rw [ifn (by omega), ifp (by omega)]
  by_cases c : Int.tmod x n < 0
  · rw [ifp c]
    refine ⟨_, rfl, ?_, ?_⟩ <;> rw [wid (by omega) (by omega)] <;> omega
  · rw [ifn c]
    exact ⟨_, rfl, by omega, by omega⟩
theorem i64_and_low (x : Int) (i : Nat) (hi : i ≤ 62) : Go.bits .and .i64 x ((2 ^ i - 1 : Nat) : Int) = (((x % 18446744073709551616).toNat % 2 ^ i : Nat) : Int) := by
  have hp : 2 ^ i ≤ 2 ^ 62 := Nat.pow_le_pow_right (by decide) hi
  have hpos : 0 < 2 ^ i := Nat.two_pow_pos i
  have e1 : (BitVec.ofInt 64 x).toNat = (x % 18446744073709551616).toNat := by simp [BitVec.toNat_ofInt]
  have hb : (2 ^ i - 1) % 2 ^ IntKind.i64.bits = 2 ^ i - 1 := Nat.mod_eq_of_lt (by show 2 ^ i - 1 < 2 ^ 64; omega)
  simp only [Go.bits, BitVec.ofInt_natCast, BitVec.toNat_and, BitVec.toNat_ofNat, hb]
  rw [show (BitVec.ofInt IntKind.i64.bits x).toNat = (x % 18446744073709551616).toNat from e1, Nat.and_two_pow_sub_one_eq_mod]
  have := Nat.mod_lt (x % 18446744073709551616).toNat hpos
  rw [IntKind.wrap_i64]
  omega
theorem i64_and_in (x : Int) (i : Nat) (m : Int) (hi : i ≤ 62) (hm : m = ((2 ^ i - 1 : Nat) : Int)) : 0 ≤ Go.bits .and .i64 x m ∧ Go.bits .and .i64 x m ≤ m := by
  subst hm
  rw [i64_and_low x i hi]
  have := Nat.mod_lt (x % 18446744073709551616).toNat (Nat.two_pow_pos i)
  omega
theorem p2pos (n : Nat) : (0 : Int) < 2 ^ n := Int.pow_pos (by decide)
theorem i64_or_sum (a b : Int) (i : Nat) (ha : 0 ≤ a) (hb0 : 0 ≤ b) (hb : b < 2 ^ i) (h : a * 2 ^ i + b < 4611686018427387904) : Go.bits .or .i64 (a * 2 ^ i) b = a * 2 ^ i + b := by
  obtain ⟨A, rfl⟩ := Int.eq_ofNat_of_zero_le ha
  obtain ⟨B, rfl⟩ := Int.eq_ofNat_of_zero_le hb0
  have e0 : ((A : Int) * 2 ^ i) = ((A * 2 ^ i : Nat) : Int) := by simp
  rw [e0] at h ⊢
  have hB : B < 2 ^ i := by
    have : ((B : Nat) : Int) < ((2 ^ i : Nat) : Int) := by simpa using hb
    omega
  have e1 : A * 2 ^ i ||| B = A * 2 ^ i + B := by
    rw [← Nat.shiftLeft_eq, Nat.shiftLeft_add_eq_or_of_lt hB]
  have hm1 : A * 2 ^ i % 2 ^ IntKind.i64.bits = A * 2 ^ i := Nat.mod_eq_of_lt (by show _ < 2 ^ 64; omega)
  have hm2 : B % 2 ^ IntKind.i64.bits = B := Nat.mod_eq_of_lt (by show _ < 2 ^ 64; omega)
  simp only [Go.bits, BitVec.ofInt_natCast, BitVec.toNat_or, BitVec.toNat_ofNat, hm1, hm2, e1]
  rw [IntKind.wrap_i64]
  omega
theorem u8_or_sum (q v : Int) (s : Nat) (hs : s ≤ 7) (q0 : 0 ≤ q) (hq : q * 2 ^ (s + 1) < 256) (v0 : 0 ≤ v) (v1 : v ≤ 1) : Go.bits .or .u8 (q * 2 ^ (s + 1)) (v * 2 ^ s) = q * 2 ^ (s + 1) + v * 2 ^ s := by
  obtain ⟨Q, rfl⟩ := Int.eq_ofNat_of_zero_le q0
  obtain ⟨V, rfl⟩ := Int.eq_ofNat_of_zero_le v0
  have e0 : ((Q : Int) * 2 ^ (s + 1)) = ((Q * 2 ^ (s + 1) : Nat) : Int) := by simp
  have e1 : ((V : Int) * 2 ^ s) = ((V * 2 ^ s : Nat) : Int) := by simp
  rw [e0] at hq ⊢
  rw [e1]
  have hp : 2 ^ s ≤ 2 ^ 7 := Nat.pow_le_pow_right (by decide) hs
  have hp2 : 2 ^ (s + 1) = 2 * 2 ^ s := by rw [Nat.pow_succ, Nat.mul_comm]
  have hV : V * 2 ^ s ≤ 1 * 2 ^ s := Nat.mul_le_mul_right _ (by omega)
  have hpos := Nat.two_pow_pos s
  rw [Go.u8_or_nat _ _ (by omega) (by omega), ← Nat.shiftLeft_eq, ← Nat.shiftLeft_add_eq_or_of_lt (by omega)]
  simp
theorem shr_bit (v : Int) (n : Nat) (hv : 0 ≤ v) (hv2 : v < 4611686018427387904) : Go.bits .and .i64 (shr v n) 1 = v / 2 ^ n % 2 := by
  have h0 : 0 ≤ v / 2 ^ n := Int.ediv_nonneg hv (by have := p2pos n; omega)
  have h1 : v / 2 ^ n ≤ v := Int.ediv_le_self _ hv
  have := i64_and_low (v / 2 ^ n) 1 (by decide)
  rw [shr_def, show (1 : Int) = ((2 ^ 1 - 1 : Nat) : Int) from rfl, this]
  omega
/-! bits in bytes -/
def bitAt (b : List Int) (i : Nat) : Int := rd b ((i / 8 : Nat) : Int) / 2 ^ (7 - i % 8) % 2
def bitsOf (v : Int) : Nat → List Int
  | 0 => []
  | n + 1 => v / 2 ^ n % 2 :: bitsOf v n
theorem bitsOf_len (v : Int) : ∀ n, (bitsOf v n).length = n
  | 0 => rfl
  | n + 1 => by rw [bitsOf, List.length_cons, bitsOf_len v n]
theorem bitsOf_mod (v : Int) : ∀ (n m : Nat), n ≤ m → bitsOf (v % 2 ^ m) n = bitsOf v n
  | 0, _, _ => rfl
  | n + 1, m, h => by
    rw [bitsOf, bitsOf, bitsOf_mod v n m (by omega)]
    congr 1
    obtain ⟨d, rfl⟩ : ∃ d, m = n + (d + 1) := ⟨m - n - 1, by omega⟩
    have e1 := Int.emod_def v (2 ^ (n + (d + 1)))
    rw [e1, Int.pow_add, Int.mul_assoc, Int.sub_mul_ediv_left _ _ (by have := p2pos n; omega), Int.pow_succ]
    generalize v / (2 ^ n * (2 ^ d * 2)) = z
    rw [Int.mul_comm ((2 : Int) ^ d) 2, Int.mul_assoc]
    omega
/-- Bytes that hold bits, the first one highest. -/
structure WB (out bs : List Int) : Prop where
  len : out.length = (bs.length + 7) / 8
  bytes : AllIn out 0 255
  at_ : ∀ i, i < bs.length → bitAt out i = bs.getD i 0
  last : bs.length % 8 ≠ 0 → ∃ q : Int, 0 ≤ q ∧ rd out ((out.length : Int) - 1) = q * 2 ^ (8 - bs.length % 8)
theorem WB.nil : WB [] [] := ⟨rfl, AllIn.nil, fun i h => by simp at h, fun h => absurd rfl h⟩
theorem top_bit (q v : Int) (s t : Nat) (v0 : 0 ≤ v) (v1 : v ≤ 1) : (q * 2 ^ (s + 1) + v * 2 ^ s) / 2 ^ (s + (t + 1)) = q * 2 ^ (s + 1) / 2 ^ (s + (t + 1)) := by
  have hp := p2pos s
  have e1 : q * 2 ^ (s + 1) + v * 2 ^ s = (2 * q + v) * 2 ^ s := by rw [Int.pow_succ, Int.add_mul, Int.mul_comm 2 q, Int.mul_assoc, Int.mul_comm 2]
  have e2 : q * 2 ^ (s + 1) = (2 * q) * 2 ^ s := by rw [Int.pow_succ, Int.mul_comm 2 q, Int.mul_assoc, Int.mul_comm 2]
  rw [e1, e2, Int.pow_add, Int.mul_comm ((2 : Int) ^ s) (2 ^ (t + 1)), Int.mul_ediv_mul_of_pos_left _ _ hp, Int.mul_ediv_mul_of_pos_left _ _ hp, Int.pow_succ, Int.mul_comm ((2 : Int) ^ t) 2, ← Int.ediv_ediv_of_nonneg (by decide), ← Int.ediv_ediv_of_nonneg (by decide)]
  congr 1
  omega
theorem low_bit (q v : Int) (s : Nat) (v0 : 0 ≤ v) (v1 : v ≤ 1) : (q * 2 ^ (s + 1) + v * 2 ^ s) / 2 ^ s % 2 = v := by
  have hp := p2pos s
  have e1 : q * 2 ^ (s + 1) + v * 2 ^ s = (2 * q + v) * 2 ^ s := by rw [Int.pow_succ, Int.add_mul, Int.mul_comm 2 q, Int.mul_assoc, Int.mul_comm 2]
  rw [e1, Int.mul_ediv_cancel _ (by omega)]
  omega
/-- A bit more. -/
theorem WB.push {out bs : List Int} (h : WB out bs) (v : Int) (v0 : 0 ≤ v) (v1 : v ≤ 1) : if bs.length % 8 = 0 then WB (out ++ [v * 2 ^ 7]) (bs ++ [v]) else
    ∃ q : Int, 0 ≤ q ∧ q * 2 ^ (7 - bs.length % 8 + 1) < 256 ∧ rd out ((out.length : Int) - 1) = q * 2 ^ (7 - bs.length % 8 + 1) ∧ WB (out.set (out.length - 1) (q * 2 ^ (7 - bs.length % 8 + 1) + v * 2 ^ (7 - bs.length % 8))) (bs ++ [v]) := by
  have hl := h.len
  have hgd : ∀ i, i < bs.length → (bs ++ [v]).getD i 0 = bs.getD i 0 := fun i hi => by simp [List.getD, List.getElem?_append_left hi]
  have hgl : (bs ++ [v]).getD bs.length 0 = v := by simp [List.getD]
  have lb : (bs ++ [v]).length = bs.length + 1 := by simp
  by_cases c : bs.length % 8 = 0
  · rw [if_pos c]
    have lo : out.length * 8 = bs.length := by omega
    refine ⟨by rw [lb, List.length_append, List.length_cons, List.length_nil]; omega, h.bytes.push (by omega) (by omega), fun i hi => ?_, fun _ => ⟨v, v0, ?_⟩⟩
    · rw [lb] at hi
      by_cases d : i < bs.length
      · rw [hgd i d, ← h.at_ i d]
        unfold bitAt
        rw [rd_push_old _ _ _ (by omega) (by omega)]
      · have e : i = bs.length := by omega
        subst e
        rw [hgl]
        unfold bitAt
        rw [rd_push_new _ _ _ (by omega), c]
        have := low_bit 0 v 7 v0 v1
        rw [Int.zero_mul, Int.zero_add] at this
        exact this
    · rw [rd_push_new _ _ _ (by rw [List.length_append, List.length_cons, List.length_nil]; omega), lb, show 8 - (bs.length + 1) % 8 = 7 by omega]
  · rw [if_neg c]
    obtain ⟨q, q0, hq⟩ := h.last c
    have lo : 1 ≤ out.length := by omega
    have hs : 8 - bs.length % 8 = 7 - bs.length % 8 + 1 := by omega
    rw [hs] at hq
    have hb := h.bytes.rd (i := (out.length : Int) - 1) (by omega) (by omega)
    rw [hq] at hb
    refine ⟨q, q0, by omega, hq, ?_⟩
    generalize hS : 7 - bs.length % 8 = s at *
    have hp := p2pos s
    have hp2 : (2 : Int) ^ (s + 1) = 2 * 2 ^ s := by rw [Int.pow_succ, Int.mul_comm]
    have hlim : q * 2 ^ (s + 1) + v * 2 ^ s ≤ 255 := by
      have hv : v * 2 ^ s ≤ 1 * 2 ^ s := Int.mul_le_mul_of_nonneg_right v1 (by omega)
      obtain ⟨d, hd⟩ : ∃ d, 8 = s + 1 + d := ⟨7 - s, by omega⟩
      have e8 : (256 : Int) = 2 ^ (s + 1) * 2 ^ d := by rw [← Int.pow_add, ← hd]; rfl
      have hlt : q < 2 ^ d := by
        rcases Int.lt_or_le q (2 ^ d) with h | h
        · exact h
        · have := Int.mul_le_mul_of_nonneg_right h (show (0 : Int) ≤ 2 ^ (s + 1) by omega)
          rw [Int.mul_comm ((2 : Int) ^ d)] at this
          omega
      have : (q + 1) * 2 ^ (s + 1) ≤ 2 ^ d * 2 ^ (s + 1) := Int.mul_le_mul_of_nonneg_right (by omega) (by omega)
      rw [Int.add_mul, Int.mul_comm ((2 : Int) ^ d)] at this
      omega
    have hnn : 0 ≤ q * 2 ^ (s + 1) := Int.mul_nonneg q0 (by omega)
    have hvn : 0 ≤ v * 2 ^ s := Int.mul_nonneg v0 (by omega)
    have hset : ∀ j : Int, 0 ≤ j → j < (out.length : Int) → rd (out.set (out.length - 1) (q * 2 ^ (s + 1) + v * 2 ^ s)) j = if j = (out.length : Int) - 1 then q * 2 ^ (s + 1) + v * 2 ^ s else rd out j := by
      intro j j0 j1
      rw [show out.length - 1 = ((out.length : Int) - 1).toNat by omega]
      by_cases d : j = (out.length : Int) - 1
      · rw [if_pos d, d, rd_set_eq _ _ _ (by omega) (by omega)]
      · rw [if_neg d, rd_set_ne _ _ _ _ (by omega) j0 j1 d]
    refine ⟨by rw [lb, List.length_set]; omega, fun x hx => ?_, fun i hi => ?_, fun hne => ?_⟩
    · rcases List.mem_or_eq_of_mem_set hx with hx | hx
      · exact h.bytes x hx
      · rw [hx]; exact ⟨by omega, hlim⟩
    · rw [lb] at hi
      unfold bitAt
      rw [hset _ (by omega) (by omega)]
      by_cases d : i < bs.length
      · rw [hgd i d, ← h.at_ i d]
        unfold bitAt
        by_cases e : ((i / 8 : Nat) : Int) = (out.length : Int) - 1
        · rw [if_pos e, e, hq]
          obtain ⟨t, ht⟩ : ∃ t, 7 - i % 8 = s + (t + 1) := ⟨7 - i % 8 - s - 1, by omega⟩
          rw [ht, top_bit q v s t v0 v1]
        · rw [if_neg e]
      · have e : i = bs.length := by omega
        subst e
        rw [hgl, if_pos (by omega), hS, low_bit q v s v0 v1]
    · rw [lb] at hne ⊢
      rw [List.length_set, hset _ (by omega) (by omega), if_pos rfl]
      have : 8 - (bs.length + 1) % 8 = s := by omega
      rw [this]
      exact ⟨2 * q + v, by omega, by rw [hp2, Int.add_mul, Int.mul_left_comm, Int.mul_assoc, Int.mul_left_comm]⟩
theorem rd_at {α : Type} [Inhabited α] {l pre post : List α} {x : α} {i : Int} (hl : l = pre ++ x :: post) (hi : i = (pre.length : Int)) : rd l i = x := by
  subst hl hi
  obtain ⟨h, e⟩ := rd_lt (xs := pre ++ x :: post) (i := (pre.length : Int)) (by omega) (by simp; omega)
  rw [e]
  simp
theorem u8_id {x : Int} (h0 : 0 ≤ x) (h1 : x ≤ 255) : u8 x = x := by rw [u8_def]; omega
theorem put_l0 (k : Nat) (v : Int) (v0 : 0 ≤ v) (v1 : v < 4611686018427387904) : ∀ (n fuel : Nat) (out bs : List Int), WB out bs → bs.length + n ≤ 1000000 → n ≤ 40 → n < fuel →
    ∃ out', squeeze_writer_put.l0 k v fuel ((n : Int) - 1) out (bs.length : Int) = some (out', ((bs ++ bitsOf v n).length : Int)) ∧ WB out' (bs ++ bitsOf v n) := by
  intro n
  induction n with
  | zero =>
    intro fuel out bs h hl hn hf
    obtain ⟨fuel, rfl⟩ : ∃ q, fuel = q + 1 := ⟨fuel - 1, by omega⟩
    rw [squeeze_writer_put.l0, ifn (by omega), bitsOf, List.append_nil]
    exact ⟨out, rfl, h⟩
  | succ n ih =>
    intro fuel out bs h hl hn hf
    obtain ⟨fuel, rfl⟩ : ∃ q, fuel = q + 1 := ⟨fuel - 1, by omega⟩
    have hlen := h.len
    have hb0 : 0 ≤ v / 2 ^ n % 2 := by omega
    have hb1 : v / 2 ^ n % 2 ≤ 1 := by omega
    have hp := h.push (v / 2 ^ n % 2) hb0 hb1
    have hbit : u8 (Go.bits .and .i64 (shr v (min (((n + 1 : Nat) : Int) - 1).toNat 64)) 1) = v / 2 ^ n % 2 := by
      rw [show min (((n + 1 : Nat) : Int) - 1).toNat 64 = n by omega, shr_bit v n v0 v1, u8_id (by omega) (by omega)]
    have hm := tmod_nn (a := (bs.length : Int)) (b := 8) (by omega)
    have happ : bs ++ bitsOf v (n + 1) = (bs ++ [v / 2 ^ n % 2]) ++ bitsOf v n := by rw [bitsOf]; simp
    have lb : ((bs ++ [v / 2 ^ n % 2]).length : Int) = (bs.length : Int) + 1 := by simp
    have pw : ∀ s : Nat, s ≤ 7 → (2 : Int) ^ s ≤ 128 := fun s hs => by
      have : (2 : Nat) ^ s ≤ 2 ^ 7 := Nat.pow_le_pow_right (by decide) hs
      have e : ((2 ^ s : Nat) : Int) = (2 : Int) ^ s := by simp
      omega
    have vb : ∀ s : Nat, s ≤ 7 → 0 ≤ v / 2 ^ n % 2 * 2 ^ s ∧ v / 2 ^ n % 2 * 2 ^ s ≤ 128 := fun s hs => by
      have h1 := p2pos s
      have h2 := pw s hs
      exact ⟨Int.mul_nonneg hb0 (by omega), Int.le_trans (Int.mul_le_mul_of_nonneg_right hb1 (by omega)) (by omega)⟩
    rw [squeeze_writer_put.l0, ifp (by omega), hm, hbit, wid (x := 7 - (bs.length : Int) % 8) (by omega) (by omega), show min (7 - (bs.length : Int) % 8).toNat 8 = 7 - bs.length % 8 by omega,
      u8_id (vb _ (by omega)).1 (by have := (vb (7 - bs.length % 8) (by omega)).2; omega), wid (x := ((n + 1 : Nat) : Int) - 1 - 1) (by omega) (by omega), wid (x := (bs.length : Int) + 1) (by omega) (by omega), happ, ← lb, show ((n + 1 : Nat) : Int) - 1 - 1 = (n : Int) - 1 by omega]
    by_cases c : bs.length % 8 = 0
    · rw [if_pos c] at hp
      have hL : (((out ++ ([0] : List Int)).length : Nat) : Int) = (out.length : Int) + 1 := by simp
      rw [ifp (by omega), ifp (by omega), hL, wid (x := (out.length : Int) + 1 - 1) (by omega) (by omega), ifp (by omega), ifp (by omega), ifp (by omega), ifp (by omega)]
      rw [rd_push_new out 0 _ (by omega), c, show (out.length : Int) + 1 - 1 = (out.length : Int) by omega, show ((out.length : Int)).toNat = out.length by omega]
      have := u8_or_sum 0 (v / 2 ^ n % 2) 7 (by decide) (by decide) (by decide) hb0 hb1
      rw [Int.zero_mul, Int.zero_add] at this
      rw [this, show List.set (out ++ ([0] : List Int)) out.length (v / 2 ^ n % 2 * 2 ^ 7) = out ++ ([v / 2 ^ n % 2 * 2 ^ 7] : List Int) by simp]
      exact ih fuel _ _ hp (by simp; omega) (by omega) (by omega)
    · rw [if_neg c] at hp
      obtain ⟨q, q0, q1, q2, hq⟩ := hp
      rw [ifn (by omega), wid (x := (out.length : Int) - 1) (by omega) (by omega), ifp (by omega), ifp (by omega), ifp (by omega), ifp (by omega), q2, u8_or_sum q _ _ (by omega) q0 q1 hb0 hb1, show ((out.length : Int) - 1).toNat = out.length - 1 by omega]
      exact ih fuel _ _ hq (by simp; omega) (by omega) (by omega)
theorem put_ex (k : Nat) (v : Int) (n : Nat) (out bs : List Int) (h : WB out bs) (v0 : 0 ≤ v) (v1 : v < 4611686018427387904) (hl : bs.length + n ≤ 1000000) (hn : n ≤ 40) (hk : 100 ≤ k) :
    ∃ out', squeeze_writer_put k ⟨out, (bs.length : Int)⟩ v (n : Int) = some (out', ((bs ++ bitsOf v n).length : Int)) ∧ WB out' (bs ++ bitsOf v n) := by
  unfold squeeze_writer_put
  dsimp only
  rw [wid (x := (n : Int) - 1) (by omega) (by omega)]
  obtain ⟨o, e, he⟩ := put_l0 k v v0 v1 n k out bs h hl hn (by omega)
  rw [bnd e]
  exact ⟨o, rfl, he⟩

/-! differences -/
def foldZ (d : Int) : Int := if d < 0 then -2 * d - 1 else 2 * d
theorem fold_ex (k : Nat) (d : Int) (h0 : -65535 ≤ d) (h1 : d ≤ 65535) : squeeze_fold k d = some (foldZ d) := by
  unfold squeeze_fold foldZ
  by_cases c : d < 0
  · rw [ifp c, if_pos c, wid (x := -2 * d) (by omega) (by omega), wid (by omega) (by omega)]
  · rw [ifn c, if_neg c, wid (by omega) (by omega)]
theorem foldZ_in {d : Int} (h0 : -65535 ≤ d) (h1 : d ≤ 65535) : 0 ≤ foldZ d ∧ foldZ d ≤ 131070 := by
  unfold foldZ
  split <;> omega
/-- The differences of counts. -/
structure ZS (cs f : List Int) (n : Nat) : Prop where
  len : f.length = n
  at_ : ∀ j : Int, 0 ≤ j → j < (n : Int) → rd f j = foldZ (rd cs (j + 1) - rd cs j)
  in_ : AllIn f 0 131070
theorem folds_l0 (k : Nat) (cs : List Int) (hc : AllIn cs 0 65535) (hl : cs.length ≤ 1000) : ∀ (d fuel i : Nat) (f : List Int), 1 ≤ i → i + d = cs.length → d < fuel → ZS cs f (i - 1) → ∃ f', squeeze_row.l0 k cs fuel f (i : Int) = some f' ∧ ZS cs f' (cs.length - 1) := by
  intro d
  induction d with
  | zero =>
    intro fuel i f h1 h2 hf hz
    obtain ⟨fuel, rfl⟩ : ∃ q, fuel = q + 1 := ⟨fuel - 1, by omega⟩
    rw [squeeze_row.l0, ifn (by omega)]
    exact ⟨f, rfl, by rw [← h2]; exact hz⟩
  | succ d ih =>
    intro fuel i f h1 h2 hf hz
    obtain ⟨fuel, rfl⟩ : ∃ q, fuel = q + 1 := ⟨fuel - 1, by omega⟩
    have a1 := hc.rd (i := (i : Int)) (by omega) (by omega)
    have a2 := hc.rd (i := (i : Int) - 1) (by omega) (by omega)
    have hfl := hz.len
    rw [squeeze_row.l0, ifp (by omega), ifp (by omega), wid (x := (i : Int) - 1) (by omega) (by omega), ifp (by omega), ifp (by omega), wid (x := rd cs (i : Int) - rd cs ((i : Int) - 1)) (by omega) (by omega), bnd (fold_ex k _ (by omega) (by omega)), ifp (by omega), wid (x := (i : Int) + 1) (by omega) (by omega), show (i : Int) + 1 = ((i + 1 : Nat) : Int) by omega]
    have hin := foldZ_in (d := rd cs (i : Int) - rd cs ((i : Int) - 1)) (by omega) (by omega)
    refine ih fuel (i + 1) _ (by omega) (by omega) (by omega) ⟨by simp; omega, fun j j0 j1 => ?_, hz.in_.push hin.1 hin.2⟩
    by_cases c : j < (f.length : Int)
    · rw [rd_push_old _ _ _ j0 c]; exact hz.at_ j j0 (by omega)
    · have e : j = (f.length : Int) := by omega
      rw [rd_push_new _ _ _ e, show j + 1 = (i : Int) by omega, show j = (i : Int) - 1 by omega]
/-! chunks -/
def CK (n : Nat) : List (List Int) → Prop
  | [] => True
  | g :: gs => 1 ≤ g.length ∧ g.length ≤ n ∧ (gs ≠ [] → g.length = n) ∧ CK n gs
theorem chunk_l0 (k n : Nat) (l : List Int) (n1 : 1 ≤ n) (n2 : n ≤ 1000) (hl : l.length ≤ 100000) : ∀ (d fuel i : Nat), l.length ≤ i + d → i ≤ 200000 → d < fuel → ∃ gs, slices_Chunk_int_1.l0 k l (n : Int) fuel (i : Int) = some gs ∧ gs.flatten = l.drop i ∧ CK n gs ∧ gs.length ≤ d := by
  intro d
  induction d with
  | zero =>
    intro fuel i h1 h2 hf
    obtain ⟨fuel, rfl⟩ : ∃ q, fuel = q + 1 := ⟨fuel - 1, by omega⟩
    rw [slices_Chunk_int_1.l0, ifn (by omega)]
    exact ⟨[], rfl, by rw [List.drop_of_length_le (by omega)]; rfl, trivial, by simp⟩
  | succ d ih =>
    intro fuel i h1 h2 hf
    obtain ⟨fuel, rfl⟩ : ∃ q, fuel = q + 1 := ⟨fuel - 1, by omega⟩
    by_cases c : i < l.length
    · have ld : ((l.drop ((i : Int)).toNat).length : Int) = (l.length : Int) - i := by rw [List.length_drop]; omega
      obtain ⟨m, hm⟩ : ∃ m : Nat, (i : Int) + mn (n : Int) ((l.length : Int) - i) = (m : Int) := ⟨min (i + n) l.length, by rw [mn_def]; omega⟩
      have hm2 : m = min (i + n) l.length := by rw [mn_def] at hm; omega
      obtain ⟨gs, e, hg, hk, hlen⟩ := ih fuel (i + n) (by omega) (by omega) (by omega)
      rw [slices_Chunk_int_1.l0, ifp (by omega), ifp (by omega), ifp (by omega), ld, hm, wid (x := (m : Int)) (by omega) (by omega), ifp (by omega), ifp (by omega), wid (x := (i : Int) + n) (by omega) (by omega), show (i : Int) + n = ((i + n : Nat) : Int) by omega, bnd e]
      have gl : (List.drop ((i : Int)).toNat (List.take ((m : Int)).toNat l)).length = m - i := by rw [List.length_drop, List.length_take]; omega
      refine ⟨_, rfl, ?_, ⟨by rw [gl]; omega, by rw [gl]; omega, fun hne => ?_, hk⟩, by simp; omega⟩
      · rw [List.flatten_cons, hg, show ((i : Int)).toNat = i by omega, show ((m : Int)).toNat = m by omega]
        by_cases c2 : i + n ≤ l.length
        · rw [show m = i + n by omega, List.drop_take, show i + n - i = n by omega, ← List.drop_drop, List.take_append_drop]
        · rw [show m = l.length by omega, List.take_length, List.drop_of_length_le (show l.length ≤ i + n by omega), List.append_nil]
      · rw [gl]
        have : i + n < l.length := by
          rcases Nat.lt_or_ge (i + n) l.length with h | h
          · exact h
          · rw [List.drop_of_length_le h] at hg
            cases gs with
            | nil => exact absurd rfl hne
            | cons g gs =>
              have h1 := hk.1
              have := congrArg List.length hg
              rw [List.flatten_cons, List.length_append, List.length_nil] at this
              omega
        omega
    · rw [slices_Chunk_int_1.l0, ifn (by omega)]
      exact ⟨[], rfl, by rw [List.drop_of_length_le (by omega)]; rfl, trivial, by simp⟩
theorem chunk_ex (k n : Nat) (l : List Int) (n1 : 1 ≤ n) (n2 : n ≤ 1000) (hl : l.length ≤ 5000) (hk : 10000 ≤ k) : ∃ gs, slices_Chunk_int k l (n : Int) = some (l, (n : Int)) ∧ slices_Chunk_int_1 k l (n : Int) = some gs ∧ gs.flatten = l ∧ CK n gs := by
  obtain ⟨gs, e, h1, h2, _⟩ := chunk_l0 k n l n1 n2 (by omega) l.length k 0 (by omega) (by omega) (by omega)
  exact ⟨gs, by unfold slices_Chunk_int; rw [ifn (by omega)], e, h1, h2⟩
theorem CK.all {n : Nat} (n1 : 1 ≤ n) : ∀ {gs : List (List Int)} {h : Nat}, CK n gs → gs.flatten.length = n * h → (∀ g, g ∈ gs → g.length = n) ∧ gs.length = h
  | [], h, _, e => by
    have e : 0 = n * h := e
    rcases Nat.mul_eq_zero.mp e.symm with h0 | h0
    · omega
    · exact ⟨fun g hg => (by cases hg), h0.symm⟩
  | g :: gs, 0, hk, e => by
    rw [List.flatten_cons, List.length_append, Nat.mul_zero] at e
    have := hk.1
    omega
  | g :: gs, h + 1, hk, e => by
    rw [List.flatten_cons, List.length_append, Nat.mul_succ] at e
    obtain ⟨h1, h2, h3, h4⟩ := hk
    by_cases c : gs = []
    · subst c
      have e : g.length + 0 = n * h + n := e
      have h0 : n * h = 0 := by omega
      rcases Nat.mul_eq_zero.mp h0 with h0 | h0
      · omega
      · subst h0
        refine ⟨fun x hx => ?_, rfl⟩
        simp only [List.mem_singleton] at hx
        subst hx
        omega
    · have hg := h3 c
      obtain ⟨i1, i2⟩ := CK.all n1 (gs := gs) (h := h) h4 (by omega)
      refine ⟨fun x hx => ?_, by rw [List.length_cons, i2]⟩
      rcases List.mem_cons.mp hx with rfl | hx
      · exact hg
      · exact i1 x hx
/-! costs -/
def unitZ (x z : Int) : Int := if x = 15 then 17 else z / 2 ^ x.toNat + 1 + x
def costL (x : Int) : List Int → Int
  | [] => 0
  | z :: g => unitZ x z + costL x g
theorem unitZ_in {x z : Int} (x0 : 0 ≤ x) (x1 : x ≤ 15) (z0 : 0 ≤ z) (z1 : z ≤ 131070) : 1 ≤ unitZ x z ∧ unitZ x z ≤ 131100 := by
  unfold unitZ
  split
  · omega
  · have h0 : 0 ≤ z / 2 ^ x.toNat := Int.ediv_nonneg z0 (by have := p2pos x.toNat; omega)
    have h1 : z / 2 ^ x.toNat ≤ z := Int.ediv_le_self _ z0
    omega
theorem costL_in {x : Int} (x0 : 0 ≤ x) (x1 : x ≤ 15) : ∀ {g : List Int}, AllIn g 0 131070 → 0 ≤ costL x g ∧ costL x g ≤ 131100 * g.length
  | [], _ => ⟨by simp [costL], by simp [costL]⟩
  | z :: g, h => by
    have h1 := h z (List.mem_cons_self ..)
    have h2 := unitZ_in x0 x1 h1.1 h1.2
    have h3 := costL_in x0 x1 (g := g) (fun y hy => h y (List.mem_cons_of_mem _ hy))
    rw [costL, List.length_cons]
    omega
theorem cost15 : ∀ g : List Int, costL 15 g = 17 * g.length
  | [] => rfl
  | z :: g => by rw [costL, cost15 g, List.length_cons, unitZ, if_pos rfl]; omega
theorem cost_l0 (k : Nat) (g : List Int) (x : Int) (hg : AllIn g 0 131070) (gl : g.length ≤ 100) (x0 : 0 ≤ x) (x1 : x ≤ 15) : ∀ (q p : List Int) (fuel : Nat) (n : Int), g = p ++ q → q.length < fuel → 0 ≤ n → n ≤ 131100 * p.length →
    squeeze_cost.l0 k g x fuel n (p.length : Int) = some (n + costL x q) := by
  intro q
  induction q with
  | nil =>
    intro p fuel n hl hf n0 n1
    obtain ⟨fuel, rfl⟩ : ∃ q, fuel = q + 1 := ⟨fuel - 1, by omega⟩
    rw [squeeze_cost.l0, ifn (by rw [hl, List.append_nil]; omega), costL, Int.add_zero]
  | cons z q ih =>
    intro p fuel n hl hf n0 n1
    obtain ⟨fuel, rfl⟩ : ∃ q, fuel = q + 1 := ⟨fuel - 1, by omega⟩
    have ll : g.length = p.length + (q.length + 1) := by rw [hl, List.length_append, List.length_cons]
    have e : rd g (p.length : Int) = z := rd_at hl rfl
    have hz := hg z (by rw [hl]; simp)
    have hu := unitZ_in x0 x1 hz.1 hz.2
    have hn := ih (p ++ [z]) fuel (n + unitZ x z) (by rw [hl]; simp) (by simp at hf; omega) (by omega) (by simp; omega)
    rw [show ((p ++ [z]).length : Int) = (p.length : Int) + 1 by simp] at hn
    rw [squeeze_cost.l0, ifp (by omega), ifp (by omega), e, wid (x := (p.length : Int) + 1) (by omega) (by omega), costL, ← Int.add_assoc, ← hn]
    by_cases c : x = 15
    · rw [ifp c, wid (x := n + 17) (by omega) (by omega), show unitZ x z = 17 by unfold unitZ; rw [if_pos c]]
    · have hux : unitZ x z = z / 2 ^ x.toNat + 1 + x := by unfold unitZ; rw [if_neg c]
      rw [hux] at hu
      rw [ifn c, ifp (by omega), show min x.toNat 64 = x.toNat by omega, shr_def, wid (x := z / 2 ^ x.toNat + 1) (by omega) (by omega), wid (x := z / 2 ^ x.toNat + 1 + x) (by omega) (by omega), wid (by omega) (by omega), hux]
theorem cost_ex (k : Nat) (g : List Int) (x : Int) (hg : AllIn g 0 131070) (gl : g.length ≤ 100) (x0 : 0 ≤ x) (x1 : x ≤ 15) (hk : 200 ≤ k) : squeeze_cost k g x = some (costL x g) := by
  unfold squeeze_cost
  have := cost_l0 k g x hg gl x0 x1 g [] k 0 rfl (by omega) (by omega) (by simp)
  rw [show (([] : List Int).length : Int) = 0 from rfl, Int.zero_add] at this
  rw [bnd this]
theorem best_l2 (k : Nat) (g : List Int) (hg : AllIn g 0 131070) (gl : g.length ≤ 100) (hk : 200 ≤ k) : ∀ (d fuel : Nat) (x best : Int), 0 ≤ x → x + d = 16 → d < fuel → 0 ≤ best → best ≤ 15 → (∀ y, 0 ≤ y → y < x → costL best g ≤ costL y g) →
    ∃ b, squeeze_row.l2 k g fuel best x = some b ∧ 0 ≤ b ∧ b ≤ 15 ∧ costL b g ≤ costL 15 g := by
  intro d
  induction d with
  | zero =>
    intro fuel x best x0 hx hf b0 b1 hb
    obtain ⟨fuel, rfl⟩ : ∃ q, fuel = q + 1 := ⟨fuel - 1, by omega⟩
    rw [squeeze_row.l2, ifn (by omega)]
    exact ⟨best, rfl, b0, b1, hb 15 (by decide) (by omega)⟩
  | succ d ih =>
    intro fuel x best x0 hx hf b0 b1 hb
    obtain ⟨fuel, rfl⟩ : ∃ q, fuel = q + 1 := ⟨fuel - 1, by omega⟩
    rw [squeeze_row.l2, ifp (by omega), bnd (cost_ex k g x hg gl x0 (by omega) hk), bnd (cost_ex k g best hg gl b0 b1 hk), wid (by omega) (by omega)]
    by_cases c : costL x g < costL best g
    · rw [ifp c]
      refine ih fuel (x + 1) x (by omega) (by omega) (by omega) x0 (by omega) fun y y0 y1 => ?_
      by_cases e : y = x
      · rw [e]; exact Int.le_refl _
      · have := hb y y0 (by omega); omega
    · rw [ifn c]
      refine ih fuel (x + 1) best (by omega) (by omega) (by omega) b0 b1 fun y y0 y1 => ?_
      by_cases e : y = x
      · rw [e]; omega
      · exact hb y y0 (by omega)
/-! the bits of a row -/
def zb (best z : Int) : List Int := if best = 15 then bitsOf z 17 else List.replicate (z / 2 ^ best.toNat).toNat 1 ++ (0 :: bitsOf z best.toNat)
def gb (best : Int) : List Int → List Int
  | [] => []
  | z :: g => zb best z ++ gb best g
theorem zb_len {best z : Int} (b0 : 0 ≤ best) (z0 : 0 ≤ z) : ((zb best z).length : Int) = unitZ best z := by
  have h0 : 0 ≤ z / 2 ^ best.toNat := Int.ediv_nonneg z0 (by have := p2pos best.toNat; omega)
  unfold zb unitZ
  by_cases c : best = 15
  · rw [if_pos c, if_pos c, bitsOf_len]; rfl
  · rw [if_neg c, if_neg c, List.length_append, List.length_replicate, List.length_cons, bitsOf_len]; omega
theorem gb_len {best : Int} (b0 : 0 ≤ best) : ∀ {g : List Int}, AllIn g 0 131070 → ((gb best g).length : Int) = costL best g
  | [], _ => rfl
  | z :: g, h => by
    rw [gb, costL, List.length_append, ← gb_len b0 (g := g) (fun y hy => h y (List.mem_cons_of_mem _ hy)), ← zb_len b0 (h z (List.mem_cons_self ..)).1]
    omega
theorem ones_l4 (k : Nat) (g : List Int) (i best u : Int) (hu : shr (rd g i) (min best.toNat 64) = u) (hk : 100 ≤ k) : ∀ (d fuel : Nat) (j : Int) (out bs : List Int), 0 ≤ j → j + d = u → u ≤ 1000000 → d < fuel → WB out bs → bs.length + d ≤ 900000 →
    ∃ out', squeeze_row.l4 k g i best fuel j out (bs.length : Int) = some (out', ((bs ++ List.replicate d 1).length : Int)) ∧ WB out' (bs ++ List.replicate d 1) := by
  intro d
  induction d with
  | zero =>
    intro fuel j out bs j0 hj u1 hf h hl
    obtain ⟨fuel, rfl⟩ : ∃ q, fuel = q + 1 := ⟨fuel - 1, by omega⟩
    rw [squeeze_row.l4, hu, ifn (by omega), List.replicate_zero, List.append_nil]
    exact ⟨out, rfl, h⟩
  | succ d ih =>
    intro fuel j out bs j0 hj u1 hf h hl
    obtain ⟨fuel, rfl⟩ : ∃ q, fuel = q + 1 := ⟨fuel - 1, by omega⟩
    obtain ⟨o, e, ho⟩ := put_ex k 1 1 out bs h (by decide) (by decide) (by omega) (by decide) hk
    rw [squeeze_row.l4, hu, ifp (by omega), wid (by omega) (by omega)]
    have e' : squeeze_writer_put k ⟨out, (bs.length : Int)⟩ 1 1 = some (o, ((bs ++ [1]).length : Int)) := e
    rw [bnd e']; dsimp only
    have ho' : WB o (bs ++ [1]) := ho
    obtain ⟨o2, e2, h2⟩ := ih fuel (j + 1) o (bs ++ [1]) (by omega) (by omega) u1 (by omega) ho' (by simp; omega)
    rw [show bs ++ List.replicate (d + 1) 1 = (bs ++ [1]) ++ List.replicate d 1 by rw [List.replicate_succ]; simp]
    exact ⟨o2, e2, h2⟩
theorem group_l3 (k : Nat) (g : List Int) (best : Int) (hg : AllIn g 0 131070) (gl : g.length ≤ 100) (b0 : 0 ≤ best) (b1 : best ≤ 15) (hk : 10000 ≤ k) (hc : costL best g ≤ 9000) : ∀ (q p : List Int) (fuel : Nat) (out bs : List Int), g = p ++ q → q.length < fuel → WB out bs → bs.length + costL best q ≤ 800000 → costL best q ≤ 9000 →
    ∃ out', squeeze_row.l3 k g best fuel (p.length : Int) out (bs.length : Int) = some (out', ((bs ++ gb best q).length : Int)) ∧ WB out' (bs ++ gb best q) := by
  intro q
  induction q with
  | nil =>
    intro p fuel out bs hl hf h hb hq
    obtain ⟨fuel, rfl⟩ : ∃ q, fuel = q + 1 := ⟨fuel - 1, by omega⟩
    rw [squeeze_row.l3, ifn (by rw [hl, List.append_nil]; omega), gb, List.append_nil]
    exact ⟨out, rfl, h⟩
  | cons z q ih =>
    intro p fuel out bs hl hf h hb hq
    obtain ⟨fuel, rfl⟩ : ∃ q, fuel = q + 1 := ⟨fuel - 1, by omega⟩
    have ll : g.length = p.length + (q.length + 1) := by rw [hl, List.length_append, List.length_cons]
    have e : rd g (p.length : Int) = z := rd_at hl rfl
    have hz := hg z (by rw [hl]; simp)
    have hu := unitZ_in b0 b1 hz.1 hz.2
    have hzl := zb_len (best := best) b0 hz.1
    have hqc := costL_in (x := best) b0 b1 (g := q) (fun y hy => hg y (by rw [hl]; simp [hy]))
    rw [costL] at hb hq
    have nx : ∀ (out2 : List Int), WB out2 (bs ++ zb best z) → ∃ out', squeeze_row.l3 k g best fuel ((p.length : Int) + 1) out2 ((bs ++ zb best z).length : Int) = some (out', ((bs ++ gb best (z :: q)).length : Int)) ∧ WB out' (bs ++ gb best (z :: q)) := by
      intro out2 h2
      have := ih (p ++ [z]) fuel out2 (bs ++ zb best z) (by rw [hl]; simp) (by simp at hf; omega) h2 (by rw [List.length_append]; omega) (by omega)
      rw [show ((p ++ [z]).length : Int) = (p.length : Int) + 1 by simp] at this
      rw [gb, ← List.append_assoc]
      exact this
    rw [squeeze_row.l3, ifp (by omega), ifp (by omega), e, wid (x := (p.length : Int) + 1) (by omega) (by omega)]
    by_cases c : best = 15
    · obtain ⟨o, e1, ho⟩ := put_ex k z 17 out bs h hz.1 (by omega) (by omega) (by decide) (by omega)
      have hzb : zb best z = bitsOf z 17 := by unfold zb; rw [if_pos c]
      have e1' : squeeze_writer_put k ⟨out, (bs.length : Int)⟩ z 17 = some (o, ((bs ++ bitsOf z 17).length : Int)) := e1
      rw [ifp c, bnd e1']; dsimp only
      rw [← hzb]
      exact nx o (by rw [hzb]; exact ho)
    · have hux : unitZ best z = z / 2 ^ best.toNat + 1 + best := by unfold unitZ; rw [if_neg c]
      have h0 : 0 ≤ z / 2 ^ best.toNat := Int.ediv_nonneg hz.1 (by have := p2pos best.toNat; omega)
      have hsh : shr (rd g (p.length : Int)) (min best.toNat 64) = z / 2 ^ best.toNat := by rw [e, show min best.toNat 64 = best.toNat by omega, shr_def]
      obtain ⟨o, e1, ho⟩ := ones_l4 k g (p.length : Int) best (z / 2 ^ best.toNat) hsh (by omega) (z / 2 ^ best.toNat).toNat k 0 out bs (by omega) (by omega) (by omega) (by omega) h (by omega)
      obtain ⟨o2, e2, ho2⟩ := put_ex k 0 1 o _ ho (by decide) (by decide) (by rw [List.length_append, List.length_replicate]; omega) (by decide) (by omega)
      obtain ⟨o3, e3, ho3⟩ := put_ex k z best.toNat o2 _ ho2 hz.1 (by omega) (by simp only [List.length_append, List.length_replicate, bitsOf_len]; omega) (by omega) (by omega)
      have hzb : bs ++ zb best z = bs ++ List.replicate (z / 2 ^ best.toNat).toNat 1 ++ bitsOf 0 1 ++ bitsOf z best.toNat := by
        unfold zb; rw [if_neg c]; simp [bitsOf]
      rw [← hzb] at e3 ho3
      rw [show ((best.toNat : Nat) : Int) = best by omega] at e3
      have e2' : squeeze_writer_put k ⟨o, ((bs ++ List.replicate (z / 2 ^ best.toNat).toNat 1).length : Int)⟩ 0 1 = some (o2, ((bs ++ List.replicate (z / 2 ^ best.toNat).toNat 1 ++ bitsOf 0 1).length : Int)) := e2
      rw [ifn c, ifp (by omega), bnd e1]; dsimp only
      rw [bnd e2']; dsimp only
      rw [bnd e3]; dsimp only
      exact nx o3 ho3
/-- The bits of groups. -/
def GB : List (List Int) → List Int → Prop
  | [], bs => bs = []
  | g :: gs, bs => ∃ best rest, 0 ≤ best ∧ best ≤ 15 ∧ bs = bitsOf best 4 ++ (gb best g ++ rest) ∧ GB gs rest
theorem groups_g1 (k : Nat) (hk : 10000 ≤ k) : ∀ (gs : List (List Int)) (out bs : List Int), (∀ g, g ∈ gs → AllIn g 0 131070 ∧ g.length ≤ 8) → gs.length ≤ 50 → WB out bs → bs.length + 200 * gs.length ≤ 500000 →
    ∃ out' body, squeeze_row.g1 k gs out (bs.length : Int) = some (out', ((bs ++ body).length : Int)) ∧ WB out' (bs ++ body) ∧ GB gs body ∧ body.length ≤ 4 * gs.length + 17 * gs.flatten.length := by
  intro gs
  induction gs with
  | nil =>
    intro out bs hg hl h hb
    refine ⟨out, [], by rw [List.append_nil]; rfl, by rw [List.append_nil]; exact h, rfl, by simp⟩
  | cons g gs ih =>
    intro out bs hg hl h hb
    rw [List.length_cons] at hl hb
    obtain ⟨g1, g2⟩ := hg g (List.mem_cons_self ..)
    obtain ⟨best, e1, b0, b1, bc⟩ := best_l2 k g g1 (by omega) (by omega) 16 k 0 0 (by decide) (by decide) (by omega) (by decide) (by decide) (fun y y0 y1 => by omega)
    have hcl := gb_len (best := best) b0 g1
    rw [cost15] at bc
    obtain ⟨o1, e2, h1⟩ := put_ex k best 4 out bs h b0 (by omega) (by omega) (by decide) (by omega)
    have e2' : squeeze_writer_put k ⟨out, (bs.length : Int)⟩ best 4 = some (o1, ((bs ++ bitsOf best 4).length : Int)) := e2
    have l1 : (bs ++ bitsOf best 4).length = bs.length + 4 := by rw [List.length_append, bitsOf_len]
    obtain ⟨o2, e3, h2⟩ := group_l3 k g best g1 (by omega) b0 b1 hk (by omega) g [] k o1 (bs ++ bitsOf best 4) rfl (by omega) h1 (by omega) (by omega)
    rw [show (([] : List Int).length : Int) = 0 from rfl] at e3
    have l2 : (bs ++ bitsOf best 4 ++ gb best g).length = bs.length + 4 + (gb best g).length := by rw [List.length_append, l1]
    obtain ⟨o3, body, e4, h3, h4, h5⟩ := ih o2 (bs ++ bitsOf best 4 ++ gb best g) (fun x hx => hg x (List.mem_cons_of_mem _ hx)) (by omega) h2 (by omega)
    refine ⟨o3, bitsOf best 4 ++ (gb best g ++ body), ?_, ?_, ⟨best, body, b0, b1, rfl, h4⟩, ?_⟩
    · rw [squeeze_row.g1, bnd e1, bnd e2']; dsimp only
      rw [bnd e3]; dsimp only
      rw [e4]
      simp only [List.append_assoc]
    · simp only [List.append_assoc] at h3; exact h3
    · rw [List.length_append, List.length_append, bitsOf_len, List.flatten_cons, List.length_append, List.length_cons]
      omega
/-- The bits of a row of counts. -/
def RB (cs bs : List Int) : Prop := ∃ f gs body, ZS cs f (cs.length - 1) ∧ gs.flatten = f ∧ CK 8 gs ∧ GB gs body ∧ bs = bitsOf (rd cs 0) 16 ++ body
theorem CK.len {n : Nat} : ∀ {gs : List (List Int)}, CK n gs → gs.length ≤ gs.flatten.length ∧ (n * gs.length ≤ gs.flatten.length + (n - 1))
  | [], _ => ⟨by simp, by simp⟩
  | g :: gs, h => by
    obtain ⟨h1, h2, h3, h4⟩ := h
    obtain ⟨i1, i2⟩ := CK.len h4
    rw [List.length_cons, List.flatten_cons, List.length_append]
    refine ⟨by omega, ?_⟩
    rw [Nat.mul_succ]
    by_cases c : gs = []
    · subst c; simp; omega
    · have := h3 c; omega
theorem CK.mem {n : Nat} : ∀ {gs : List (List Int)}, CK n gs → ∀ g, g ∈ gs → g.length ≤ n
  | [], _, g, hg => by cases hg
  | x :: gs, h, g, hg => by
    rcases List.mem_cons.mp hg with rfl | hg
    · exact h.2.1
    · exact CK.mem h.2.2.2 g hg
theorem row_ex (k : Nat) (cs : List Int) (hc : AllIn cs 0 65535) (l1 : 1 ≤ cs.length) (l2 : cs.length ≤ 32) (hk : 10000 ≤ k) : ∃ r bs, squeeze_row k cs = some r ∧ WB r bs ∧ RB cs bs ∧ r.length ≤ 70 := by
  have h0 := hc.rd (i := 0) (by decide) (by omega)
  obtain ⟨o1, e1, h1⟩ := put_ex k (rd cs 0) 16 [] [] WB.nil h0.1 (by omega) (by simp) (by decide) (by omega)
  have e1' : squeeze_writer_put k ⟨[], 0⟩ (rd cs 0) 16 = some (o1, (([] ++ bitsOf (rd cs 0) 16).length : Int)) := e1
  rw [List.nil_append] at e1' h1
  obtain ⟨f, e2, hz⟩ := folds_l0 k cs hc (by omega) (cs.length - 1) k 1 [] (by decide) (by omega) (by omega) ⟨rfl, fun j h0 h1 => by omega, AllIn.nil⟩
  have hfl := hz.len
  obtain ⟨gs, e3, e4, hg, hck⟩ := chunk_ex k 8 f (by decide) (by decide) (by omega) hk
  have hcl := hck.len
  rw [hg] at hcl
  obtain ⟨o2, body, e5, h5, h6, h7⟩ := groups_g1 k hk gs o1 (bitsOf (rd cs 0) 16) (fun g hgm => ⟨fun x hx => hz.in_ x (by rw [← hg]; exact List.mem_flatten.mpr ⟨g, hgm, hx⟩), hck.mem g hgm⟩) (by omega) h1 (by rw [bitsOf_len]; omega)
  rw [hg] at h7
  refine ⟨o2, _, ?_, h5, ⟨f, gs, body, hz, hg, hck, h6, rfl⟩, ?_⟩
  · have e2' : squeeze_row.l0 k cs k [] 1 = some f := e2
    have e3' : slices_Chunk_int k f 8 = some (f, 8) := e3
    have e4' : slices_Chunk_int_1 k f 8 = some gs := e4
    unfold squeeze_row
    rw [ifp (by omega), bnd e1']; dsimp only
    rw [bnd e2', bnd e3']; dsimp only
    rw [bnd e4', bnd e5]
  · have := h5.len
    rw [List.length_append, bitsOf_len] at this
    omega
theorem eqself_l0_int (k : Nat) (X : List Int) (hL : X.length ≤ 1000000) : ∀ (d m : Nat) (i : Int), i + d = (X.length : Int) → 0 ≤ i → d < m → slices_Equal_int.l0 k X X m i = some (Sum.inr ()) := by
  intro d
  induction d with
  | zero =>
    intro m i hi i0 hm
    obtain ⟨m, rfl⟩ : ∃ q, m = q + 1 := ⟨m - 1, by omega⟩
    rw [slices_Equal_int.l0, ifn (by omega)]
  | succ d ih =>
    intro m i hi i0 hm
    obtain ⟨m, rfl⟩ : ∃ q, m = q + 1 := ⟨m - 1, by omega⟩
    rw [slices_Equal_int.l0, ifp (by omega), ifp i0, ifp (by omega), ifn (by simp), wid (by omega) (by omega)]
    exact ih m (i + 1) (by omega) (by omega) (by omega)
theorem eqself_int (k : Nat) (X : List Int) (hL : X.length ≤ 1000000) (hk : X.length < k) : slices_Equal_int k X X = some true := by
  unfold slices_Equal_int
  rw [ifn (by simp), bnd (eqself_l0_int k X hL X.length k 0 (by omega) (by omega) hk)]
  rfl
theorem eqself_l0_byte (k : Nat) (X : List Int) (hL : X.length ≤ 1000000) : ∀ (d m : Nat) (i : Int), i + d = (X.length : Int) → 0 ≤ i → d < m → slices_Equal_byte.l0 k X X m i = some (Sum.inr ()) := by
  intro d
  induction d with
  | zero =>
    intro m i hi i0 hm
    obtain ⟨m, rfl⟩ : ∃ q, m = q + 1 := ⟨m - 1, by omega⟩
    rw [slices_Equal_byte.l0, ifn (by omega)]
  | succ d ih =>
    intro m i hi i0 hm
    obtain ⟨m, rfl⟩ : ∃ q, m = q + 1 := ⟨m - 1, by omega⟩
    rw [slices_Equal_byte.l0, ifp (by omega), ifp i0, ifp (by omega), ifn (by simp), wid (by omega) (by omega)]
    exact ih m (i + 1) (by omega) (by omega) (by omega)
theorem eqself_byte (k : Nat) (X : List Int) (hL : X.length ≤ 1000000) (hk : X.length < k) : slices_Equal_byte k X X = some true := by
  unfold slices_Equal_byte
  rw [ifn (by simp), bnd (eqself_l0_byte k X hL X.length k 0 (by omega) (by omega) hk)]
  rfl
theorem nofind_squeeze_read_1 (k : Nat) (s : List Int) (hs : AllIn s 0 65535) (hl : s.length ≤ 100000) (j : Nat) : ∀ (fuel : Nat) (i : Int), 0 ≤ i → (s.length : Int) - i ≤ j → j < fuel → slices_IndexFunc_int__squeeze_read_1.l0 k s fuel i = some (Sum.inr ()) := by
  induction j with
  | zero =>
    intro fuel i i0 hj hf
    obtain ⟨fuel, rfl⟩ : ∃ q, fuel = q + 1 := ⟨fuel - 1, by omega⟩
    rw [slices_IndexFunc_int__squeeze_read_1.l0, ifn (by omega)]
  | succ j ih =>
    intro fuel i i0 hj hf
    obtain ⟨fuel, rfl⟩ : ∃ q, fuel = q + 1 := ⟨fuel - 1, by omega⟩
    by_cases c : i < (s.length : Int)
    · have hr := hs.rd i0 c
      have h1 : squeeze_read_1 k (rd s i) = some false := by
        unfold squeeze_read_1
        rw [ifn (by omega), decide_eq_false (by omega)]
      rw [slices_IndexFunc_int__squeeze_read_1.l0, ifp c, ifp i0, bnd h1, ifn (by decide), wid (by omega) (by omega)]
      exact ih fuel (i + 1) (by omega) (by omega) (by omega)
    · rw [slices_IndexFunc_int__squeeze_read_1.l0, ifn c]
theorem nocont_squeeze_read_1 (k : Nat) (s : List Int) (hs : AllIn s 0 65535) (hl : s.length ≤ 100000) (hk : s.length < k) : slices_ContainsFunc_int__squeeze_read_1 k s = some false := by
  unfold slices_ContainsFunc_int__squeeze_read_1 slices_IndexFunc_int__squeeze_read_1
  rw [nofind_squeeze_read_1 k s hs hl s.length k 0 (by decide) (by omega) hk]
  rfl
theorem nofind_frame_Check_1 (k : Nat) (s : List Int) (hs : AllIn s 0 65535) (hl : s.length ≤ 100000) (j : Nat) : ∀ (fuel : Nat) (i : Int), 0 ≤ i → (s.length : Int) - i ≤ j → j < fuel → slices_IndexFunc_int__frame_Check_1.l0 k s fuel i = some (Sum.inr ()) := by
  induction j with
  | zero =>
    intro fuel i i0 hj hf
    obtain ⟨fuel, rfl⟩ : ∃ q, fuel = q + 1 := ⟨fuel - 1, by omega⟩
    rw [slices_IndexFunc_int__frame_Check_1.l0, ifn (by omega)]
  | succ j ih =>
    intro fuel i i0 hj hf
    obtain ⟨fuel, rfl⟩ : ∃ q, fuel = q + 1 := ⟨fuel - 1, by omega⟩
    by_cases c : i < (s.length : Int)
    · have hr := hs.rd i0 c
      have h1 : frame_Check_1 k (rd s i) = some false := by
        unfold frame_Check_1
        rw [ifn (by omega), decide_eq_false (by omega)]
      rw [slices_IndexFunc_int__frame_Check_1.l0, ifp c, ifp i0, bnd h1, ifn (by decide), wid (by omega) (by omega)]
      exact ih fuel (i + 1) (by omega) (by omega) (by omega)
    · rw [slices_IndexFunc_int__frame_Check_1.l0, ifn c]
theorem nocont_frame_Check_1 (k : Nat) (s : List Int) (hs : AllIn s 0 65535) (hl : s.length ≤ 100000) (hk : s.length < k) : slices_ContainsFunc_int__frame_Check_1 k s = some false := by
  unfold slices_ContainsFunc_int__frame_Check_1 slices_IndexFunc_int__frame_Check_1
  rw [nofind_frame_Check_1 k s hs hl s.length k 0 (by decide) (by omega) hk]
  rfl
/-- These bits lie there. -/
def RD (b : List Int) (p : Nat) (l : List Int) : Prop := p + l.length ≤ 8 * b.length ∧ ∀ i, i < l.length → bitAt b (p + i) = l.getD i 0
theorem RD.head {b : List Int} {p : Nat} {x : Int} {l : List Int} (h : RD b p (x :: l)) : p < 8 * b.length ∧ bitAt b p = x ∧ RD b (p + 1) l := by
  obtain ⟨h1, h2⟩ := h
  rw [List.length_cons] at h1
  refine ⟨by omega, h2 0 (by simp), by omega, fun i hi => ?_⟩
  have := h2 (i + 1) (by rw [List.length_cons]; omega)
  rw [show p + (i + 1) = p + 1 + i by omega] at this
  rw [this]
  rfl
theorem get_l0 (k : Nat) (b : List Int) (u0 : Int) (o0 : Bool) (n : Int) (hb : AllIn b 0 255) (bl : b.length ≤ 100000) (n40 : n ≤ 40) : ∀ (d fuel : Nat) (x : Int) (p : Nat) (v : Int) (rest : List Int) (ov : Bool), 0 ≤ v → v < 1099511627776 → x + d = n → 0 ≤ x → d < fuel → RD b p (bitsOf v d ++ rest) →
    squeeze_reader_get.l0 k n ⟨b, u0, o0⟩ fuel (v / 2 ^ d) x (p : Int) ov = some (v, ((p + d : Nat) : Int), ov) ∧ RD b (p + d) rest := by
  intro d
  induction d with
  | zero =>
    intro fuel x p v rest ov v0 v1 hx x0 hf h
    obtain ⟨fuel, rfl⟩ : ∃ q, fuel = q + 1 := ⟨fuel - 1, by omega⟩
    rw [squeeze_reader_get.l0, ifn (by omega), Int.pow_zero, Int.ediv_one]
    exact ⟨rfl, h⟩
  | succ d ih =>
    intro fuel x p v rest ov v0 v1 hx x0 hf h
    obtain ⟨fuel, rfl⟩ : ∃ q, fuel = q + 1 := ⟨fuel - 1, by omega⟩
    rw [bitsOf, List.cons_append] at h
    obtain ⟨h1, h2, h3⟩ := h.head
    have hm := tmod_nn (a := (p : Int)) (b := 8) (by omega)
    have hd := tdiv_nn (a := (p : Int)) (b := 8) (by omega)
    have hr := hb.rd (i := ((p / 8 : Nat) : Int)) (by omega) (by omega)
    have hd2 : (p : Int) / 8 = ((p / 8 : Nat) : Int) := by omega
    have hs0 : 0 ≤ rd b ((p / 8 : Nat) : Int) / 2 ^ (7 - p % 8) := Int.ediv_nonneg hr.1 (by have := p2pos (7 - p % 8); omega)
    have hs1 : rd b ((p / 8 : Nat) : Int) / 2 ^ (7 - p % 8) ≤ rd b ((p / 8 : Nat) : Int) := Int.ediv_le_self _ hr.1
    have hbit : Go.bits .and .i64 (w64 (shr (rd b ((p / 8 : Nat) : Int)) (7 - p % 8))) 1 = v / 2 ^ d % 2 := by
      rw [wid (by rw [shr_def]; omega) (by rw [shr_def]; omega), shr_bit _ _ hr.1 (by omega)]
      exact h2
    have q0 : 0 ≤ v / 2 ^ (d + 1) := Int.ediv_nonneg v0 (by have := p2pos (d + 1); omega)
    have q1 : v / 2 ^ (d + 1) ≤ v := Int.ediv_le_self _ v0
    have hq : v / 2 ^ (d + 1) = v / 2 ^ d / 2 := by rw [Int.pow_succ, ← Int.ediv_ediv_of_nonneg (by have := p2pos d; omega)]
    have hor := i64_or_sum (v / 2 ^ (d + 1)) (v / 2 ^ d % 2) 1 q0 (by omega) (by rw [show (2 : Int) ^ 1 = 2 from rfl]; omega) (by rw [show (2 : Int) ^ 1 = 2 from rfl]; omega)
    rw [squeeze_reader_get.l0, ifp (by omega)]
    dsimp only
    rw [wid (x := 8 * (b.length : Int)) (by omega) (by omega), ifn (by omega), hd, hm, hd2, wid (x := ((p / 8 : Nat) : Int)) (by omega) (by omega), wid (x := 7 - (p : Int) % 8) (by omega) (by omega), ifp (by omega), ifp (by omega), ifp (by omega), show min (7 - (p : Int) % 8).toNat 8 = 7 - p % 8 by omega, hbit,
      wid (x := v / 2 ^ (d + 1) * 2 ^ 1) (by rw [show (2 : Int) ^ 1 = 2 from rfl]; omega) (by rw [show (2 : Int) ^ 1 = 2 from rfl]; omega), hor, show v / 2 ^ (d + 1) * 2 ^ 1 + v / 2 ^ d % 2 = v / 2 ^ d by rw [show (2 : Int) ^ 1 = 2 from rfl]; omega, wid (x := x + 1) (by omega) (by omega), wid (x := (p : Int) + 1) (by omega) (by omega), show (p : Int) + 1 = ((p + 1 : Nat) : Int) by omega, show p + (d + 1) = p + 1 + d by omega]
    exact ih fuel (x + 1) (p + 1) v rest ov v0 v1 (by omega) (by omega) (by omega) h3
theorem get_ex (k : Nat) (b : List Int) (n p : Nat) (v : Int) (rest : List Int) (ov : Bool) (hb : AllIn b 0 255) (bl : b.length ≤ 100000) (n40 : n ≤ 39) (v0 : 0 ≤ v) (v1 : v < 2 ^ n) (hk : 100 ≤ k) (h : RD b p (bitsOf v n ++ rest)) :
    squeeze_reader_get k ⟨b, (p : Int), ov⟩ (n : Int) = some (v, ((p + n : Nat) : Int), ov) ∧ RD b (p + n) rest := by
  have hle : (2 : Int) ^ n ≤ 2 ^ 39 := by
    have h1 : (2 : Nat) ^ n ≤ 2 ^ 39 := Nat.pow_le_pow_right (by decide) n40
    have e : ((2 ^ n : Nat) : Int) = (2 : Int) ^ n := by simp
    rw [← e]
    have e2 : ((2 ^ 39 : Nat) : Int) = (2 : Int) ^ 39 := by simp
    rw [← e2]
    exact Int.ofNat_le.mpr h1
  have e39 : (2 : Int) ^ 39 = 549755813888 := by decide
  obtain ⟨e, h2⟩ := get_l0 k b (p : Int) ov (n : Int) hb bl (by omega) n k 0 p v rest ov v0 (by omega) (by omega) (by decide) (by omega) h
  rw [Int.ediv_eq_zero_of_lt v0 v1] at e
  refine ⟨?_, h2⟩
  unfold squeeze_reader_get
  dsimp only
  rw [bnd e]
theorem ones_l1 (k : Nat) (b : List Int) (hb : AllIn b 0 255) (bl : b.length ≤ 100000) (hk : 100 ≤ k) : ∀ (u fuel p : Nat) (z : Int) (rest : List Int), 0 ≤ z → z + u ≤ 1000000 → u < fuel → RD b p (List.replicate u 1 ++ 0 :: rest) →
    squeeze_read.l1 k b fuel z (p : Int) false = some (z + u, ((p + u + 1 : Nat) : Int), false) ∧ RD b (p + u + 1) rest := by
  intro u
  induction u with
  | zero =>
    intro fuel p z rest z0 z1 hf h
    obtain ⟨fuel, rfl⟩ : ∃ q, fuel = q + 1 := ⟨fuel - 1, by omega⟩
    obtain ⟨e, h2⟩ := get_ex k b 1 p 0 rest false hb bl (by decide) (by decide) (by decide) hk h
    have e' : squeeze_reader_get k ⟨b, (p : Int), false⟩ 1 = some (0, ((p + 1 : Nat) : Int), false) := e
    rw [squeeze_read.l1, bnd e']; dsimp only
    rw [ifn (by decide)]
    exact ⟨by simp, h2⟩
  | succ u ih =>
    intro fuel p z rest z0 z1 hf h
    obtain ⟨fuel, rfl⟩ : ∃ q, fuel = q + 1 := ⟨fuel - 1, by omega⟩
    rw [List.replicate_succ] at h
    obtain ⟨e, h2⟩ := get_ex k b 1 p 1 (List.replicate u 1 ++ 0 :: rest) false hb bl (by decide) (by decide) (by decide) hk h
    have e' : squeeze_reader_get k ⟨b, (p : Int), false⟩ 1 = some (1, ((p + 1 : Nat) : Int), false) := e
    rw [squeeze_read.l1, bnd e']; dsimp only
    rw [ifp rfl, wid (by omega) (by omega)]
    obtain ⟨e3, h3⟩ := ih fuel (p + 1) (z + 1) rest (by omega) (by omega) (by omega) h2
    rw [e3]
    refine ⟨?_, by rw [show p + (u + 1) + 1 = p + 1 + u + 1 by omega]; exact h3⟩
    rw [show z + 1 + (u : Int) = z + ((u + 1 : Nat) : Int) by omega, show p + 1 + u + 1 = p + (u + 1) + 1 by omega]
/-- A number of a group. -/
def zget (k : Nat) (b1 : List Int) (vk331 x332 : Int) (x333 : Bool) : Option (Int × Int × Bool) :=
  (if vk331 = 15 then ((squeeze_reader_get k (⟨b1, x332, x333⟩ : S_reader) 17).bind fun (vt347, vt348, vt349) => (some (vt347, vt348, vt349))) else ((squeeze_read.l1 k b1 k 0 x332 x333).bind fun (z434, x435, x436) => (if ¬ (vk331 < 0) then ((squeeze_reader_get k (⟨b1, x435, x436⟩ : S_reader) vk331).bind fun (vt446, vt447, vt448) => (some ((Go.bits .or .i64 (w64 (z434 * 2 ^ (min (vk331).toNat 64))) vt446), vt447, vt448))) else none)))
theorem zget_ex (k : Nat) (b : List Int) (kk z : Int) (p : Nat) (rest : List Int) (hb : AllIn b 0 255) (bl : b.length ≤ 100000) (k0 : 0 ≤ kk) (k1 : kk ≤ 15) (z0 : 0 ≤ z) (z1 : z ≤ 131070) (hk : 200000 ≤ k) (h : RD b p (zb kk z ++ rest)) :
    ∃ q : Nat, zget k b kk (p : Int) false = some (z, (q : Int), false) ∧ RD b q rest := by
  unfold zb at h
  unfold zget
  by_cases c : kk = 15
  · rw [if_pos c] at h
    obtain ⟨e, h2⟩ := get_ex k b 17 p z rest false hb bl (by decide) z0 (by rw [show (2 : Int) ^ 17 = 131072 by decide]; omega) (by omega) h
    have e' : squeeze_reader_get k ⟨b, (p : Int), false⟩ 17 = some (z, ((p + 17 : Nat) : Int), false) := e
    rw [ifp c, bnd e']
    exact ⟨_, rfl, h2⟩
  · rw [if_neg c, List.append_assoc] at h
    have hp := p2pos kk.toNat
    have d0 : 0 ≤ z / 2 ^ kk.toNat := Int.ediv_nonneg z0 (by omega)
    have d1 : z / 2 ^ kk.toNat ≤ z := Int.ediv_le_self _ z0
    have m0 := Int.emod_nonneg z (show (2 : Int) ^ kk.toNat ≠ 0 by omega)
    have m1 := Int.emod_lt_of_pos z hp
    have hz : z / 2 ^ kk.toNat * 2 ^ kk.toNat + z % 2 ^ kk.toNat = z := by rw [Int.mul_comm]; exact Int.mul_ediv_add_emod z (2 ^ kk.toNat)
    have hj : 0 ≤ z / 2 ^ kk.toNat * 2 ^ kk.toNat := Int.mul_nonneg d0 (by omega)
    obtain ⟨e, h2⟩ := ones_l1 k b hb bl (by omega) (z / 2 ^ kk.toNat).toNat k p 0 (bitsOf z kk.toNat ++ rest) (by decide) (by omega) (by omega) h
    rw [← bitsOf_mod z kk.toNat kk.toNat (Nat.le_refl _)] at h2
    obtain ⟨e2, h3⟩ := get_ex k b kk.toNat _ (z % 2 ^ kk.toNat) rest false hb bl (by omega) m0 m1 (by omega) h2
    rw [show ((kk.toNat : Nat) : Int) = kk by omega] at e2
    rw [ifn c, bnd e]; dsimp only
    rw [ifp (by omega), bnd e2]; dsimp only
    have hor := i64_or_sum (z / 2 ^ kk.toNat) (z % 2 ^ kk.toNat) kk.toNat d0 m0 m1 (by omega)
    rw [show min kk.toNat 64 = kk.toNat by omega, show (0 : Int) + ((z / 2 ^ kk.toNat).toNat : Int) = z / 2 ^ kk.toNat by omega, wid (x := z / 2 ^ kk.toNat * 2 ^ kk.toNat) (by omega) (by omega), hor, hz]
    exact ⟨_, rfl, h3⟩
theorem take_rd (cs : List Int) (i : Nat) (h : i < cs.length) : cs.take i ++ [rd cs (i : Int)] = cs.take (i + 1) := by
  obtain ⟨h1, e⟩ := rd_lt (xs := cs) (i := (i : Int)) (by omega) (by omega)
  rw [e, List.take_succ_eq_append_getElem h]
  simp
theorem rd_take (cs : List Int) (n : Nat) (i : Int) (i0 : 0 ≤ i) (h : i < (n : Int)) (hn : n ≤ cs.length) : rd (cs.take n) i = rd cs i := by
  obtain ⟨h1, e1⟩ := rd_lt (xs := cs.take n) (i := i) i0 (by rw [List.length_take]; omega)
  obtain ⟨h2, e2⟩ := rd_lt (xs := cs) (i := i) i0 (by omega)
  rw [e1, e2, List.getElem_take]
/-- How a row's reading stands: so many numbers of the group at hand, and the groups to come. -/
structure Al (i : Nat) (rem : List Int) (gs : List (List Int)) : Prop where
  a1 : rem ≠ [] → (i - 1) % 8 ≠ 0
  a2 : rem = [] → gs ≠ [] → (i - 1) % 8 = 0
  a3 : gs ≠ [] → (i - 1 + rem.length) % 8 = 0
  a4 : (i - 1) % 8 + rem.length ≤ 8
theorem read_l0 (k : Nat) (b cs f : List Int) (hb : AllIn b 0 255) (bl : b.length ≤ 100000) (hc : AllIn cs 0 65535) (cl : cs.length ≤ 1000) (hf : ZS cs f (cs.length - 1)) (hk : 200000 ≤ k) : ∀ (n : Nat) (rem : List Int) (gs : List (List Int)) (fuel i p : Nat) (kk : Int) (body : List Int),
    rem.length + gs.flatten.length = n → n < fuel → 1 ≤ i → i + n = cs.length → f.drop (i - 1) = rem ++ gs.flatten → Al i rem gs → CK 8 gs → GB gs body → RD b p (gb kk rem ++ body) → (rem ≠ [] → 0 ≤ kk ∧ kk ≤ 15) →
    ∃ q : Int, squeeze_read.l0 k (cs.length : Int) b fuel (cs.take i) kk (i : Int) (p : Int) false = some (cs, q, false) := by
  intro n
  induction n with
  | zero =>
    intro rem gs fuel i p kk body hn hfu i1 hi hd ha hck hg hr hkk
    obtain ⟨fuel, rfl⟩ : ∃ q, fuel = q + 1 := ⟨fuel - 1, by omega⟩
    rw [squeeze_read.l0, ifn (by omega), List.take_of_length_le (by omega)]
    exact ⟨_, rfl⟩
  | succ n ih =>
    intro rem gs fuel i p kk body hn hfu i1 hi hd ha hck hg hr hkk
    obtain ⟨fuel, rfl⟩ : ∃ q, fuel = q + 1 := ⟨fuel - 1, by omega⟩
    have hfl := hf.len
    -- the number at hand
    obtain ⟨z, tl, htl⟩ : ∃ z tl, rem ++ gs.flatten = z :: tl := by
      cases h : rem ++ gs.flatten with
      | nil => have := congrArg List.length h; rw [List.length_append, List.length_nil] at this; omega
      | cons z tl => exact ⟨z, tl, rfl⟩
    have hz : rd f ((i - 1 : Nat) : Int) = z := by
      have e := List.take_append_drop (i - 1) f
      rw [hd, htl] at e
      exact rd_at e.symm (by rw [List.length_take]; omega)
    have hat := hf.at_ ((i - 1 : Nat) : Int) (by omega) (by omega)
    have hin := hf.in_.rd (i := ((i - 1 : Nat) : Int)) (by omega) (by omega)
    rw [hz] at hat hin
    have c1 := hc.rd (i := (i : Int)) (by omega) (by omega)
    have c0 := hc.rd (i := (i : Int) - 1) (by omega) (by omega)
    rw [show (((i - 1 : Nat) : Int)) + 1 = (i : Int) by omega, show ((i - 1 : Nat) : Int) = (i : Int) - 1 by omega] at hat
    have hdrop : f.drop (i + 1 - 1) = tl := by
      have : f.drop (i - 1 + 1) = (f.drop (i - 1)).drop 1 := by rw [List.drop_drop]
      rw [show i + 1 - 1 = i - 1 + 1 by omega, this, hd, htl]; rfl
    -- the rest of a round
    have fin : ∀ (kk2 : Int) (q : Nat), (∃ q2 : Int, squeeze_read.l0 k (cs.length : Int) b fuel (cs.take (i + 1)) kk2 ((i + 1 : Nat) : Int) (q : Int) false = some (cs, q2, false)) →
        ∃ q2 : Int, (if (Int.tmod z 2) = 1 then (if 0 ≤ (w64 ((i : Int) - 1)) then (if (w64 ((i : Int) - 1)) < ((cs.take i).length : Int) then (if ((cs.take i).length + 1) * 8 ≤ 140737488355328 then (squeeze_read.l0 k (cs.length : Int) b fuel (cs.take i ++ ([w64 ((rd (cs.take i) (w64 ((i : Int) - 1))) + (w64 ((w64 (0 - (w64 (Int.tdiv z 2)))) - 1)))] : List Int)) kk2 (w64 ((i : Int) + 1)) (q : Int) false) else none) else none) else none) else (if 0 ≤ (w64 ((i : Int) - 1)) then (if (w64 ((i : Int) - 1)) < ((cs.take i).length : Int) then (if ((cs.take i).length + 1) * 8 ≤ 140737488355328 then (squeeze_read.l0 k (cs.length : Int) b fuel (cs.take i ++ ([w64 ((rd (cs.take i) (w64 ((i : Int) - 1))) + (w64 (Int.tdiv z 2)))] : List Int)) kk2 (w64 ((i : Int) + 1)) (q : Int) false) else none) else none) else none)) = some (cs, q2, false) := by
      intro kk2 q hq
      have lt : (cs.take i).length = i := by rw [List.length_take]; omega
      have hrt := rd_take cs i ((i : Int) - 1) (by omega) (by omega) (by omega)
      have hm := tmod_nn (a := z) (b := 2) hin.1
      have hd2 := tdiv_nn (a := z) (b := 2) hin.1
      rw [wid (x := (i : Int) - 1) (by omega) (by omega), lt, hrt, hm, hd2, wid (x := (i : Int) + 1) (by omega) (by omega), show (i : Int) + 1 = ((i + 1 : Nat) : Int) by omega]
      unfold foldZ at hat
      by_cases c : rd cs (i : Int) - rd cs ((i : Int) - 1) < 0
      · rw [if_pos c] at hat
        rw [ifp (by omega), ifp (by omega), ifp (by omega), ifp (by omega), wid (x := z / 2) (by omega) (by omega), wid (x := 0 - z / 2) (by omega) (by omega), wid (x := 0 - z / 2 - 1) (by omega) (by omega), wid (by omega) (by omega), show rd cs ((i : Int) - 1) + (0 - z / 2 - 1) = rd cs (i : Int) by omega, take_rd cs i (by omega)]
        exact hq
      · rw [if_neg c] at hat
        rw [ifn (by omega), ifp (by omega), ifp (by omega), ifp (by omega), wid (x := z / 2) (by omega) (by omega), wid (by omega) (by omega), show rd cs ((i : Int) - 1) + z / 2 = rd cs (i : Int) by omega, take_rd cs i (by omega)]
        exact hq
    have hmi := tmod_nn (a := (i : Int) - 1) (b := 8) (by omega)
    rw [squeeze_read.l0, ifp (by omega), ifp (by decide), wid (x := (i : Int) - 1) (by omega) (by omega), hmi]
    cases rem with
    | cons z' rem =>
      have e1 : z' = z ∧ rem ++ gs.flatten = tl := by rw [List.cons_append] at htl; injection htl with h1 h2; exact ⟨h1, h2⟩
      obtain ⟨rfl, e2⟩ := e1
      obtain ⟨k0, k1⟩ := hkk (by simp)
      have a1 := ha.a1 (by simp)
      have a4 := ha.a4
      rw [List.length_cons] at hn a4
      rw [ifn (by omega), bnd rfl]; dsimp only
      rw [gb, List.append_assoc] at hr
      obtain ⟨q, eq, hq⟩ := zget_ex k b kk z' p _ hb bl k0 k1 hin.1 hin.2 hk hr
      show ∃ q2 : Int, (zget k b kk (p : Int) false).bind _ = _
      rw [bnd eq]; dsimp only
      have ha2 : Al (i + 1) rem gs := ⟨fun hne => by
          have : 1 ≤ rem.length := by cases rem with
            | nil => exact absurd rfl hne
            | cons => simp
          omega, fun h1 h2 => by
          have := ha.a3 h2
          subst h1
          simp at this
          omega, fun h => by
          have := ha.a3 h
          rw [List.length_cons] at this
          rw [show i + 1 - 1 + rem.length = i - 1 + (rem.length + 1) by omega]; exact this, by omega⟩
      have := ih rem gs fuel (i + 1) q kk body (by omega) (by omega) (by omega) (by omega) (by rw [hdrop, e2]) ha2 hck hg hq (fun _ => ⟨k0, k1⟩)
      have hfin := fin kk q this
      rw [wid (x := (i : Int) - 1) (by omega) (by omega)] at hfin
      exact hfin
    | nil =>
      cases gs with
      | nil => simp at hn
      | cons g gs =>
        obtain ⟨g1, g2, g3, g4⟩ := hck
        cases g with
        | nil => simp at g1
        | cons z' g =>
          have e1 : z' = z ∧ g ++ gs.flatten = tl := by
            rw [List.nil_append, List.flatten_cons, List.cons_append] at htl; injection htl with h1 h2; exact ⟨h1, h2⟩
          obtain ⟨rfl, e2⟩ := e1
          obtain ⟨best, rest, b0, b1, hbody, hrest⟩ := hg
          have a2 := ha.a2 rfl (by simp)
          have a3 := ha.a3 (by simp)
          rw [gb, List.nil_append, hbody, gb] at hr
          obtain ⟨e4, hr4⟩ := get_ex k b 4 p best _ false hb bl (by decide) b0 (by rw [show (2 : Int) ^ 4 = 16 by decide]; omega) (by omega) hr
          have e4' : squeeze_reader_get k ⟨b, (p : Int), false⟩ 4 = some (best, ((p + 4 : Nat) : Int), false) := e4
          rw [ifp (by omega), bnd e4']; dsimp only
          rw [bnd rfl]; dsimp only
          rw [List.append_assoc] at hr4
          obtain ⟨q, eq, hq⟩ := zget_ex k b best z' (p + 4) _ hb bl b0 b1 hin.1 hin.2 hk hr4
          show ∃ q2 : Int, (zget k b best ((p + 4 : Nat) : Int) false).bind _ = _
          rw [bnd eq]; dsimp only
          rw [List.nil_append, List.flatten_cons, List.cons_append] at hd
          rw [List.flatten_cons, List.length_append, List.length_cons, List.length_nil] at hn
          rw [List.length_cons] at g2 g3
          have ha2 : Al (i + 1) g gs := ⟨fun _ => by omega, fun h1 h2 => by
              have := g3 h2
              subst h1
              simp at this, fun h => by have := g3 h; omega, by omega⟩
          have := ih g gs fuel (i + 1) q best rest (by omega) (by omega) (by omega) (by omega) (by rw [hdrop, e2]) ha2 g4 hrest hq (fun _ => ⟨b0, b1⟩)
          have hfin := fin best q this
          rw [wid (x := (i : Int) - 1) (by omega) (by omega)] at hfin
          exact hfin
/-- A row is read. -/
theorem read_ex (k : Nat) (cs r bs : List Int) (hc : AllIn cs 0 65535) (l1 : 1 ≤ cs.length) (l2 : cs.length ≤ 32) (hk : 300000 ≤ k) (hrow : squeeze_row k cs = some r) (hw : WB r bs) (hrb : RB cs bs) (rl : r.length ≤ 70) : squeeze_read k r (cs.length : Int) = some (cs, true) := by
  obtain ⟨f, gs, body, hf, hg, hck, hgb, rfl⟩ := hrb
  have h0 := hc.rd (i := 0) (by decide) (by omega)
  have hlen := hw.len
  have hrd : RD r 0 (bitsOf (rd cs 0) 16 ++ body) := ⟨by omega, fun i hi => by rw [Nat.zero_add]; exact hw.at_ i hi⟩
  obtain ⟨e1, hr1⟩ := get_ex k r 16 0 (rd cs 0) body false hw.bytes (by omega) (by decide) h0.1 (by rw [show (2 : Int) ^ 16 = 65536 by decide]; omega) (by omega) hrd
  have e1' : squeeze_reader_get k ⟨r, 0, false⟩ 16 = some (rd cs 0, ((0 + 16 : Nat) : Int), false) := e1
  have ht : cs.take 1 = [rd cs 0] := by
    have := take_rd cs 0 (by omega)
    simpa using this.symm
  have hfl := hf.len
  obtain ⟨q, e2⟩ := read_l0 k r cs f hw.bytes (by omega) hc (by omega) hf (by omega) (cs.length - 1) [] gs k 1 (0 + 16) 0 body (by rw [hg, hfl]; simp) (by omega) (by decide) (by omega) (by simpa using hg.symm) ⟨fun h => absurd rfl h, fun _ _ => rfl, fun _ => rfl, by decide⟩ hck hgb hr1 (fun h => absurd rfl h)
  rw [ht] at e2
  have e2' : squeeze_read.l0 k (cs.length : Int) r k [rd cs 0] 0 1 ((0 + 16 : Nat) : Int) false = some (cs, q, false) := e2
  unfold squeeze_read
  rw [bnd e1']; dsimp only
  rw [bnd e2']; dsimp only
  rw [ifn (by decide), bnd (nocont_squeeze_read_1 k cs hc (by omega) (by omega)), ifn (by decide), bnd hrow, bnd (eqself_byte k r (by omega) (by omega)), ifn (by decide)]
theorem squeezed_eq (k : Nat) (h : 100 ≤ k) : spykeep3_squeezed k = some true := by
  obtain ⟨k, rfl⟩ : ∃ j, k = j + 100 := ⟨k - 100, by omega⟩
  kernel_rfl
theorem check_ok (k : Nat) (w h : Int) (cs : List Int) (w0 : 1 ≤ w) (w1 : w ≤ 32) (h0 : 1 ≤ h) (h1 : h ≤ 32) (hl : (cs.length : Int) = w * h) (hs : AllIn cs 0 65535) (hk : 3000 ≤ k) : frame_Check k ⟨w, h, [], cs⟩ = some 0 := by
  have hp := mul_le (a := w) (b := h) (A := 32) (B := 32) (by omega) w1 (by omega) h1
  unfold frame_Check
  dsimp only
  rw [mn_def, mx_def, ifn (by omega), ifn (by omega), wid (by omega) (by omega), ifn (by omega), bnd (nocont_frame_Check_1 k cs hs (by omega) (by omega)), ifn (by decide)]
/-- Codes with their lengths ahead. -/
def pk : List (List Int) → List Int
  | [] => []
  | r :: rs => 0 :: (r.length : Int) :: (r ++ pk rs)
theorem pk_append : ∀ (a b : List (List Int)), pk (a ++ b) = pk a ++ pk b
  | [], _ => rfl
  | r :: a, b => by rw [List.cons_append, pk, pk, pk_append a b]; simp
theorem pk_len : ∀ {rs : List (List Int)}, (∀ r, r ∈ rs → r.length ≤ 70) → (pk rs).length ≤ 72 * rs.length
  | [], _ => by simp [pk]
  | r :: rs, h => by
    have h1 := h r (List.mem_cons_self ..)
    have h2 := pk_len (rs := rs) (fun x hx => h x (List.mem_cons_of_mem _ hx))
    rw [pk, List.length_cons, List.length_cons, List.length_append, List.length_cons]
    omega
/-- Rows of counts and their codes. -/
def Codes (k : Nat) : List (List Int) → List (List Int) → Prop
  | [], [] => True
  | c :: cs, r :: rs => (squeeze_row k c = some r ∧ (∃ bs, WB r bs ∧ RB c bs) ∧ r.length ≤ 70 ∧ AllIn c 0 65535 ∧ 1 ≤ r.length) ∧ Codes k cs rs
  | _, _ => False
theorem Codes.len {k : Nat} : ∀ {cs rs : List (List Int)}, Codes k cs rs → cs.length = rs.length
  | [], [], _ => rfl
  | _ :: _, _ :: _, h => by simp [Codes.len h.2]
  | [], _ :: _, h => h.elim
  | _ :: _, [], h => h.elim
theorem Codes.small {k : Nat} : ∀ {cs rs : List (List Int)}, Codes k cs rs → ∀ r, r ∈ rs → r.length ≤ 70 ∧ 1 ≤ r.length
  | [], [], _, r, hr => by cases hr
  | c :: cs, x :: rs, h, r, hr => by
    rcases List.mem_cons.mp hr with rfl | hr
    · exact ⟨h.1.2.2.1, h.1.2.2.2.2⟩
    · exact Codes.small h.2 r hr
  | [], _ :: _, h, _, _ => h.elim
  | _ :: _, [], h, _, _ => h.elim
theorem Codes.at {k : Nat} : ∀ {cs rs : List (List Int)} {c r : List Int} {c1 c2 r1 r2 : List (List Int)}, Codes k cs rs → cs = c1 ++ c :: c2 → rs = r1 ++ r :: r2 → c1.length = r1.length → squeeze_row k c = some r ∧ (∃ bs, WB r bs ∧ RB c bs) ∧ r.length ≤ 70 ∧ AllIn c 0 65535 ∧ 1 ≤ r.length := by
  intro cs rs c r c1
  induction c1 generalizing cs rs with
  | nil =>
    intro c2 r1 r2 h e1 e2 hl
    cases r1 with
    | cons => cases hl
    | nil => subst e1 e2; exact h.1
  | cons x c1 ih =>
    intro c2 r1 r2 h e1 e2 hl
    cases r1 with
    | nil => cases hl
    | cons y r1 => subst e1 e2; exact ih h.2 rfl rfl (by simpa using hl)
theorem pack_g0 (k : Nat) (hk : 10000 ≤ k) : ∀ (gs : List (List Int)) (out : List Int), (∀ g, g ∈ gs → AllIn g 0 65535 ∧ 1 ≤ g.length ∧ g.length ≤ 32) → gs.length ≤ 32 → out.length + 72 * gs.length ≤ 10000 →
    ∃ rs, squeeze_Pack.g0 k gs out = some (out ++ pk rs) ∧ Codes k gs rs := by
  intro gs
  induction gs with
  | nil => intro out _ _ _; exact ⟨[], by rw [pk, List.append_nil]; rfl, trivial⟩
  | cons g gs ih =>
    intro out hg hl ho
    rw [List.length_cons] at hl ho
    obtain ⟨g1, g2, g3⟩ := hg g (List.mem_cons_self ..)
    obtain ⟨r, bs, e, hw, hb, hr⟩ := row_ex k g g1 g2 g3 hk
    have hr1 : 1 ≤ r.length := by
      have := hw.len
      obtain ⟨f, gs', body, _, _, _, _, rfl⟩ := hb
      rw [List.length_append, bitsOf_len] at this
      omega
    have e1 : u8 (shr (r.length : Int) 8) = 0 := by rw [shr_def, u8_id (by omega) (by omega)]; omega
    have e2 : u8 (r.length : Int) = (r.length : Int) := u8_id (by omega) (by omega)
    obtain ⟨rs, e3, hc⟩ := ih (out ++ [0, (r.length : Int)] ++ r) (fun x hx => hg x (List.mem_cons_of_mem _ hx)) (by omega) (by simp; omega)
    refine ⟨r :: rs, ?_, ⟨e, ⟨bs, hw, hb⟩, hr, g1, hr1⟩, hc⟩
    rw [squeeze_Pack.g0, bnd e, ifp (by omega), e1, e2, ifp (by simp; omega), e3, pk]
    simp
theorem pack_ex (k w h : Nat) (counts : List Int) (w0 : 1 ≤ w) (w1 : w ≤ 32) (h0 : 1 ≤ h) (h1 : h ≤ 32) (hl : counts.length = w * h) (hs : AllIn counts 0 65535) (hk : 10000 ≤ k) :
    ∃ gs rs, squeeze_Pack k (w : Int) (h : Int) counts = some ((w : Int) :: (h : Int) :: pk rs, 0) ∧ gs.flatten = counts ∧ (∀ g, g ∈ gs → g.length = w) ∧ gs.length = h ∧ Codes k gs rs := by
  have hp : w * h ≤ 32 * 32 := Nat.mul_le_mul w1 h1
  obtain ⟨gs, e1, e2, hf, hck⟩ := chunk_ex k w counts w0 (by omega) (by omega) hk
  obtain ⟨hg, hgl⟩ := hck.all w0 (h := h) (by rw [hf, hl])
  obtain ⟨rs, e3, hc⟩ := pack_g0 k hk gs [(w : Int), (h : Int)] (fun g hgm => ⟨fun x hx => hs x (by rw [← hf]; exact List.mem_flatten.mpr ⟨g, hgm, hx⟩), by rw [hg g hgm]; exact w0, by rw [hg g hgm]; exact w1⟩) (by omega) (by simp; omega)
  refine ⟨gs, rs, ?_, hf, hg, hgl, hc⟩
  unfold squeeze_Pack
  rw [bnd (check_ok k w h counts (by omega) (by omega) (by omega) (by omega) (by rw [hl]; simp) hs (by omega)), ifn (by decide), bnd e1]; dsimp only
  rw [bnd e2, u8_id (by omega) (by omega), u8_id (by omega) (by omega), bnd e3]
  simp
/-- Where codes begin. -/
def offs (s : Int) : List (List Int) → List Int
  | [] => []
  | r :: rs => (s + 2) :: offs (s + (2 + (r.length : Int))) rs
theorem offs_len (s : Int) : ∀ rs, (offs s rs).length = rs.length
  | [] => rfl
  | r :: rs => by rw [offs, List.length_cons, List.length_cons, offs_len]
theorem offs_append (s : Int) : ∀ (a b : List (List Int)), offs s (a ++ b) = offs s a ++ offs (s + (pk a).length) b
  | [], b => by simp [offs, pk]
  | r :: a, b => by
    rw [List.cons_append, offs, offs, offs_append _ a b, pk]
    simp only [List.cons_append, List.length_cons, List.length_append]
    congr 3
    omega
theorem index_l0 (k : Nat) (b : List Int) (W H : Int) (h : Nat) (hb1 : rd b 1 = (h : Int)) (h32 : h ≤ 32) (bl : b.length ≤ 100000) : ∀ (q : List (List Int)) (pre at_ : List Int) (fuel : Nat), b = pre ++ pk q → at_.length + q.length = h → (∀ r, r ∈ q → r.length ≤ 70) → q.length < fuel →
    squeeze_Index.l0 k b fuel W H at_ (pre.length : Int) (at_.length : Int) = some (Sum.inr (W, H, at_ ++ offs (pre.length : Int) q, (b.length : Int))) := by
  intro q
  induction q with
  | nil =>
    intro pre at_ fuel hb ha hr hf
    obtain ⟨fuel, rfl⟩ : ∃ q, fuel = q + 1 := ⟨fuel - 1, by omega⟩
    rw [List.length_nil] at ha
    rw [pk, List.append_nil] at hb
    rw [squeeze_Index.l0, hb1, wid (by omega) (by omega), ifn (by omega), offs, List.append_nil, hb]
  | cons r q ih =>
    intro pre at_ fuel hb ha hr hf
    obtain ⟨fuel, rfl⟩ : ∃ q, fuel = q + 1 := ⟨fuel - 1, by omega⟩
    rw [List.length_cons] at ha hf
    have hr1 := hr r (List.mem_cons_self ..)
    rw [pk] at hb
    have lb : b.length = pre.length + (2 + r.length + (pk q).length) := by rw [hb]; simp; omega
    have r0 : rd b (pre.length : Int) = 0 := rd_at hb rfl
    have r1 : rd b ((pre.length : Int) + 1) = (r.length : Int) := rd_at (pre := pre ++ [0]) (post := r ++ pk q) (by rw [hb]; simp) (by simp)
    have hor := i64_or_sum 0 (r.length : Int) 8 (by decide) (by omega) (by rw [show (2 : Int) ^ 8 = 256 by decide]; omega) (by omega)
    rw [Int.zero_mul, Int.zero_add] at hor
    have hn := ih (pre ++ [0, (r.length : Int)] ++ r) (at_ ++ [(pre.length : Int) + 2]) fuel (by rw [hb]; simp) (by simp; omega) (fun x hx => hr x (List.mem_cons_of_mem _ hx)) (by omega)
    rw [show ((pre ++ [0, (r.length : Int)] ++ r).length : Int) = (pre.length : Int) + (2 + (r.length : Int)) by simp; omega, show ((at_ ++ [(pre.length : Int) + 2]).length : Int) = (at_.length : Int) + 1 by simp] at hn
    rw [squeeze_Index.l0, hb1, wid (x := (h : Int)) (by omega) (by omega), ifp (by omega), wid (x := (b.length : Int) - (pre.length : Int)) (by omega) (by omega), ifn (by omega), ifp (by omega), ifp (by omega), wid (x := (pre.length : Int) + 1) (by omega) (by omega), ifp (by omega), ifp (by omega), ifp (by omega), r0, r1, wid (x := 0) (by decide) (by decide), Int.zero_mul, wid (x := 0) (by decide) (by decide), wid (x := (r.length : Int)) (by omega) (by omega), hor,
      wid (x := (b.length : Int) - (pre.length : Int) - 2) (by omega) (by omega), ifn (by omega), wid (x := (pre.length : Int) + 2) (by omega) (by omega), wid (x := 2 + (r.length : Int)) (by omega) (by omega), wid (x := (pre.length : Int) + (2 + (r.length : Int))) (by omega) (by omega), wid (x := (at_.length : Int) + 1) (by omega) (by omega), hn, offs]
    simp
theorem index_ex (k w h : Nat) (rs : List (List Int)) (w0 : 1 ≤ w) (w1 : w ≤ 32) (h0 : 1 ≤ h) (h1 : h ≤ 32) (hl : rs.length = h) (hr : ∀ r, r ∈ rs → r.length ≤ 70) (hk : 1000 ≤ k) :
    squeeze_Index k ((w : Int) :: (h : Int) :: pk rs) = some ((w : Int), (h : Int), offs 2 rs ++ [(((w : Int) :: (h : Int) :: pk rs).length : Int)], 0) := by
  have hp := pk_len hr
  generalize hb : ((w : Int) :: (h : Int) :: pk rs) = b
  have lb : b.length = 2 + (pk rs).length := by rw [← hb]; simp; omega
  have b0 : rd b 0 = (w : Int) := by rw [← hb]; rfl
  have b1 : rd b 1 = (h : Int) := by rw [← hb]; rfl
  have hi := index_l0 k b (w : Int) (h : Int) h b1 h1 (by omega) rs [(w : Int), (h : Int)] [] k (by rw [← hb]; rfl) (by simpa using hl) hr (by omega)
  have hi' : squeeze_Index.l0 k b k (w : Int) (h : Int) [] 2 0 = some (Sum.inr ((w : Int), (h : Int), offs 2 rs, (b.length : Int))) := hi
  unfold squeeze_Index
  rw [ifn (by omega), ifp (by omega), b0, ifn (by omega), ifn (by omega), ifp (by omega), b1, ifn (by omega), ifn (by omega), wid (x := (w : Int)) (by omega) (by omega), wid (x := (h : Int)) (by omega) (by omega), bnd hi']
  show (if (b.length : Int) ≠ (b.length : Int) then _ else _) = _
  rw [ifn (by simp), ifp (by rw [offs_len]; omega)]
theorem split_at {α : Type} (l : List α) (i : Nat) (h : i < l.length) : ∃ p x q, l = p ++ x :: q ∧ p.length = i :=
  ⟨l.take i, l[i], l.drop (i + 1), by rw [List.getElem_cons_drop, List.take_append_drop], by rw [List.length_take]; omega⟩
/-- A row, out of what holds its code at its place. -/
theorem row_at (k w h : Nat) (rs p q : List (List Int)) (r c : List Int) (w0 : 1 ≤ w) (w1 : w ≤ 32) (h0 : 1 ≤ h) (h1 : h ≤ 32) (hl : rs.length = h) (hr : ∀ r, r ∈ rs → r.length ≤ 70) (hk : 300000 ≤ k) (hrs : rs = p ++ r :: q) (hc : c.length = w)
    (hcode : squeeze_row k c = some r ∧ (∃ bs, WB r bs ∧ RB c bs) ∧ r.length ≤ 70 ∧ AllIn c 0 65535 ∧ 1 ≤ r.length) : squeeze_Row k ((w : Int) :: (h : Int) :: pk rs) (p.length : Int) = some (c, 0) := by
  obtain ⟨e1, ⟨bs, hw, hb⟩, rl, ca, _⟩ := hcode
  have hp := pk_len hr
  have hidx := index_ex k w h rs w0 w1 h0 h1 hl hr (by omega)
  have lp : p.length + (q.length + 1) = h := by rw [← hl, hrs]; simp
  have lpk : (pk rs).length = (pk p).length + (2 + r.length + (pk q).length) := by rw [hrs, pk_append, pk]; simp; omega
  have o1 : rd (offs 2 rs ++ [(((w : Int) :: (h : Int) :: pk rs).length : Int)]) (p.length : Int) = 2 + ((pk p).length : Int) + 2 :=
    rd_at (pre := offs 2 p) (post := offs (2 + ((pk p).length : Int) + (2 + (r.length : Int))) q ++ [(((w : Int) :: (h : Int) :: pk rs).length : Int)]) (by rw [hrs, offs_append, offs]; simp) (by rw [offs_len])
  have o2 : (if (p.length : Int) + 1 < (h : Int) then some (w64 (rd (offs 2 rs ++ [(((w : Int) :: (h : Int) :: pk rs).length : Int)]) ((p.length : Int) + 1) - 2)) else some (rd (offs 2 rs ++ [(((w : Int) :: (h : Int) :: pk rs).length : Int)]) ((p.length : Int) + 1)) : Option Int) = some (2 + ((pk p).length : Int) + 2 + (r.length : Int)) := by
    cases q with
    | nil =>
      rw [List.length_nil] at lp
      rw [ifn (by omega), rd_at (pre := offs 2 rs) (post := []) (x := (((w : Int) :: (h : Int) :: pk rs).length : Int)) (by simp) (by rw [offs_len, hl]; omega)]
      rw [pk, List.length_nil] at lpk
      rw [List.length_cons, List.length_cons]
      congr 1
      omega
    | cons r2 q =>
      rw [List.length_cons] at lp
      rw [ifp (by omega), rd_at (pre := offs 2 p ++ [2 + ((pk p).length : Int) + 2]) (post := offs (2 + ((pk p).length : Int) + (2 + (r.length : Int)) + (2 + (r2.length : Int))) q ++ [(((w : Int) :: (h : Int) :: pk rs).length : Int)]) (x := 2 + ((pk p).length : Int) + (2 + (r.length : Int)) + 2) (by rw [hrs, offs_append, offs, offs]; simp) (by rw [List.length_append, offs_len]; simp), wid (by omega) (by omega)]
      congr 1
      omega
  have lo : ((offs 2 rs ++ [(((w : Int) :: (h : Int) :: pk rs).length : Int)]).length : Int) = (h : Int) + 1 := by rw [List.length_append, offs_len, hl]; simp
  have lbb : ((((w : Int) :: (h : Int) :: pk rs).length : Nat) : Int) = 2 + ((pk rs).length : Int) := by simp; omega
  have hcut : ((((w : Int) :: (h : Int) :: pk rs).take (2 + ((pk p).length : Int) + 2 + (r.length : Int)).toNat).drop (2 + ((pk p).length : Int) + 2).toNat) = r := by
    have hsp : ((w : Int) :: (h : Int) :: pk rs) = ((w : Int) :: (h : Int) :: (pk p ++ [0, (r.length : Int)])) ++ (r ++ pk q) := by rw [hrs, pk_append, pk]; simp
    have la : ((w : Int) :: (h : Int) :: (pk p ++ [0, (r.length : Int)])).length = 2 + (pk p).length + 2 := by simp; omega
    rw [hsp, show (2 + ((pk p).length : Int) + 2 + (r.length : Int)).toNat = 2 + (pk p).length + 2 + r.length by omega, show (2 + ((pk p).length : Int) + 2).toNat = 2 + (pk p).length + 2 by omega, ← la, List.take_append, List.drop_append]
    simp
  have hread := read_ex k c r bs ca (by omega) (by omega) hk e1 hw hb rl
  rw [hc] at hread
  unfold squeeze_Row
  rw [bnd hidx]; dsimp only
  rw [ifn (by decide), ifn (by omega), ifn (by omega), wid (x := (p.length : Int) + 1) (by omega) (by omega), ifp (by omega), ifp (by omega), bnd o2, ifp (by omega), ifp (by omega), o1, ifp (by omega), ifp (by omega), ifp (by omega), hcut, bnd hread]; dsimp only
  rw [ifn (by decide)]
/-- A row of counts. -/
theorem flat_row (w : Nat) : ∀ (p : List (List Int)) (c : List Int) (q : List (List Int)), (∀ g, g ∈ p ++ c :: q → g.length = w) → (((p ++ c :: q).flatten.take ((p.length + 1) * w)).drop (p.length * w)) = c ∧ (p.length + 1) * w ≤ (p ++ c :: q).flatten.length
  | [], c, q, h => by
    have hc := h c (by simp)
    simp only [List.nil_append, List.flatten_cons, List.length_nil, Nat.zero_add, Nat.one_mul, Nat.zero_mul, List.drop_zero, List.length_append]
    rw [← hc]
    exact ⟨by simp, by omega⟩
  | g :: p, c, q, h => by
    have hg := h g (by simp)
    obtain ⟨i1, i2⟩ := flat_row w p c q (fun x hx => h x (by simp at hx ⊢; exact .inr hx))
    simp only [List.cons_append, List.flatten_cons, List.length_cons, List.length_append]
    rw [show (p.length + 1 + 1) * w = g.length + (p.length + 1) * w by rw [hg, Nat.add_mul (p.length + 1) 1 w]; omega, show (p.length + 1) * w = g.length + p.length * w by rw [hg, Nat.add_mul p.length 1 w]; omega]
    rw [show (p.length + 1) * w = w + p.length * w by rw [Nat.add_mul p.length 1 w]; omega] at i1 i2
    refine ⟨?_, by rw [hg]; omega⟩
    rw [hg, ← hg, List.take_append, List.drop_append]
    simp only [Nat.add_sub_cancel_left]
    rw [List.take_of_length_le (by omega), List.drop_of_length_le (by omega), List.nil_append, hg, show w + p.length * w - w = p.length * w by omega]
    exact i1
theorem next_ex (k : Nat) (L : List Int) (a n : Int) (h1 : 1 ≤ n) (h2 : n ≤ 4611686018427387904) (a0 : 0 ≤ a) (a1 : a ≤ 4611686018427387904) :
    ∃ v, spymake_Stream_Next k ⟨L, a⟩ n = some (v, a + 1) ∧ 0 ≤ v ∧ v < n := by
  unfold spymake_Stream_Next
  dsimp only
  rw [wid (x := a + 1) (by omega) (by omega)]
  by_cases c : (L.length : Int) = 0
  · rw [ifp c]
    obtain ⟨v, hv, v0, v1⟩ := below_ex k (w64 ((a + 1) * 7919)) n h1 h2
    rw [bnd hv]
    exact ⟨v, rfl, v0, v1⟩
  · rw [ifn c, ifp c, show a + 1 - 1 = a by omega, wid (x := a) (by omega) (by omega)]
    have e1 := Int.tmod_lt_of_pos a (show 0 < (L.length : Int) by omega)
    have e2 : 0 ≤ Int.tmod a (L.length : Int) := Int.tmod_nonneg _ a0
    rw [ifp e2, ifp e1]
    obtain ⟨u, hu, _⟩ := below_ex k (rd L (Int.tmod a (L.length : Int))) 1073741824 (by decide) (by decide)
    rw [bnd hu]
    obtain ⟨v, hv, v0, v1⟩ := below_ex k (w64 (u + (w64 ((w64 (Int.tdiv a (L.length : Int))) * (w64 (7919 + (Int.tmod a (L.length : Int)))))))) n h1 h2
    rw [bnd hv]
    exact ⟨v, rfl, v0, v1⟩
theorem range_ex (k : Nat) (L : List Int) (a lo hi : Int) (h1 : lo ≤ hi) (h2 : hi - lo ≤ 1073741824) (h3 : -4611686018427387904 ≤ lo) (h4 : hi ≤ 4611686018427387904) (a0 : 0 ≤ a) (a1 : a ≤ 4611686018427387904) :
    ∃ v, spymake_Stream_Range k ⟨L, a⟩ lo hi = some (v, a + 1) ∧ lo ≤ v ∧ v ≤ hi := by
  unfold spymake_Stream_Range
  rw [ifn (by omega), wid (x := hi - lo) (by omega) (by omega), wid (x := hi - lo + 1) (by omega) (by omega)]
  obtain ⟨v, hv, v0, v1⟩ := next_ex k L a (hi - lo + 1) (by omega) (by omega) a0 a1
  rw [bnd hv]
  dsimp only
  rw [wid (by omega) (by omega)]
  exact ⟨_, rfl, by omega, by omega⟩
structure Good (S : S_Sensor) (most : Int) : Prop where
  W0 : 1 ≤ S.W
  W1 : S.W ≤ most
  H0 : 1 ≤ S.H
  H1 : S.H ≤ most
  lb : (S.Bias.length : Int) = S.W * S.H
  ld : (S.Dark.length : Int) = S.W * S.H
  lf : (S.Flat.length : Int) = S.W * S.H
  B : AllIn S.Bias 0 59
  D : AllIn S.Dark 0 33554432
  F : AllIn S.Flat 0 4096
  F0 : 200 ≤ S.Full
  F1 : S.Full ≤ 1048576
  G0 : 1 ≤ S.Gain
  G1 : S.Gain ≤ 64
  N0 : 0 ≤ S.Noise
  N1 : S.Noise ≤ 64
theorem Good.n {S : S_Sensor} {most : Int} (h : Good S most) (hm : most ≤ 32) : 1 ≤ S.W * S.H ∧ S.W * S.H ≤ 1024 := by
  have h1 := mul_le (a := S.W) (b := S.H) (A := 32) (B := 32) (by have := h.W0; omega) (by have := h.W1; omega) (by have := h.H0; omega) (by have := h.H1; omega)
  have h2 : 1 * 1 ≤ S.W * S.H := Int.mul_le_mul h.W0 h.H0 (by decide) (by have := h.W0; omega)
  omega
theorem push_len {l : List Int} {x : Int} {n : Int} (h : (l.length : Int) = n) : ((l ++ [x]).length : Int) = n + 1 := by simp; omega
theorem sensor_l0 (k : Nat) (L : List Int) (a0_ W H m : Int) (hn0 : 0 ≤ W * H) (hn : W * H ≤ 1024) (hm0 : 0 ≤ m) (hm : m ≤ 2) : ∀ (d n : Nat) (i a : Int) (B D F : List Int), i + d = W * H → 0 ≤ i → d < n → 0 ≤ a → a + 6 * d ≤ 4611686018427387904 →
    (B.length : Int) = i → (D.length : Int) = i → (F.length : Int) = i → AllIn B 0 59 → AllIn D 0 33554432 → AllIn F 0 4096 →
    ∃ a' B' D' F', spymake_Stream_Sensor.l0 k W H ⟨L, a0_⟩ m n i a B D F = some (a', B', D', F') ∧ a ≤ a' ∧ a' ≤ a + 6 * d ∧
      (B'.length : Int) = W * H ∧ (D'.length : Int) = W * H ∧ (F'.length : Int) = W * H ∧ AllIn B' 0 59 ∧ AllIn D' 0 33554432 ∧ AllIn F' 0 4096 := by
  intro d
  induction d with
  | zero =>
    intro n i a B D F hi i0 hd ha0 ha lB lD lF bB bD bF
    obtain ⟨n, rfl⟩ : ∃ j, n = j + 1 := ⟨n - 1, by omega⟩
    rw [spymake_Stream_Sensor.l0, wid (x := W * H) (by omega) (by omega), ifn (by omega)]
    exact ⟨a, B, D, F, rfl, by omega, by omega, by omega, by omega, by omega, bB, bD, bF⟩
  | succ d ih =>
    intro n i a B D F hi i0 hd ha0 ha lB lD lF bB bD bF
    obtain ⟨n, rfl⟩ : ∃ j, n = j + 1 := ⟨n - 1, by omega⟩
    rw [spymake_Stream_Sensor.l0, wid (x := W * H) (by omega) (by omega), ifp (by omega)]
    obtain ⟨v1, h1, p1, q1⟩ := next_ex k L a 60 (by decide) (by decide) (by omega) (by omega)
    rw [bnd h1]; dsimp only
    rw [ifp (by omega), wid (x := m * 16777216) (by omega) (by omega), wid (x := m * 16777216 + 1) (by omega) (by omega)]
    obtain ⟨v2, h2, p2, q2⟩ := next_ex k L (a + 1) (m * 16777216 + 1) (by omega) (by omega) (by omega) (by omega)
    rw [bnd h2]; dsimp only
    rw [ifp (by omega)]
    obtain ⟨v3, h3, p3, q3⟩ := range_ex k L (a + 1 + 1) 2048 4096 (by decide) (by decide) (by decide) (by decide) (by omega) (by omega)
    rw [bnd h3]; dsimp only
    obtain ⟨v4, h4, p4, q4⟩ := next_ex k L (a + 1 + 1 + 1) 12 (by decide) (by decide) (by omega) (by omega)
    rw [bnd h4]; dsimp only
    by_cases c : v4 = 0
    · rw [ifp c]
      obtain ⟨v5, h5, p5, q5⟩ := next_ex k L (a + 1 + 1 + 1 + 1) 512 (by decide) (by decide) (by omega) (by omega)
      rw [bnd h5]; dsimp only
      obtain ⟨v6, h6, p6, q6⟩ := next_ex k L (a + 1 + 1 + 1 + 1 + 1) 2 (by decide) (by decide) (by omega) (by omega)
      rw [bnd h6]; dsimp only
      have hm6 := mul_le (a := v5) (b := v6) (A := 511) (B := 1) p5 (by omega) p6 (by omega)
      rw [ifp (by omega), wid (x := i + 1) (by omega) (by omega), wid (x := v5 * v6) (by omega) (by omega)]
      obtain ⟨a', B', D', F', e, g1, g2, g3, g4, g5, g6, g7, g8⟩ := ih n (i + 1) (a + 1 + 1 + 1 + 1 + 1 + 1) (B ++ [v1]) (D ++ [v2]) (F ++ [v5 * v6]) (by omega) (by omega) (by omega) (by omega) (by omega) (push_len lB) (push_len lD) (push_len lF) (bB.push p1 (by omega)) (bD.push p2 (by omega)) (bF.push (by omega) (by omega))
      exact ⟨a', B', D', F', e, by omega, by omega, g3, g4, g5, g6, g7, g8⟩
    · rw [ifn c, ifp (by omega), wid (x := i + 1) (by omega) (by omega)]
      obtain ⟨a', B', D', F', e, g1, g2, g3, g4, g5, g6, g7, g8⟩ := ih n (i + 1) (a + 1 + 1 + 1 + 1) (B ++ [v1]) (D ++ [v2]) (F ++ [v3]) (by omega) (by omega) (by omega) (by omega) (by omega) (push_len lB) (push_len lD) (push_len lF) (bB.push p1 (by omega)) (bD.push p2 (by omega)) (bF.push (by omega) (by omega))
      exact ⟨a', B', D', F', e, by omega, by omega, g3, g4, g5, g6, g7, g8⟩
theorem sensor_ex (k : Nat) (L : List Int) (a most : Int) (hm0 : 1 ≤ most) (hm : most ≤ 32) (a0 : 0 ≤ a) (a1 : a ≤ 1000000) (hk : 1100 ≤ k) :
    ∃ S a', spymake_Stream_Sensor k ⟨L, a⟩ most = some (S, a') ∧ Good S most ∧ a ≤ a' ∧ a' ≤ a + 7000 := by
  unfold spymake_Stream_Sensor
  dsimp only
  obtain ⟨W, h1, W0, W1⟩ := range_ex k L a 1 most (by omega) (by omega) (by omega) (by omega) (by omega) (by omega)
  rw [bnd h1]; dsimp only
  obtain ⟨H, h2, H0, H1⟩ := range_ex k L (a + 1) 1 most (by omega) (by omega) (by omega) (by omega) (by omega) (by omega)
  rw [bnd h2]; dsimp only
  obtain ⟨u, h3, u0, u1⟩ := range_ex k L (a + 1 + 1) 20000 1048576 (by decide) (by decide) (by decide) (by decide) (by omega) (by omega)
  rw [bnd h3]; dsimp only
  obtain ⟨g, h4, g0, g1⟩ := range_ex k L (a + 1 + 1 + 1) 1 4 (by decide) (by decide) (by decide) (by decide) (by omega) (by omega)
  rw [bnd h4]; dsimp only
  obtain ⟨n, h5, n0, n1⟩ := next_ex k L (a + 1 + 1 + 1 + 1) 4 (by decide) (by decide) (by omega) (by omega)
  rw [bnd h5]; dsimp only
  obtain ⟨z, h6, z0, z1⟩ := next_ex k L (a + 1 + 1 + 1 + 1 + 1) 6 (by decide) (by decide) (by omega) (by omega)
  rw [bnd h6]; dsimp only
  have hWH := mul_le (a := W) (b := H) (A := 32) (B := 32) (by omega) (by omega) (by omega) (by omega)
  have fin : ∀ (a' : Int) (Fu G N : Int), a ≤ a' → a' ≤ a + 20 → 200 ≤ Fu → Fu ≤ 1048576 → 1 ≤ G → G ≤ 64 → 0 ≤ N → N ≤ 64 →
      ∃ S a2, ((spymake_Stream_Next k (⟨L, a'⟩ : S_Stream) 3).bind fun (vt164, vt165) => ((spymake_Stream_Sensor.l0 k W H ⟨L, a⟩ vt164 k 0 vt165 ([] : List Int) ([] : List Int) ([] : List Int)).bind fun (x675, x676, x682, x688) => (some ((⟨W, H, x676, x682, x688, Fu, G, N⟩ : S_Sensor), x675)))) = some (S, a2) ∧
        Good S most ∧ a ≤ a2 ∧ a2 ≤ a + 7000 := by
    intro a' Fu G N b0 b1 c0 c1 d0 d1 e0 e1
    obtain ⟨m, h7, m0, m1⟩ := next_ex k L a' 3 (by decide) (by decide) (by omega) (by omega)
    rw [bnd h7]; dsimp only
    obtain ⟨a2, B, D, F, h8, r1, r2, r3, r4, r5, r6, r7, r8⟩ := sensor_l0 k L a W H m (by omega) (by omega) m0 (by omega) (W * H).toNat k 0 (a' + 1) [] [] [] (by omega) (by omega) (by omega) (by omega) (by omega) rfl rfl rfl .nil .nil .nil
    rw [bnd h8]; dsimp only
    exact ⟨_, _, rfl, ⟨W0, W1, H0, H1, r3, r4, r5, r6, r7, r8, c0, c1, d0, d1, e0, e1⟩, by omega, by omega⟩
  by_cases c : z = 0
  · rw [ifp c]
    obtain ⟨v, hv, v0, v1⟩ := range_ex k L (a + 1 + 1 + 1 + 1 + 1 + 1) 200 5000 (by decide) (by decide) (by decide) (by decide) (by omega) (by omega)
    rw [bnd hv]; dsimp only
    exact fin _ v g n (by omega) (by omega) (by omega) (by omega) (by omega) (by omega) (by omega) (by omega)
  · rw [ifn c]
    by_cases c2 : z = 1
    · rw [ifp c2]
      obtain ⟨v, hv, v0, v1⟩ := range_ex k L (a + 1 + 1 + 1 + 1 + 1 + 1) 1 64 (by decide) (by decide) (by decide) (by decide) (by omega) (by omega)
      rw [bnd hv]; dsimp only
      obtain ⟨x, hx, x0, x1⟩ := next_ex k L (a + 1 + 1 + 1 + 1 + 1 + 1 + 1) 20 (by decide) (by decide) (by omega) (by omega)
      rw [bnd hx]; dsimp only
      exact fin _ u v x (by omega) (by omega) (by omega) (by omega) (by omega) (by omega) (by omega) (by omega)
    · rw [ifn c2]
      exact fin _ u g n (by omega) (by omega) (by omega) (by omega) (by omega) (by omega) (by omega) (by omega)
theorem numeral_size {n : Int} (h0 : -9223372036854775808 ≤ n) (h1 : n ≤ 9223372036854775807) : (numeral n).size ≤ 21 := by
  have := Go.Lib.itoa_length_le n h0 h1
  show (Go.Lib.itoa n).toArray.size ≤ 21
  simpa using this
def Sml (x : Int) : Prop := -1000000000000 ≤ x ∧ x ≤ 1000000000000
theorem bind_ite {α β : Type} {c : Prop} [Decidable c] {x y : Option α} {g : α → Option β} {Q : Option β → Prop} (P : α → Prop) (hx : c → ∃ v, x = some v ∧ P v) (hy : ¬ c → ∃ v, y = some v ∧ P v) (hg : ∀ v, P v → Q (g v)) : Q ((if c then x else y).bind g) := by
  by_cases h : c
  · obtain ⟨v, e, p⟩ := hx h
    rw [ifp h, bnd e]; exact hg v p
  · obtain ⟨v, e, p⟩ := hy h
    rw [ifn h, bnd e]; exact hg v p
theorem next_b {β : Type} {Q : Option β → Prop} {g : Int × Int → Option β} (k : Nat) (L : List Int) (a n : Int) (h1 : 1 ≤ n) (h2 : n ≤ 4611686018427387904) (a0 : 0 ≤ a) (a1 : a ≤ 4611686018427387904) (h : ∀ v, 0 ≤ v → v < n → Q (g (v, a + 1))) : Q ((spymake_Stream_Next k ⟨L, a⟩ n).bind g) := by
  obtain ⟨v, e, v0, v1⟩ := next_ex k L a n h1 h2 a0 a1
  rw [bnd e]; exact h v v0 v1
theorem range_b {β : Type} {Q : Option β → Prop} {g : Int × Int → Option β} (k : Nat) (L : List Int) (a lo hi : Int) (h1 : lo ≤ hi) (h2 : hi - lo ≤ 1073741824) (h3 : -4611686018427387904 ≤ lo) (h4 : hi ≤ 4611686018427387904) (a0 : 0 ≤ a) (a1 : a ≤ 4611686018427387904) (h : ∀ v, lo ≤ v → v ≤ hi → Q (g (v, a + 1))) : Q ((spymake_Stream_Range k ⟨L, a⟩ lo hi).bind g) := by
  obtain ⟨v, e, v0, v1⟩ := range_ex k L a lo hi h1 h2 h3 h4 a0 a1
  rw [bnd e]; exact h v v0 v1
structure PGood (p : S_Plate) : Prop where
  A : Sml p.A
  B : Sml p.B
  C : Sml p.C
  D : Sml p.D
def PAns (a : Int) (e : Option (S_Plate × Int)) : Prop := ∃ p a', e = some (p, a') ∧ a ≤ a' ∧ a' ≤ a + 5 ∧ PGood p
theorem plate_ex (k : Nat) (L : List Int) (a : Int) (a0 : 0 ≤ a) (a1 : a ≤ 2000000) : PAns a (spymake_Stream_Plate k ⟨L, a⟩) := by
  unfold spymake_Stream_Plate
  refine next_b k L a 3 (by decide) (by decide) (by omega) (by omega) fun v v0 v1 => ?_
  dsimp only
  obtain ⟨m, hm, m0, m1⟩ : ∃ m, rd ([2, 30, 1024] : List Int) v = m ∧ 2 ≤ m ∧ m ≤ 1024 := by
    rcases (show v = 0 ∨ v = 1 ∨ v = 2 by omega) with rfl | rfl | rfl <;> exact ⟨_, rfl, by decide, by decide⟩
  rw [ifp v0, ifp (by show v < 3; exact v1), hm, wid (x := 0 - m) (by omega) (by omega)]
  refine range_b k L (a + 1) (0 - m) m (by omega) (by omega) (by omega) (by omega) (by omega) (by omega) fun A A0 A1 => ?_
  dsimp only
  refine range_b k L (a + 1 + 1) (0 - m) m (by omega) (by omega) (by omega) (by omega) (by omega) (by omega) fun B B0 B1 => ?_
  dsimp only
  refine range_b k L (a + 1 + 1 + 1) (0 - m) m (by omega) (by omega) (by omega) (by omega) (by omega) (by omega) fun C C0 C1 => ?_
  dsimp only
  refine range_b k L (a + 1 + 1 + 1 + 1) (0 - m) m (by omega) (by omega) (by omega) (by omega) (by omega) (by omega) fun D D0 D1 => ?_
  dsimp only
  split
  · exact ⟨_, _, rfl, by omega, by omega, ⟨by dsimp only; omega, by dsimp only; omega⟩, ⟨by dsimp only; omega, by dsimp only; omega⟩, ⟨by dsimp only; omega, by dsimp only; omega⟩, ⟨by dsimp only; omega, by dsimp only; omega⟩⟩
  · exact ⟨_, _, rfl, by omega, by omega, ⟨by dsimp only; omega, by dsimp only; omega⟩, ⟨by dsimp only; omega, by dsimp only; omega⟩, ⟨by dsimp only; omega, by dsimp only; omega⟩, ⟨by dsimp only; omega, by dsimp only; omega⟩⟩
structure XGood (x : S_Shot) (kind : Int) : Prop where
  K : x.Kind = kind
  N : Sml x.Number
  B : Sml x.Begin
  T : Sml x.Beats
  P : PGood x.Plate
  S : Sml x.Seeing
  X : Sml x.DriftX
  Y : Sml x.DriftY
def XAns (a kind : Int) (e : Option (S_Shot × Int)) : Prop := ∃ x a', e = some (x, a') ∧ a ≤ a' ∧ a' ≤ a + 40 ∧ XGood x kind
theorem Sml.of {x : Int} (h0 : -1000000000000 ≤ x) (h1 : x ≤ 1000000000000) : Sml x := ⟨h0, h1⟩
theorem PGood.zero : PGood ⟨0, 0, 0, 0⟩ := ⟨by unfold Sml; decide, by unfold Sml; decide, by unfold Sml; decide, by unfold Sml; decide⟩
theorem shot_ex (k : Nat) (L : List Int) (S : S_Sensor) (a kind number : Int) (a0 : 0 ≤ a) (a1 : a ≤ 1000000) (k0 : 0 ≤ kind) (k1 : kind ≤ 3) (n0 : 1 ≤ number) (n1 : number ≤ 99) : XAns a kind (spymake_Stream_Shot k ⟨L, a⟩ S kind number) := by
  unfold spymake_Stream_Shot
  refine next_b k L a 1073741824 (by decide) (by decide) (by omega) (by omega) fun seed _ _ => ?_
  dsimp only
  refine range_b k L (a + 1) (-3000) 3000 (by decide) (by decide) (by decide) (by decide) (by omega) (by omega) fun beg b0 b1 => ?_
  dsimp only
  refine next_b k L (a + 1 + 1) 5 (by decide) (by decide) (by omega) (by omega) fun c _ _ => ?_
  dsimp only
  refine bind_ite (fun v : Int × Int => a ≤ v.1 ∧ v.1 ≤ a + 4 ∧ Sml v.2) (fun _ => ?_) (fun _ => ⟨_, rfl, by dsimp only; omega, by dsimp only; omega, Sml.of (by dsimp only; omega) (by dsimp only; omega)⟩) ?_
  · refine range_b (Q := fun e => ∃ v : Int × Int, e = some v ∧ a ≤ v.1 ∧ v.1 ≤ a + 4 ∧ Sml v.2) k L (a + 1 + 1 + 1) (-30) 30 (by decide) (by decide) (by decide) (by decide) (by omega) (by omega) fun v v0 v1 => ?_
    dsimp only
    rw [wid (x := v * 28800000) (by omega) (by omega)]
    exact ⟨_, rfl, by dsimp only; omega, by dsimp only; omega, Sml.of (by dsimp only; omega) (by dsimp only; omega)⟩
  rintro ⟨a2, B⟩ ⟨h1, h2, hB⟩
  dsimp only at h1 h2 hB ⊢
  refine bind_ite (fun v : Int × Int => a ≤ v.1 ∧ v.1 ≤ a + 8 ∧ Sml v.2) (fun _ => ?_) (fun _ => ⟨_, rfl, by dsimp only; omega, by dsimp only; omega, Sml.of (by dsimp only; omega) (by dsimp only; omega)⟩) ?_
  · refine next_b (Q := fun e => ∃ v : Int × Int, e = some v ∧ a ≤ v.1 ∧ v.1 ≤ a + 8 ∧ Sml v.2) k L a2 3 (by decide) (by decide) (by omega) (by omega) fun v v0 v1 => ?_
    dsimp only
    obtain ⟨m, hm, m0, m1⟩ : ∃ m, rd ([2, 5, 16] : List Int) v = m ∧ 2 ≤ m ∧ m ≤ 16 := by
      rcases (show v = 0 ∨ v = 1 ∨ v = 2 by omega) with rfl | rfl | rfl <;> exact ⟨_, rfl, by decide, by decide⟩
    rw [ifp v0, ifp (by show v < 3; exact v1), hm]
    refine range_b (Q := fun e => ∃ v : Int × Int, e = some v ∧ a ≤ v.1 ∧ v.1 ≤ a + 8 ∧ Sml v.2) k L (a2 + 1) 1 m (by omega) (by omega) (by decide) (by omega) (by omega) (by omega) fun u u0 u1 => ?_
    dsimp only
    exact ⟨_, rfl, by dsimp only; omega, by dsimp only; omega, Sml.of (by dsimp only; omega) (by dsimp only; omega)⟩
  rintro ⟨a3, T⟩ ⟨h3, h4, hT⟩
  dsimp only at h3 h4 hT ⊢
  have z : Sml 0 := by unfold Sml; decide
  have hN : Sml number := Sml.of (by omega) (by omega)
  by_cases c2 : kind = 2
  · rw [ifp c2]
    refine next_b k L a3 3 (by decide) (by decide) (by omega) (by omega) fun v v0 v1 => ?_
    dsimp only
    obtain ⟨m, hm, m0, m1⟩ : ∃ m, rd ([100, 3000, 40000] : List Int) v = m ∧ 100 ≤ m ∧ m ≤ 40000 := by
      rcases (show v = 0 ∨ v = 1 ∨ v = 2 by omega) with rfl | rfl | rfl <;> exact ⟨_, rfl, by decide, by decide⟩
    rw [ifp v0, ifp (by show v < 3; exact v1), hm]
    refine range_b k L (a3 + 1) 1 m (by omega) (by omega) (by decide) (by omega) (by omega) (by omega) fun u u0 u1 => ?_
    dsimp only
    exact ⟨_, _, rfl, by omega, by omega, rfl, hN, hB, hT, .zero, z, z, z⟩
  · rw [ifn c2]
    by_cases c3 : kind = 3
    · rw [ifp c3]
      obtain ⟨p, a4, e4, p0, p1, hp⟩ := plate_ex k L a3 (by omega) (by omega)
      rw [bnd e4]; dsimp only
      refine next_b k L a4 2 (by decide) (by decide) (by omega) (by omega) fun v v0 v1 => ?_
      dsimp only
      rw [ifp (by omega)]
      refine next_b k L (a4 + 1) 6 (by decide) (by decide) (by omega) (by omega) fun u u0 u1 => ?_
      dsimp only
      refine bind_ite (fun v : Int => Sml v) (fun _ => ⟨_, rfl, by unfold Sml; decide⟩) (fun _ => ⟨_, rfl, ?_⟩) ?_
      · rcases (show v = 0 ∨ v = 1 by omega) with rfl | rfl
        · exact Sml.of (by decide) (by decide)
        · exact Sml.of (by decide) (by decide)
      intro g hg
      refine next_b k L (a4 + 1 + 1) 3 (by decide) (by decide) (by omega) (by omega) fun q q0 q1 => ?_
      dsimp only
      by_cases c4 : q = 0
      · rw [ifp c4]
        refine range_b k L (a4 + 1 + 1 + 1) (-64) 64 (by decide) (by decide) (by decide) (by decide) (by omega) (by omega) fun x x0 x1 => ?_
        dsimp only
        refine range_b k L (a4 + 1 + 1 + 1 + 1) (-64) 64 (by decide) (by decide) (by decide) (by decide) (by omega) (by omega) fun y y0 y1 => ?_
        dsimp only
        exact ⟨_, _, rfl, by omega, by omega, rfl, hN, hB, hT, hp, hg, Sml.of (by dsimp only; omega) (by dsimp only; omega), Sml.of (by dsimp only; omega) (by dsimp only; omega)⟩
      · rw [ifn c4]
        exact ⟨_, _, rfl, by omega, by omega, rfl, hN, hB, hT, hp, hg, z, z⟩
    · rw [ifn c3]
      exact ⟨_, _, rfl, by omega, by omega, rfl, hN, hB, hT, .zero, z, z, z⟩
theorem card_ex (k : Nat) (key unit : ByteArray) (n : Int) (h : Sml n) : ∃ c, spymake_Cards_1 k key n unit = some c := by
  obtain ⟨h0, h1⟩ := h
  unfold spymake_Cards_1 strconv_FormatInt
  rw [ifp rfl, ifp (by omega), ifp (by omega)]
  exact ⟨_, rfl⟩
theorem cards_l0 (k : Nat) (x : S_Shot) (hp : PGood x.Plate) : ∀ (d fuel : Nat) (out : List S_Card) (i : Int), i + d = 4 → 0 ≤ i → out.length + d ≤ 100 → d < fuel → ∃ out', spymake_Cards.l0 k x fuel out i = some out' ∧ out'.length = out.length + d := by
  intro d
  induction d with
  | zero =>
    intro fuel out i h1 h2 h3 hf
    obtain ⟨fuel, rfl⟩ : ∃ q, fuel = q + 1 := ⟨fuel - 1, by omega⟩
    rw [spymake_Cards.l0, ifn (by omega)]
    exact ⟨out, rfl, rfl⟩
  | succ d ih =>
    intro fuel out i h1 h2 h3 hf
    obtain ⟨fuel, rfl⟩ : ∃ q, fuel = q + 1 := ⟨fuel - 1, by omega⟩
    have hs : Sml (rd [x.Plate.A, x.Plate.B, x.Plate.C, x.Plate.D] i) := by
      rcases (show i = 0 ∨ i = 1 ∨ i = 2 ∨ i = 3 by omega) with rfl | rfl | rfl | rfl
      · exact hp.A
      · exact hp.B
      · exact hp.C
      · exact hp.D
    rw [spymake_Cards.l0, ifp (by omega), ifp h2, ifp (by show 6 + 1 ≤ 9223372036854775807; decide)]
    obtain ⟨c, ec⟩ := card_ex k ((⟨#[80, 76, 65, 84, 69, 45]⟩ : ByteArray) ++ (bstr ([u8 (w64 (65 + i))] : List Int))) (⟨#[]⟩ : ByteArray) _ hs
    rw [bnd ec, ifp (by omega), wid (x := i + 1) (by omega) (by omega)]
    obtain ⟨o, e, l⟩ := ih fuel (out ++ [c]) (i + 1) (by omega) (by omega) (by simp; omega) (by omega)
    exact ⟨o, e, by rw [l]; simp; omega⟩
theorem cards_ex (k : Nat) (x : S_Shot) (kind : Int) (h : XGood x kind) (k0 : 0 ≤ kind) (k1 : kind ≤ 3) (hk : 10 ≤ k) : ∃ l, spymake_Cards k x = some l ∧ l.length ≤ 20 := by
  unfold spymake_Cards
  rw [h.K]
  obtain ⟨v, e, v0, v1⟩ := below_ex k kind 4 (by decide) (by decide)
  obtain ⟨c1, e1⟩ := card_ex k (⟨#[78, 85, 77, 66, 69, 82]⟩ : ByteArray) (⟨#[]⟩ : ByteArray) _ h.N
  obtain ⟨c2, e2⟩ := card_ex k (⟨#[66, 69, 71, 73, 78]⟩ : ByteArray) (⟨#[116, 105, 99, 107]⟩ : ByteArray) _ h.B
  obtain ⟨c3, e3⟩ := card_ex k (⟨#[66, 69, 65, 84, 83]⟩ : ByteArray) (⟨#[98, 101, 97, 116]⟩ : ByteArray) _ h.T
  rw [bnd e, ifp v0, ifp (by show v < 4; exact v1), bnd e1, bnd e2, bnd e3]
  by_cases c : kind ≠ 3
  · rw [ifp c]
    exact ⟨_, rfl, by simp⟩
  · rw [ifn c]
    obtain ⟨o, e4, l⟩ := cards_l0 k x h.P 4 k [(⟨⟨#[75, 73, 78, 68]⟩, rd ([(⟨#[98, 105, 97, 115]⟩ : ByteArray), ⟨#[100, 97, 114, 107]⟩, ⟨#[102, 108, 97, 116]⟩, ⟨#[115, 99, 105, 101, 110, 99, 101]⟩] : List ByteArray) v, ⟨#[]⟩, ⟨#[]⟩⟩ : S_Card), c1, c2, c3] 0 (by decide) (by decide) (by show 4 + 4 ≤ 100; decide) (by omega)
    obtain ⟨c5, e5⟩ := card_ex k (⟨#[83, 69, 69, 73, 78, 71]⟩ : ByteArray) (⟨#[99, 101, 108, 108]⟩ : ByteArray) _ h.S
    obtain ⟨c6, e6⟩ := card_ex k (⟨#[68, 82, 73, 70, 84, 45, 88]⟩ : ByteArray) (⟨#[115, 117, 98]⟩ : ByteArray) _ h.X
    obtain ⟨c7, e7⟩ := card_ex k (⟨#[68, 82, 73, 70, 84, 45, 89]⟩ : ByteArray) (⟨#[115, 117, 98]⟩ : ByteArray) _ h.Y
    have l' : o.length = 8 := l
    rw [bnd e4, bnd e5, bnd e6, bnd e7, ifp (by omega)]
    exact ⟨_, rfl, by simp; omega⟩
theorem frame_l0 (k : Nat) (L : List Int) (a0_ W H v base m : Int) (hm : rd ([2, 256, 300, 5000, 65536] : List Int) v = m) (m0 : 2 ≤ m) (m1 : m ≤ 65536) (hn : W * H ≤ 1024) (hn0 : 0 ≤ W * H) : ∀ (d fuel : Nat) (i a : Int) (c : List Int), i + d = W * H → 0 ≤ i → d < fuel → 0 ≤ a → a + 3 * d ≤ 4000000 → (c.length : Int) = i → AllIn c 0 65535 →
    ∃ a' c', spymake_Stream_Frame.l0 k W H ⟨L, a0_⟩ v base fuel i a c = some (a', c') ∧ a ≤ a' ∧ a' ≤ a + 3 * d ∧ (c'.length : Int) = W * H ∧ AllIn c' 0 65535 := by
  intro d
  induction d with
  | zero =>
    intro fuel i a c h1 h2 hf ha ha2 hl hc
    obtain ⟨fuel, rfl⟩ : ∃ q, fuel = q + 1 := ⟨fuel - 1, by omega⟩
    rw [spymake_Stream_Frame.l0, wid (x := W * H) (by omega) (by omega), ifn (by omega)]
    exact ⟨a, c, rfl, by omega, by omega, by omega, hc⟩
  | succ d ih =>
    intro fuel i a c h1 h2 hf ha ha2 hl hc
    obtain ⟨fuel, rfl⟩ : ∃ q, fuel = q + 1 := ⟨fuel - 1, by omega⟩
    have cl : ∀ z : Int, 0 ≤ mx 0 (mn 65535 z) ∧ mx 0 (mn 65535 z) ≤ 65535 := fun z => by rw [mx_def, mn_def]; omega
    rw [spymake_Stream_Frame.l0, wid (x := W * H) (by omega) (by omega), ifp (by omega)]
    obtain ⟨u, e1, _, _⟩ := range_ex k L a (-3) 3 (by decide) (by decide) (by decide) (by decide) (by omega) (by omega)
    rw [bnd e1]; dsimp only
    obtain ⟨q, e2, _, _⟩ := next_ex k L (a + 1) 3 (by decide) (by decide) (by omega) (by omega)
    rw [bnd e2]; dsimp only
    by_cases cq : q = 0
    · obtain ⟨y, e3, _, _⟩ := next_ex k L (a + 1 + 1) m (by omega) (by omega) (by omega) (by omega)
      rw [ifp cq, hm, bnd e3]; dsimp only
      rw [ifp (by omega), wid (x := i + 1) (by omega) (by omega)]
      obtain ⟨a', c', e, g1, g2, g3, g4⟩ := ih fuel (i + 1) (a + 1 + 1 + 1) (c ++ [mx 0 (mn 65535 y)]) (by omega) (by omega) (by omega) (by omega) (by omega) (push_len hl) (hc.push (cl _).1 (cl _).2)
      exact ⟨a', c', e, by omega, by omega, g3, g4⟩
    · rw [ifn cq, ifp (by omega), wid (x := i + 1) (by omega) (by omega)]
      obtain ⟨a', c', e, g1, g2, g3, g4⟩ := ih fuel (i + 1) (a + 1 + 1) (c ++ [mx 0 (mn 65535 (w64 (base + u)))]) (by omega) (by omega) (by omega) (by omega) (by omega) (push_len hl) (hc.push (cl _).1 (cl _).2)
      exact ⟨a', c', e, by omega, by omega, g3, g4⟩
structure FGood (f : S_Frame) (W H : Int) : Prop where
  eW : f.W = W
  eH : f.H = H
  n : f.Cards.length ≤ 30
  l : (f.Counts.length : Int) = W * H
  c : AllIn f.Counts 0 65535
theorem frame_ex (k : Nat) (L : List Int) (a kind W H : Int) (x : S_Shot) (hx : XGood x kind) (k0 : 0 ≤ kind) (k1 : kind ≤ 3) (a0 : 0 ≤ a) (a1 : a ≤ 1000000) (hn : W * H ≤ 1024) (hn0 : 0 ≤ W * H) (hk : 1100 ≤ k) :
    ∃ f a', spymake_Stream_Frame k ⟨L, a⟩ x W H = some (f, a') ∧ a ≤ a' ∧ a' ≤ a + 4000 ∧ FGood f W H ∧ f.Cards.length ≤ 20 := by
  unfold spymake_Stream_Frame
  obtain ⟨l, e1, hl⟩ := cards_ex k x kind hx k0 k1 (by omega)
  obtain ⟨v, e2, v0, v1⟩ := next_ex k L a 5 (by decide) (by decide) (by omega) (by omega)
  obtain ⟨m, hm, m0, m1⟩ : ∃ m, rd ([2, 256, 300, 5000, 65536] : List Int) v = m ∧ 2 ≤ m ∧ m ≤ 65536 := by
    rcases (show v = 0 ∨ v = 1 ∨ v = 2 ∨ v = 3 ∨ v = 4 by omega) with rfl | rfl | rfl | rfl | rfl <;> exact ⟨_, rfl, by decide, by decide⟩
  obtain ⟨b, e3, b0, b1⟩ := next_ex k L (a + 1) m (by omega) (by omega) (by omega) (by omega)
  obtain ⟨a', c', e4, g1, g2, g3, g4⟩ := frame_l0 k L a W H v b m hm m0 m1 hn hn0 (W * H).toNat k 0 (a + 1 + 1) [] (by omega) (by omega) (by omega) (by omega) (by omega) rfl .nil
  rw [bnd e1, bnd e2]; dsimp only
  rw [ifp v0, ifp (by show v < 5; exact v1), hm, bnd e3]; dsimp only
  rw [bnd e4]
  exact ⟨_, _, rfl, by omega, by omega, ⟨rfl, rfl, by dsimp only; omega, g3, g4⟩, hl⟩
theorem notes_l0 (k : Nat) (L : List Int) (a0_ n : Int) (n1 : n ≤ 3) : ∀ (d fuel : Nat) (l : List S_Card) (i a : Int), i + d = n → 0 ≤ i → d < fuel → 0 ≤ a → a + 5 * d ≤ 4000000 → l.length + d ≤ 100 →
    ∃ l' a', spymake_Stream_Notes.l0 k n ⟨L, a0_⟩ fuel l i a = some (l', a') ∧ l'.length = l.length + d := by
  intro d
  induction d with
  | zero =>
    intro fuel l i a h1 h2 hf ha ha2 hl
    obtain ⟨fuel, rfl⟩ : ∃ q, fuel = q + 1 := ⟨fuel - 1, by omega⟩
    rw [spymake_Stream_Notes.l0, ifn (by omega)]
    exact ⟨l, a, rfl, rfl⟩
  | succ d ih =>
    intro fuel l i a h1 h2 hf ha ha2 hl
    obtain ⟨fuel, rfl⟩ : ∃ q, fuel = q + 1 := ⟨fuel - 1, by omega⟩
    have hi : strconv_Itoa k i = some (numeral i) := by unfold strconv_Itoa; rw [ifp (by omega), ifp (by omega)]
    have hs := numeral_size (n := i) (by omega) (by omega)
    rw [spymake_Stream_Notes.l0, ifp (by omega), bnd hi, ifp (by show 1 + (numeral i).size ≤ _; omega)]
    obtain ⟨v, e1, v0, v1⟩ := next_ex k L a 6 (by decide) (by decide) (by omega) (by omega)
    rw [bnd e1]; dsimp only
    rw [ifp v0, ifp (by show v < 6; exact v1)]
    obtain ⟨u, e2, u0, u1⟩ := next_ex k L (a + 1) 2 (by decide) (by decide) (by omega) (by omega)
    rw [bnd e2]; dsimp only
    refine bind_ite (Q := fun e => ∃ (l' : List S_Card) (a' : Int), e = some (l', a') ∧ l'.length = l.length + (d + 1)) (fun w : Int × ByteArray => a + 2 ≤ w.1 ∧ w.1 ≤ a + 3) (fun _ => ?_) (fun _ => ⟨_, rfl, by dsimp only; omega, by dsimp only; omega⟩) ?_
    · refine next_b (Q := fun e => ∃ w : Int × ByteArray, e = some w ∧ a + 2 ≤ w.1 ∧ w.1 ≤ a + 3) k L (a + 1 + 1) 5 (by decide) (by decide) (by omega) (by omega) fun y y0 y1 => ?_
      dsimp only
      rw [ifp y0, ifp (by show y < 5; exact y1)]
      exact ⟨_, rfl, by dsimp only; omega, by dsimp only; omega⟩
    rintro ⟨a2, un⟩ ⟨h3, h4⟩
    dsimp only at h3 h4 ⊢
    refine next_b (Q := fun e => ∃ (l' : List S_Card) (a' : Int), e = some (l', a') ∧ l'.length = l.length + (d + 1)) k L a2 2 (by decide) (by decide) (by omega) (by omega) fun y y0 y1 => ?_
    dsimp only
    by_cases cy : y = 0
    · rw [ifp cy]
      refine next_b (Q := fun e => ∃ (l' : List S_Card) (a' : Int), e = some (l', a') ∧ l'.length = l.length + (d + 1)) k L (a2 + 1) 4 (by decide) (by decide) (by omega) (by omega) fun z z0 z1 => ?_
      dsimp only
      rw [ifp z0, ifp (by show z < 4; exact z1), ifp (by omega), wid (x := i + 1) (by omega) (by omega)]
      obtain ⟨l', a', e, g⟩ := ih fuel (l ++ [_]) (i + 1) (a2 + 1 + 1) (by omega) (by omega) (by omega) (by omega) (by omega) (by simp; omega)
      exact ⟨l', a', e, by rw [g]; simp; omega⟩
    · rw [ifn cy, ifp (by omega), wid (x := i + 1) (by omega) (by omega)]
      obtain ⟨l', a', e, g⟩ := ih fuel (l ++ [_]) (i + 1) (a2 + 1) (by omega) (by omega) (by omega) (by omega) (by omega) (by simp; omega)
      exact ⟨l', a', e, by rw [g]; simp; omega⟩
/-- A noted frame. -/
theorem noted_ex (k : Nat) (L : List Int) (hk : 1100 ≤ k) : ∃ (f : S_Frame) (a' : Int) (w h : Nat), spykeep3_noted k ⟨L, 0⟩ = some (f, a') ∧ f.W = w ∧ f.H = h ∧ 1 ≤ w ∧ w ≤ 9 ∧ 1 ≤ h ∧ h ≤ 9 ∧ f.Counts.length = w * h ∧ AllIn f.Counts 0 65535 := by
  obtain ⟨S, a1, e1, hS, ha, hb⟩ := sensor_ex k L 0 9 (by decide) (by decide) (by decide) (by decide) hk
  obtain ⟨kind, e2, k0, k1⟩ := next_ex k L a1 4 (by decide) (by decide) (by omega) (by omega)
  obtain ⟨num, e3, n0, n1⟩ := range_ex k L (a1 + 1) 1 99 (by decide) (by decide) (by decide) (by decide) (by omega) (by omega)
  obtain ⟨x, a2, e4, h1, h2, hx⟩ := shot_ex k L S (a1 + 1 + 1) kind num (by omega) (by omega) k0 (by omega) n0 n1
  have hWH := hS.n (by decide)
  obtain ⟨f, a3, e5, h3, h4, hf, hc⟩ := frame_ex k L a2 kind S.W S.H x hx k0 (by omega) (by omega) (by omega) hWH.2 (by omega) hk
  obtain ⟨n, e6, m0, m1⟩ := next_ex k L a3 4 (by decide) (by decide) (by omega) (by omega)
  obtain ⟨l', a4, e7, _⟩ := notes_l0 k L a3 n (by omega) n.toNat k (([] : List S_Card) ++ f.Cards) 0 (a3 + 1) (by omega) (by omega) (by omega) (by omega) (by omega) (by simp; omega)
  have e8 : spymake_Stream_Notes k ⟨L, a3⟩ f = some (⟨f.W, f.H, l', f.Counts⟩, a4) := by
    unfold spymake_Stream_Notes
    rw [ifp (by simp; omega), bnd e6]; dsimp only
    rw [bnd e7]
  unfold spykeep3_noted
  rw [bnd e1]; dsimp only
  rw [bnd e2]; dsimp only
  rw [bnd e3]; dsimp only
  rw [bnd e4]; dsimp only
  rw [bnd e5]; dsimp only
  rw [bnd e8]
  have w0 := hS.W0; have w1 := hS.W1; have y0 := hS.H0; have y1 := hS.H1
  obtain ⟨w, hw⟩ : ∃ w : Nat, S.W = w := ⟨S.W.toNat, by omega⟩
  obtain ⟨h, hh⟩ : ∃ h : Nat, S.H = h := ⟨S.H.toNat, by omega⟩
  have hl := hf.l
  rw [hw, hh] at hl
  have hl2 : ((f.Counts.length : Nat) : Int) = ((w * h : Nat) : Int) := by rw [hl]; simp
  exact ⟨_, _, w, h, rfl, by dsimp only; rw [hf.eW, hw], by dsimp only; rw [hf.eH, hh], by omega, by omega, by omega, by omega, by dsimp only; omega, hf.c⟩
theorem unpack_l0 (k : Nat) (b : List Int) (W H : Int) (h : Nat) (gs : List (List Int)) (hgl : gs.length = h) (h1 : h ≤ 32) (hl : gs.flatten.length ≤ 100000)
    (hrow : ∀ p c q, gs = p ++ c :: q → squeeze_Row k b (p.length : Int) = some (c, 0)) : ∀ (q p : List (List Int)) (fuel : Nat), gs = p ++ q → q.length < fuel →
    squeeze_Unpack.l0 k (h : Int) b fuel W H p.flatten (p.length : Int) = some (Sum.inr (W, H, gs.flatten)) := by
  intro q
  induction q with
  | nil =>
    intro p fuel e hf
    obtain ⟨fuel, rfl⟩ : ∃ q, fuel = q + 1 := ⟨fuel - 1, by omega⟩
    rw [List.append_nil] at e
    rw [squeeze_Unpack.l0, ifn (by rw [← e]; omega), e]
  | cons c q ih =>
    intro p fuel e hf
    obtain ⟨fuel, rfl⟩ : ∃ q, fuel = q + 1 := ⟨fuel - 1, by omega⟩
    have hl2 : gs.flatten.length = p.flatten.length + (c.length + q.flatten.length) := by rw [e, List.flatten_append, List.flatten_cons, List.length_append, List.length_append]
    have lp : gs.length = p.length + (q.length + 1) := by rw [e, List.length_append, List.length_cons]
    have hn := ih (p ++ [c]) fuel (by rw [e]; simp) (by rw [List.length_cons] at hf; omega)
    rw [List.flatten_append, List.flatten_cons, List.flatten_nil, List.append_nil, show ((p ++ [c]).length : Int) = (p.length : Int) + 1 by simp] at hn
    rw [squeeze_Unpack.l0, ifp (by omega), bnd (hrow p c q e)]; dsimp only
    rw [ifn (by decide), ifp (by omega), wid (x := (p.length : Int) + 1) (by omega) (by omega), hn]
theorem back_l0 (k : Nat) (b : List Int) (w h : Nat) (f : S_Frame) (gs : List (List Int)) (hgl : gs.length = h) (w1 : w ≤ 9) (h1 : h ≤ 9) (hf : gs.flatten = f.Counts) (hg : ∀ g, g ∈ gs → g.length = w) (hk : 1000 ≤ k)
    (hrow : ∀ p c q, gs = p ++ c :: q → squeeze_Row k b (p.length : Int) = some (c, 0)) : ∀ (q p : List (List Int)) (fuel : Nat), gs = p ++ q → q.length < fuel →
    spykeep3_SqueezeBack.l0 k (h : Int) b (w : Int) f fuel (p.length : Int) = some (Sum.inr ()) := by
  intro q
  induction q with
  | nil =>
    intro p fuel e hf2
    obtain ⟨fuel, rfl⟩ : ∃ q, fuel = q + 1 := ⟨fuel - 1, by omega⟩
    rw [List.append_nil] at e
    rw [spykeep3_SqueezeBack.l0, ifn (by rw [← e]; omega)]
  | cons c q ih =>
    intro p fuel e hf2
    obtain ⟨fuel, rfl⟩ : ∃ q, fuel = q + 1 := ⟨fuel - 1, by omega⟩
    have lp : gs.length = p.length + (q.length + 1) := by rw [e, List.length_append, List.length_cons]
    have hn := ih (p ++ [c]) fuel (by rw [e]; simp) (by rw [List.length_cons] at hf2; omega)
    rw [show ((p ++ [c]).length : Int) = (p.length : Int) + 1 by simp] at hn
    have hcw := hg c (by rw [e]; simp)
    obtain ⟨f1, f2⟩ := flat_row w p c q (by rw [← e]; exact hg)
    rw [← e, hf] at f1 f2
    have hYw : p.length * w ≤ 9 * 9 := Nat.mul_le_mul (by omega) w1
    have hYw2 : (p.length + 1) * w ≤ 9 * 9 := Nat.mul_le_mul (by omega) w1
    have hYw3 : p.length * w ≤ (p.length + 1) * w := Nat.mul_le_mul_right w (by omega)
    have p1 : (p.length : Int) * (w : Int) = ((p.length * w : Nat) : Int) := by simp
    have p2' : ((p.length : Int) + 1) * (w : Int) = (((p.length + 1) * w : Nat) : Int) := by simp
    rw [spykeep3_SqueezeBack.l0, ifp (by omega), bnd (hrow p c q e)]; dsimp only
    rw [ifn (by decide), wid (x := (p.length : Int) + 1) (by omega) (by omega), p1, p2', wid (x := ((p.length * w : Nat) : Int)) (by omega) (by omega), wid (x := (((p.length + 1) * w : Nat) : Int)) (by omega) (by omega), ifp (by omega), ifp (by omega), ifp (by omega), Int.toNat_natCast, Int.toNat_natCast, f1,
      bnd (eqself_int k c (by omega) (by omega)), ifn (by decide), hn]
theorem law_ex (l : List Int) : ∃ k, spykeep3_SqueezeBack k l = some true := by
  refine ⟨300000, ?_⟩
  generalize hk : (300000 : Nat) = k
  obtain ⟨f, a', w, h, e1, hw, hh, w0, w1, h0, h1, hl, hs⟩ := noted_ex k l (by omega)
  obtain ⟨gs, rs, e2, hf, hg, hgl, hc⟩ := pack_ex k w h f.Counts w0 (by omega) h0 (by omega) hl hs (by omega)
  have hlen : rs.length = h := by rw [← hc.len, hgl]
  have hsm := Codes.small hc
  have hidx := index_ex k w h rs w0 (by omega) h0 (by omega) hlen (fun r hr => (hsm r hr).1) (by omega)
  have hpk := pk_len (fun r hr => (hsm r hr).1)
  have hwh : w * h ≤ 9 * 9 := Nat.mul_le_mul w1 h1
  have hrow : ∀ p c q, gs = p ++ c :: q → squeeze_Row k ((w : Int) :: (h : Int) :: pk rs) (p.length : Int) = some (c, 0) := by
    intro p c q s1
    have lp : gs.length = p.length + (q.length + 1) := by rw [s1, List.length_append, List.length_cons]
    obtain ⟨p2, r, q2, s2, lp2⟩ := split_at rs p.length (by omega)
    have e5 := row_at k w h rs p2 q2 r c w0 (by omega) h0 (by omega) hlen (fun r hr => (hsm r hr).1) (by omega) s2 (hg c (by rw [s1]; simp)) (Codes.at hc s1 s2 (by omega))
    rw [lp2] at e5
    exact e5
  have e3 : squeeze_Unpack k ((w : Int) :: (h : Int) :: pk rs) = some ((w : Int), (h : Int), f.Counts, 0) := by
    have := unpack_l0 k ((w : Int) :: (h : Int) :: pk rs) (w : Int) (h : Int) h gs hgl (by omega) (by rw [hf]; omega) hrow gs [] k rfl (by omega)
    have this : squeeze_Unpack.l0 k (h : Int) ((w : Int) :: (h : Int) :: pk rs) k (w : Int) (h : Int) [] 0 = some (Sum.inr ((w : Int), (h : Int), gs.flatten)) := this
    unfold squeeze_Unpack
    rw [bnd hidx]; dsimp only
    rw [ifn (by decide), bnd this, hf]
    rfl
  have e4 : spykeep3_SqueezeBack.l0 k (h : Int) ((w : Int) :: (h : Int) :: pk rs) (w : Int) f k 0 = some (Sum.inr ()) := back_l0 k _ w h f gs hgl w1 h1 hf hg (by omega) hrow gs [] k rfl (by omega)
  have lb : (((w : Int) :: (h : Int) :: pk rs).length : Int) = 2 + ((pk rs).length : Int) := by simp; omega
  unfold spykeep3_SqueezeBack
  rw [bnd e1]; dsimp only
  rw [hw, hh, bnd e2]; dsimp only
  rw [bnd e3]; dsimp only
  rw [bnd (squeezed_eq k (by omega)), ifn (by decide), ifn (by decide), ifn (by decide), ifn (by simp), ifn (by simp), bnd (eqself_int k f.Counts (by omega) (by omega)), ifn (by decide), lb, wid (x := 72 * (h : Int)) (by omega) (by omega), wid (x := 2 + 72 * (h : Int)) (by omega) (by omega), ifn (by omega), bnd e4]
  rfl

end Go.Sp.B1
