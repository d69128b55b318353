/- A text of this claim. -/
import Derived.Test.YtjnehahcpeiheaaGreatDoorFT6
import Derived.KernelRfl
import Derived.Lib.Strings
import Derived.Lib.TrimByte
import Derived.Lib.Repeat
import Derived.Lib.Space
import Derived.Lib.ItoaLen
import Derived.Laws.BitsLemmas
import Derived.Laws.Bits64
import Derived.Laws.BitsAllLaws
import Derived.Lib.IndexMore
import Derived.Lib.AtoiAll
import Derived.Lib.ParseIntB
namespace Go.Sp.T6
open Go Go.Sp
set_option linter.unusedVariables false
theorem bnd {α β : Type} {x : Option α} {g : α → Option β} {v : α} (h : x = some v) : x.bind g = g v := by rw [h]; rfl
theorem ifp {α : Type} {c : Prop} [Decidable c] {x y : α} (h : c) : (if c then x else y) = x := if_pos h
theorem ifn {α : Type} {c : Prop} [Decidable c] {x y : α} (h : ¬ c) : (if c then x else y) = y := if_neg h
theorem rd_mem {α : Type} [Inhabited α] {l : List α} {i : Int} (h0 : 0 ≤ i) (h1 : i < (l.length : Int)) : rd l i ∈ l := by
  obtain ⟨h, e⟩ := rd_lt h0 h1
  rw [e]; exact List.getElem_mem h
theorem wid {x : Int} (h : -9223372036854775808 ≤ x) (h' : x ≤ 9223372036854775807) : w64 x = x := w64_of h h'
theorem mul_le {a b A B : Int} (h1 : 0 ≤ a) (h2 : a ≤ A) (h3 : 0 ≤ b) (h4 : b ≤ B) : 0 ≤ a * b ∧ a * b ≤ A * B :=
  ⟨Int.mul_nonneg h1 h3, Int.mul_le_mul h2 h4 h3 (by omega)⟩
theorem tdiv_nn {a b : Int} (h : 0 ≤ a) : Int.tdiv a b = a / b := Int.tdiv_eq_ediv_of_nonneg h
theorem tmod_nn {a b : Int} (h : 0 ≤ a) : Int.tmod a b = a % b := Int.tmod_eq_emod_of_nonneg h
def AllIn (l : List Int) (lo hi : Int) : Prop := ∀ x, x ∈ l → lo ≤ x ∧ x ≤ hi
theorem AllIn.nil {lo hi : Int} : AllIn [] lo hi := fun x h => by cases h
theorem AllIn.push {l : List Int} {lo hi x : Int} (h : AllIn l lo hi) (h0 : lo ≤ x) (h1 : x ≤ hi) : AllIn (l ++ [x]) lo hi := by
  intro y hy
  rcases List.mem_append.mp hy with hy | hy
  · exact h y hy
  · simp only [List.mem_singleton] at hy; subst hy; exact ⟨h0, h1⟩
theorem AllIn.rd {l : List Int} {lo hi i : Int} (h : AllIn l lo hi) (h0 : 0 ≤ i) (h1 : i < (l.length : Int)) : lo ≤ rd l i ∧ rd l i ≤ hi := h _ (rd_mem h0 h1)
theorem AllIn.mono {l : List Int} {lo hi lo' hi' : Int} (h : AllIn l lo hi) (h0 : lo' ≤ lo) (h1 : hi ≤ hi') : AllIn l lo' hi' := fun x hx => by have := h x hx; omega
theorem below_ex (k : Nat) (x n : Int) (h1 : 1 ≤ n) (h2 : n ≤ 4611686018427387904) : ∃ v, spymake_Below k x n = some v ∧ 0 ≤ v ∧ v < n := by
  have e1 := Int.tmod_lt_of_pos x (show 0 < n by omega)
  have e2 := Int.lt_tmod_of_pos x (show 0 < n by omega)
  unfold spymake_Below
  rw [ifn (by omega), ifp (by omega)]
  by_cases c : Int.tmod x n < 0
  · rw [ifp c]
    refine ⟨_, rfl, ?_, ?_⟩ <;> rw [wid (by omega) (by omega)] <;> omega
  · rw [ifn c]
    exact ⟨_, rfl, by omega, by omega⟩
theorem next_ex (k : Nat) (L : List Int) (a n : Int) (h1 : 1 ≤ n) (h2 : n ≤ 4611686018427387904) (a0 : 0 ≤ a) (a1 : a ≤ 4611686018427387904) :
    ∃ v, spymake_Stream_Next k ⟨L, a⟩ n = some (v, a + 1) ∧ 0 ≤ v ∧ v < n := by
  unfold spymake_Stream_Next
  dsimp only
  rw [wid (x := a + 1) (by omega) (by omega)]
  by_cases c : (L.length : Int) = 0
  · rw [ifp c]
    obtain ⟨v, hv, v0, v1⟩ := below_ex k (w64 ((a + 1) * 7919)) n h1 h2
    rw [bnd hv]
    exact ⟨v, rfl, v0, v1⟩
  · rw [ifn c, ifp c, show a + 1 - 1 = a by omega, wid (x := a) (by omega) (by omega)]
    have e1 := Int.tmod_lt_of_pos a (show 0 < (L.length : Int) by omega)
    have e2 : 0 ≤ Int.tmod a (L.length : Int) := Int.tmod_nonneg _ a0
    rw [ifp e2, ifp e1]
    obtain ⟨u, hu, _⟩ := below_ex k (rd L (Int.tmod a (L.length : Int))) 1073741824 (by decide) (by decide)
    rw [bnd hu]
    obtain ⟨v, hv, v0, v1⟩ := below_ex k (w64 (u + (w64 ((w64 (Int.tdiv a (L.length : Int))) * (w64 (7919 + (Int.tmod a (L.length : Int)))))))) n h1 h2
    rw [bnd hv]
    exact ⟨v, rfl, v0, v1⟩
theorem range_ex (k : Nat) (L : List Int) (a lo hi : Int) (h1 : lo ≤ hi) (h2 : hi - lo ≤ 1073741824) (h3 : -4611686018427387904 ≤ lo) (h4 : hi ≤ 4611686018427387904) (a0 : 0 ≤ a) (a1 : a ≤ 4611686018427387904) :
    ∃ v, spymake_Stream_Range k ⟨L, a⟩ lo hi = some (v, a + 1) ∧ lo ≤ v ∧ v ≤ hi := by
  unfold spymake_Stream_Range
  rw [ifn (by omega), wid (x := hi - lo) (by omega) (by omega), wid (x := hi - lo + 1) (by omega) (by omega)]
  obtain ⟨v, hv, v0, v1⟩ := next_ex k L a (hi - lo + 1) (by omega) (by omega) a0 a1
  rw [bnd hv]
  dsimp only
  rw [wid (by omega) (by omega)]
  exact ⟨_, rfl, by omega, by omega⟩
structure Good (S : S_Sensor) (most : Int) : Prop where
  W0 : 1 ≤ S.W
  W1 : S.W ≤ most
  H0 : 1 ≤ S.H
  H1 : S.H ≤ most
  lb : (S.Bias.length : Int) = S.W * S.H
  ld : (S.Dark.length : Int) = S.W * S.H
  lf : (S.Flat.length : Int) = S.W * S.H
  B : AllIn S.Bias 0 59
  D : AllIn S.Dark 0 33554432
  F : AllIn S.Flat 0 4096
  F0 : 200 ≤ S.Full
  F1 : S.Full ≤ 1048576
  G0 : 1 ≤ S.Gain
  G1 : S.Gain ≤ 64
  N0 : 0 ≤ S.Noise
  N1 : S.Noise ≤ 64
theorem Good.n {S : S_Sensor} {most : Int} (h : Good S most) (hm : most ≤ 32) : 1 ≤ S.W * S.H ∧ S.W * S.H ≤ 1024 := by
  have h1 := mul_le (a := S.W) (b := S.H) (A := 32) (B := 32) (by have := h.W0; omega) (by have := h.W1; omega) (by have := h.H0; omega) (by have := h.H1; omega)
  have h2 : 1 * 1 ≤ S.W * S.H := Int.mul_le_mul h.W0 h.H0 (by decide) (by have := h.W0; omega)
  omega
theorem push_len {l : List Int} {x : Int} {n : Int} (h : (l.length : Int) = n) : ((l ++ [x]).length : Int) = n + 1 := by simp; omega
theorem sensor_l0 (k : Nat) (L : List Int) (a0_ W H m : Int) (hn0 : 0 ≤ W * H) (hn : W * H ≤ 1024) (hm0 : 0 ≤ m) (hm : m ≤ 2) : ∀ (d n : Nat) (i a : Int) (B D F : List Int), i + d = W * H → 0 ≤ i → d < n → 0 ≤ a → a + 6 * d ≤ 4611686018427387904 →
    (B.length : Int) = i → (D.length : Int) = i → (F.length : Int) = i → AllIn B 0 59 → AllIn D 0 33554432 → AllIn F 0 4096 →
    ∃ a' B' D' F', spymake_Stream_Sensor.l0 k W H ⟨L, a0_⟩ m n i a B D F = some (a', B', D', F') ∧ a ≤ a' ∧ a' ≤ a + 6 * d ∧
      (B'.length : Int) = W * H ∧ (D'.length : Int) = W * H ∧ (F'.length : Int) = W * H ∧ AllIn B' 0 59 ∧ AllIn D' 0 33554432 ∧ AllIn F' 0 4096 := by
  intro d
  induction d with
  | zero =>
    intro n i a B D F hi i0 hd ha0 ha lB lD lF bB bD bF
    obtain ⟨n, rfl⟩ : ∃ j, n = j + 1 := ⟨n - 1, by omega⟩
    rw [spymake_Stream_Sensor.l0, wid (x := W * H) (by omega) (by omega), ifn (by omega)]
    exact ⟨a, B, D, F, rfl, by omega, by omega, by omega, by omega, by omega, bB, bD, bF⟩
  | succ d ih =>
    intro n i a B D F hi i0 hd ha0 ha lB lD lF bB bD bF
    obtain ⟨n, rfl⟩ : ∃ j, n = j + 1 := ⟨n - 1, by omega⟩
    rw [spymake_Stream_Sensor.l0, wid (x := W * H) (by omega) (by omega), ifp (by omega)]
    obtain ⟨v1, h1, p1, q1⟩ := next_ex k L a 60 (by decide) (by decide) (by omega) (by omega)
    rw [bnd h1]; dsimp only
    rw [ifp (by omega), wid (x := m * 16777216) (by omega) (by omega), wid (x := m * 16777216 + 1) (by omega) (by omega)]
    obtain ⟨v2, h2, p2, q2⟩ := next_ex k L (a + 1) (m * 16777216 + 1) (by omega) (by omega) (by omega) (by omega)
    rw [bnd h2]; dsimp only
    rw [ifp (by omega)]
    obtain ⟨v3, h3, p3, q3⟩ := range_ex k L (a + 1 + 1) 2048 4096 (by decide) (by decide) (by decide) (by decide) (by omega) (by omega)
    rw [bnd h3]; dsimp only
    obtain ⟨v4, h4, p4, q4⟩ := next_ex k L (a + 1 + 1 + 1) 12 (by decide) (by decide) (by omega) (by omega)
    rw [bnd h4]; dsimp only
    by_cases c : v4 = 0
    · rw [ifp c]
      obtain ⟨v5, h5, p5, q5⟩ := next_ex k L (a + 1 + 1 + 1 + 1) 512 (by decide) (by decide) (by omega) (by omega)
      rw [bnd h5]; dsimp only
      obtain ⟨v6, h6, p6, q6⟩ := next_ex k L (a + 1 + 1 + 1 + 1 + 1) 2 (by decide) (by decide) (by omega) (by omega)
      rw [bnd h6]; dsimp only
      have hm6 := mul_le (a := v5) (b := v6) (A := 511) (B := 1) p5 (by omega) p6 (by omega)
      rw [ifp (by omega), wid (x := i + 1) (by omega) (by omega), wid (x := v5 * v6) (by omega) (by omega)]
      obtain ⟨a', B', D', F', e, g1, g2, g3, g4, g5, g6, g7, g8⟩ := ih n (i + 1) (a + 1 + 1 + 1 + 1 + 1 + 1) (B ++ [v1]) (D ++ [v2]) (F ++ [v5 * v6]) (by omega) (by omega) (by omega) (by omega) (by omega) (push_len lB) (push_len lD) (push_len lF) (bB.push p1 (by omega)) (bD.push p2 (by omega)) (bF.push (by omega) (by omega))
      exact ⟨a', B', D', F', e, by omega, by omega, g3, g4, g5, g6, g7, g8⟩
    · rw [ifn c, ifp (by omega), wid (x := i + 1) (by omega) (by omega)]
      obtain ⟨a', B', D', F', e, g1, g2, g3, g4, g5, g6, g7, g8⟩ := ih n (i + 1) (a + 1 + 1 + 1 + 1) (B ++ [v1]) (D ++ [v2]) (F ++ [v3]) (by omega) (by omega) (by omega) (by omega) (by omega) (push_len lB) (push_len lD) (push_len lF) (bB.push p1 (by omega)) (bD.push p2 (by omega)) (bF.push (by omega) (by omega))
      exact ⟨a', B', D', F', e, by omega, by omega, g3, g4, g5, g6, g7, g8⟩
theorem sensor_ex (k : Nat) (L : List Int) (a most : Int) (hm0 : 1 ≤ most) (hm : most ≤ 32) (a0 : 0 ≤ a) (a1 : a ≤ 1000000) (hk : 1100 ≤ k) :
    ∃ S a', spymake_Stream_Sensor k ⟨L, a⟩ most = some (S, a') ∧ Good S most ∧ a ≤ a' ∧ a' ≤ a + 7000 := by
  unfold spymake_Stream_Sensor
  dsimp only
  obtain ⟨W, h1, W0, W1⟩ := range_ex k L a 1 most (by omega) (by omega) (by omega) (by omega) (by omega) (by omega)
  rw [bnd h1]; dsimp only
  obtain ⟨H, h2, H0, H1⟩ := range_ex k L (a + 1) 1 most (by omega) (by omega) (by omega) (by omega) (by omega) (by omega)
  rw [bnd h2]; dsimp only
  obtain ⟨u, h3, u0, u1⟩ := range_ex k L (a + 1 + 1) 20000 1048576 (by decide) (by decide) (by decide) (by decide) (by omega) (by omega)
  rw [bnd h3]; dsimp only
  obtain ⟨g, h4, g0, g1⟩ := range_ex k L (a + 1 + 1 + 1) 1 4 (by decide) (by decide) (by decide) (by decide) (by omega) (by omega)
  rw [bnd h4]; dsimp only
  obtain ⟨n, h5, n0, n1⟩ := next_ex k L (a + 1 + 1 + 1 + 1) 4 (by decide) (by decide) (by omega) (by omega)
  rw [bnd h5]; dsimp only
  obtain ⟨z, h6, z0, z1⟩ := next_ex k L (a + 1 + 1 + 1 + 1 + 1) 6 (by decide) (by decide) (by omega) (by omega)
  rw [bnd h6]; dsimp only
  have hWH := mul_le (a := W) (b := H) (A := 32) (B := 32) (by omega) (by omega) (by omega) (by omega)
  have fin : ∀ (a' : Int) (Fu G N : Int), a ≤ a' → a' ≤ a + 20 → 200 ≤ Fu → Fu ≤ 1048576 → 1 ≤ G → G ≤ 64 → 0 ≤ N → N ≤ 64 →
      ∃ S a2, ((spymake_Stream_Next k (⟨L, a'⟩ : S_Stream) 3).bind fun (vt164, vt165) => ((spymake_Stream_Sensor.l0 k W H ⟨L, a⟩ vt164 k 0 vt165 ([] : List Int) ([] : List Int) ([] : List Int)).bind fun (x675, x676, x682, x688) => (some ((⟨W, H, x676, x682, x688, Fu, G, N⟩ : S_Sensor), x675)))) = some (S, a2) ∧
        Good S most ∧ a ≤ a2 ∧ a2 ≤ a + 7000 := by
    intro a' Fu G N b0 b1 c0 c1 d0 d1 e0 e1
    obtain ⟨m, h7, m0, m1⟩ := next_ex k L a' 3 (by decide) (by decide) (by omega) (by omega)
    rw [bnd h7]; dsimp only
    obtain ⟨a2, B, D, F, h8, r1, r2, r3, r4, r5, r6, r7, r8⟩ := sensor_l0 k L a W H m (by omega) (by omega) m0 (by omega) (W * H).toNat k 0 (a' + 1) [] [] [] (by omega) (by omega) (by omega) (by omega) (by omega) rfl rfl rfl .nil .nil .nil
    rw [bnd h8]; dsimp only
    exact ⟨_, _, rfl, ⟨W0, W1, H0, H1, r3, r4, r5, r6, r7, r8, c0, c1, d0, d1, e0, e1⟩, by omega, by omega⟩
  by_cases c : z = 0
  · rw [ifp c]
    obtain ⟨v, hv, v0, v1⟩ := range_ex k L (a + 1 + 1 + 1 + 1 + 1 + 1) 200 5000 (by decide) (by decide) (by decide) (by decide) (by omega) (by omega)
    rw [bnd hv]; dsimp only
    exact fin _ v g n (by omega) (by omega) (by omega) (by omega) (by omega) (by omega) (by omega) (by omega)
  · rw [ifn c]
    by_cases c2 : z = 1
    · rw [ifp c2]
      obtain ⟨v, hv, v0, v1⟩ := range_ex k L (a + 1 + 1 + 1 + 1 + 1 + 1) 1 64 (by decide) (by decide) (by decide) (by decide) (by omega) (by omega)
      rw [bnd hv]; dsimp only
      obtain ⟨x, hx, x0, x1⟩ := next_ex k L (a + 1 + 1 + 1 + 1 + 1 + 1 + 1) 20 (by decide) (by decide) (by omega) (by omega)
      rw [bnd hx]; dsimp only
      exact fin _ u v x (by omega) (by omega) (by omega) (by omega) (by omega) (by omega) (by omega) (by omega)
    · rw [ifn c2]
      exact fin _ u g n (by omega) (by omega) (by omega) (by omega) (by omega) (by omega) (by omega) (by omega)
theorem sx {a b : ByteArray} (h : a.data.toList = b.data.toList) : a = b := by
  cases a; cases b
  simp only [Array.toList_inj] at h
  rw [h]
theorem smk (l : List UInt8) : (⟨l.toArray⟩ : ByteArray).data.toList = l := rfl
theorem ssz (a : ByteArray) : a.size = a.data.toList.length := Go.Lib.size_eq a
theorem smk_size (l : List UInt8) : (⟨l.toArray⟩ : ByteArray).size = l.length := by rw [ssz]
theorem smk_of (a : ByteArray) : (⟨a.data.toList.toArray⟩ : ByteArray) = a := sx rfl
theorem s_eq (a b : ByteArray) : (a.toList == b.toList) = decide (a.data.toList = b.data.toList) := by
  rw [Go.Lib.toList_data, Go.Lib.toList_data, Bool.eq_iff_iff]
  simp
theorem s_eqp {a b : ByteArray} (h : a.data.toList = b.data.toList) : (a.toList == b.toList) = true := by rw [s_eq]; exact decide_eq_true h
theorem s_eqn {a b : ByteArray} (h : a.data.toList ≠ b.data.toList) : (a.toList == b.toList) = false := by rw [s_eq]; exact decide_eq_false h
theorem sapp (a b : ByteArray) : (a ++ b).data.toList = a.data.toList ++ b.data.toList := by
  rw [ByteArray.data_append, Array.toList_append]
theorem smk_app (a b : List UInt8) : (⟨a.toArray⟩ : ByteArray) ++ ⟨b.toArray⟩ = ⟨(a ++ b).toArray⟩ := sx (by rw [sapp])
theorem bt_mem (s : ByteArray) (i : Nat) (h : i < s.size) : ∃ b, b ∈ s.data.toList ∧ bt s (i : Int) = (b.toNat : Int) := by
  have h' : i < s.data.size := h
  refine ⟨s.data[i], by simp, ?_⟩
  unfold bt
  rw [Int.toNat_natCast, Array.getD, dif_pos h']
  rfl
def upB (b : UInt8) : Bool := decide (65 ≤ b.toNat) && decide (b.toNat ≤ 90)
def dgB (b : UInt8) : Bool := decide (48 ≤ b.toNat) && decide (b.toNat ≤ 57)
def inKeyB (b : UInt8) : Bool := upB b || (dgB b || b.toNat == 45)
def inkedB (b : UInt8) : Bool := decide (33 ≤ b.toNat) && decide (b.toNat ≤ 126)
def lowerB (b : UInt8) : Bool := decide (97 ≤ b.toNat) && decide (b.toNat ≤ 122)
def typedB (b : UInt8) : Bool := decide (32 ≤ b.toNat) && decide (b.toNat ≤ 126)
theorem upper_eq (k : Nat) (b : UInt8) : frame_upper k (b.toNat : Int) = some (upB b) := by
  unfold frame_upper upB
  by_cases c : 65 ≤ b.toNat
  · rw [ifp (by omega), decide_eq_true c, Bool.true_and]
    exact congrArg some (decide_eq_decide.mpr (by omega))
  · rw [ifn (by omega), decide_eq_false c, Bool.false_and]
theorem digit_eq (k : Nat) (b : UInt8) : frame_digit k (b.toNat : Int) = some (dgB b) := by
  unfold frame_digit dgB
  by_cases c : 48 ≤ b.toNat
  · rw [ifp (by omega), decide_eq_true c, Bool.true_and]
    exact congrArg some (decide_eq_decide.mpr (by omega))
  · rw [ifn (by omega), decide_eq_false c, Bool.false_and]
theorem inked_eq (k : Nat) (b : UInt8) : frame_inked k (b.toNat : Int) = some (inkedB b) := by
  unfold frame_inked inkedB
  by_cases c : 33 ≤ b.toNat
  · rw [ifp (by omega), decide_eq_true c, Bool.true_and]
    exact congrArg some (decide_eq_decide.mpr (by omega))
  · rw [ifn (by omega), decide_eq_false c, Bool.false_and]
theorem lower_eq (k : Nat) (b : UInt8) : frame_lower k (b.toNat : Int) = some (lowerB b) := by
  unfold frame_lower lowerB
  by_cases c : 97 ≤ b.toNat
  · rw [ifp (by omega), decide_eq_true c, Bool.true_and]
    exact congrArg some (decide_eq_decide.mpr (by omega))
  · rw [ifn (by omega), decide_eq_false c, Bool.false_and]
theorem typed_eq (k : Nat) (b : UInt8) : frame_typed k (b.toNat : Int) = some (typedB b) := by
  unfold frame_typed typedB
  by_cases c : 32 ≤ b.toNat
  · rw [ifp (by omega), decide_eq_true c, Bool.true_and]
    exact congrArg some (decide_eq_decide.mpr (by omega))
  · rw [ifn (by omega), decide_eq_false c, Bool.false_and]
theorem inKey_eq (k : Nat) (b : UInt8) (h : inKeyB b = true) : frame_inKey k (b.toNat : Int) = some true := by
  unfold frame_inKey
  rw [bnd (upper_eq k b)]
  unfold inKeyB at h
  by_cases c : upB b = true
  · rw [ifp c]
  · rw [ifn c, bnd (digit_eq k b)]
    rw [Bool.not_eq_true] at c
    rw [c, Bool.false_or] at h
    by_cases d : dgB b = true
    · rw [ifp d]
    · rw [ifn d]
      rw [Bool.not_eq_true] at d
      rw [d, Bool.false_or] at h
      have := eq_of_beq h
      rw [this]
      rfl
theorem all_inKey_l0 (k : Nat) (s : ByteArray) (h : ∀ b, b ∈ s.data.toList → frame_inKey k (b.toNat : Int) = some true) (hs : s.size ≤ 1000000) : ∀ (d fuel i : Nat), i + d = s.size → d < fuel → frame_all__frame_inKey.l0 k s fuel (i : Int) = some (Sum.inr ()) := by
  intro d
  induction d with
  | zero =>
    intro fuel i h1 hf
    obtain ⟨fuel, rfl⟩ : ∃ q, fuel = q + 1 := ⟨fuel - 1, by omega⟩
    rw [frame_all__frame_inKey.l0, ifn (by omega)]
  | succ d ih =>
    intro fuel i h1 hf
    obtain ⟨fuel, rfl⟩ : ∃ q, fuel = q + 1 := ⟨fuel - 1, by omega⟩
    obtain ⟨b, hb, e⟩ := bt_mem s i (by omega)
    rw [frame_all__frame_inKey.l0, ifp (by omega), ifp (by omega), e, bnd (h b hb), ifn (by simp), wid (x := (i : Int) + 1) (by omega) (by omega), show (i : Int) + 1 = ((i + 1 : Nat) : Int) by omega]
    exact ih fuel (i + 1) (by omega) (by omega)
theorem all_inKey (k : Nat) (s : ByteArray) (h : ∀ b, b ∈ s.data.toList → frame_inKey k (b.toNat : Int) = some true) (hs : s.size ≤ 1000000) (hk : s.size < k) : frame_all__frame_inKey k s = some true := by
  have e : frame_all__frame_inKey.l0 k s k 0 = some (Sum.inr ()) := all_inKey_l0 k s h hs s.size k 0 (by omega) hk
  unfold frame_all__frame_inKey
  rw [bnd e]
  rfl
theorem all_inked_l0 (k : Nat) (s : ByteArray) (h : ∀ b, b ∈ s.data.toList → frame_inked k (b.toNat : Int) = some true) (hs : s.size ≤ 1000000) : ∀ (d fuel i : Nat), i + d = s.size → d < fuel → frame_all__frame_inked.l0 k s fuel (i : Int) = some (Sum.inr ()) := by
  intro d
  induction d with
  | zero =>
    intro fuel i h1 hf
    obtain ⟨fuel, rfl⟩ : ∃ q, fuel = q + 1 := ⟨fuel - 1, by omega⟩
    rw [frame_all__frame_inked.l0, ifn (by omega)]
  | succ d ih =>
    intro fuel i h1 hf
    obtain ⟨fuel, rfl⟩ : ∃ q, fuel = q + 1 := ⟨fuel - 1, by omega⟩
    obtain ⟨b, hb, e⟩ := bt_mem s i (by omega)
    rw [frame_all__frame_inked.l0, ifp (by omega), ifp (by omega), e, bnd (h b hb), ifn (by simp), wid (x := (i : Int) + 1) (by omega) (by omega), show (i : Int) + 1 = ((i + 1 : Nat) : Int) by omega]
    exact ih fuel (i + 1) (by omega) (by omega)
theorem all_inked (k : Nat) (s : ByteArray) (h : ∀ b, b ∈ s.data.toList → frame_inked k (b.toNat : Int) = some true) (hs : s.size ≤ 1000000) (hk : s.size < k) : frame_all__frame_inked k s = some true := by
  have e : frame_all__frame_inked.l0 k s k 0 = some (Sum.inr ()) := all_inked_l0 k s h hs s.size k 0 (by omega) hk
  unfold frame_all__frame_inked
  rw [bnd e]
  rfl
theorem all_lower_l0 (k : Nat) (s : ByteArray) (h : ∀ b, b ∈ s.data.toList → frame_lower k (b.toNat : Int) = some true) (hs : s.size ≤ 1000000) : ∀ (d fuel i : Nat), i + d = s.size → d < fuel → frame_all__frame_lower.l0 k s fuel (i : Int) = some (Sum.inr ()) := by
  intro d
  induction d with
  | zero =>
    intro fuel i h1 hf
    obtain ⟨fuel, rfl⟩ : ∃ q, fuel = q + 1 := ⟨fuel - 1, by omega⟩
    rw [frame_all__frame_lower.l0, ifn (by omega)]
  | succ d ih =>
    intro fuel i h1 hf
    obtain ⟨fuel, rfl⟩ : ∃ q, fuel = q + 1 := ⟨fuel - 1, by omega⟩
    obtain ⟨b, hb, e⟩ := bt_mem s i (by omega)
    rw [frame_all__frame_lower.l0, ifp (by omega), ifp (by omega), e, bnd (h b hb), ifn (by simp), wid (x := (i : Int) + 1) (by omega) (by omega), show (i : Int) + 1 = ((i + 1 : Nat) : Int) by omega]
    exact ih fuel (i + 1) (by omega) (by omega)
theorem all_lower (k : Nat) (s : ByteArray) (h : ∀ b, b ∈ s.data.toList → frame_lower k (b.toNat : Int) = some true) (hs : s.size ≤ 1000000) (hk : s.size < k) : frame_all__frame_lower k s = some true := by
  have e : frame_all__frame_lower.l0 k s k 0 = some (Sum.inr ()) := all_lower_l0 k s h hs s.size k 0 (by omega) hk
  unfold frame_all__frame_lower
  rw [bnd e]
  rfl
theorem all_typed_l0 (k : Nat) (s : ByteArray) (h : ∀ b, b ∈ s.data.toList → frame_typed k (b.toNat : Int) = some true) (hs : s.size ≤ 1000000) : ∀ (d fuel i : Nat), i + d = s.size → d < fuel → frame_all__frame_typed.l0 k s fuel (i : Int) = some (Sum.inr ()) := by
  intro d
  induction d with
  | zero =>
    intro fuel i h1 hf
    obtain ⟨fuel, rfl⟩ : ∃ q, fuel = q + 1 := ⟨fuel - 1, by omega⟩
    rw [frame_all__frame_typed.l0, ifn (by omega)]
  | succ d ih =>
    intro fuel i h1 hf
    obtain ⟨fuel, rfl⟩ : ∃ q, fuel = q + 1 := ⟨fuel - 1, by omega⟩
    obtain ⟨b, hb, e⟩ := bt_mem s i (by omega)
    rw [frame_all__frame_typed.l0, ifp (by omega), ifp (by omega), e, bnd (h b hb), ifn (by simp), wid (x := (i : Int) + 1) (by omega) (by omega), show (i : Int) + 1 = ((i + 1 : Nat) : Int) by omega]
    exact ih fuel (i + 1) (by omega) (by omega)
theorem all_typed (k : Nat) (s : ByteArray) (h : ∀ b, b ∈ s.data.toList → frame_typed k (b.toNat : Int) = some true) (hs : s.size ≤ 1000000) (hk : s.size < k) : frame_all__frame_typed k s = some true := by
  have e : frame_all__frame_typed.l0 k s k 0 = some (Sum.inr ()) := all_typed_l0 k s h hs s.size k 0 (by omega) hk
  unfold frame_all__frame_typed
  rw [bnd e]
  rfl
def textL (c : S_Card) : List UInt8 := c.Key.data.toList ++ List.replicate (8 - c.Key.data.toList.length) 32 ++ [61, 32] ++ c.Value.data.toList ++ (if c.Unit.data.toList = [] then [] else [32, 91] ++ c.Unit.data.toList ++ [93]) ++ (if c.Note.data.toList = [] then [] else [32, 47, 32] ++ c.Note.data.toList)
theorem textL_len (c : S_Card) : c.Key.data.toList.length ≤ (textL c).length ∧ c.Value.data.toList.length ≤ (textL c).length ∧ c.Unit.data.toList.length ≤ (textL c).length ∧ c.Note.data.toList.length ≤ (textL c).length := by
  unfold textL
  refine ⟨?_, ?_, ?_, ?_⟩
  · simp
  · simp; omega
  · by_cases h : c.Unit.data.toList = []
    · rw [h]; simp
    · rw [ifn h]; simp; omega
  · by_cases h : c.Note.data.toList = []
    · rw [h]; simp
    · rw [ifn h]; simp; omega
theorem rep_eq (k : Nat) (n : Int) (h0 : 0 ≤ n) (h1 : n ≤ 1000000) : strings_Repeat k (⟨#[32]⟩ : ByteArray) n = some ⟨(List.replicate n.toNat 32).toArray⟩ := by
  unfold strings_Repeat
  have e : (⟨#[32]⟩ : ByteArray).size = 1 := rfl
  rw [ifp h0, ifp (by rw [e]; omega), ifp (by omega)]
  have := Go.Lib.repeatL_replicate (32 : UInt8) 1 n.toNat
  rw [Nat.mul_one] at this
  exact congrArg (fun l : List UInt8 => some (⟨l.toArray⟩ : ByteArray)) this
theorem text_eq (k : Nat) (c : S_Card) (h : (textL c).length ≤ 100000) (hk8 : c.Key.data.toList.length ≤ 8) : frame_text k c = some ⟨(textL c).toArray⟩ := by
  obtain ⟨l1, l2, l3, l4⟩ := textL_len c
  obtain ⟨K, V, U, N⟩ := c
  obtain ⟨K, rfl⟩ : ∃ l : List UInt8, K = ⟨l.toArray⟩ := ⟨K.data.toList, (smk_of K).symm⟩
  obtain ⟨V, rfl⟩ : ∃ l : List UInt8, V = ⟨l.toArray⟩ := ⟨V.data.toList, (smk_of V).symm⟩
  obtain ⟨U, rfl⟩ : ∃ l : List UInt8, U = ⟨l.toArray⟩ := ⟨U.data.toList, (smk_of U).symm⟩
  obtain ⟨N, rfl⟩ : ∃ l : List UInt8, N = ⟨l.toArray⟩ := ⟨N.data.toList, (smk_of N).symm⟩
  unfold frame_text
  simp only [smk] at hk8 l1 l2 l3 l4
  have e0 : mx 0 (w64 (8 - ((⟨K.toArray⟩ : ByteArray).size : Int))) = ((8 - K.length : Nat) : Int) := by
    rw [smk_size, wid (by omega) (by omega)]
    unfold mx
    split <;> omega
  have q1 : (⟨#[61, 32]⟩ : ByteArray) = ⟨([61, 32] : List UInt8).toArray⟩ := rfl
  have q2 : (⟨#[32, 91]⟩ : ByteArray) = ⟨([32, 91] : List UInt8).toArray⟩ := rfl
  have q3 : (⟨#[93]⟩ : ByteArray) = ⟨([93] : List UInt8).toArray⟩ := rfl
  have q4 : (⟨#[32, 47, 32]⟩ : ByteArray) = ⟨([32, 47, 32] : List UInt8).toArray⟩ := rfl
  rw [e0, bnd (rep_eq k _ (by omega) (by omega)), Int.toNat_natCast]
  simp only [q1, q2, q3, q4, smk_app, smk_size, List.length_append, List.length_replicate, List.length_cons, List.length_nil]
  rw [ifp (by omega), ifp (by omega), ifp (by omega)]
  unfold textL
  simp only [smk]
  by_cases cU : U = []
  · rw [cU, s_eqp rfl, ifn (by simp), ifp rfl, List.append_nil]
    by_cases cN : N = []
    · rw [cN, s_eqp rfl, ifn (by simp), ifp rfl, List.append_nil]
    · rw [s_eqn (by simp only [smk]; exact cN), ifp (by simp), ifp (by omega), ifp (by omega), ifn cN]
  · rw [s_eqn (by simp only [smk]; exact cU), ifp (by simp), ifp (by omega), ifp (by omega), ifp (by omega), ifn cU]
    by_cases cN : N = []
    · rw [cN, s_eqp rfl, ifn (by simp), ifp rfl, List.append_nil]
    · rw [s_eqn (by simp only [smk]; exact cN), ifp (by simp), ifp (by omega), ifp (by omega), ifn cN]
def ownL (k : List UInt8) : Bool := k == [87, 73, 68, 84, 72] || (k == [72, 69, 73, 71, 72, 84] || (k == [66, 89, 84, 69, 83] || k == [69, 78, 68]))
structure CGood (c : S_Card) : Prop where
  k8 : c.Key.data.toList.length ≤ 8
  ku : upB (c.Key.data.toList.headD 0) = true
  ki : c.Key.data.toList.all inKeyB = true
  ko : ownL c.Key.data.toList = false
  v0 : c.Value.data.toList ≠ []
  v20 : c.Value.data.toList.length ≤ 20
  vi : c.Value.data.toList.all inkedB = true
  u8 : c.Unit.data.toList.length ≤ 8
  ul : c.Unit.data.toList.all lowerB = true
  nt : c.Note.data.toList.all typedB = true
  ns : Go.Lib.trimSpace c.Note.data.toList = c.Note.data.toList
  t : (textL c).length ≤ 64
theorem own_eq (k : Nat) (s : ByteArray) (h : ownL s.data.toList = false) : frame_own k s = some false := by
  unfold frame_own
  unfold ownL at h
  simp only [Bool.or_eq_false_iff, beq_eq_false_iff_ne, ne_eq] at h
  obtain ⟨h1, h2, h3, h4⟩ := h
  rw [s_eqn (b := (⟨#[87, 73, 68, 84, 72]⟩ : ByteArray)) h1, ifn (by simp), s_eqn (b := (⟨#[72, 69, 73, 71, 72, 84]⟩ : ByteArray)) h2, ifn (by simp), s_eqn (b := (⟨#[66, 89, 84, 69, 83]⟩ : ByteArray)) h3, ifn (by simp), s_eqn (b := (⟨#[69, 78, 68]⟩ : ByteArray)) h4]
theorem card_ok (k : Nat) (c : S_Card) (h : CGood c) (hk : 100 ≤ k) : frame_CheckCard k c = some 0 := by
  obtain ⟨l1, l2, l3, l4⟩ := textL_len c
  have ht := h.t; have hk8 := h.k8; have hv := h.v20; have hu := h.u8
  have k0 : c.Key.data.toList ≠ [] := fun e => by have := h.ku; rw [e] at this; cases this
  have kl : 1 ≤ c.Key.data.toList.length := by
    rcases Nat.eq_zero_or_pos c.Key.data.toList.length with e | e
    · exact absurd (List.length_eq_zero_iff.mp e) k0
    · exact e
  unfold frame_CheckCard
  rw [s_eqn (b := (⟨#[]⟩ : ByteArray)) k0, ifn (by simp), ssz c.Key, ifn (by omega), ifp (by omega)]
  have e1 : bt c.Key 0 = ((c.Key.data.toList.headD 0).toNat : Int) := by
    have h' : 0 < c.Key.data.size := by rw [← Array.length_toList]; omega
    unfold bt
    obtain ⟨⟨⟨l⟩⟩, _, _, _⟩ := c
    cases l with
    | nil => exact absurd rfl k0
    | cons b l => simp [Array.getD]
  rw [e1, bnd (upper_eq k _), h.ku, ifn (by simp)]
  have hki := h.ki; have hvi := h.vi; have hul := h.ul; have hnt := h.nt
  rw [List.all_eq_true] at hki hvi hul hnt
  rw [bnd (all_inKey k c.Key (fun b hb => inKey_eq k b (hki b hb)) (by rw [ssz]; omega) (by rw [ssz]; omega)), ifn (by simp), bnd (own_eq k _ h.ko), ifn (by simp)]
  rw [s_eqn (b := (⟨#[]⟩ : ByteArray)) h.v0, ifn (by simp), ssz c.Value, ifn (by omega), bnd (all_inked k c.Value (fun b hb => by rw [inked_eq, hvi b hb]) (by rw [ssz]; omega) (by rw [ssz]; omega)), ifn (by simp)]
  rw [ssz c.Unit, ifn (by omega), bnd (all_lower k c.Unit (fun b hb => by rw [lower_eq, hul b hb]) (by rw [ssz]; omega) (by rw [ssz]; omega)), ifn (by simp), bnd (all_typed k c.Note (fun b hb => by rw [typed_eq, hnt b hb]) (by rw [ssz]; omega) (by rw [ssz]; omega)), ifn (by simp)]
  have e2 : strings_TrimSpace k c.Note = some c.Note := by
    unfold strings_TrimSpace
    rw [ifp (by rw [ssz]; omega), ifp, h.ns, smk_of]
    rw [List.all_eq_true]
    intro b hb
    have := hnt b hb
    unfold typedB at this
    simp only [Bool.and_eq_true, decide_eq_true_eq] at this
    exact decide_eq_true (by omega)
  rw [bnd e2, s_eqp rfl, ifn (by simp), bnd (text_eq k c (by omega) h.k8), smk_size, ifn (by omega)]
theorem numeral_size {n : Int} (h0 : -9223372036854775808 ≤ n) (h1 : n ≤ 9223372036854775807) : (numeral n).data.toList.length ≤ 21 := Go.Lib.itoa_length_le n h0 h1
theorem drop_rd {α : Type} [Inhabited α] (l : List α) (i : Nat) (h : i < l.length) : l.drop i = rd l (i : Int) :: l.drop (i + 1) := by
  obtain ⟨hi, er⟩ := rd_lt (xs := l) (i := (i : Int)) (by omega) (by omega)
  rw [er]
  exact List.drop_eq_getElem_cons h
def lineL (t : List UInt8) : List UInt8 := t ++ List.replicate (64 - t.length) 32
theorem lineL_len {t : List UInt8} (h : t.length ≤ 64) : (lineL t).length = 64 := by
  unfold lineL
  rw [List.length_append, List.length_replicate]; omega
def cardsL (f : S_Frame) (size : Int) : List S_Card := ([(⟨(⟨#[87, 73, 68, 84, 72]⟩ : ByteArray), numeral f.W, (⟨#[]⟩ : ByteArray), (⟨#[]⟩ : ByteArray)⟩ : S_Card), (⟨(⟨#[72, 69, 73, 71, 72, 84]⟩ : ByteArray), numeral f.H, (⟨#[]⟩ : ByteArray), (⟨#[]⟩ : ByteArray)⟩ : S_Card), (⟨(⟨#[66, 89, 84, 69, 83]⟩ : ByteArray), numeral size, (⟨#[]⟩ : ByteArray), (⟨#[]⟩ : ByteArray)⟩ : S_Card)] : List S_Card) ++ f.Cards
def linesL (cs : List S_Card) : List UInt8 := cs.flatMap fun c => lineL (textL c)
theorem linesL_cons (c : S_Card) (cs : List S_Card) : linesL (c :: cs) = lineL (textL c) ++ linesL cs := List.flatMap_cons ..
theorem linesL_len : ∀ {cs : List S_Card}, (∀ c ∈ cs, (textL c).length ≤ 64) → (linesL cs).length = 64 * cs.length
  | [], _ => rfl
  | c :: cs, h => by
    have := linesL_len (cs := cs) (fun c hc => h c (List.mem_cons_of_mem _ hc))
    unfold linesL at this ⊢
    rw [List.flatMap_cons, List.length_append, this, lineL_len (h c (List.mem_cons_self ..)), List.length_cons]; omega
def padN (n : Nat) : Nat := (256 - n % 256) % 256
def headL (f : S_Frame) (size : Int) : List UInt8 := (linesL (cardsL f size) ++ lineL [69, 78, 68]) ++ List.replicate (padN (64 * ((cardsL f size).length + 1))) 32
theorem header1_eq (k : Nat) (t x : List UInt8) (h : t.length ≤ 64) (hx : x.length ≤ 1000000) : frame_header_1 k ⟨t.toArray⟩ x = some (x ++ lineL t) := by
  unfold frame_header_1
  rw [smk_size, wid (by omega) (by omega), bnd (rep_eq k _ (by omega) (by omega)), smk_size, List.length_replicate, ifp (by omega), smk_app]
  have e : (64 - (t.length : Int)).toNat = 64 - t.length := by omega
  have : strings_Builder_WriteString k x ⟨(t ++ List.replicate ((64 : Int) - (t.length : Int)).toNat 32).toArray⟩ = some (((⟨(t ++ List.replicate ((64 : Int) - (t.length : Int)).toNat 32).toArray⟩ : ByteArray).size : Int), x ++ (t ++ List.replicate ((64 : Int) - (t.length : Int)).toNat 32)) := by
    unfold strings_Builder_WriteString
    rw [smk_size, List.length_append, List.length_replicate, ifp (by omega), smk]
  rw [bnd this]
  unfold lineL
  rw [e]
theorem header_l0 (k : Nat) (f : S_Frame) (size : Int) (hc : ∀ c ∈ cardsL f size, (textL c).length ≤ 64 ∧ c.Key.data.toList.length ≤ 8) (hn : (cardsL f size).length ≤ 1000) : ∀ (d fuel i : Nat) (x : List UInt8), i + d = (cardsL f size).length → d < fuel → x.length ≤ 64 * i → frame_header.l0 k (numeral f.W) (numeral f.H) (numeral size) f fuel x (i : Int) = some (x ++ linesL ((cardsL f size).drop i)) := by
  intro d
  induction d with
  | zero =>
    intro fuel i x h1 hf hx
    obtain ⟨fuel, rfl⟩ : ∃ q, fuel = q + 1 := ⟨fuel - 1, by omega⟩
    rw [frame_header.l0, ifn (by show ¬ (i : Int) < ((cardsL f size).length : Int); omega), List.drop_of_length_le (by omega)]
    show _ = some (x ++ [])
    rw [List.append_nil]
  | succ d ih =>
    intro fuel i x h1 hf hx
    obtain ⟨fuel, rfl⟩ : ∃ q, fuel = q + 1 := ⟨fuel - 1, by omega⟩
    have hi : i < (cardsL f size).length := by omega
    have hm := hc _ (rd_mem (l := cardsL f size) (i := (i : Int)) (by omega) (by omega))
    rw [frame_header.l0, ifp (by show (i : Int) < ((cardsL f size).length : Int); omega), ifp (by omega)]
    have e1 := text_eq k (rd (cardsL f size) (i : Int)) (by omega) hm.2
    have e2 := header1_eq k (textL (rd (cardsL f size) (i : Int))) x hm.1 (by omega)
    refine Eq.trans (bnd e1) ?_
    rw [bnd e2, wid (x := (i : Int) + 1) (by omega) (by omega), show (i : Int) + 1 = ((i + 1 : Nat) : Int) by omega]
    rw [ih fuel (i + 1) _ (by omega) (by omega) (by rw [List.length_append, lineL_len hm.1]; omega), drop_rd _ i hi, linesL_cons, List.append_assoc]
theorem header_l1 (k : Nat) : ∀ (d fuel : Nat) (x : List UInt8), d ≤ 3 → (x.length + 64 * d) % 256 = 0 → d < fuel → x.length + 64 * d ≤ 100000 → frame_header.l1 k fuel x = some (x ++ List.replicate (64 * d) 32) := by
  intro d
  induction d with
  | zero =>
    intro fuel x h1 h2 hf hx
    obtain ⟨fuel, rfl⟩ : ∃ q, fuel = q + 1 := ⟨fuel - 1, by omega⟩
    have e : strings_Builder_Len k x = some ((x.length : Int), x) := rfl
    rw [frame_header.l1, bnd e]
    dsimp only
    rw [ifn (by rw [tmod_nn (by omega)]; omega)]
    exact congrArg some (List.append_nil x).symm
  | succ d ih =>
    intro fuel x h1 h2 hf hx
    obtain ⟨fuel, rfl⟩ : ∃ q, fuel = q + 1 := ⟨fuel - 1, by omega⟩
    have e : strings_Builder_Len k x = some ((x.length : Int), x) := rfl
    rw [frame_header.l1, bnd e]
    dsimp only
    have e2 : frame_header_1 k (⟨#[]⟩ : ByteArray) x = some (x ++ lineL []) := header1_eq k [] x (by decide) (by omega)
    have e3 := lineL_len (t := []) (by decide)
    rw [ifp (by rw [tmod_nn (by omega)]; omega), bnd e2, ih fuel _ (by omega) (by rw [List.length_append, e3]; omega) (by omega) (by rw [List.length_append, e3]; omega), List.append_assoc]
    have e4 : lineL [] ++ List.replicate (64 * d) 32 = List.replicate (64 * (d + 1)) 32 := by
      show List.replicate 64 32 ++ List.replicate (64 * d) 32 = _
      rw [List.replicate_append_replicate]
      congr 1; omega
    rw [e4]
theorem header_eq (k : Nat) (f : S_Frame) (size : Int) (hW : 0 ≤ f.W ∧ f.W ≤ 1000) (hH : 0 ≤ f.H ∧ f.H ≤ 1000) (hs : 0 ≤ size ∧ size ≤ 1000) (hc : ∀ c ∈ cardsL f size, (textL c).length ≤ 64 ∧ c.Key.data.toList.length ≤ 8) (hn : f.Cards.length ≤ 100) (hk : 200 ≤ k) : frame_header k f size = some ⟨(headL f size).toArray⟩ := by
  have it : ∀ n : Int, 0 ≤ n ∧ n ≤ 1000 → strconv_Itoa k n = some (numeral n) := fun n h => by
    unfold strconv_Itoa
    rw [ifp (by omega), ifp (by omega)]
  have hl : (cardsL f size).length = 3 + f.Cards.length := by
    unfold cardsL
    rw [List.length_append]
    rfl
  have hL := linesL_len (fun c h => (hc c h).1)
  unfold frame_header
  rw [bnd (it _ hW), bnd (it _ hH), bnd (it _ hs), ifp (by show (3 + f.Cards.length) * 64 ≤ _; omega)]
  have e0 : frame_header.l0 k (numeral f.W) (numeral f.H) (numeral size) f k [] 0 = some ([] ++ linesL ((cardsL f size).drop 0)) := header_l0 k f size hc (by omega) (cardsL f size).length k 0 [] (by omega) (by omega) (by simp)
  rw [List.drop_zero, List.nil_append] at e0
  have e1 : frame_header_1 k (⟨#[69, 78, 68]⟩ : ByteArray) (linesL (cardsL f size)) = some (linesL (cardsL f size) ++ lineL [69, 78, 68]) := header1_eq k [69, 78, 68] _ (by decide) (by omega)
  have hE := lineL_len (t := [69, 78, 68]) (by decide)
  obtain ⟨d, hd, hp⟩ : ∃ d, d ≤ 3 ∧ padN (64 * ((cardsL f size).length + 1)) = 64 * d := by
    unfold padN
    exact ⟨(256 - 64 * ((cardsL f size).length + 1) % 256) % 256 / 64, by omega, by omega⟩
  have e2 := header_l1 k d k (linesL (cardsL f size) ++ lineL [69, 78, 68]) hd (by rw [List.length_append, hL, hE]; unfold padN at hp; omega) (by omega) (by rw [List.length_append, hL, hE]; omega)
  rw [bnd e0, bnd e1, bnd e2]
  unfold strings_Builder_String
  rw [ifp]
  · unfold headL
    rw [hp]
    rfl
  · intro h
    have := congrArg List.length h
    rw [List.length_append, List.length_append, hL, hE] at this
    simp at this
theorem headL_len (f : S_Frame) (size : Int) (hc : ∀ c ∈ cardsL f size, (textL c).length ≤ 64) : (headL f size).length = 256 * (((cardsL f size).length) / 4 + 1) := by
  unfold headL
  rw [List.length_append, List.length_append, linesL_len hc, lineL_len (by decide), List.length_replicate]
  unfold padN
  omega
theorem shr_nat (a n : Nat) : shr (a : Int) n = ((a / 2 ^ n : Nat) : Int) := by
  unfold shr
  rw [Int.fdiv_eq_ediv_of_nonneg _ (Int.pow_nonneg (by decide))]
  simp
def cstep (s : Nat) : Nat := if s % 2 = 1 then (s / 2) ^^^ 3988292384 else s / 2
def csteps : Nat → Nat → Nat
  | 0, s => s
  | d + 1, s => csteps d (cstep s)
theorem cstep_lt {s : Nat} (h : s < 4294967296) : cstep s < 4294967296 := by
  unfold cstep
  split
  · exact Nat.xor_lt_two_pow (n := 32) (by omega) (by decide)
  · omega
theorem csteps_lt : ∀ (d : Nat) {s : Nat}, s < 4294967296 → csteps d s < 4294967296
  | 0, _, h => h
  | d + 1, s, h => csteps_lt d (cstep_lt h)
def cbyte (s : Nat) (c : Int) : Nat := csteps 8 (s ^^^ c.toNat)
theorem cbyte_lt {s : Nat} {c : Int} (h : s < 4294967296) (c1 : c ≤ 255) : cbyte s c < 4294967296 :=
  csteps_lt 8 (Nat.xor_lt_two_pow (n := 32) h (by omega))
theorem cfold_lt : ∀ (l : List Int) {s : Nat}, s < 4294967296 → AllIn l 0 255 → l.foldl cbyte s < 4294967296
  | [], _, h, _ => h
  | c :: l, s, h, hl => cfold_lt l (cbyte_lt h (hl c (List.mem_cons_self ..)).2) (fun x hx => hl x (List.mem_cons_of_mem _ hx))
def crcN (b : List Int) : Nat := 4294967295 ^^^ b.foldl cbyte 4294967295
theorem sum_l1 (k : Nat) : ∀ (d fuel s : Nat) (i : Int), i + d = 8 → 0 ≤ i → d < fuel → s < 4294967296 → frame_Sum.l1 k fuel (s : Int) i = some ((csteps d s : Nat) : Int) := by
  intro d
  induction d with
  | zero =>
    intro fuel s i h1 h2 hf hs
    obtain ⟨fuel, rfl⟩ : ∃ q, fuel = q + 1 := ⟨fuel - 1, by omega⟩
    rw [frame_Sum.l1, ifn (by omega)]
    rfl
  | succ d ih =>
    intro fuel s i h1 h2 hf hs
    obtain ⟨fuel, rfl⟩ : ∃ q, fuel = q + 1 := ⟨fuel - 1, by omega⟩
    have e1 : Go.bits .and .u32 (s : Int) 1 = ((s % 2 : Nat) : Int) := by
      have := Go.u32_and_nat s 1 (by omega) (by decide)
      rw [Nat.and_one_is_mod] at this
      exact this
    rw [frame_Sum.l1, ifp (by omega), e1, shr_nat, wid (x := i + 1) (by omega) (by omega)]
    have hc := cstep_lt hs
    by_cases c : s % 2 = 1
    · have e2 : cstep s = (s / 2 ^ 1) ^^^ 3988292384 := by unfold cstep; rw [if_pos c]
      have := Go.u32_xor_nat (s / 2 ^ 1) 3988292384 (by omega) (by decide)
      rw [ifp (by omega), show (3988292384 : Int) = ((3988292384 : Nat) : Int) from rfl, this, ← e2, ih fuel (cstep s) (i + 1) (by omega) (by omega) (by omega) hc]
      rfl
    · have e2 : cstep s = s / 2 ^ 1 := by unfold cstep; rw [if_neg c]
      rw [ifn (by omega), ← e2, ih fuel (cstep s) (i + 1) (by omega) (by omega) (by omega) hc]
      rfl
theorem sum_l0 (k : Nat) (hk : 10 ≤ k) (b : List Int) (hb : AllIn b 0 255) (hl : b.length ≤ 1000000) : ∀ (d fuel i s : Nat), i + d = b.length → d < fuel → s < 4294967296 → frame_Sum.l0 k b fuel (s : Int) (i : Int) = some (((b.drop i).foldl cbyte s : Nat) : Int) := by
  intro d
  induction d with
  | zero =>
    intro fuel i s h1 hf hs
    obtain ⟨fuel, rfl⟩ : ∃ q, fuel = q + 1 := ⟨fuel - 1, by omega⟩
    rw [frame_Sum.l0, ifn (by omega), List.drop_of_length_le (by omega)]
    rfl
  | succ d ih =>
    intro fuel i s h1 hf hs
    obtain ⟨fuel, rfl⟩ : ∃ q, fuel = q + 1 := ⟨fuel - 1, by omega⟩
    obtain ⟨hi, er⟩ := rd_lt (xs := b) (i := (i : Int)) (by omega) (by omega)
    have hc := hb.rd (i := (i : Int)) (by omega) (by omega)
    obtain ⟨c, hcn⟩ : ∃ c : Nat, rd b (i : Int) = c := ⟨(rd b (i : Int)).toNat, by omega⟩
    rw [hcn] at hc
    have ed : b.drop i = (c : Int) :: b.drop (i + 1) := by
      rw [← hcn, er]
      exact List.drop_eq_getElem_cons (by omega)
    rw [frame_Sum.l0, ifp (by omega), ifp (by omega), hcn, u32_def, Int.emod_eq_of_lt (by omega) (by omega), Go.u32_xor_nat s c hs (by omega)]
    rw [bnd (sum_l1 k 8 k (s ^^^ c) 0 rfl (by decide) (by omega) (Nat.xor_lt_two_pow (n := 32) hs (by omega))), wid (x := (i : Int) + 1) (by omega) (by omega)]
    have := ih fuel (i + 1) (csteps 8 (s ^^^ c)) (by omega) (by omega) (csteps_lt 8 (Nat.xor_lt_two_pow (n := 32) hs (by omega)))
    rw [show (i : Int) + 1 = ((i + 1 : Nat) : Int) by omega, this, ed, List.foldl_cons]
    simp [cbyte]
theorem sum_eq (k : Nat) (b : List Int) (hb : AllIn b 0 255) (hl : b.length ≤ 1000000) (hk : 10 ≤ k) (hk2 : b.length < k) : frame_Sum k b = some ((crcN b : Nat) : Int) := by
  have this : frame_Sum.l0 k b k 4294967295 0 = some (((b.drop 0).foldl cbyte 4294967295 : Nat) : Int) := sum_l0 k hk b hb hl b.length k 0 4294967295 (by omega) (by omega) (by decide)
  unfold frame_Sum
  rw [bnd this, List.drop_zero]
  have e : IntKind.u32.max = ((4294967295 : Nat) : Int) := by decide
  rw [e, Go.u32_xor_nat _ _ (by decide) (cfold_lt b (by decide) hb)]
  rfl
def fourL (n : Nat) : List Int := [((n / 16777216 % 256 : Nat) : Int), ((n / 65536 % 256 : Nat) : Int), ((n / 256 % 256 : Nat) : Int), ((n % 256 : Nat) : Int)]
theorem fourL_in (n : Nat) : AllIn (fourL n) 0 255 := by
  intro x hx
  simp only [fourL, List.mem_cons, List.not_mem_nil, or_false] at hx
  rcases hx with rfl | rfl | rfl | rfl <;> omega
theorem fourL_len (n : Nat) : (fourL n).length = 4 := rfl
theorem four_eq (k n : Nat) : frame_four k (n : Int) = some (fourL n) := by
  unfold frame_four fourL
  rw [shr_nat, shr_nat, shr_nat, u8_def, u8_def, u8_def, u8_def]
  simp only [show 2 ^ 24 = 16777216 from rfl, show 2 ^ 16 = 65536 from rfl, show 2 ^ 8 = 256 from rfl, Int.natCast_emod]
  rfl
def sealL (i : Nat) (block : List Int) : List Int := fourL (crcN (fourL i ++ block))
theorem AllIn.app {a b : List Int} {lo hi : Int} (h : AllIn a lo hi) (h' : AllIn b lo hi) : AllIn (a ++ b) lo hi := fun x hx => by
  rcases List.mem_append.mp hx with hx | hx
  · exact h x hx
  · exact h' x hx
theorem seal_eq (k i : Nat) (block : List Int) (hi : i < 1000000) (hb : AllIn block 0 255) (hl : block.length ≤ 256) (hk : 300 ≤ k) : frame_seal k (i : Int) block = some (sealL i block) := by
  unfold frame_seal sealL
  rw [u32_def, Int.emod_eq_of_lt (by omega) (by omega), bnd (four_eq k i), ifp (by rw [fourL_len]; omega)]
  have hall := (fourL_in i).app hb
  rw [bnd (sum_eq k (fourL i ++ block) hall (by rw [List.length_append, fourL_len]; omega) (by omega) (by rw [List.length_append, fourL_len]; omega)), bnd (four_eq k _)]
theorem sealL_in (i : Nat) (b : List Int) : AllIn (sealL i b) 0 255 := fourL_in _
theorem sealL_len (i : Nat) (b : List Int) : (sealL i b).length = 4 := rfl
theorem find_l0 (k : Nat) (l : List S_Card) (key : ByteArray) (hl : l.length ≤ 1000000) : ∀ (d fuel i : Nat), i + d = l.length → d < fuel → slices_IndexFunc_Card__frame_find_1.l0 k l key fuel (i : Int) = some (match (l.drop i).findIdx? (fun c => decide (c.Key.data.toList = key.data.toList)) with | some j => Sum.inl ((i + j : Nat) : Int) | none => Sum.inr ()) := by
  intro d
  induction d with
  | zero =>
    intro fuel i h1 hf
    obtain ⟨fuel, rfl⟩ : ∃ q, fuel = q + 1 := ⟨fuel - 1, by omega⟩
    rw [slices_IndexFunc_Card__frame_find_1.l0, ifn (by omega), List.drop_of_length_le (by omega)]
    rfl
  | succ d ih =>
    intro fuel i h1 hf
    obtain ⟨fuel, rfl⟩ : ∃ q, fuel = q + 1 := ⟨fuel - 1, by omega⟩
    have e1 : frame_find_1 k key (rd l (i : Int)) = some (decide ((rd l (i : Int)).Key.data.toList = key.data.toList)) := by
      unfold frame_find_1
      rw [s_eq]
    rw [slices_IndexFunc_Card__frame_find_1.l0, ifp (by omega), ifp (by omega), bnd e1, drop_rd l i (by omega), List.findIdx?_cons]
    by_cases c : (rd l (i : Int)).Key.data.toList = key.data.toList
    · rw [decide_eq_true c, ifp rfl, ifp rfl]
      rfl
    · rw [decide_eq_false c, ifn (by simp), ifn (by simp), wid (x := (i : Int) + 1) (by omega) (by omega), show (i : Int) + 1 = ((i + 1 : Nat) : Int) by omega, ih fuel (i + 1) (by omega) (by omega)]
      cases (l.drop (i + 1)).findIdx? (fun c => decide (c.Key.data.toList = key.data.toList)) with
      | none => rfl
      | some j =>
        simp only [Option.map_some]
        rw [show i + 1 + j = i + (j + 1) by omega]
def findL (l : List S_Card) (key : ByteArray) : Int := match l.findIdx? (fun c => decide (c.Key.data.toList = key.data.toList)) with | some j => (j : Int) | none => -1
theorem find_eq (k : Nat) (l : List S_Card) (key : ByteArray) (hl : l.length ≤ 1000000) (hk : l.length < k) : frame_find k l key = some (findL l key) := by
  have e : slices_IndexFunc_Card__frame_find_1.l0 k l key k 0 = _ := find_l0 k l key hl l.length k 0 (by omega) (by omega)
  unfold frame_find slices_IndexFunc_Card__frame_find_1
  rw [e, List.drop_zero]
  unfold findL
  cases l.findIdx? (fun c => decide (c.Key.data.toList = key.data.toList)) with
  | none => rfl
  | some j =>
    simp only [Option.bind_some, Sum.elim_inl, Nat.zero_add]
theorem findL_none {l : List S_Card} {key : ByteArray} (h : ∀ c ∈ l, c.Key.data.toList ≠ key.data.toList) : findL l key = -1 := by
  unfold findL
  have : l.findIdx? (fun c => decide (c.Key.data.toList = key.data.toList)) = none := by
    rw [List.findIdx?_eq_none_iff]
    intro c hc
    exact decide_eq_false (h c hc)
  rw [this]
structure FGoodC (f : S_Frame) : Prop where
  W0 : 1 ≤ f.W
  W1 : f.W ≤ 32
  H0 : 1 ≤ f.H
  H1 : f.H ≤ 32
  l : (f.Counts.length : Int) = f.W * f.H
  c : AllIn f.Counts 0 65535
  n : f.Cards.length ≤ 28
  g : ∀ c ∈ f.Cards, CGood c
  d : (f.Cards.map fun c => c.Key.data.toList).Nodup
theorem FGoodC.lim {f : S_Frame} (h : FGoodC f) : 1 ≤ f.Counts.length ∧ f.Counts.length ≤ 1024 := by
  have h1 := mul_le (a := f.W - 1) (b := f.H - 1) (A := 31) (B := 31) (by have := h.W0; omega) (by have := h.W1; omega) (by have := h.H0; omega) (by have := h.H1; omega)
  have h2 := h.l
  have e : (f.W - 1) * (f.H - 1) = f.W * f.H - f.W - f.H + 1 := by rw [Int.sub_mul, Int.mul_sub]; omega
  have := h.W0; have := h.W1; have := h.H0; have := h.H1
  omega
theorem counts_l0 (k : Nat) (l : List Int) (h : AllIn l 0 65535) (hl : l.length ≤ 1000000) : ∀ (d fuel i : Nat), i + d = l.length → d < fuel → slices_IndexFunc_int__frame_Check_1.l0 k l fuel (i : Int) = some (Sum.inr ()) := by
  intro d
  induction d with
  | zero =>
    intro fuel i h1 hf
    obtain ⟨fuel, rfl⟩ : ∃ q, fuel = q + 1 := ⟨fuel - 1, by omega⟩
    rw [slices_IndexFunc_int__frame_Check_1.l0, ifn (by omega)]
  | succ d ih =>
    intro fuel i h1 hf
    obtain ⟨fuel, rfl⟩ : ∃ q, fuel = q + 1 := ⟨fuel - 1, by omega⟩
    have hc := h.rd (i := (i : Int)) (by omega) (by omega)
    have e : frame_Check_1 k (rd l (i : Int)) = some false := by
      unfold frame_Check_1
      rw [ifn (by omega), decide_eq_false (by omega)]
    rw [slices_IndexFunc_int__frame_Check_1.l0, ifp (by omega), ifp (by omega), bnd e, ifn (by simp), wid (x := (i : Int) + 1) (by omega) (by omega), show (i : Int) + 1 = ((i + 1 : Nat) : Int) by omega]
    exact ih fuel (i + 1) (by omega) (by omega)
theorem check_l0 (k : Nat) (f : S_Frame) (h : FGoodC f) (hk : 200 ≤ k) : ∀ (d fuel i : Nat), i + d = f.Cards.length → d < fuel → frame_Check.l0 k f fuel (i : Int) = some (Sum.inr ()) := by
  have hn := h.n
  intro d
  induction d with
  | zero =>
    intro fuel i h1 hf
    obtain ⟨fuel, rfl⟩ : ∃ q, fuel = q + 1 := ⟨fuel - 1, by omega⟩
    rw [frame_Check.l0, ifn (by omega)]
  | succ d ih =>
    intro fuel i h1 hf
    obtain ⟨fuel, rfl⟩ : ∃ q, fuel = q + 1 := ⟨fuel - 1, by omega⟩
    have hm := rd_mem (l := f.Cards) (i := (i : Int)) (by omega) (by omega)
    have hnone : findL (f.Cards.take i) (rd f.Cards (i : Int)).Key = -1 := by
      refine findL_none fun c hc e => ?_
      have hd := h.d
      rw [← List.take_append_drop i f.Cards, drop_rd f.Cards i (by omega), List.map_append, List.map_cons, List.nodup_append] at hd
      exact hd.2.2 _ (List.mem_map_of_mem hc) _ (List.mem_cons_self ..) e
    rw [frame_Check.l0, ifp (by omega), ifp (by omega), bnd (card_ok k _ (h.g _ hm) (by omega)), ifn (by simp), ifp (by omega), Int.toNat_natCast, bnd (find_eq k _ _ (by rw [List.length_take]; omega) (by rw [List.length_take]; omega)), hnone, ifn (by decide), wid (x := (i : Int) + 1) (by omega) (by omega), show (i : Int) + 1 = ((i + 1 : Nat) : Int) by omega]
    exact ih fuel (i + 1) (by omega) (by omega)
theorem check_eq (k : Nat) (f : S_Frame) (h : FGoodC f) (hk : 1100 ≤ k) : frame_Check k f = some 0 := by
  have hw0 := h.W0; have hw1 := h.W1; have hh0 := h.H0; have hh1 := h.H1; have hn := h.n
  have hlim := h.lim
  have hl := h.l
  unfold frame_Check mn mx
  rw [ifn (by split <;> omega), ifn (by split <;> omega), wid (x := f.W * f.H) (by omega) (by omega), ifn (by omega)]
  have e0 : slices_IndexFunc_int__frame_Check_1.l0 k f.Counts k 0 = some (Sum.inr ()) := counts_l0 k f.Counts h.c (by omega) f.Counts.length k 0 (by omega) (by omega)
  have e1 : slices_ContainsFunc_int__frame_Check_1 k f.Counts = some false := by
    unfold slices_ContainsFunc_int__frame_Check_1 slices_IndexFunc_int__frame_Check_1
    rw [e0]
    rfl
  have e2 : frame_Check.l0 k f k 0 = some (Sum.inr ()) := check_l0 k f h (by omega) f.Cards.length k 0 (by omega) (by omega)
  rw [bnd e1, ifn (by simp), ifn (by omega), bnd e2]
  rfl
def sizeL (l : List Int) : Int := if l.any (fun n => decide (n > 255)) = true then 2 else 1
theorem enc_l0 (k : Nat) (f : S_Frame) (hl : f.Counts.length ≤ 1000000) : ∀ (d fuel i : Nat) (s : Int), i + d = f.Counts.length → d < fuel → frame_Encode.l0 k f fuel s (i : Int) = some (if (f.Counts.drop i).any (fun n => decide (n > 255)) = true then 2 else s) := by
  intro d
  induction d with
  | zero =>
    intro fuel i s h1 hf
    obtain ⟨fuel, rfl⟩ : ∃ q, fuel = q + 1 := ⟨fuel - 1, by omega⟩
    rw [frame_Encode.l0, ifn (by omega), List.drop_of_length_le (by omega)]
    rfl
  | succ d ih =>
    intro fuel i s h1 hf
    obtain ⟨fuel, rfl⟩ : ∃ q, fuel = q + 1 := ⟨fuel - 1, by omega⟩
    rw [frame_Encode.l0, ifp (by omega), ifp (by omega), drop_rd f.Counts i (by omega), List.any_cons, wid (x := (i : Int) + 1) (by omega) (by omega), show (i : Int) + 1 = ((i + 1 : Nat) : Int) by omega]
    by_cases c : rd f.Counts (i : Int) > 255
    · rw [ifp c, ih fuel (i + 1) 2 (by omega) (by omega), decide_eq_true c, Bool.true_or, ifp rfl]
      split <;> rfl
    · rw [ifn c, ih fuel (i + 1) s (by omega) (by omega), decide_eq_false c, Bool.false_or]
def cntL (size : Int) (n : Int) : List Int := if size = 2 then [n / 256, n % 256] else [n % 256]
theorem cntL_in (size n : Int) (h : 0 ≤ n ∧ n ≤ 65535) : AllIn (cntL size n) 0 255 := by
  unfold cntL
  split
  · intro x hx
    simp only [List.mem_cons, List.not_mem_nil, or_false] at hx
    rcases hx with rfl | rfl <;> omega
  · intro x hx
    simp only [List.mem_cons, List.not_mem_nil, or_false] at hx
    rcases hx with rfl; omega
theorem enc_l1 (k : Nat) (f : S_Frame) (size : Int) (hc : AllIn f.Counts 0 65535) (hl : f.Counts.length ≤ 1000000) : ∀ (d fuel i : Nat) (x : List Int), i + d = f.Counts.length → d < fuel → x.length + 2 * d ≤ 100000000 → frame_Encode.l1 k f size fuel x (i : Int) = some (x ++ (f.Counts.drop i).flatMap (cntL size)) := by
  intro d
  induction d with
  | zero =>
    intro fuel i x h1 hf hx
    obtain ⟨fuel, rfl⟩ : ∃ q, fuel = q + 1 := ⟨fuel - 1, by omega⟩
    rw [frame_Encode.l1, ifn (by omega), List.drop_of_length_le (by omega), List.flatMap_nil, List.append_nil]
  | succ d ih =>
    intro fuel i x h1 hf hx
    obtain ⟨fuel, rfl⟩ : ∃ q, fuel = q + 1 := ⟨fuel - 1, by omega⟩
    have hm := hc.rd (i := (i : Int)) (by omega) (by omega)
    rw [frame_Encode.l1, ifp (by omega), ifp (by omega), drop_rd f.Counts i (by omega), List.flatMap_cons, wid (x := (i : Int) + 1) (by omega) (by omega), show (i : Int) + 1 = ((i + 1 : Nat) : Int) by omega]
    obtain ⟨n, hn⟩ : ∃ n : Nat, rd f.Counts (i : Int) = n := ⟨(rd f.Counts (i : Int)).toNat, by omega⟩
    rw [hn] at hm ⊢
    have e1 : u8 (n : Int) = (n : Int) % 256 := u8_def _
    have e2 : u8 (shr (n : Int) 8) = (n : Int) / 256 := by
      rw [shr_nat, u8_def]
      show (((n / 256 : Nat) : Int)) % 256 = _
      omega
    by_cases c : size = 2
    · rw [ifp c, ifp (by omega), ifp (by rw [List.length_append]; show (x.length + 1 + 1) * 1 ≤ _; omega), e1, e2]
      have : cntL size (n : Int) = [(n : Int) / 256, (n : Int) % 256] := if_pos c
      rw [this, ih fuel (i + 1) _ (by omega) (by omega) (by simp only [List.length_append, List.length_cons, List.length_nil]; omega)]
      simp only [List.append_assoc, List.cons_append, List.nil_append]
    · rw [ifn c, ifp (by omega), e1]
      have : cntL size (n : Int) = [(n : Int) % 256] := if_neg c
      rw [this, ih fuel (i + 1) _ (by omega) (by omega) (by simp only [List.length_append, List.length_cons, List.length_nil]; omega)]
      simp only [List.append_assoc, List.cons_append, List.nil_append]
theorem enc_l2 (k : Nat) : ∀ (d fuel : Nat) (x : List Int), d ≤ 255 → (x.length + d) % 256 = 0 → d < fuel → x.length + d ≤ 100000000 → frame_Encode.l2 k fuel x = some (x ++ List.replicate d 0) := by
  intro d
  induction d with
  | zero =>
    intro fuel x h1 h2 hf hx
    obtain ⟨fuel, rfl⟩ : ∃ q, fuel = q + 1 := ⟨fuel - 1, by omega⟩
    rw [frame_Encode.l2, ifn (by rw [tmod_nn (by omega)]; omega)]
    exact congrArg some (List.append_nil x).symm
  | succ d ih =>
    intro fuel x h1 h2 hf hx
    obtain ⟨fuel, rfl⟩ : ∃ q, fuel = q + 1 := ⟨fuel - 1, by omega⟩
    rw [frame_Encode.l2, ifp (by rw [tmod_nn (by omega)]; omega), ifp (by omega), ih fuel _ (by omega) (by simp only [List.length_append, List.length_cons, List.length_nil]; omega) (by omega) (by simp only [List.length_append, List.length_cons, List.length_nil]; omega), List.append_assoc]
    rfl
def blkL (b : List Int) (i : Nat) : List Int := (b.drop (i * 256)).take 256
def outL (b : List Int) : Nat → List Int
  | 0 => []
  | n + 1 => outL b n ++ (blkL b n ++ sealL n (blkL b n))
theorem blkL_len {b : List Int} {n i : Nat} (h : b.length = 256 * n) (hi : i < n) : (blkL b i).length = 256 := by
  unfold blkL
  rw [List.length_take, List.length_drop]; omega
theorem outL_len {b : List Int} {m : Nat} (h : b.length = 256 * m) : ∀ {n : Nat}, n ≤ m → (outL b n).length = 260 * n
  | 0, _ => rfl
  | n + 1, hn => by
    rw [outL, List.length_append, List.length_append, outL_len h (by omega), blkL_len h hn, sealL_len]; omega
theorem blkL_in {b : List Int} (h : AllIn b 0 255) (i : Nat) : AllIn (blkL b i) 0 255 := fun x hx => h x (List.mem_of_mem_drop (List.mem_of_mem_take hx))
theorem outL_in {b : List Int} (h : AllIn b 0 255) : ∀ n : Nat, AllIn (outL b n) 0 255
  | 0 => AllIn.nil
  | n + 1 => (outL_in h n).app ((blkL_in h n).app (sealL_in _ _))
theorem take_drop_blk (b : List Int) (i s : Nat) : (b.take ((i + 1) * s)).drop (i * s) = (b.drop (i * s)).take s := by
  rw [List.drop_take]
  congr 1
  rw [Nat.add_mul]; omega
theorem enc_l3 (k : Nat) (b : List Int) (m : Nat) (hb : b.length = 256 * m) (hm : m ≤ 10000) (hin : AllIn b 0 255) (hk : 300 ≤ k) : ∀ (d fuel i : Nat), i + d = m → d < fuel → frame_Encode.l3 k b fuel (outL b i) (i : Int) = some (outL b m) := by
  intro d
  induction d with
  | zero =>
    intro fuel i h1 hf
    obtain ⟨fuel, rfl⟩ : ∃ q, fuel = q + 1 := ⟨fuel - 1, by omega⟩
    obtain rfl : i = m := by omega
    rw [frame_Encode.l3, wid (x := (i : Int) * 256) (by omega) (by omega), ifn (by omega)]
  | succ d ih =>
    intro fuel i h1 hf
    obtain ⟨fuel, rfl⟩ : ∃ q, fuel = q + 1 := ⟨fuel - 1, by omega⟩
    have hol := outL_len hb (n := i) (by omega)
    have hbl := blkL_len hb (i := i) (by omega)
    have e0 : ((b.take (((i : Int) + 1) * 256).toNat).drop ((i : Int) * 256).toNat) = blkL b i := by
      rw [show (((i : Int) + 1) * 256).toNat = (i + 1) * 256 by omega, show ((i : Int) * 256).toNat = i * 256 by omega]
      exact take_drop_blk b i 256
    rw [frame_Encode.l3, wid (x := (i : Int) * 256) (by omega) (by omega), wid (x := (i : Int) + 1) (by omega) (by omega), wid (x := ((i : Int) + 1) * 256) (by omega) (by omega), ifp (by omega), ifp (by omega), ifp (by omega), ifp (by omega), e0, ifp (by omega)]
    rw [bnd (seal_eq k i (blkL b i) (by omega) (blkL_in hin i) (by omega) hk), ifp (by rw [List.length_append, sealL_len]; omega), show (i : Int) + 1 = ((i + 1 : Nat) : Int) by omega, List.append_assoc]
    exact ih fuel (i + 1) (by omega) (by omega)
def sb (l : List UInt8) : List Int := l.map fun b => (b.toNat : Int)
theorem sb_in (l : List UInt8) : AllIn (sb l) 0 255 := fun x hx => by
  unfold sb at hx
  rw [List.mem_map] at hx
  obtain ⟨b, _, rfl⟩ := hx
  have := b.toNat_lt
  omega
def dataL (f : S_Frame) : List Int := f.Counts.flatMap (cntL (sizeL f.Counts))
def bodyL (f : S_Frame) : List Int := (sb (headL f (sizeL f.Counts)) ++ dataL f) ++ List.replicate (padN (dataL f).length) 0
theorem sizeL_in (l : List Int) : 1 ≤ sizeL l ∧ sizeL l ≤ 2 := by unfold sizeL; split <;> omega
theorem cntL_len {size n : Int} (h : 1 ≤ size ∧ size ≤ 2) : (cntL size n).length = size.toNat := by
  unfold cntL
  split
  · rename_i h; rw [h]; rfl
  · rw [show size = 1 by omega]; rfl
theorem flat_len {size : Int} (h : 1 ≤ size ∧ size ≤ 2) : ∀ l : List Int, (l.flatMap (cntL size)).length = l.length * size.toNat
  | [] => by simp
  | x :: l => by rw [List.flatMap_cons, List.length_append, flat_len h l, cntL_len h, List.length_cons, Nat.add_mul]; omega
theorem flat_in {size : Int} : ∀ {l : List Int}, AllIn l 0 65535 → AllIn (l.flatMap (cntL size)) 0 255
  | [], _ => AllIn.nil
  | x :: l, h => by
    rw [List.flatMap_cons]
    exact (cntL_in size x (h x (List.mem_cons_self ..))).app (flat_in fun y hy => h y (List.mem_cons_of_mem _ hy))
theorem dataL_len (f : S_Frame) : (dataL f).length = f.Counts.length * (sizeL f.Counts).toNat := flat_len (sizeL_in _) _
theorem cardsL_ok {f : S_Frame} (h : FGoodC f) (size : Int) (hs : 1 ≤ size ∧ size ≤ 2) : ∀ c ∈ cardsL f size, (textL c).length ≤ 64 ∧ c.Key.data.toList.length ≤ 8 := by
  have hw0 := h.W0; have hw1 := h.W1; have hh0 := h.H0; have hh1 := h.H1
  intro c hc
  unfold cardsL at hc
  rcases List.mem_append.mp hc with hc | hc
  · simp only [List.mem_cons, List.not_mem_nil, or_false] at hc
    have g : ∀ (K : ByteArray) (n : Int), K.data.toList.length ≤ 8 → 0 ≤ n → n ≤ 1000 → (textL (⟨K, numeral n, ⟨#[]⟩, ⟨#[]⟩⟩ : S_Card)).length ≤ 64 := fun K n h1 h2 h3 => by
      have := numeral_size (n := n) (by omega) (by omega)
      unfold textL
      rw [ifp rfl, ifp rfl]
      simp only [List.length_append, List.length_replicate, List.length_cons, List.length_nil]
      omega
    rcases hc with rfl | rfl | rfl
    · exact ⟨g _ _ (by decide) (by omega) (by omega), by show 5 ≤ 8; decide⟩
    · exact ⟨g _ _ (by decide) (by omega) (by omega), by show 6 ≤ 8; decide⟩
    · exact ⟨g _ _ (by decide) (by omega) (by omega), by show 5 ≤ 8; decide⟩
  · have := h.g c hc
    exact ⟨this.t, this.k8⟩
theorem cardsL_len (f : S_Frame) (size : Int) : (cardsL f size).length = 3 + f.Cards.length := by
  unfold cardsL
  rw [List.length_append]
  rfl
def blocksN (f : S_Frame) : Nat := (3 + f.Cards.length) / 4 + 1 + ((dataL f).length + 255) / 256
theorem bodyL_len {f : S_Frame} (h : FGoodC f) : (bodyL f).length = 256 * blocksN f := by
  unfold bodyL
  have := headL_len f (sizeL f.Counts) (fun c hc => (cardsL_ok h _ (sizeL_in _) c hc).1)
  rw [List.length_append, List.length_append, sb, List.length_map, this, cardsL_len, List.length_replicate]
  unfold padN blocksN
  omega
theorem bodyL_in {f : S_Frame} (h : FGoodC f) : AllIn (bodyL f) 0 255 := by
  unfold bodyL
  refine AllIn.app ((sb_in _).app (flat_in h.c)) fun x hx => ?_
  have := List.eq_of_mem_replicate hx
  omega
theorem blocksN_lim {f : S_Frame} (h : FGoodC f) : 2 ≤ blocksN f ∧ blocksN f ≤ 100 := by
  have h1 := h.lim
  have h2 := h.n
  have h3 := dataL_len f
  rcases (show sizeL f.Counts = 1 ∨ sizeL f.Counts = 2 by have := sizeL_in f.Counts; omega) with e | e
  · rw [e, show (1 : Int).toNat = 1 from rfl] at h3
    unfold blocksN; omega
  · rw [e, show (2 : Int).toNat = 2 from rfl] at h3
    unfold blocksN; omega
theorem encode_eq (k : Nat) (f : S_Frame) (h : FGoodC f) (hk : 3000 ≤ k) : frame_Encode k f = some (outL (bodyL f) (blocksN f), 0) := by
  have hlim := h.lim
  have hb := blocksN_lim h
  have hw0 := h.W0; have hw1 := h.W1; have hh0 := h.H0; have hh1 := h.H1; have hn := h.n
  unfold frame_Encode
  have e0 : frame_Encode.l0 k f k 1 0 = some (sizeL f.Counts) := enc_l0 k f (by omega) f.Counts.length k 0 1 (by omega) (by omega)
  have hs := sizeL_in f.Counts
  rw [bnd (check_eq k f h (by omega)), ifn (by simp), bnd e0, bnd (header_eq k f _ (by omega) (by omega) (by omega) (cardsL_ok h _ hs) (by omega) (by omega))]
  have hH := headL_len f (sizeL f.Counts) (fun c hc => (cardsL_ok h _ hs c hc).1)
  rw [cardsL_len] at hH
  have e1 : frame_Encode.l1 k f (sizeL f.Counts) k (sby ⟨(headL f (sizeL f.Counts)).toArray⟩) 0 = some (sb (headL f (sizeL f.Counts)) ++ dataL f) :=
    enc_l1 k f _ h.c (by omega) f.Counts.length k 0 (sb (headL f (sizeL f.Counts))) (by omega) (by omega) (by rw [sb, List.length_map]; omega)
  have hd := dataL_len f
  have hd2 : (dataL f).length ≤ 2048 := by
    rcases (show sizeL f.Counts = 1 ∨ sizeL f.Counts = 2 by omega) with e | e
    · rw [e, show (1 : Int).toNat = 1 from rfl] at hd; omega
    · rw [e, show (2 : Int).toNat = 2 from rfl] at hd; omega
  have e2 := enc_l2 k (padN (dataL f).length) k (sb (headL f (sizeL f.Counts)) ++ dataL f) (by unfold padN; omega) (by rw [List.length_append, sb, List.length_map]; unfold padN; omega) (by unfold padN; omega) (by rw [List.length_append, sb, List.length_map]; unfold padN; omega)
  have e3 : frame_Encode.l3 k (bodyL f) k [] 0 = some (outL (bodyL f) (blocksN f)) := enc_l3 k (bodyL f) (blocksN f) (bodyL_len h) (by omega) (bodyL_in h) (by omega) (blocksN f) k 0 (by omega) (by omega)
  rw [smk_size, ifp (by omega), bnd e1, bnd e2]
  rw [bnd (show frame_Encode.l3 k ((sb (headL f (sizeL f.Counts)) ++ dataL f) ++ List.replicate (padN (dataL f).length) 0) k [] 0 = _ from e3)]
theorem bstr_data (l : List Int) : (bstr l).data.toList = l.map fun n => UInt8.ofNat n.toNat := rfl
theorem bstr_inj {a b : List Int} (ha : AllIn a 0 255) (hb : AllIn b 0 255) (h : (bstr a).data.toList = (bstr b).data.toList) : a = b := by
  rw [bstr_data, bstr_data] at h
  induction a generalizing b with
  | nil =>
    cases b with
    | nil => rfl
    | cons y b => cases h
  | cons x a ih =>
    cases b with
    | nil => cases h
    | cons y b =>
      rw [List.map_cons, List.map_cons, List.cons.injEq] at h
      have hx := ha x (List.mem_cons_self ..)
      have hy := hb y (List.mem_cons_self ..)
      have e := congrArg UInt8.toNat h.1
      rw [UInt8.toNat_ofNat', UInt8.toNat_ofNat', Nat.mod_eq_of_lt (show x.toNat < 2 ^ 8 by omega), Nat.mod_eq_of_lt (show y.toNat < 2 ^ 8 by omega)] at e
      rw [show x = y by omega, ih (fun z hz => ha z (List.mem_cons_of_mem _ hz)) (fun z hz => hb z (List.mem_cons_of_mem _ hz)) h.2]
theorem bstr_eq {a b : List Int} (ha : AllIn a 0 255) (hb : AllIn b 0 255) : ((bstr a).toList == (bstr b).toList) = decide (a = b) := by
  rw [s_eq]
  exact decide_eq_decide.mpr ⟨bstr_inj ha hb, fun h => by rw [h]⟩
def pcL (b : List Int) (i : Nat) : List Int := (b.drop (i * 260)).take 260
def badL (b : List Int) (i : Nat) : Bool := !decide (sealL i ((pcL b i).take 256) = (pcL b i).drop 256)
theorem pcL_len {b : List Int} {n i : Nat} (h : b.length = 260 * n) (hi : i < n) : (pcL b i).length = 260 := by
  unfold pcL
  rw [List.length_take, List.length_drop]; omega
theorem ver_l0 (k : Nat) (b : List Int) (m : Nat) (hb : b.length = 260 * m) (hm : m ≤ 10000) (hin : AllIn b 0 255) (hk : 300 ≤ k) : ∀ (d fuel i : Nat) (x : List Int), i + d = m → d < fuel → x.length ≤ i → frame_Verify.l0 k b fuel x (i : Int) = some (x ++ ((List.range' i d).filter (badL b)).map Int.ofNat) := by
  intro d
  induction d with
  | zero =>
    intro fuel i x h1 hf hx
    obtain ⟨fuel, rfl⟩ : ∃ q, fuel = q + 1 := ⟨fuel - 1, by omega⟩
    rw [frame_Verify.l0, wid (x := (i : Int) * 260) (by omega) (by omega), ifn (by omega)]
    exact congrArg some (List.append_nil x).symm
  | succ d ih =>
    intro fuel i x h1 hf hx
    obtain ⟨fuel, rfl⟩ : ∃ q, fuel = q + 1 := ⟨fuel - 1, by omega⟩
    have hpl := pcL_len hb (i := i) (by omega)
    have hpin : AllIn (pcL b i) 0 255 := fun z hz => hin z (List.mem_of_mem_drop (List.mem_of_mem_take hz))
    have htin : AllIn ((pcL b i).take 256) 0 255 := fun z hz => hpin z (List.mem_of_mem_take hz)
    have hdin : AllIn ((pcL b i).drop 256) 0 255 := fun z hz => hpin z (List.mem_of_mem_drop hz)
    have e0 : ((b.take (((i : Int) + 1) * 260).toNat).drop ((i : Int) * 260).toNat) = pcL b i := by
      rw [show (((i : Int) + 1) * 260).toNat = (i + 1) * 260 by omega, show ((i : Int) * 260).toNat = i * 260 by omega]
      exact take_drop_blk b i 260
    have e1 : ((256 : Int).toNat) = 256 := rfl
    rw [frame_Verify.l0, wid (x := (i : Int) * 260) (by omega) (by omega), wid (x := (i : Int) + 1) (by omega) (by omega), wid (x := ((i : Int) + 1) * 260) (by omega) (by omega), ifp (by omega), ifp (by omega), ifp (by omega), ifp (by omega), e0, ifp (by omega), e1]
    rw [bnd (seal_eq k i _ (by omega) htin (by rw [List.length_take]; omega) hk), bstr_eq (sealL_in _ _) hdin, show (i : Int) + 1 = ((i + 1 : Nat) : Int) by omega, List.range'_succ, List.filter_cons]
    have hbad : badL b i = !decide (sealL i ((pcL b i).take 256) = (pcL b i).drop 256) := rfl
    rw [← hbad]
    by_cases c : badL b i = true
    · rw [ifp c, ifp (by omega), ifp c, ih fuel (i + 1) _ (by omega) (by omega) (by rw [List.length_append]; show x.length + 1 ≤ _; omega), List.map_cons, List.append_assoc]
      rfl
    · rw [ifn c, ifn c, ih fuel (i + 1) _ (by omega) (by omega) (by omega)]
theorem verify_eq (k : Nat) (b : List Int) (m : Nat) (hb : b.length = 260 * m) (h1 : 1 ≤ m) (hm : m ≤ 10000) (hin : AllIn b 0 255) (hk : 300 ≤ k) (hk2 : m < k) : frame_Verify k b = some (((List.range m).filter (badL b)).map Int.ofNat, 0) := by
  have e : frame_Verify.l0 k b k [] 0 = _ := ver_l0 k b m hb hm hin hk m k 0 [] (by omega) (by omega) (by simp)
  unfold frame_Verify
  rw [ifn (by omega), ifn (by rw [tmod_nn (by omega)]; omega), bnd e, List.nil_append, List.range_eq_range']
theorem pcL_out {b : List Int} {m : Nat} (h : b.length = 256 * m) : ∀ {n : Nat}, n ≤ m → ∀ {i : Nat}, i < n → pcL (outL b n) i = blkL b i ++ sealL i (blkL b i)
  | 0, _, _, hi => absurd hi (by omega)
  | n + 1, hn, i, hi => by
    have hl := outL_len h (n := n) (by omega)
    have hbl := blkL_len h (i := n) (by omega)
    unfold pcL
    rw [outL]
    by_cases c : i < n
    · rw [List.drop_append_of_le_length (by omega), List.take_append_of_le_length (by rw [List.length_drop]; omega)]
      exact pcL_out h (by omega) c
    · obtain rfl : i = n := by omega
      rw [List.drop_append, List.drop_of_length_le (by omega), List.nil_append, show i * 260 - (outL b i).length = 0 by omega, List.drop_zero]
      exact List.take_of_length_le (by rw [List.length_append, sealL_len]; omega)
theorem piece_parts {b : List Int} {n i : Nat} (h : b.length = 256 * n) (hi : i < n) : (blkL b i ++ sealL i (blkL b i)).take 256 = blkL b i ∧ (blkL b i ++ sealL i (blkL b i)).drop 256 = sealL i (blkL b i) := by
  have hbl := blkL_len h hi
  constructor
  · rw [List.take_append_of_le_length (by omega)]
    exact List.take_of_length_le (by omega)
  · rw [List.drop_append, List.drop_of_length_le (by omega), List.nil_append, show 256 - (blkL b i).length = 0 by omega, List.drop_zero]
theorem badL_out {b : List Int} {n : Nat} (h : b.length = 256 * n) {i : Nat} (hi : i < n) : badL (outL b n) i = false := by
  unfold badL
  rw [pcL_out h (Nat.le_refl n) hi, (piece_parts h hi).1, (piece_parts h hi).2, decide_eq_true rfl]
  rfl
theorem verify_out (k : Nat) (b : List Int) (n : Nat) (h : b.length = 256 * n) (h1 : 1 ≤ n) (hn : n ≤ 10000) (hin : AllIn b 0 255) (hk : 300 ≤ k) (hk2 : n < k) : frame_Verify k (outL b n) = some ([], 0) := by
  have e := verify_eq k (outL b n) n (outL_len h (Nat.le_refl n)) h1 hn (outL_in hin n) hk hk2
  have e2 : (List.range n).filter (badL (outL b n)) = [] := by
    rw [List.filter_eq_nil_iff]
    intro i hi
    rw [badL_out h (List.mem_range.mp hi)]
    simp
  rw [e, e2]
  rfl
theorem trimR_pad (x : List UInt8) (n : Nat) (h : ∀ b, x.getLast? = some b → b ≠ 32) : Go.Lib.trimRightB (x ++ List.replicate n 32) 32 = x := by
  unfold Go.Lib.trimRightB
  rw [List.reverse_append, List.reverse_replicate]
  have e : ∀ n : Nat, (List.replicate n (32 : UInt8) ++ x.reverse).dropWhile (· == 32) = x.reverse := by
    intro n
    induction n with
    | zero =>
      rw [List.replicate_zero, List.nil_append]
      cases hx : x.reverse with
      | nil => rfl
      | cons b l =>
        have : x.getLast? = some b := by rw [← List.head?_reverse, hx]; rfl
        rw [List.dropWhile_cons, if_neg (by simpa using h b this)]
    | succ n ih => rw [List.replicate_succ, List.cons_append, List.dropWhile_cons, if_pos (by decide), ih]
  rw [e, List.reverse_reverse]
theorem index_byte (c : UInt8) (r : List UInt8) : ∀ v : List UInt8, (∀ b ∈ v, b ≠ c) → Go.Lib.index (v ++ c :: r) [c] = (v.length : Int)
  | [], _ => by
    rw [List.nil_append, Go.Lib.index, if_pos (by simp [List.isPrefixOf])]
    rfl
  | b :: v, h => by
    have hb := h b (List.mem_cons_self ..)
    have := index_byte c r v (fun x hx => h x (List.mem_cons_of_mem _ hx))
    rw [List.cons_append, Go.Lib.index, if_neg (by simp [List.isPrefixOf]; exact fun e => hb e.symm), this, if_neg (by simp), List.length_cons]
    omega
theorem index_none (c : UInt8) : ∀ v : List UInt8, (∀ b ∈ v, b ≠ c) → Go.Lib.index v [c] = -1
  | [], _ => rfl
  | b :: v, h => by
    have hb := h b (List.mem_cons_self ..)
    have := index_none c v (fun x hx => h x (List.mem_cons_of_mem _ hx))
    rw [Go.Lib.index, if_neg (by simp [List.isPrefixOf]; exact fun e => hb e.symm), this]
    rfl
theorem cut_byte (c : UInt8) (v r : List UInt8) (h : ∀ b ∈ v, b ≠ c) : Go.Lib.cut (v ++ c :: r) [c] = (v, r, true) := by
  unfold Go.Lib.cut
  rw [index_byte c r v h, if_pos (by omega), Int.toNat_natCast]
  have e1 : (v ++ c :: r).take v.length = v := List.take_left ..
  have e2 : (v ++ c :: r).drop (v.length + [c].length) = r := by
    rw [List.drop_append, List.drop_of_length_le (by simp), List.nil_append]
    simp
  rw [e1, e2]
theorem cut_none (c : UInt8) (v : List UInt8) (h : ∀ b ∈ v, b ≠ c) : Go.Lib.cut v [c] = (v, [], false) := by
  unfold Go.Lib.cut
  rw [index_none c v h, if_neg (by decide)]
structure CRead (c : S_Card) : Prop where
  k8 : c.Key.data.toList.length ≤ 8
  ki : ∀ b ∈ c.Key.data.toList, b ≠ 32
  v0 : c.Value.data.toList ≠ []
  vi : ∀ b ∈ c.Value.data.toList, b ≠ 32
  ul : ∀ b ∈ c.Unit.data.toList, b ≠ 93
  nl : ∀ b, c.Note.data.toList.getLast? = some b → b ≠ 32
  t : (textL c).length ≤ 64
theorem drW_le (p : UInt8 → Bool) (l : List UInt8) : (l.dropWhile p).length ≤ l.length := (List.dropWhile_suffix p).length_le
theorem trim_last {l : List UInt8} (h : Go.Lib.trimSpace l = l) : ∀ b, l.getLast? = some b → b ≠ 32 := by
  intro b hb e
  subst e
  have hl : (Go.Lib.trimSpace l).length = l.length := congrArg List.length h
  unfold Go.Lib.trimSpace at hl
  obtain ⟨ys, rfl⟩ := List.getLast?_eq_some_iff.mp hb
  have h1 : ((ys ++ [32]).dropWhile Go.Lib.isSp).length ≤ (ys ++ [32]).length := drW_le _ _
  by_cases c : (ys ++ [32]).dropWhile Go.Lib.isSp = ys ++ [32]
  · rw [c, List.reverse_append, List.reverse_singleton, List.singleton_append, List.dropWhile_cons, if_pos (by decide), List.length_reverse] at hl
    have := drW_le Go.Lib.isSp ys.reverse
    rw [List.length_reverse] at this
    rw [List.length_append, List.length_singleton] at hl
    omega
  · have h2 : ((ys ++ [32]).dropWhile Go.Lib.isSp).length ≠ (ys ++ [32]).length := fun e => c ((List.dropWhile_suffix Go.Lib.isSp).eq_of_length e)
    have h3 := drW_le Go.Lib.isSp ((ys ++ [32]).dropWhile Go.Lib.isSp).reverse
    rw [List.length_reverse] at h3 hl
    omega
theorem CGood.read {c : S_Card} (h : CGood c) : CRead c := by
  have hki := h.ki; have hvi := h.vi; have hul := h.ul
  rw [List.all_eq_true] at hki hvi hul
  refine ⟨h.k8, fun b hb e => ?_, h.v0, fun b hb e => ?_, fun b hb e => ?_, trim_last h.ns, h.t⟩
  · have := hki b hb; rw [e] at this; exact absurd this (by decide)
  · have := hvi b hb; rw [e] at this; exact absurd this (by decide)
  · have := hul b hb; rw [e] at this; exact absurd this (by decide)
theorem trimP_hit (p r : List UInt8) : Go.Lib.trimPrefix (p ++ r) p = r := by
  unfold Go.Lib.trimPrefix Go.Lib.hasPrefix
  rw [if_pos (by simp), List.drop_left]
def restL (c : S_Card) : List UInt8 := c.Value.data.toList ++ (if c.Unit.data.toList = [] then [] else [32, 91] ++ c.Unit.data.toList ++ [93]) ++ (if c.Note.data.toList = [] then [] else [32, 47, 32] ++ c.Note.data.toList)
theorem last_app {a b : List UInt8} (hb : b ≠ []) : (a ++ b).getLast? = b.getLast? := by
  rw [List.getLast?_append]
  cases h : b.getLast? with
  | none => exact absurd (List.getLast?_eq_none_iff.mp h) hb
  | some x => rfl
theorem rest_last {c : S_Card} (h : CRead c) : ∀ b, (restL c).getLast? = some b → b ≠ 32 := by
  intro b hb
  unfold restL at hb
  by_cases cN : c.Note.data.toList = []
  · rw [ifp cN, List.append_nil] at hb
    by_cases cU : c.Unit.data.toList = []
    · rw [ifp cU, List.append_nil] at hb
      exact h.vi b (List.mem_of_getLast? hb)
    · rw [ifn cU, ← List.append_assoc, last_app (by simp)] at hb
      simp at hb
      rw [← hb]; decide
  · rw [ifn cN, ← List.append_assoc, last_app cN] at hb
    exact h.nl b hb
theorem card_read (k : Nat) (c : S_Card) (h : CRead c) : frame_card k ⟨(lineL (textL c)).toArray⟩ = some (c, true) := by
  obtain ⟨l1, l2, l3, l4⟩ := textL_len c
  have ht := h.t; have hk8 := h.k8
  have hlen := lineL_len h.t
  have hP : (c.Key.data.toList ++ List.replicate (8 - c.Key.data.toList.length) (32 : UInt8)).length = 8 := by rw [List.length_append, List.length_replicate]; omega
  have eT : lineL (textL c) = (c.Key.data.toList ++ List.replicate (8 - c.Key.data.toList.length) 32) ++ ([61, 32] ++ (restL c ++ List.replicate (64 - (textL c).length) 32)) := by
    unfold lineL restL
    have : textL c = (c.Key.data.toList ++ List.replicate (8 - c.Key.data.toList.length) 32) ++ ([61, 32] ++ restL c) := by
      unfold textL restL
      simp only [List.append_assoc]
    rw [this, show restL c = c.Value.data.toList ++ (if c.Unit.data.toList = [] then [] else [32, 91] ++ c.Unit.data.toList ++ [93]) ++ (if c.Note.data.toList = [] then [] else [32, 47, 32] ++ c.Note.data.toList) from rfl]
    simp only [List.append_assoc]
  generalize hn : 64 - (textL c).length = n at eT
  generalize hk' : 8 - c.Key.data.toList.length = m at eT hP
  generalize hPe : c.Key.data.toList ++ List.replicate m (32 : UInt8) = P at eT hP
  generalize hRe : restL c ++ List.replicate n (32 : UInt8) = R at eT
  rw [eT] at hlen ⊢
  have hR : R.length = 54 := by
    simp only [List.length_append, List.length_cons, List.length_nil] at hlen
    omega
  have c1 : scut ⟨(P ++ ([61, 32] ++ R)).toArray⟩ 8 10 = ⟨([61, 32] : List UInt8).toArray⟩ := by
    unfold scut
    rw [smk, show (8 : Int).toNat = P.length by rw [hP]; rfl, List.drop_left, show (10 : Int).toNat - P.length = ([61, 32] : List UInt8).length by rw [hP]; rfl, List.take_left]
  have c2 : scut ⟨(P ++ ([61, 32] ++ R)).toArray⟩ 0 8 = ⟨P.toArray⟩ := by
    unfold scut
    rw [smk, show (0 : Int).toNat = 0 from rfl, List.drop_zero, show (8 : Int).toNat - 0 = P.length by rw [hP]; rfl, List.take_left]
  have c3 : scut ⟨(P ++ ([61, 32] ++ R)).toArray⟩ 10 ((64 : Nat) : Int) = ⟨R.toArray⟩ := by
    unfold scut
    rw [smk, ← List.append_assoc, show (10 : Int).toNat = (P ++ [61, 32]).length by rw [List.length_append, hP]; rfl, List.drop_left, List.take_of_length_le (by rw [hR, List.length_append, hP, Int.toNat_natCast]; decide)]
  have tr : ∀ l : List UInt8, l.length ≤ 100000 → strings_TrimRight k ⟨l.toArray⟩ (⟨#[32]⟩ : ByteArray) = some ⟨(Go.Lib.trimRightB l 32).toArray⟩ := fun l hl => by
    unfold strings_TrimRight
    rw [smk_size, ifp (by omega), ifp rfl]
  have ct : ∀ (l : List UInt8) (b : UInt8), l.length ≤ 100000 → strings_Cut k ⟨l.toArray⟩ (⟨#[b]⟩ : ByteArray) = some (⟨(Go.Lib.cut l [b]).1.toArray⟩, ⟨(Go.Lib.cut l [b]).2.1.toArray⟩, (Go.Lib.cut l [b]).2.2) := fun l b hl => by
    unfold strings_Cut
    rw [smk_size, ifp (by omega)]
  have e1 : Go.Lib.trimRightB P 32 = c.Key.data.toList := by
    rw [← hPe]
    exact trimR_pad _ _ fun b hb => h.ki b (List.mem_of_getLast? hb)
  have e2 : Go.Lib.trimRightB R 32 = restL c := by
    rw [← hRe]
    exact trimR_pad _ _ (rest_last h)
  have hrl : (restL c).length ≤ 54 := by rw [← hRe, List.length_append] at hR; omega
  unfold frame_card
  rw [smk_size, hlen, ifn (by decide), ifp (by decide), c1, s_eqp rfl, ifn (by simp), ifp (by decide), c2, c3, bnd (tr P (by omega)), bnd (tr R (by omega)), e1, e2, bnd (ct _ 32 (by omega))]
  dsimp only
  obtain ⟨K, V, U, N⟩ := c
  have hv := h.vi; have hu := h.ul
  have hUb := l3; have hNb := l4
  unfold restL
  dsimp only at hv hu hUb hNb ⊢
  by_cases cU : U.data.toList = []
  · have hU : U = ⟨#[]⟩ := sx cU
    rw [ifp cU, List.append_nil]
    by_cases cN : N.data.toList = []
    · have hN : N = ⟨#[]⟩ := sx cN
      rw [ifp cN, List.append_nil, cut_none 32 _ hv, hU, hN]
      simp only [smk_of]
      rfl
    · rw [ifn cN, show V.data.toList ++ ([32, 47, 32] ++ N.data.toList) = V.data.toList ++ 32 :: ([47, 32] ++ N.data.toList) from rfl, cut_byte 32 _ _ hv, hU]
      simp only [smk_of]
      have p1 : strings_CutPrefix k ⟨([47, 32] ++ N.data.toList).toArray⟩ (⟨#[91]⟩ : ByteArray) = some (⟨([47, 32] ++ N.data.toList).toArray⟩, false) := rfl
      have p2 : strings_TrimPrefix k ⟨([47, 32] ++ N.data.toList).toArray⟩ (⟨#[47, 32]⟩ : ByteArray) = some N := by
        unfold strings_TrimPrefix
        rw [smk, show (⟨#[47, 32]⟩ : ByteArray).data.toList = [47, 32] from rfl, trimP_hit, smk_of]
      rw [bnd p1]
      dsimp only
      rw [ifn (by simp), bnd p2]
  · rw [ifn cU]
    have q : ∀ r : List UInt8, r.length ≤ 1000 → (Go.Lib.cut (V.data.toList ++ ([32, 91] ++ U.data.toList ++ [93]) ++ r) [32]) = (V.data.toList, [91] ++ (U.data.toList ++ 93 :: r), true) ∧
        strings_CutPrefix k ⟨([91] ++ (U.data.toList ++ 93 :: r)).toArray⟩ (⟨#[91]⟩ : ByteArray) = some (⟨(U.data.toList ++ 93 :: r).toArray⟩, true) ∧
        strings_Cut k ⟨(U.data.toList ++ 93 :: r).toArray⟩ (⟨#[93]⟩ : ByteArray) = some (U, ⟨r.toArray⟩, true) := fun r hr => by
      refine ⟨?_, ?_, ?_⟩
      · have := cut_byte 32 V.data.toList ([91] ++ (U.data.toList ++ 93 :: r)) hv
        rw [← this]
        simp only [List.append_assoc, List.cons_append, List.nil_append]
      · unfold strings_CutPrefix
        rw [smk, show (⟨#[91]⟩ : ByteArray).data.toList = [91] from rfl, trimP_hit]
        rfl
      · rw [ct _ 93 (by rw [List.length_append, List.length_cons]; omega), cut_byte 93 _ _ hu, smk_of]
    by_cases cN : N.data.toList = []
    · have hN : N = ⟨#[]⟩ := sx cN
      obtain ⟨q1, q2, q3⟩ := q [] (by decide)
      rw [ifp cN, q1]
      dsimp only
      rw [bnd q2]
      dsimp only
      rw [ifp rfl, bnd q3, smk_of, hN]
      rfl
    · rw [ifn cN]
      obtain ⟨q1, q2, q3⟩ := q ([32, 47, 32] ++ N.data.toList) (by rw [List.length_append]; show 3 + _ ≤ _; omega)
      rw [q1]
      dsimp only
      rw [bnd q2]
      dsimp only
      rw [ifp rfl, bnd q3, smk_of]
      dsimp only
      have p1 : strings_TrimPrefix k ⟨([32, 47, 32] ++ N.data.toList).toArray⟩ (⟨#[32]⟩ : ByteArray) = some ⟨([47, 32] ++ N.data.toList).toArray⟩ := by
        unfold strings_TrimPrefix
        rw [smk, show (⟨#[32]⟩ : ByteArray).data.toList = [32] from rfl, show [32, 47, 32] ++ N.data.toList = [32] ++ ([47, 32] ++ N.data.toList) from rfl, trimP_hit]
      have p2 : strings_TrimPrefix k ⟨([47, 32] ++ N.data.toList).toArray⟩ (⟨#[47, 32]⟩ : ByteArray) = some N := by
        unfold strings_TrimPrefix
        rw [smk, show (⟨#[47, 32]⟩ : ByteArray).data.toList = [47, 32] from rfl, trimP_hit, smk_of]
      rw [bnd p1, ifn (by simp), bnd p2]
theorem i64_or_sum (a b : Int) (i : Nat) (ha : 0 ≤ a) (hb0 : 0 ≤ b) (hb : b < 2 ^ i) (h : a * 2 ^ i + b < 4611686018427387904) : Go.bits .or .i64 (a * 2 ^ i) b = a * 2 ^ i + b := by
  obtain ⟨A, rfl⟩ := Int.eq_ofNat_of_zero_le ha
  obtain ⟨B, rfl⟩ := Int.eq_ofNat_of_zero_le hb0
  have e0 : ((A : Int) * 2 ^ i) = ((A * 2 ^ i : Nat) : Int) := by simp
  rw [e0] at h ⊢
  have hB : B < 2 ^ i := by
    have : ((B : Nat) : Int) < ((2 ^ i : Nat) : Int) := by simpa using hb
    omega
  have e1 : A * 2 ^ i ||| B = A * 2 ^ i + B := by
    rw [← Nat.shiftLeft_eq, Nat.shiftLeft_add_eq_or_of_lt hB]
  have hm1 : A * 2 ^ i % 2 ^ IntKind.i64.bits = A * 2 ^ i := Nat.mod_eq_of_lt (by show _ < 2 ^ 64; omega)
  have hm2 : B % 2 ^ IntKind.i64.bits = B := Nat.mod_eq_of_lt (by show _ < 2 ^ 64; omega)
  simp only [Go.bits, BitVec.ofInt_natCast, BitVec.toNat_or, BitVec.toNat_ofNat, hm1, hm2, e1]
  rw [IntKind.wrap_i64]
  omega
theorem flat_drop {α β : Type} {g : α → List β} {s : Nat} : ∀ {l : List α}, (∀ x ∈ l, (g x).length = s) → ∀ i, (l.flatMap g).drop (i * s) = (l.drop i).flatMap g
  | [], _, i => by simp
  | x :: l, h, 0 => by simp
  | x :: l, h, i + 1 => by
    have hx := h x (List.mem_cons_self ..)
    rw [List.flatMap_cons, List.drop_succ_cons, ← flat_drop (fun y hy => h y (List.mem_cons_of_mem _ hy)) i, Nat.add_mul, List.drop_append, List.drop_of_length_le (by omega), List.nil_append]
    congr 1
    omega
theorem dec_l0 (k : Nat) (b : List Int) (m : Nat) (hb : b.length = 256 * m) (hm : m ≤ 10000) : ∀ (d fuel i : Nat), i + d = m → d < fuel → frame_Decode.l0 k (outL b m) fuel (b.take (256 * i)) ((260 * i : Nat) : Int) = some b := by
  have hol := outL_len hb (Nat.le_refl m)
  intro d
  induction d with
  | zero =>
    intro fuel i h1 hf
    obtain ⟨fuel, rfl⟩ : ∃ q, fuel = q + 1 := ⟨fuel - 1, by omega⟩
    rw [frame_Decode.l0, ifn (by omega), List.take_of_length_le (by omega)]
  | succ d ih =>
    intro fuel i h1 hf
    obtain ⟨fuel, rfl⟩ : ∃ q, fuel = q + 1 := ⟨fuel - 1, by omega⟩
    have hbl := blkL_len hb (i := i) (by omega)
    have e0 : (((outL b m).take (((260 * i : Nat) : Int) + 256).toNat).drop ((260 * i : Nat) : Int).toNat) = blkL b i := by
      have hp := pcL_out hb (Nat.le_refl m) (i := i) (by omega)
      have hpp := piece_parts hb (i := i) (by omega)
      rw [← hpp.1, ← hp]
      unfold pcL
      rw [Int.toNat_natCast, show (((260 * i : Nat) : Int) + 256).toNat = 260 * i + 256 by omega, List.drop_take, List.take_take, show i * 260 = 260 * i by omega]
      congr 1
      omega
    rw [frame_Decode.l0, wid (x := ((260 * i : Nat) : Int) + 256) (by omega) (by omega), wid (x := ((260 * i : Nat) : Int) + 260) (by omega) (by omega), ifp (by omega), ifp (by omega), ifp (by omega), ifp (by omega), e0, ifp (by rw [List.length_take]; omega)]
    have e1 : b.take (256 * i) ++ blkL b i = b.take (256 * (i + 1)) := by
      unfold blkL
      rw [show i * 256 = 256 * i by omega, show 256 * (i + 1) = 256 * i + 256 by omega, List.take_add]
    rw [e1, show ((260 * i : Nat) : Int) + 260 = ((260 * (i + 1) : Nat) : Int) by omega]
    exact ih fuel (i + 1) (by omega) (by omega)
theorem bstr_sb (l : List UInt8) : bstr (sb l) = ⟨l.toArray⟩ := by
  refine sx ?_
  rw [bstr_data, smk, sb, List.map_map]
  have : ((fun n : Int => UInt8.ofNat n.toNat) ∘ fun b : UInt8 => (b.toNat : Int)) = id := by
    funext b
    simp
  rw [this, List.map_id]
theorem sb_app (a b : List UInt8) : sb (a ++ b) = sb a ++ sb b := List.map_append
theorem sb_len (a : List UInt8) : (sb a).length = a.length := List.length_map ..
theorem trimR_line (k : Nat) (t : List UInt8) (ht : t.length ≤ 64) (h : ∀ b, t.getLast? = some b → b ≠ 32) : strings_TrimRight k ⟨(lineL t).toArray⟩ (⟨#[32]⟩ : ByteArray) = some ⟨t.toArray⟩ := by
  have hl := lineL_len ht
  unfold strings_TrimRight
  rw [smk_size, ifp (by omega), ifp rfl, smk]
  unfold lineL
  rw [trimR_pad _ _ h]
theorem text_last {c : S_Card} (h : CRead c) : ∀ b, (textL c).getLast? = some b → b ≠ 32 := by
  intro b hb
  have : textL c = (c.Key.data.toList ++ List.replicate (8 - c.Key.data.toList.length) 32 ++ [61, 32]) ++ restL c := by
    unfold textL restL
    simp only [List.append_assoc]
  rw [this, last_app] at hb
  · exact rest_last h b hb
  · intro e
    have := h.v0
    unfold restL at e
    simp only [List.append_eq_nil_iff] at e
    exact this e.1.1
theorem dec_l1 (k : Nat) (cs : List S_Card) (hc : ∀ c ∈ cs, CRead c) (hn : cs.length ≤ 31) (tl : List Int) : ∀ (d fuel i : Nat), i + d = cs.length → d < fuel → frame_Decode.l1 k (sb (linesL cs) ++ (sb (lineL [69, 78, 68]) ++ tl)) fuel (cs.take i) ((64 * i : Nat) : Int) = some (Sum.inr (cs, ((64 * cs.length : Nat) : Int))) := by
  have hL := linesL_len (fun c h => (hc c h).t)
  have hE := lineL_len (t := [69, 78, 68]) (by decide)
  have hbl : (sb (linesL cs) ++ (sb (lineL [69, 78, 68]) ++ tl)).length = 64 * cs.length + (64 + tl.length) := by rw [List.length_append, List.length_append, sb_len, sb_len, hL, hE]
  have hdr : ∀ i, i ≤ cs.length → (sb (linesL cs) ++ (sb (lineL [69, 78, 68]) ++ tl)).drop (64 * i) = sb (linesL (cs.drop i)) ++ (sb (lineL [69, 78, 68]) ++ tl) := fun i hi => by
    rw [List.drop_append_of_le_length (by rw [sb_len, hL]; omega), sb, sb, ← List.map_drop, show 64 * i = i * 64 by omega]
    unfold linesL
    rw [flat_drop (fun c h => lineL_len (hc c h).t)]
    rfl
  intro d
  induction d with
  | zero =>
    intro fuel i h1 hf
    obtain ⟨fuel, rfl⟩ : ∃ q, fuel = q + 1 := ⟨fuel - 1, by omega⟩
    obtain rfl : i = cs.length := by omega
    generalize hB : (sb (linesL cs) ++ (sb (lineL [69, 78, 68]) ++ tl)) = B at *
    have e0 : ((B.take (((64 * cs.length : Nat) : Int) + 64).toNat).drop ((64 * cs.length : Nat) : Int).toNat) = sb (lineL [69, 78, 68]) := by
      rw [Int.toNat_natCast, show (((64 * cs.length : Nat) : Int) + 64).toNat = 64 * cs.length + 64 by omega, List.drop_take, hdr _ (Nat.le_refl _), List.drop_of_length_le (Nat.le_refl _), show 64 * cs.length + 64 - 64 * cs.length = (sb (lineL [69, 78, 68])).length by rw [sb_len, hE]; omega]
      show (([] : List Int) ++ (sb (lineL [69, 78, 68]) ++ tl)).take _ = _
      rw [List.nil_append, List.take_left]
    rw [frame_Decode.l1, ifp (by omega), ifp (by omega)]
    by_cases big : ((64 * cs.length : Nat) : Int) + 64 ≤ 4611686018427387904
    · rw [wid (x := ((64 * cs.length : Nat) : Int) + 64) (by omega) (by omega), ifp (by omega), ifp (by omega), e0, bstr_sb, bnd (trimR_line k [69, 78, 68] (by decide) (by decide)), s_eqp rfl, ifn (by simp), List.take_of_length_le (by omega)]
    · omega
  | succ d ih =>
    intro fuel i h1 hf
    obtain ⟨fuel, rfl⟩ : ∃ q, fuel = q + 1 := ⟨fuel - 1, by omega⟩
    have hm := hc _ (rd_mem (l := cs) (i := (i : Int)) (by omega) (by omega))
    generalize hB : (sb (linesL cs) ++ (sb (lineL [69, 78, 68]) ++ tl)) = B at *
    have e0 : ((B.take (((64 * i : Nat) : Int) + 64).toNat).drop ((64 * i : Nat) : Int).toNat) = sb (lineL (textL (rd cs (i : Int)))) := by
      rw [Int.toNat_natCast, show (((64 * i : Nat) : Int) + 64).toNat = 64 * i + 64 by omega, List.drop_take, hdr i (by omega), drop_rd cs i (by omega), linesL_cons, sb_app, List.append_assoc, show 64 * i + 64 - 64 * i = (sb (lineL (textL (rd cs (i : Int))))).length by rw [sb_len, lineL_len hm.t]; omega, List.take_left]
    rw [frame_Decode.l1, ifp (by omega), ifp (by omega), wid (x := ((64 * i : Nat) : Int) + 64) (by omega) (by omega), ifp (by omega), ifp (by omega), e0, bstr_sb, bnd (trimR_line k _ hm.t (text_last hm)), s_eqn, ifp (by simp), bnd (card_read k _ hm)]
    · dsimp only
      rw [ifn (by simp), ifn (by rw [List.length_take]; omega), ifp (by rw [List.length_take]; omega)]
      have e1 : cs.take i ++ [rd cs (i : Int)] = cs.take (i + 1) := by
        obtain ⟨g1, g2⟩ := rd_lt (xs := cs) (i := (i : Int)) (by omega) (by omega)
        rw [g2, List.take_succ_eq_append_getElem (by omega)]
        rfl
      rw [e1, show ((64 * i : Nat) : Int) + 64 = ((64 * (i + 1) : Nat) : Int) by omega]
      exact ih fuel (i + 1) (by omega) (by omega)
    · intro e
      have := congrArg List.length e
      rw [smk] at this
      have h3 : (textL (rd cs (i : Int))).length = 3 := this
      unfold textL at h3
      simp only [List.length_append, List.length_cons, List.length_nil, List.length_replicate] at h3
      omega
theorem atoi1 : ∀ m, m < 10 → (match Go.Lib.atoiAll [UInt8.ofNat (48 + m)] with | .ok v => some v | _ => none) = some (m : Int) := by decide
theorem atoi2 : ∀ m, m < 100 → ¬ m < 10 → (match Go.Lib.atoiAll [UInt8.ofNat (48 + m / 10), UInt8.ofNat (48 + m % 10)] with | .ok v => some v | _ => none) = some (m : Int) := by decide
theorem atoi_eq (k : Nat) (n : Int) (h0 : 0 ≤ n) (h1 : n < 100) : strconv_Atoi k (numeral n) = some n := by
  obtain ⟨m, rfl⟩ : ∃ m : Nat, n = m := ⟨n.toNat, by omega⟩
  have := numeral_size (n := (m : Int)) (by omega) (by omega)
  unfold strconv_Atoi
  rw [ifp (by rw [ssz]; omega)]
  show (match Go.Lib.atoiAll (Go.Lib.itoa (m : Int)) with | .ok v => some v | _ => none) = some (m : Int)
  rw [Go.Lib.itoa_nonneg]
  by_cases c : m < 10
  · rw [Go.Lib.decDigits_one c]
    exact atoi1 m c
  · rw [Go.Lib.decDigits_two c (by omega)]
    exact atoi2 m (by omega) c
theorem whole_l1 (k : Nat) (data : List Int) (size x n : Int) (hs : 1 ≤ size ∧ size ≤ 2) (hn : 0 ≤ n ∧ n ≤ 65535) (h1 : size = 1 → n ≤ 255) (hsl : ((data.take (w64 ((w64 (x + 1)) * size)).toNat).drop (w64 (x * size)).toNat) = cntL size n) (hk : 10 ≤ k) : frame_whole.l1 k data x size k 0 0 = some n := by
  obtain ⟨k', rfl⟩ : ∃ q, k = q + 10 := ⟨k - 10, by omega⟩
  have z : w64 ((0 : Int) * 2 ^ 8) = 0 * 2 ^ 8 := by decide
  rcases (show size = 1 ∨ size = 2 by omega) with rfl | rfl
  · have e : cntL 1 n = [n % 256] := if_neg (by decide)
    rw [e] at hsl
    have r0 : rd [n % 256] 0 = n % 256 := rfl
    have := i64_or_sum 0 (n % 256) 8 (by decide) (by omega) (by omega) (by omega)
    rw [frame_whole.l1, hsl, ifp (by show (0 : Int) < 1; decide), ifp (by decide), r0, z, wid (x := n % 256) (by omega) (by omega), this, frame_whole.l1, hsl, ifn (by show ¬ w64 (0 + 1) < 1; decide)]
    have := h1 rfl
    congr 1; omega
  · have e : cntL 2 n = [n / 256, n % 256] := if_pos rfl
    rw [e] at hsl
    have r0 : rd [n / 256, n % 256] 0 = n / 256 := rfl
    have r1 : rd [n / 256, n % 256] 1 = n % 256 := rfl
    have o0 := i64_or_sum 0 (n / 256) 8 (by decide) (by omega) (by omega) (by omega)
    have o1 := i64_or_sum (n / 256) (n % 256) 8 (by omega) (by omega) (by omega) (by omega)
    have w1 : w64 ((0 : Int) + 1) = 1 := by decide
    rw [frame_whole.l1, hsl, ifp (by show (0 : Int) < 2; decide), ifp (by decide), r0, z, wid (x := n / 256) (by omega) (by omega), o0, w1, frame_whole.l1, hsl, ifp (by show (1 : Int) < 2; decide), ifp (by decide), r1, Int.zero_mul, Int.zero_add, wid (x := n / 256 * 2 ^ 8) (by omega) (by omega), wid (x := n % 256) (by omega) (by omega), o1, frame_whole.l1, hsl, ifn (by show ¬ w64 (1 + 1) < 2; decide)]
    congr 1; omega
theorem sizeL_one {l : List Int} (h : sizeL l = 1) : ∀ n ∈ l, n ≤ 255 := by
  intro n hn
  unfold sizeL at h
  split at h
  · cases h
  · rename_i c
    rw [List.any_eq_true] at c
    rcases Int.lt_or_le 255 n with g | g
    · exact absurd ⟨n, hn, decide_eq_true g⟩ c
    · exact g
theorem whole_l0 (k : Nat) (f : S_Frame) (h : FGoodC f) (tl : List Int) (hk : 10 ≤ k) : ∀ (d fuel i : Nat), i + d = f.Counts.length → d < fuel → frame_whole.l0 k f.W f.H (sizeL f.Counts) (dataL f ++ tl) fuel (i : Int) (f.Counts.take i) = some f.Counts := by
  have hlim := h.lim
  have hs := sizeL_in f.Counts
  have hdl := dataL_len f
  have hl := h.l
  have hsn : (sizeL f.Counts).toNat = 1 ∨ (sizeL f.Counts).toNat = 2 := by omega
  generalize hS : sizeL f.Counts = size at *
  obtain ⟨s, rfl⟩ : ∃ s : Nat, size = s := ⟨size.toNat, by omega⟩
  rw [Int.toNat_natCast] at hdl hsn
  intro d
  induction d with
  | zero =>
    intro fuel i h1 hf
    obtain ⟨fuel, rfl⟩ : ∃ q, fuel = q + 1 := ⟨fuel - 1, by omega⟩
    rw [frame_whole.l0, wid (x := f.W * f.H) (by omega) (by omega), ifn (by omega), List.take_of_length_le (by omega)]
  | succ d ih =>
    intro fuel i h1 hf
    obtain ⟨fuel, rfl⟩ : ∃ q, fuel = q + 1 := ⟨fuel - 1, by omega⟩
    have hm := h.c.rd (i := (i : Int)) (by omega) (by omega)
    have hmem := rd_mem (l := f.Counts) (i := (i : Int)) (by omega) (by omega)
    have b1 : i * s ≤ f.Counts.length * s := Nat.mul_le_mul_right _ (by omega)
    have b2 : (i + 1) * s ≤ f.Counts.length * s := Nat.mul_le_mul_right _ (by omega)
    have b3 : f.Counts.length * s ≤ 1024 * s := Nat.mul_le_mul_right _ (by omega)
    have w1 : w64 ((i : Int) * (s : Int)) = ((i * s : Nat) : Int) := by
      rw [← Int.natCast_mul]; exact wid (by omega) (by omega)
    have w2 : w64 (w64 ((i : Int) + 1) * (s : Int)) = (((i + 1) * s : Nat) : Int) := by
      rw [wid (x := (i : Int) + 1) (by omega) (by omega), show (i : Int) + 1 = ((i + 1 : Nat) : Int) by omega, ← Int.natCast_mul]; exact wid (by omega) (by omega)
    have hsl : ((dataL f ++ tl).take (w64 ((w64 ((i : Int) + 1)) * (s : Int))).toNat).drop (w64 ((i : Int) * (s : Int))).toNat = cntL (s : Int) (rd f.Counts (i : Int)) := by
      have hcl : ∀ n : Int, (cntL (s : Int) n).length = s := fun n => by rw [cntL_len hs, Int.toNat_natCast]
      rw [w1, w2, Int.toNat_natCast, Int.toNat_natCast, take_drop_blk, List.drop_append_of_le_length (by omega)]
      unfold dataL
      rw [hS, flat_drop (s := s) (fun n _ => hcl n), drop_rd f.Counts i (by omega), List.flatMap_cons, List.append_assoc]
      have := List.take_left (l₁ := cntL (s : Int) (rd f.Counts (i : Int))) (l₂ := List.flatMap (cntL ↑s) (List.drop (i + 1) f.Counts) ++ tl)
      rw [hcl] at this
      exact this
    have e1 := whole_l1 k (dataL f ++ tl) (s : Int) (i : Int) (rd f.Counts (i : Int)) hs hm (fun e => sizeL_one (hS.trans e) _ hmem) hsl hk
    have e2 : f.Counts.take i ++ [rd f.Counts (i : Int)] = f.Counts.take (i + 1) := by
      obtain ⟨g1, g2⟩ := rd_lt (xs := f.Counts) (i := (i : Int)) (by omega) (by omega)
      rw [g2, List.take_succ_eq_append_getElem (by omega)]
      rfl
    have b4 : i * s ≤ (i + 1) * s := Nat.mul_le_mul_right _ (by omega)
    rw [frame_whole.l0, wid (x := f.W * f.H) (by omega) (by omega), ifp (by omega), ifp (by rw [w1]; omega), ifp (by rw [w1, w2]; omega), ifp (by rw [w2, List.length_append]; omega), bnd e1, ifp (by rw [List.length_take]; omega), e2, wid (x := (i : Int) + 1) (by omega) (by omega), show (i : Int) + 1 = ((i + 1 : Nat) : Int) by omega]
    exact ih fuel (i + 1) (by omega) (by omega)
theorem whole_eq (k : Nat) (f : S_Frame) (h : FGoodC f) (tl : List Int) (hk : 2000 ≤ k) : frame_whole k (cardsL f (sizeL f.Counts)) (dataL f ++ tl) = some (f, true) := by
  have hw0 := h.W0; have hw1 := h.W1; have hh0 := h.H0; have hh1 := h.H1; have hn := h.n
  have hs := sizeL_in f.Counts
  have hl := h.l
  have hlim := h.lim
  have hdl := dataL_len f
  have hcl := cardsL_len f (sizeL f.Counts)
  have r0 : rd (cardsL f (sizeL f.Counts)) 0 = (⟨(⟨#[87, 73, 68, 84, 72]⟩ : ByteArray), numeral f.W, (⟨#[]⟩ : ByteArray), (⟨#[]⟩ : ByteArray)⟩ : S_Card) := rfl
  have r1 : rd (cardsL f (sizeL f.Counts)) 1 = (⟨(⟨#[72, 69, 73, 71, 72, 84]⟩ : ByteArray), numeral f.H, (⟨#[]⟩ : ByteArray), (⟨#[]⟩ : ByteArray)⟩ : S_Card) := rfl
  have r2 : rd (cardsL f (sizeL f.Counts)) 2 = (⟨(⟨#[66, 89, 84, 69, 83]⟩ : ByteArray), numeral (sizeL f.Counts), (⟨#[]⟩ : ByteArray), (⟨#[]⟩ : ByteArray)⟩ : S_Card) := rfl
  have hd : (cardsL f (sizeL f.Counts)).drop (3 : Int).toNat = f.Cards := rfl
  have e0 : frame_whole.l0 k f.W f.H (sizeL f.Counts) (dataL f ++ tl) k 0 [] = some f.Counts := whole_l0 k f h tl (by omega) f.Counts.length k 0 (by omega) (by omega)
  have hmul : w64 (w64 (f.W * f.H) * sizeL f.Counts) ≤ ((dataL f ++ tl).length : Int) := by
    rw [wid (x := f.W * f.H) (by omega) (by omega), ← hl, List.length_append, hdl]
    rcases (show sizeL f.Counts = 1 ∨ sizeL f.Counts = 2 by omega) with e | e
    · rw [e, wid (by omega) (by omega), show (1 : Int).toNat = 1 from rfl]; omega
    · rw [e, wid (by omega) (by omega), show (2 : Int).toNat = 2 from rfl]; omega
  unfold frame_whole
  rw [ifn (by omega), ifp (by omega), r0, bnd (atoi_eq k _ (by omega) (by omega)), ifn (by omega), ifn (by omega), ifn (by omega), ifp (by omega), r1, bnd (atoi_eq k _ (by omega) (by omega)), ifn (by omega), ifn (by omega), ifn (by omega), ifp (by omega), r2, bnd (atoi_eq k _ (by omega) (by omega)), ifn (by omega), ifn (by omega), ifp (by omega), ifn (by omega), ifn (by omega), bnd e0, hd]
theorem own_read (K : ByteArray) (n : Int) (hK : K.data.toList.length ≤ 8) (hk : ∀ b ∈ K.data.toList, b ≠ 32) (h0 : 0 ≤ n) (h1 : n < 100) : CRead (⟨K, numeral n, ⟨#[]⟩, ⟨#[]⟩⟩ : S_Card) := by
  have hd : ∀ m, m < 10 → ∀ b ∈ [UInt8.ofNat (48 + m)], b ≠ 32 := by decide
  have hd2 : ∀ m, m < 100 → ∀ b ∈ [UInt8.ofNat (48 + m / 10), UInt8.ofNat (48 + m % 10)], b ≠ 32 := by decide
  obtain ⟨m, rfl⟩ : ∃ m : Nat, n = m := ⟨n.toNat, by omega⟩
  have hnum : (numeral (m : Int)).data.toList = Go.Lib.decDigits m := Go.Lib.itoa_nonneg m
  refine ⟨hK, hk, ?_, ?_, fun b hb => (by cases hb), fun b hb => (by cases hb), ?_⟩
  · show (numeral (m : Int)).data.toList ≠ []
    rw [hnum]
    by_cases c : m < 10
    · rw [Go.Lib.decDigits_one c]; simp
    · rw [Go.Lib.decDigits_two c (by omega)]; simp
  · show ∀ b ∈ (numeral (m : Int)).data.toList, b ≠ 32
    rw [hnum]
    by_cases c : m < 10
    · rw [Go.Lib.decDigits_one c]; exact hd m c
    · rw [Go.Lib.decDigits_two c (by omega)]; exact hd2 m (by omega)
  · have := numeral_size (n := (m : Int)) (by omega) (by omega)
    unfold textL
    rw [ifp rfl, ifp rfl]
    simp only [List.length_append, List.length_replicate, List.length_cons, List.length_nil]
    omega
theorem cardsL_read {f : S_Frame} (h : FGoodC f) : ∀ c ∈ cardsL f (sizeL f.Counts), CRead c := by
  have hw0 := h.W0; have hw1 := h.W1; have hh0 := h.H0; have hh1 := h.H1
  have hs := sizeL_in f.Counts
  intro c hc
  unfold cardsL at hc
  rcases List.mem_append.mp hc with hc | hc
  · simp only [List.mem_cons, List.not_mem_nil, or_false] at hc
    rcases hc with rfl | rfl | rfl
    · exact own_read _ _ (by decide) (by decide) (by omega) (by omega)
    · exact own_read _ _ (by decide) (by decide) (by omega) (by omega)
    · exact own_read _ _ (by decide) (by decide) (by omega) (by omega)
  · exact (h.g c hc).read
theorem decode_eq (k : Nat) (f : S_Frame) (h : FGoodC f) (hk : 3000 ≤ k) : frame_Decode k (outL (bodyL f) (blocksN f)) = some (f, 0) := by
  have hb := bodyL_len h
  have hlim := blocksN_lim h
  have hn := h.n
  have hcl := cardsL_len f (sizeL f.Counts)
  have e0 : frame_Decode.l0 k (outL (bodyL f) (blocksN f)) k [] 0 = some (bodyL f) := dec_l0 k (bodyL f) (blocksN f) hb (by omega) (blocksN f) k 0 (by omega) (by omega)
  have hbody : bodyL f = sb (linesL (cardsL f (sizeL f.Counts))) ++ (sb (lineL [69, 78, 68]) ++ (sb (List.replicate (padN (64 * ((cardsL f (sizeL f.Counts)).length + 1))) 32) ++ (dataL f ++ List.replicate (padN (dataL f).length) 0))) := by
    unfold bodyL headL
    rw [sb_app, sb_app]
    simp only [List.append_assoc]
  have e1 : frame_Decode.l1 k (bodyL f) k [] 0 = some (Sum.inr (cardsL f (sizeL f.Counts), ((64 * (cardsL f (sizeL f.Counts)).length : Nat) : Int))) := by
    rw [hbody]
    exact dec_l1 k _ (cardsL_read h) (by omega) _ (cardsL f (sizeL f.Counts)).length k 0 (by omega) (by omega)
  have hH := headL_len f (sizeL f.Counts) (fun c hc => (cardsL_ok h _ (sizeL_in _) c hc).1)
  have hat : mn ((bodyL f).length : Int) (w64 ((w64 ((w64 (Int.tdiv ((64 * (cardsL f (sizeL f.Counts)).length : Nat) : Int) 256)) + 1)) * 256)) = ((headL f (sizeL f.Counts)).length : Int) := by
    have hle : (headL f (sizeL f.Counts)).length ≤ (bodyL f).length := by
      unfold bodyL
      rw [List.length_append, List.length_append, sb_len]; omega
    rw [tdiv_nn (by omega), wid (x := ((64 * (cardsL f (sizeL f.Counts)).length : Nat) : Int) / 256) (by omega) (by omega), wid (x := ((64 * (cardsL f (sizeL f.Counts)).length : Nat) : Int) / 256 + 1) (by omega) (by omega), wid (by omega) (by omega)]
    unfold mn
    split <;> omega
  have hdrop : (bodyL f).drop (headL f (sizeL f.Counts)).length = dataL f ++ List.replicate (padN (dataL f).length) 0 := by
    unfold bodyL
    rw [List.append_assoc, ← sb_len, List.drop_left]
  have hle : (headL f (sizeL f.Counts)).length ≤ (bodyL f).length := by
    unfold bodyL
    rw [List.length_append, List.length_append, sb_len]; omega
  unfold frame_Decode
  rw [bnd (verify_out k (bodyL f) (blocksN f) hb (by omega) (by omega) (bodyL_in h) (by omega) (by omega))]
  dsimp only
  rw [ifn (by simp), ifn (by simp), bnd e0, bnd e1]
  dsimp only [Sum.elim_inr]
  rw [hat, ifp (by omega), ifp (by omega), Int.toNat_natCast, hdrop, bnd (whole_eq k f h _ (by omega))]
  dsimp only
  rw [ifn (by simp), bnd (encode_eq k f h hk)]
  dsimp only
  rw [ifn (by simp), s_eqp rfl, ifn (by simp)]
def kOk (k : ByteArray) : Bool := decide (k.data.toList.length ≤ 8) && (upB (k.data.toList.headD 0) && (k.data.toList.all inKeyB && !ownL k.data.toList))
def vOk (v : ByteArray) : Bool := decide (v.data.toList ≠ []) && (decide (v.data.toList.length ≤ 20) && v.data.toList.all inkedB)
def uOk (u : ByteArray) : Bool := decide (u.data.toList.length ≤ 8) && u.data.toList.all lowerB
def nOk (n : ByteArray) : Bool := decide (n.data.toList.length ≤ 20) && (n.data.toList.all typedB && decide (Go.Lib.trimSpace n.data.toList = n.data.toList))
theorem CGood.of {K V U N : ByteArray} (hK : kOk K = true) (hV : vOk V = true) (hU : uOk U = true) (hN : nOk N = true) : CGood ⟨K, V, U, N⟩ := by
  unfold kOk at hK; unfold vOk at hV; unfold uOk at hU; unfold nOk at hN
  simp only [Bool.and_eq_true, decide_eq_true_eq, Bool.not_eq_true'] at hK hV hU hN
  obtain ⟨k1, k2, k3, k4⟩ := hK
  obtain ⟨v1, v2, v3⟩ := hV
  obtain ⟨u1, u2⟩ := hU
  obtain ⟨n1, n2, n3⟩ := hN
  refine ⟨k1, k2, k3, k4, v1, v2, v3, u1, u2, n2, n3, ?_⟩
  unfold textL
  dsimp only
  have e1 : (if U.data.toList = [] then ([] : List UInt8) else [32, 91] ++ U.data.toList ++ [93]).length ≤ 3 + U.data.toList.length := by
    split
    · simp
    · simp only [List.length_append, List.length_cons, List.length_nil]; omega
  have e2 : (if N.data.toList = [] then ([] : List UInt8) else [32, 47, 32] ++ N.data.toList).length ≤ 3 + N.data.toList.length := by
    split
    · simp
    · simp only [List.length_append, List.length_cons, List.length_nil]; omega
  simp only [List.length_append, List.length_cons, List.length_nil, List.length_replicate]
  omega
theorem dd_digits : ∀ (u : Nat), ∀ b ∈ Go.Lib.decDigits u, 48 ≤ b.toNat ∧ b.toNat ≤ 57 := by
  have one : ∀ m, m < 10 → 48 ≤ (UInt8.ofNat (48 + m)).toNat ∧ (UInt8.ofNat (48 + m)).toNat ≤ 57 := by decide
  intro u
  induction u using Nat.strongRecOn with
  | _ u ih =>
    intro b hb
    rw [Go.Lib.decDigits] at hb
    split at hb
    · rename_i h
      rw [List.mem_singleton] at hb
      rw [hb]; exact one u h
    · rename_i h
      rcases List.mem_append.mp hb with hb | hb
      · exact ih (u / 10) (by omega) b hb
      · rw [List.mem_singleton] at hb
        rw [hb]; exact one (u % 10) (by omega)
theorem nDigits_lim : ∀ (k u : Nat), u < 10 ^ (k + 1) → Go.Lib.nDigits u ≤ k + 1
  | 0, u, h => by rw [Go.Lib.nDigits_small (by simpa using h)]; omega
  | k + 1, u, h => by
    by_cases c : u < 10
    · rw [Go.Lib.nDigits_small c]; omega
    · rw [Go.Lib.nDigits_big c]
      have := nDigits_lim k (u / 10) (by rw [Nat.pow_succ] at h; omega)
      omega
theorem num_vOk {n : Int} (h0 : -1000000000000 ≤ n) (h1 : n ≤ 1000000000000) : vOk (numeral n) = true := by
  have dd : ∀ u : Nat, u < 10 ^ 13 → Go.Lib.decDigits u ≠ [] ∧ (Go.Lib.decDigits u).length ≤ 13 ∧ (Go.Lib.decDigits u).all inkedB = true := fun u hu => by
    have e := Go.Lib.decDigits_length u
    have p := Go.Lib.nDigits_pos u
    refine ⟨fun e2 => ?_, ?_, ?_⟩
    · rw [e2, List.length_nil] at e; omega
    · rw [e]; exact nDigits_lim 12 u hu
    · rw [List.all_eq_true]
      intro b hb
      have := dd_digits u b hb
      unfold inkedB
      rw [decide_eq_true (by omega), decide_eq_true (by omega)]
      rfl
  have hd : (numeral n).data.toList = Go.Lib.itoa n := rfl
  unfold vOk
  rw [hd]
  by_cases c : n < 0
  · obtain ⟨u, rfl⟩ : ∃ u : Nat, n = -(u : Int) := ⟨n.natAbs, by omega⟩
    obtain ⟨d1, d2, d3⟩ := dd u (by omega)
    rw [Go.Lib.itoa_neg u (by omega), decide_eq_true (by simp), decide_eq_true (by rw [List.length_cons]; omega), List.all_cons, d3]
    decide
  · obtain ⟨u, rfl⟩ : ∃ u : Nat, n = u := ⟨n.toNat, by omega⟩
    obtain ⟨d1, d2, d3⟩ := dd u (by omega)
    rw [Go.Lib.itoa_nonneg, decide_eq_true d1, decide_eq_true (by omega), d3]
    rfl
def Sml (x : Int) : Prop := -1000000000000 ≤ x ∧ x ≤ 1000000000000
theorem bind_ite {α β : Type} {c : Prop} [Decidable c] {x y : Option α} {g : α → Option β} {Q : Option β → Prop} (P : α → Prop) (hx : c → ∃ v, x = some v ∧ P v) (hy : ¬ c → ∃ v, y = some v ∧ P v) (hg : ∀ v, P v → Q (g v)) : Q ((if c then x else y).bind g) := by
  by_cases h : c
  · obtain ⟨v, e, p⟩ := hx h
    rw [ifp h, bnd e]; exact hg v p
  · obtain ⟨v, e, p⟩ := hy h
    rw [ifn h, bnd e]; exact hg v p
theorem next_b {β : Type} {Q : Option β → Prop} {g : Int × Int → Option β} (k : Nat) (L : List Int) (a n : Int) (h1 : 1 ≤ n) (h2 : n ≤ 4611686018427387904) (a0 : 0 ≤ a) (a1 : a ≤ 4611686018427387904) (h : ∀ v, 0 ≤ v → v < n → Q (g (v, a + 1))) : Q ((spymake_Stream_Next k ⟨L, a⟩ n).bind g) := by
  obtain ⟨v, e, v0, v1⟩ := next_ex k L a n h1 h2 a0 a1
  rw [bnd e]; exact h v v0 v1
theorem range_b {β : Type} {Q : Option β → Prop} {g : Int × Int → Option β} (k : Nat) (L : List Int) (a lo hi : Int) (h1 : lo ≤ hi) (h2 : hi - lo ≤ 1073741824) (h3 : -4611686018427387904 ≤ lo) (h4 : hi ≤ 4611686018427387904) (a0 : 0 ≤ a) (a1 : a ≤ 4611686018427387904) (h : ∀ v, lo ≤ v → v ≤ hi → Q (g (v, a + 1))) : Q ((spymake_Stream_Range k ⟨L, a⟩ lo hi).bind g) := by
  obtain ⟨v, e, v0, v1⟩ := range_ex k L a lo hi h1 h2 h3 h4 a0 a1
  rw [bnd e]; exact h v v0 v1
structure PGood (p : S_Plate) : Prop where
  A : Sml p.A
  B : Sml p.B
  C : Sml p.C
  D : Sml p.D
def PAns (a : Int) (e : Option (S_Plate × Int)) : Prop := ∃ p a', e = some (p, a') ∧ a ≤ a' ∧ a' ≤ a + 5 ∧ PGood p
theorem plate_ex (k : Nat) (L : List Int) (a : Int) (a0 : 0 ≤ a) (a1 : a ≤ 2000000) : PAns a (spymake_Stream_Plate k ⟨L, a⟩) := by
  unfold spymake_Stream_Plate
  refine next_b k L a 3 (by decide) (by decide) (by omega) (by omega) fun v v0 v1 => ?_
  dsimp only
  obtain ⟨m, hm, m0, m1⟩ : ∃ m, rd ([2, 30, 1024] : List Int) v = m ∧ 2 ≤ m ∧ m ≤ 1024 := by
    rcases (show v = 0 ∨ v = 1 ∨ v = 2 by omega) with rfl | rfl | rfl <;> exact ⟨_, rfl, by decide, by decide⟩
  rw [ifp v0, ifp (by show v < 3; exact v1), hm, wid (x := 0 - m) (by omega) (by omega)]
  refine range_b k L (a + 1) (0 - m) m (by omega) (by omega) (by omega) (by omega) (by omega) (by omega) fun A A0 A1 => ?_
  dsimp only
  refine range_b k L (a + 1 + 1) (0 - m) m (by omega) (by omega) (by omega) (by omega) (by omega) (by omega) fun B B0 B1 => ?_
  dsimp only
  refine range_b k L (a + 1 + 1 + 1) (0 - m) m (by omega) (by omega) (by omega) (by omega) (by omega) (by omega) fun C C0 C1 => ?_
  dsimp only
  refine range_b k L (a + 1 + 1 + 1 + 1) (0 - m) m (by omega) (by omega) (by omega) (by omega) (by omega) (by omega) fun D D0 D1 => ?_
  dsimp only
  split
  · exact ⟨_, _, rfl, by omega, by omega, ⟨by dsimp only; omega, by dsimp only; omega⟩, ⟨by dsimp only; omega, by dsimp only; omega⟩, ⟨by dsimp only; omega, by dsimp only; omega⟩, ⟨by dsimp only; omega, by dsimp only; omega⟩⟩
  · exact ⟨_, _, rfl, by omega, by omega, ⟨by dsimp only; omega, by dsimp only; omega⟩, ⟨by dsimp only; omega, by dsimp only; omega⟩, ⟨by dsimp only; omega, by dsimp only; omega⟩, ⟨by dsimp only; omega, by dsimp only; omega⟩⟩
structure XGood (x : S_Shot) (kind : Int) : Prop where
  K : x.Kind = kind
  N : Sml x.Number
  B : Sml x.Begin
  T : Sml x.Beats
  P : PGood x.Plate
  S : Sml x.Seeing
  X : Sml x.DriftX
  Y : Sml x.DriftY
def XAns (a kind : Int) (e : Option (S_Shot × Int)) : Prop := ∃ x a', e = some (x, a') ∧ a ≤ a' ∧ a' ≤ a + 40 ∧ XGood x kind
theorem Sml.of {x : Int} (h0 : -1000000000000 ≤ x) (h1 : x ≤ 1000000000000) : Sml x := ⟨h0, h1⟩
theorem PGood.zero : PGood ⟨0, 0, 0, 0⟩ := ⟨by unfold Sml; decide, by unfold Sml; decide, by unfold Sml; decide, by unfold Sml; decide⟩
theorem shot_ex (k : Nat) (L : List Int) (S : S_Sensor) (a kind number : Int) (a0 : 0 ≤ a) (a1 : a ≤ 1000000) (k0 : 0 ≤ kind) (k1 : kind ≤ 3) (n0 : 1 ≤ number) (n1 : number ≤ 99) : XAns a kind (spymake_Stream_Shot k ⟨L, a⟩ S kind number) := by
  unfold spymake_Stream_Shot
  refine next_b k L a 1073741824 (by decide) (by decide) (by omega) (by omega) fun seed _ _ => ?_
  dsimp only
  refine range_b k L (a + 1) (-3000) 3000 (by decide) (by decide) (by decide) (by decide) (by omega) (by omega) fun beg b0 b1 => ?_
  dsimp only
  refine next_b k L (a + 1 + 1) 5 (by decide) (by decide) (by omega) (by omega) fun c _ _ => ?_
  dsimp only
  refine bind_ite (fun v : Int × Int => a ≤ v.1 ∧ v.1 ≤ a + 4 ∧ Sml v.2) (fun _ => ?_) (fun _ => ⟨_, rfl, by dsimp only; omega, by dsimp only; omega, Sml.of (by dsimp only; omega) (by dsimp only; omega)⟩) ?_
  · refine range_b (Q := fun e => ∃ v : Int × Int, e = some v ∧ a ≤ v.1 ∧ v.1 ≤ a + 4 ∧ Sml v.2) k L (a + 1 + 1 + 1) (-30) 30 (by decide) (by decide) (by decide) (by decide) (by omega) (by omega) fun v v0 v1 => ?_
    dsimp only
    rw [wid (x := v * 28800000) (by omega) (by omega)]
    exact ⟨_, rfl, by dsimp only; omega, by dsimp only; omega, Sml.of (by dsimp only; omega) (by dsimp only; omega)⟩
  rintro ⟨a2, B⟩ ⟨h1, h2, hB⟩
  dsimp only at h1 h2 hB ⊢
  refine bind_ite (fun v : Int × Int => a ≤ v.1 ∧ v.1 ≤ a + 8 ∧ Sml v.2) (fun _ => ?_) (fun _ => ⟨_, rfl, by dsimp only; omega, by dsimp only; omega, Sml.of (by dsimp only; omega) (by dsimp only; omega)⟩) ?_
  · refine next_b (Q := fun e => ∃ v : Int × Int, e = some v ∧ a ≤ v.1 ∧ v.1 ≤ a + 8 ∧ Sml v.2) k L a2 3 (by decide) (by decide) (by omega) (by omega) fun v v0 v1 => ?_
    dsimp only
    obtain ⟨m, hm, m0, m1⟩ : ∃ m, rd ([2, 5, 16] : List Int) v = m ∧ 2 ≤ m ∧ m ≤ 16 := by
      rcases (show v = 0 ∨ v = 1 ∨ v = 2 by omega) with rfl | rfl | rfl <;> exact ⟨_, rfl, by decide, by decide⟩
    rw [ifp v0, ifp (by show v < 3; exact v1), hm]
    refine range_b (Q := fun e => ∃ v : Int × Int, e = some v ∧ a ≤ v.1 ∧ v.1 ≤ a + 8 ∧ Sml v.2) k L (a2 + 1) 1 m (by omega) (by omega) (by decide) (by omega) (by omega) (by omega) fun u u0 u1 => ?_
    dsimp only
    exact ⟨_, rfl, by dsimp only; omega, by dsimp only; omega, Sml.of (by dsimp only; omega) (by dsimp only; omega)⟩
  rintro ⟨a3, T⟩ ⟨h3, h4, hT⟩
  dsimp only at h3 h4 hT ⊢
  have z : Sml 0 := by unfold Sml; decide
  have hN : Sml number := Sml.of (by omega) (by omega)
  by_cases c2 : kind = 2
  · rw [ifp c2]
    refine next_b k L a3 3 (by decide) (by decide) (by omega) (by omega) fun v v0 v1 => ?_
    dsimp only
    obtain ⟨m, hm, m0, m1⟩ : ∃ m, rd ([100, 3000, 40000] : List Int) v = m ∧ 100 ≤ m ∧ m ≤ 40000 := by
      rcases (show v = 0 ∨ v = 1 ∨ v = 2 by omega) with rfl | rfl | rfl <;> exact ⟨_, rfl, by decide, by decide⟩
    rw [ifp v0, ifp (by show v < 3; exact v1), hm]
    refine range_b k L (a3 + 1) 1 m (by omega) (by omega) (by decide) (by omega) (by omega) (by omega) fun u u0 u1 => ?_
    dsimp only
    exact ⟨_, _, rfl, by omega, by omega, rfl, hN, hB, hT, .zero, z, z, z⟩
  · rw [ifn c2]
    by_cases c3 : kind = 3
    · rw [ifp c3]
      obtain ⟨p, a4, e4, p0, p1, hp⟩ := plate_ex k L a3 (by omega) (by omega)
      rw [bnd e4]; dsimp only
      refine next_b k L a4 2 (by decide) (by decide) (by omega) (by omega) fun v v0 v1 => ?_
      dsimp only
      rw [ifp (by omega)]
      refine next_b k L (a4 + 1) 6 (by decide) (by decide) (by omega) (by omega) fun u u0 u1 => ?_
      dsimp only
      refine bind_ite (fun v : Int => Sml v) (fun _ => ⟨_, rfl, by unfold Sml; decide⟩) (fun _ => ⟨_, rfl, ?_⟩) ?_
      · rcases (show v = 0 ∨ v = 1 by omega) with rfl | rfl
        · exact Sml.of (by decide) (by decide)
        · exact Sml.of (by decide) (by decide)
      intro g hg
      refine next_b k L (a4 + 1 + 1) 3 (by decide) (by decide) (by omega) (by omega) fun q q0 q1 => ?_
      dsimp only
      by_cases c4 : q = 0
      · rw [ifp c4]
        refine range_b k L (a4 + 1 + 1 + 1) (-64) 64 (by decide) (by decide) (by decide) (by decide) (by omega) (by omega) fun x x0 x1 => ?_
        dsimp only
        refine range_b k L (a4 + 1 + 1 + 1 + 1) (-64) 64 (by decide) (by decide) (by decide) (by decide) (by omega) (by omega) fun y y0 y1 => ?_
        dsimp only
        exact ⟨_, _, rfl, by omega, by omega, rfl, hN, hB, hT, hp, hg, Sml.of (by dsimp only; omega) (by dsimp only; omega), Sml.of (by dsimp only; omega) (by dsimp only; omega)⟩
      · rw [ifn c4]
        exact ⟨_, _, rfl, by omega, by omega, rfl, hN, hB, hT, hp, hg, z, z⟩
    · rw [ifn c3]
      exact ⟨_, _, rfl, by omega, by omega, rfl, hN, hB, hT, .zero, z, z, z⟩
theorem card_ex (k : Nat) (key unit : ByteArray) (n : Int) (h : Sml n) : spymake_Cards_1 k key n unit = some ⟨key, numeral n, unit, ⟨#[]⟩⟩ := by
  obtain ⟨h0, h1⟩ := h
  unfold spymake_Cards_1 strconv_FormatInt
  rw [ifp rfl, ifp (by omega), ifp (by omega)]
  rfl
theorem num_good {key unit : ByteArray} {n : Int} (h : Sml n) (hK : kOk key = true) (hU : uOk unit = true) : CGood ⟨key, numeral n, unit, ⟨#[]⟩⟩ := CGood.of hK (num_vOk h.1 h.2) hU (by decide)
def keysOf (l : List S_Card) : List (List UInt8) := l.map fun c => c.Key.data.toList
def plKey (i : Nat) : ByteArray := (⟨#[80, 76, 65, 84, 69, 45]⟩ : ByteArray) ++ (bstr ([u8 (w64 (65 + (i : Int)))] : List Int))
theorem cards_step (k : Nat) (x : S_Shot) (hp : PGood x.Plate) (fuel : Nat) (out : List S_Card) (i : Nat) (hi : i < 4) (ho : out.length ≤ 100) : ∃ n, Sml n ∧ spymake_Cards.l0 k x (fuel + 1) out (i : Int) = spymake_Cards.l0 k x fuel (out ++ [⟨plKey i, numeral n, ⟨#[]⟩, ⟨#[]⟩⟩]) ((i + 1 : Nat) : Int) := by
  have hs : Sml (rd [x.Plate.A, x.Plate.B, x.Plate.C, x.Plate.D] (i : Int)) := by
    rcases (show i = 0 ∨ i = 1 ∨ i = 2 ∨ i = 3 by omega) with rfl | rfl | rfl | rfl
    · exact hp.A
    · exact hp.B
    · exact hp.C
    · exact hp.D
  refine ⟨_, hs, ?_⟩
  rw [spymake_Cards.l0, ifp (by omega), ifp (by omega), ifp (by show 6 + 1 ≤ 9223372036854775807; decide), bnd (card_ex k _ _ _ hs), ifp (by omega), wid (x := (i : Int) + 1) (by omega) (by omega)]
  rfl
def kindK : List (List UInt8) := [[75, 73, 78, 68], [78, 85, 77, 66, 69, 82], [66, 69, 71, 73, 78], [66, 69, 65, 84, 83]]
def longK : List (List UInt8) := kindK ++ [[80, 76, 65, 84, 69, 45, 65], [80, 76, 65, 84, 69, 45, 66], [80, 76, 65, 84, 69, 45, 67], [80, 76, 65, 84, 69, 45, 68], [83, 69, 69, 73, 78, 71], [68, 82, 73, 70, 84, 45, 88], [68, 82, 73, 70, 84, 45, 89]]
def CardsOk (l : List S_Card) : Prop := (keysOf l = kindK ∨ keysOf l = longK) ∧ ∀ c ∈ l, CGood c
theorem cards_ex (k : Nat) (x : S_Shot) (kind : Int) (h : XGood x kind) (k0 : 0 ≤ kind) (k1 : kind ≤ 3) (hk : 10 ≤ k) : ∃ l, spymake_Cards k x = some l ∧ CardsOk l := by
  unfold spymake_Cards
  rw [h.K]
  obtain ⟨v, e, v0, v1⟩ := below_ex k kind 4 (by decide) (by decide)
  have e1 := card_ex k (⟨#[78, 85, 77, 66, 69, 82]⟩ : ByteArray) (⟨#[]⟩ : ByteArray) _ h.N
  have e2 := card_ex k (⟨#[66, 69, 71, 73, 78]⟩ : ByteArray) (⟨#[116, 105, 99, 107]⟩ : ByteArray) _ h.B
  have e3 := card_ex k (⟨#[66, 69, 65, 84, 83]⟩ : ByteArray) (⟨#[98, 101, 97, 116]⟩ : ByteArray) _ h.T
  rw [bnd e, ifp v0, ifp (by show v < 4; exact v1), bnd e1, bnd e2, bnd e3]
  obtain ⟨kv, hkv, gkv⟩ : ∃ kv, rd ([(⟨#[98, 105, 97, 115]⟩ : ByteArray), ⟨#[100, 97, 114, 107]⟩, ⟨#[102, 108, 97, 116]⟩, ⟨#[115, 99, 105, 101, 110, 99, 101]⟩] : List ByteArray) v = kv ∧ vOk kv = true := by
    rcases (show v = 0 ∨ v = 1 ∨ v = 2 ∨ v = 3 by omega) with rfl | rfl | rfl | rfl <;> exact ⟨_, rfl, by decide⟩
  rw [hkv]
  have g0 : CGood (⟨⟨#[75, 73, 78, 68]⟩, kv, ⟨#[]⟩, ⟨#[]⟩⟩ : S_Card) := CGood.of (by decide) gkv (by decide) (by decide)
  have g1 := num_good (key := (⟨#[78, 85, 77, 66, 69, 82]⟩ : ByteArray)) (unit := (⟨#[]⟩ : ByteArray)) h.N (by decide) (by decide)
  have g2 := num_good (key := (⟨#[66, 69, 71, 73, 78]⟩ : ByteArray)) (unit := (⟨#[116, 105, 99, 107]⟩ : ByteArray)) h.B (by decide) (by decide)
  have g3 := num_good (key := (⟨#[66, 69, 65, 84, 83]⟩ : ByteArray)) (unit := (⟨#[98, 101, 97, 116]⟩ : ByteArray)) h.T (by decide) (by decide)
  by_cases c : kind ≠ 3
  · rw [ifp c]
    refine ⟨_, rfl, .inl rfl, fun c hc => ?_⟩
    simp only [List.mem_cons, List.not_mem_nil, or_false] at hc
    rcases hc with rfl | rfl | rfl | rfl
    · exact g0
    · exact g1
    · exact g2
    · exact g3
  · rw [ifn c]
    obtain ⟨f, rfl⟩ : ∃ f, k = f + 1 + 1 + 1 + 1 + 1 := ⟨k - 5, by omega⟩
    generalize hl0 : [(⟨⟨#[75, 73, 78, 68]⟩, kv, ⟨#[]⟩, ⟨#[]⟩⟩ : S_Card), ⟨⟨#[78, 85, 77, 66, 69, 82]⟩, numeral x.Number, ⟨#[]⟩, ⟨#[]⟩⟩, ⟨⟨#[66, 69, 71, 73, 78]⟩, numeral x.Begin, ⟨#[116, 105, 99, 107]⟩, ⟨#[]⟩⟩, ⟨⟨#[66, 69, 65, 84, 83]⟩, numeral x.Beats, ⟨#[98, 101, 97, 116]⟩, ⟨#[]⟩⟩] = l0
    have hlen : l0.length = 4 := by rw [← hl0]; rfl
    obtain ⟨n0, s0, q0⟩ := cards_step (f + 1 + 1 + 1 + 1 + 1) x h.P (f + 1 + 1 + 1 + 1) l0 0 (by decide) (by omega)
    obtain ⟨n1, s1, q1⟩ := cards_step (f + 1 + 1 + 1 + 1 + 1) x h.P (f + 1 + 1 + 1) (l0 ++ [⟨plKey 0, numeral n0, ⟨#[]⟩, ⟨#[]⟩⟩]) 1 (by decide) (by rw [List.length_append]; show l0.length + 1 ≤ _; omega)
    obtain ⟨n2, s2, q2⟩ := cards_step (f + 1 + 1 + 1 + 1 + 1) x h.P (f + 1 + 1) (l0 ++ [⟨plKey 0, numeral n0, ⟨#[]⟩, ⟨#[]⟩⟩] ++ [⟨plKey 1, numeral n1, ⟨#[]⟩, ⟨#[]⟩⟩]) 2 (by decide) (by rw [List.length_append, List.length_append]; show l0.length + 1 + 1 ≤ _; omega)
    obtain ⟨n3, s3, q3⟩ := cards_step (f + 1 + 1 + 1 + 1 + 1) x h.P (f + 1) (l0 ++ [⟨plKey 0, numeral n0, ⟨#[]⟩, ⟨#[]⟩⟩] ++ [⟨plKey 1, numeral n1, ⟨#[]⟩, ⟨#[]⟩⟩] ++ [⟨plKey 2, numeral n2, ⟨#[]⟩, ⟨#[]⟩⟩]) 3 (by decide) (by rw [List.length_append, List.length_append, List.length_append]; show l0.length + 1 + 1 + 1 ≤ _; omega)
    have e5 := card_ex (f + 1 + 1 + 1 + 1 + 1) (⟨#[83, 69, 69, 73, 78, 71]⟩ : ByteArray) (⟨#[99, 101, 108, 108]⟩ : ByteArray) _ h.S
    have e6 := card_ex (f + 1 + 1 + 1 + 1 + 1) (⟨#[68, 82, 73, 70, 84, 45, 88]⟩ : ByteArray) (⟨#[115, 117, 98]⟩ : ByteArray) _ h.X
    have e7 := card_ex (f + 1 + 1 + 1 + 1 + 1) (⟨#[68, 82, 73, 70, 84, 45, 89]⟩ : ByteArray) (⟨#[115, 117, 98]⟩ : ByteArray) _ h.Y
    have q4 : ∀ out : List S_Card, spymake_Cards.l0 (f + 1 + 1 + 1 + 1 + 1) x (f + 1) out ((3 + 1 : Nat) : Int) = some out := fun out => by rw [spymake_Cards.l0, ifn (by decide)]
    have e4 := ((q0.trans q1).trans (q2.trans q3)).trans (q4 _)
    have hlen2 : (l0 ++ [(⟨plKey 0, numeral n0, ⟨#[]⟩, ⟨#[]⟩⟩ : S_Card)] ++ [(⟨plKey 1, numeral n1, ⟨#[]⟩, ⟨#[]⟩⟩ : S_Card)] ++ [(⟨plKey 2, numeral n2, ⟨#[]⟩, ⟨#[]⟩⟩ : S_Card)] ++ [(⟨plKey 3, numeral n3, ⟨#[]⟩, ⟨#[]⟩⟩ : S_Card)]).length = 8 := by
      simp only [List.length_append, List.length_cons, List.length_nil, hlen]
    rw [bnd (show spymake_Cards.l0 (f + 1 + 1 + 1 + 1 + 1) x (f + 1 + 1 + 1 + 1 + 1) l0 0 = _ from e4), bnd e5, bnd e6, bnd e7, ifp (by rw [hlen2]; decide)]
    refine ⟨_, rfl, .inr ?_, fun c hc => ?_⟩
    · rw [← hl0]
      rfl
    · rw [← hl0] at hc
      simp only [List.mem_append, List.mem_cons, List.not_mem_nil, or_false] at hc
      rcases hc with (((((rfl | rfl | rfl | rfl) | rfl) | rfl) | rfl) | rfl) | rfl | rfl | rfl
      · exact g0
      · exact g1
      · exact g2
      · exact g3
      · exact num_good s0 (by decide) (by decide)
      · exact num_good s1 (by decide) (by decide)
      · exact num_good s2 (by decide) (by decide)
      · exact num_good s3 (by decide) (by decide)
      · exact num_good h.S (by decide) (by decide)
      · exact num_good h.X (by decide) (by decide)
      · exact num_good h.Y (by decide) (by decide)
theorem frame_l0 (k : Nat) (L : List Int) (a0_ W H v base m : Int) (hm : rd ([2, 256, 300, 5000, 65536] : List Int) v = m) (m0 : 2 ≤ m) (m1 : m ≤ 65536) (hn : W * H ≤ 1024) (hn0 : 0 ≤ W * H) : ∀ (d fuel : Nat) (i a : Int) (c : List Int), i + d = W * H → 0 ≤ i → d < fuel → 0 ≤ a → a + 3 * d ≤ 4000000 → (c.length : Int) = i → AllIn c 0 65535 →
    ∃ a' c', spymake_Stream_Frame.l0 k W H ⟨L, a0_⟩ v base fuel i a c = some (a', c') ∧ a ≤ a' ∧ a' ≤ a + 3 * d ∧ (c'.length : Int) = W * H ∧ AllIn c' 0 65535 := by
  intro d
  induction d with
  | zero =>
    intro fuel i a c h1 h2 hf ha ha2 hl hc
    obtain ⟨fuel, rfl⟩ : ∃ q, fuel = q + 1 := ⟨fuel - 1, by omega⟩
    rw [spymake_Stream_Frame.l0, wid (x := W * H) (by omega) (by omega), ifn (by omega)]
    exact ⟨a, c, rfl, by omega, by omega, by omega, hc⟩
  | succ d ih =>
    intro fuel i a c h1 h2 hf ha ha2 hl hc
    obtain ⟨fuel, rfl⟩ : ∃ q, fuel = q + 1 := ⟨fuel - 1, by omega⟩
    have cl : ∀ z : Int, 0 ≤ mx 0 (mn 65535 z) ∧ mx 0 (mn 65535 z) ≤ 65535 := fun z => by rw [mx_def, mn_def]; omega
    rw [spymake_Stream_Frame.l0, wid (x := W * H) (by omega) (by omega), ifp (by omega)]
    obtain ⟨u, e1, _, _⟩ := range_ex k L a (-3) 3 (by decide) (by decide) (by decide) (by decide) (by omega) (by omega)
    rw [bnd e1]; dsimp only
    obtain ⟨q, e2, _, _⟩ := next_ex k L (a + 1) 3 (by decide) (by decide) (by omega) (by omega)
    rw [bnd e2]; dsimp only
    by_cases cq : q = 0
    · obtain ⟨y, e3, _, _⟩ := next_ex k L (a + 1 + 1) m (by omega) (by omega) (by omega) (by omega)
      rw [ifp cq, hm, bnd e3]; dsimp only
      rw [ifp (by omega), wid (x := i + 1) (by omega) (by omega)]
      obtain ⟨a', c', e, g1, g2, g3, g4⟩ := ih fuel (i + 1) (a + 1 + 1 + 1) (c ++ [mx 0 (mn 65535 y)]) (by omega) (by omega) (by omega) (by omega) (by omega) (push_len hl) (hc.push (cl _).1 (cl _).2)
      exact ⟨a', c', e, by omega, by omega, g3, g4⟩
    · rw [ifn cq, ifp (by omega), wid (x := i + 1) (by omega) (by omega)]
      obtain ⟨a', c', e, g1, g2, g3, g4⟩ := ih fuel (i + 1) (a + 1 + 1) (c ++ [mx 0 (mn 65535 (w64 (base + u)))]) (by omega) (by omega) (by omega) (by omega) (by omega) (push_len hl) (hc.push (cl _).1 (cl _).2)
      exact ⟨a', c', e, by omega, by omega, g3, g4⟩
structure FGood (f : S_Frame) (W H : Int) : Prop where
  eW : f.W = W
  eH : f.H = H
  l : (f.Counts.length : Int) = W * H
  c : AllIn f.Counts 0 65535
  k : CardsOk f.Cards
theorem frame_ex (k : Nat) (L : List Int) (a kind W H : Int) (x : S_Shot) (hx : XGood x kind) (k0 : 0 ≤ kind) (k1 : kind ≤ 3) (a0 : 0 ≤ a) (a1 : a ≤ 1000000) (hn : W * H ≤ 1024) (hn0 : 0 ≤ W * H) (hk : 1100 ≤ k) :
    ∃ f a', spymake_Stream_Frame k ⟨L, a⟩ x W H = some (f, a') ∧ a ≤ a' ∧ a' ≤ a + 4000 ∧ FGood f W H := by
  unfold spymake_Stream_Frame
  obtain ⟨l, e1, hl⟩ := cards_ex k x kind hx k0 k1 (by omega)
  obtain ⟨v, e2, v0, v1⟩ := next_ex k L a 5 (by decide) (by decide) (by omega) (by omega)
  obtain ⟨m, hm, m0, m1⟩ : ∃ m, rd ([2, 256, 300, 5000, 65536] : List Int) v = m ∧ 2 ≤ m ∧ m ≤ 65536 := by
    rcases (show v = 0 ∨ v = 1 ∨ v = 2 ∨ v = 3 ∨ v = 4 by omega) with rfl | rfl | rfl | rfl | rfl <;> exact ⟨_, rfl, by decide, by decide⟩
  obtain ⟨b, e3, b0, b1⟩ := next_ex k L (a + 1) m (by omega) (by omega) (by omega) (by omega)
  obtain ⟨a', c', e4, g1, g2, g3, g4⟩ := frame_l0 k L a W H v b m hm m0 m1 hn hn0 (W * H).toNat k 0 (a + 1 + 1) [] (by omega) (by omega) (by omega) (by omega) (by omega) rfl .nil
  rw [bnd e1, bnd e2]; dsimp only
  rw [ifp v0, ifp (by show v < 5; exact v1), hm, bnd e3]; dsimp only
  rw [bnd e4]
  exact ⟨_, _, rfl, by omega, by omega, ⟨rfl, rfl, g3, g4, hl⟩⟩
def xKey (i : Nat) : ByteArray := (⟨#[88]⟩ : ByteArray) ++ numeral (i : Int)
theorem xKey_data (i : Nat) (h : i < 10) : (xKey i).data.toList = [88, UInt8.ofNat (48 + i)] := by
  unfold xKey
  rw [sapp]
  show [88] ++ Go.Lib.itoa (i : Int) = _
  rw [Go.Lib.itoa_nonneg, Go.Lib.decDigits_one h]
  rfl
theorem xKey_ok (i : Nat) (h : i < 3) : kOk (xKey i) = true := by
  unfold kOk
  rw [xKey_data i (by omega)]
  rcases (show i = 0 ∨ i = 1 ∨ i = 2 by omega) with rfl | rfl | rfl <;> decide
theorem notes_l0 (k : Nat) (L : List Int) (a0_ n : Int) (n1 : n ≤ 3) : ∀ (d fuel : Nat) (l : List S_Card) (i : Nat) (a : Int), (i : Int) + d = n → d < fuel → 0 ≤ a → a + 5 * d ≤ 4000000 → l.length + d ≤ 100 → (∀ c ∈ l, CGood c) →
    ∃ l' a', spymake_Stream_Notes.l0 k n ⟨L, a0_⟩ fuel l (i : Int) a = some (l', a') ∧ keysOf l' = keysOf l ++ (List.range' i d).map (fun j => (xKey j).data.toList) ∧ ∀ c ∈ l', CGood c := by
  intro d
  induction d with
  | zero =>
    intro fuel l i a h1 hf ha ha2 hl hg
    obtain ⟨fuel, rfl⟩ : ∃ q, fuel = q + 1 := ⟨fuel - 1, by omega⟩
    rw [spymake_Stream_Notes.l0, ifn (by omega)]
    exact ⟨l, a, rfl, (List.append_nil _).symm, hg⟩
  | succ d ih =>
    intro fuel l i a h1 hf ha ha2 hl hg
    obtain ⟨fuel, rfl⟩ : ∃ q, fuel = q + 1 := ⟨fuel - 1, by omega⟩
    have hi : strconv_Itoa k (i : Int) = some (numeral (i : Int)) := by unfold strconv_Itoa; rw [ifp (by omega), ifp (by omega)]
    have hs : (numeral (i : Int)).size ≤ 21 := by rw [ssz]; exact numeral_size (by omega) (by omega)
    have hkx := xKey_ok i (by omega)
    have go : ∀ (c : S_Card) (a2 : Int), c.Key = xKey i → CGood c → 0 ≤ a2 → a2 ≤ a + 5 → ∃ l' a', spymake_Stream_Notes.l0 k n ⟨L, a0_⟩ fuel (l ++ [c]) ((i + 1 : Nat) : Int) a2 = some (l', a') ∧ keysOf l' = keysOf l ++ (List.range' i (d + 1)).map (fun j => (xKey j).data.toList) ∧ ∀ c ∈ l', CGood c := fun c a2 hc hcg h2 h3 => by
      obtain ⟨l', a', e, g1, g2⟩ := ih fuel (l ++ [c]) (i + 1) a2 (by omega) (by omega) (by omega) (by omega) (by rw [List.length_append]; show l.length + 1 + d ≤ _; omega) (fun x hx => by
        rcases List.mem_append.mp hx with hx | hx
        · exact hg x hx
        · rw [List.mem_singleton] at hx; rw [hx]; exact hcg)
      refine ⟨l', a', e, ?_, g2⟩
      rw [g1, List.range'_succ, List.map_cons]
      unfold keysOf
      rw [List.map_append, List.map_cons, hc, List.append_assoc]
      rfl
    rw [spymake_Stream_Notes.l0, ifp (by omega), bnd hi, ifp (by show 1 + (numeral (i : Int)).size ≤ _; omega)]
    obtain ⟨v, e1, v0, v1⟩ := next_ex k L a 6 (by decide) (by decide) (by omega) (by omega)
    rw [bnd e1]; dsimp only
    rw [ifp v0, ifp (by show v < 6; exact v1)]
    obtain ⟨vv, hvv, gvv⟩ : ∃ vv, rd ([(⟨#[49]⟩ : ByteArray), (⟨#[97, 47, 98]⟩ : ByteArray), (⟨#[61]⟩ : ByteArray), (⟨#[91, 55, 93]⟩ : ByteArray), (⟨#[45, 49, 50]⟩ : ByteArray), (⟨#[50, 48]⟩ : ByteArray)] : List ByteArray) v = vv ∧ vOk vv = true := by
      rcases (show v = 0 ∨ v = 1 ∨ v = 2 ∨ v = 3 ∨ v = 4 ∨ v = 5 by omega) with rfl | rfl | rfl | rfl | rfl | rfl <;> exact ⟨_, rfl, by decide⟩
    rw [hvv]
    obtain ⟨u, e2, u0, u1⟩ := next_ex k L (a + 1) 2 (by decide) (by decide) (by omega) (by omega)
    rw [bnd e2]; dsimp only
    refine bind_ite (Q := fun e => ∃ (l' : List S_Card) (a' : Int), e = some (l', a') ∧ keysOf l' = keysOf l ++ (List.range' i (d + 1)).map (fun j => (xKey j).data.toList) ∧ ∀ c ∈ l', CGood c) (fun w : Int × ByteArray => a + 2 ≤ w.1 ∧ w.1 ≤ a + 3 ∧ uOk w.2 = true) (fun _ => ?_) (fun _ => ⟨_, rfl, by dsimp only; omega, by dsimp only; omega, by show uOk ⟨#[]⟩ = true; decide⟩) ?_
    · refine next_b (Q := fun e => ∃ w : Int × ByteArray, e = some w ∧ a + 2 ≤ w.1 ∧ w.1 ≤ a + 3 ∧ uOk w.2 = true) k L (a + 1 + 1) 5 (by decide) (by decide) (by omega) (by omega) fun y y0 y1 => ?_
      dsimp only
      rw [ifp y0, ifp (by show y < 5; exact y1)]
      refine ⟨_, rfl, by dsimp only; omega, by dsimp only; omega, ?_⟩
      dsimp only
      rcases (show y = 0 ∨ y = 1 ∨ y = 2 ∨ y = 3 ∨ y = 4 by omega) with rfl | rfl | rfl | rfl | rfl <;> decide
    rintro ⟨a2, un⟩ ⟨h3, h4, h5⟩
    dsimp only at h3 h4 h5 ⊢
    refine next_b (Q := fun e => ∃ (l' : List S_Card) (a' : Int), e = some (l', a') ∧ keysOf l' = keysOf l ++ (List.range' i (d + 1)).map (fun j => (xKey j).data.toList) ∧ ∀ c ∈ l', CGood c) k L a2 2 (by decide) (by decide) (by omega) (by omega) fun y y0 y1 => ?_
    dsimp only
    by_cases cy : y = 0
    · rw [ifp cy]
      refine next_b (Q := fun e => ∃ (l' : List S_Card) (a' : Int), e = some (l', a') ∧ keysOf l' = keysOf l ++ (List.range' i (d + 1)).map (fun j => (xKey j).data.toList) ∧ ∀ c ∈ l', CGood c) k L (a2 + 1) 4 (by decide) (by decide) (by omega) (by omega) fun z z0 z1 => ?_
      dsimp only
      rw [ifp z0, ifp (by show z < 4; exact z1), ifp (by omega), wid (x := (i : Int) + 1) (by omega) (by omega), show (i : Int) + 1 = ((i + 1 : Nat) : Int) by omega]
      refine go _ _ rfl (CGood.of hkx gvv h5 ?_) (by omega) (by omega)
      rcases (show z = 0 ∨ z = 1 ∨ z = 2 ∨ z = 3 by omega) with rfl | rfl | rfl | rfl <;> decide
    · rw [ifn cy, ifp (by omega), wid (x := (i : Int) + 1) (by omega) (by omega), show (i : Int) + 1 = ((i + 1 : Nat) : Int) by omega]
      exact go _ _ rfl (CGood.of hkx gvv h5 (by decide)) (by omega) (by omega)
theorem noted_ex (k : Nat) (L : List Int) (hk : 1100 ≤ k) : ∃ (f : S_Frame) (a' : Int) (K : List (List UInt8)) (n : Nat), spykeep3_noted k ⟨L, 0⟩ = some (f, a') ∧ FGoodC f ∧ n ≤ 3 ∧ (K = kindK ∨ K = longK) ∧ keysOf f.Cards = K ++ (List.range n).map (fun j => (xKey j).data.toList) ∧ f.W ≤ 9 ∧ f.H ≤ 9 := by
  obtain ⟨S, a1, e1, hS, ha, hb⟩ := sensor_ex k L 0 9 (by decide) (by decide) (by decide) (by decide) hk
  obtain ⟨kind, e2, k0, k1⟩ := next_ex k L a1 4 (by decide) (by decide) (by omega) (by omega)
  obtain ⟨num, e3, n0, n1⟩ := range_ex k L (a1 + 1) 1 99 (by decide) (by decide) (by decide) (by decide) (by omega) (by omega)
  obtain ⟨x, a2, e4, h1, h2, hx⟩ := shot_ex k L S (a1 + 1 + 1) kind num (by omega) (by omega) k0 (by omega) n0 n1
  have hWH := hS.n (by decide)
  obtain ⟨f, a3, e5, h3, h4, hf⟩ := frame_ex k L a2 kind S.W S.H x hx k0 (by omega) (by omega) (by omega) hWH.2 (by omega) hk
  obtain ⟨n, e6, m0, m1⟩ := next_ex k L a3 4 (by decide) (by decide) (by omega) (by omega)
  have hcl : f.Cards.length ≤ 20 := by
    have e : (keysOf f.Cards).length = f.Cards.length := List.length_map ..
    rcases hf.k.1 with h | h
    · rw [h] at e; rw [← e]; decide
    · rw [h] at e; rw [← e]; decide
  obtain ⟨l', a4, e7, g1, g2⟩ := notes_l0 k L a3 n (by omega) n.toNat k (([] : List S_Card) ++ f.Cards) 0 (a3 + 1) (by omega) (by omega) (by omega) (by omega) (by simp; omega) (by simpa using hf.k.2)
  have e8 : spymake_Stream_Notes k ⟨L, a3⟩ f = some (⟨f.W, f.H, l', f.Counts⟩, a4) := by
    unfold spymake_Stream_Notes
    rw [ifp (by simp; omega), bnd e6]; dsimp only
    rw [bnd (show spymake_Stream_Notes.l0 k n ⟨L, a3⟩ k (([] : List S_Card) ++ f.Cards) 0 (a3 + 1) = _ from e7)]
  unfold spykeep3_noted
  rw [bnd e1]; dsimp only
  rw [bnd e2]; dsimp only
  rw [bnd e3]; dsimp only
  rw [bnd e4]; dsimp only
  rw [bnd e5]; dsimp only
  rw [bnd e8]
  have w0 := hS.W0; have w1 := hS.W1; have y0 := hS.H0; have y1 := hS.H1
  rw [List.nil_append, ← List.range_eq_range'] at g1
  have hn3 : n.toNat ≤ 3 := by omega
  have hnd : (keysOf l').Nodup := by
    rw [g1]
    have d0 : ∀ m, m ≤ 3 → (List.range m).map (fun j => (xKey j).data.toList) = (List.range m).map (fun j => [88, UInt8.ofNat (48 + j)]) := fun m hm => List.map_congr_left fun j hj => xKey_data j (by have := List.mem_range.mp hj; omega)
    rw [d0 _ hn3]
    have d1 : ∀ m, m < 4 → (kindK ++ (List.range m).map (fun j => [88, UInt8.ofNat (48 + j)])).Nodup := by decide
    have d2 : ∀ m, m < 4 → (longK ++ (List.range m).map (fun j => [88, UInt8.ofNat (48 + j)])).Nodup := by decide
    rcases hf.k.1 with h | h
    · rw [h]; exact d1 _ (by omega)
    · rw [h]; exact d2 _ (by omega)
  have hln : l'.length ≤ 28 := by
    have e : (keysOf l').length = l'.length := List.length_map ..
    rw [g1, List.length_append, List.length_map, List.length_range] at e
    have e2 : (keysOf f.Cards).length = f.Cards.length := List.length_map ..
    omega
  refine ⟨_, _, keysOf f.Cards, n.toNat, rfl, ⟨?_, ?_, ?_, ?_, ?_, hf.c, hln, g2, hnd⟩, hn3, hf.k.1, g1, ?_, ?_⟩
  · dsimp only; rw [hf.eW]; omega
  · dsimp only; rw [hf.eW]; omega
  · dsimp only; rw [hf.eH]; omega
  · dsimp only; rw [hf.eH]; omega
  · dsimp only; rw [hf.eW, hf.eH]; exact hf.l
  · dsimp only; rw [hf.eW]; omega
  · dsimp only; rw [hf.eH]; omega
theorem findL_some {l : List S_Card} {key : ByteArray} (hd : (l.map fun c => c.Key.data.toList).Nodup) {j : Nat} (hj : j < l.length) (h : (rd l (j : Int)).Key.data.toList = key.data.toList) : findL l key = (j : Int) := by
  unfold findL
  have hall : l.findIdx? (fun c => decide (c.Key.data.toList = key.data.toList)) = some j := by
    rw [List.findIdx?_eq_some_iff_getElem]
    obtain ⟨g1, g2⟩ := rd_lt (xs := l) (i := (j : Int)) (by omega) (by omega)
    simp only [Int.toNat_natCast] at g1 g2
    refine ⟨hj, ?_, fun i hi => ?_⟩
    · rw [g2] at h
      exact decide_eq_true h
    · simp only [decide_eq_true_eq]
      intro e
      rw [g2] at h
      have := List.pairwise_iff_getElem.mp hd i j (by rw [List.length_map]; omega) (by rw [List.length_map]; omega) hi
      simp only [List.getElem_map] at this
      exact this (e.trans h.symm)
  rw [hall]
theorem findL_cases (l : List S_Card) (key : ByteArray) : (findL l key = -1 ∧ ∀ c ∈ l, c.Key.data.toList ≠ key.data.toList) ∨ (∃ j : Nat, findL l key = (j : Int) ∧ j < l.length ∧ (rd l (j : Int)).Key.data.toList = key.data.toList) := by
  unfold findL
  cases h : l.findIdx? (fun c => decide (c.Key.data.toList = key.data.toList)) with
  | none =>
    rw [List.findIdx?_eq_none_iff] at h
    exact .inl ⟨rfl, fun c hc e => by have := h c hc; rw [decide_eq_true e] at this; cases this⟩
  | some j =>
    rw [List.findIdx?_eq_some_iff_getElem] at h
    obtain ⟨h1, h2, _⟩ := h
    obtain ⟨g1, g2⟩ := rd_lt (xs := l) (i := (j : Int)) (by omega) (by omega)
    refine .inr ⟨j, rfl, h1, ?_⟩
    rw [g2]
    exact of_decide_eq_true h2
theorem get_eq (k : Nat) (f : S_Frame) (key : ByteArray) (hn : f.Cards.length ≤ 1000) (hk : 1000 < k) : frame_Get k f key = some (if findL f.Cards key = -1 then ((⟨⟨#[]⟩, ⟨#[]⟩, ⟨#[]⟩, ⟨#[]⟩⟩ : S_Card), false) else (rd f.Cards (findL f.Cards key), true)) := by
  unfold frame_Get
  rw [bnd (find_eq k _ key (by omega) (by omega))]
  rcases findL_cases f.Cards key with ⟨h, _⟩ | ⟨j, h, hj, _⟩
  · rw [h, ifn (by decide), ifp rfl]
  · rw [h, ifp (by omega), ifp (by omega), ifp (by omega), ifn (by omega)]
theorem set_key_map (l : List S_Card) (j : Nat) (c : S_Card) (hj : j < l.length) (h : (rd l (j : Int)).Key.data.toList = c.Key.data.toList) : (l.set j c).map (fun c => c.Key.data.toList) = l.map (fun c => c.Key.data.toList) := by
  obtain ⟨g1, g2⟩ := rd_lt (xs := l) (i := (j : Int)) (by omega) (by omega)
  simp only [Int.toNat_natCast] at g1 g2
  rw [List.map_set, ← h, g2]
  have : (l.map fun c => c.Key.data.toList)[j]'(by rw [List.length_map]; exact hj) = l[j].Key.data.toList := by rw [List.getElem_map]
  rw [← this]
  exact List.set_getElem_self _
def setL (l : List S_Card) (c : S_Card) : List S_Card := if findL l c.Key = -1 then l ++ [c] else l.set (findL l c.Key).toNat c
theorem setL_good {f : S_Frame} (h : FGoodC f) {c : S_Card} (hc : CGood c) (hn : findL f.Cards c.Key = -1 → f.Cards.length ≤ 27) : FGoodC ⟨f.W, f.H, setL f.Cards c, f.Counts⟩ := by
  refine ⟨h.W0, h.W1, h.H0, h.H1, h.l, h.c, ?_, ?_, ?_⟩
  · dsimp only
    unfold setL
    split
    · rename_i e; rw [List.length_append]; have := hn e; show _ + 1 ≤ 28; omega
    · rw [List.length_set]; exact h.n
  · dsimp only
    unfold setL
    split
    · intro x hx
      rcases List.mem_append.mp hx with hx | hx
      · exact h.g x hx
      · rw [List.mem_singleton] at hx; rw [hx]; exact hc
    · intro x hx
      rcases List.mem_or_eq_of_mem_set hx with hx | hx
      · exact h.g x hx
      · rw [hx]; exact hc
  · dsimp only
    unfold setL
    rcases findL_cases f.Cards c.Key with ⟨e, hno⟩ | ⟨j, e, hj, hk⟩
    · rw [ifp e, List.map_append, List.nodup_append]
      refine ⟨h.d, by simp, fun a ha b hb => ?_⟩
      simp only [List.map_cons, List.map_nil, List.mem_singleton] at hb
      obtain ⟨x, hx, rfl⟩ := List.mem_map.mp ha
      rw [hb]
      exact hno x hx
    · rw [ifn (by omega), e, Int.toNat_natCast, set_key_map _ j c hj hk]
      exact h.d
theorem set_eq (k : Nat) (f : S_Frame) (c : S_Card) (h : FGoodC f) (hc : CGood c) (hn : findL f.Cards c.Key = -1 → f.Cards.length ≤ 27) (hk : 1100 ≤ k) : frame_Set k f c = some (⟨f.W, f.H, setL f.Cards c, f.Counts⟩, 0) := by
  have h1 := h.lim
  have h2 := h.n
  have e1 : slices_Clone_Card k f.Cards = some f.Cards := by
    unfold slices_Clone_Card
    rw [ifp (by show (0 + _) * 64 ≤ _; omega), List.nil_append]
  have e2 : slices_Clone_int k f.Counts = some f.Counts := by
    unfold slices_Clone_int
    rw [ifp (by show (0 + _) * 8 ≤ _; omega), List.nil_append]
  have e3 := check_eq k _ (setL_good h hc hn) hk
  unfold frame_Set
  rw [bnd (check_eq k f h hk), ifn (by simp), bnd e1, bnd e2, bnd (find_eq k _ _ (by omega) (by omega))]
  have e4 : ((if findL f.Cards c.Key ≥ 0 then (if 0 ≤ findL f.Cards c.Key then (if findL f.Cards c.Key < (f.Cards.length : Int) then (some (f.Cards.set (findL f.Cards c.Key).toNat c)) else none) else none) else (if (f.Cards.length + 1) * 64 ≤ 140737488355328 then (some (f.Cards ++ ([c] : List S_Card))) else none) : Option ((List S_Card)))) = some (setL f.Cards c) := by
    unfold setL
    rcases findL_cases f.Cards c.Key with ⟨e, _⟩ | ⟨j, e, hj, _⟩
    · rw [e, ifn (by decide), ifp (by omega), ifp rfl]
    · rw [e, ifp (by omega), ifp (by omega), ifp (by omega), ifn (by omega)]
  rw [bnd e4, bnd e3, ifn (by simp)]
def filF : S_Frame := ⟨1, 1, ([(⟨(⟨#[65]⟩ : ByteArray), (⟨#[51]⟩ : ByteArray), (⟨#[98, 101, 97, 116]⟩ : ByteArray), (⟨#[]⟩ : ByteArray)⟩ : S_Card)] : List S_Card), ([9] : List Int)⟩
theorem filF_good : FGoodC filF := by
  refine ⟨by decide, by decide, by decide, by decide, by decide, ?_, by decide, ?_, by decide⟩
  · intro x hx
    simp only [filF, List.mem_cons, List.not_mem_nil, or_false] at hx
    subst hx; decide
  · intro c hc
    simp only [filF, List.mem_cons, List.not_mem_nil, or_false] at hc
    subst hc
    exact ⟨by decide, by decide, by decide, by decide, by decide, by decide, by decide, by decide, by decide, by decide, by decide, by decide⟩
theorem filed_eq (k : Nat) (h : 3000 ≤ k) : spykeep3_filed k = some true := by
  have e1 := encode_eq k filF filF_good h
  have e2 := decode_eq k filF filF_good h
  have hl := outL_len (bodyL_len filF_good) (Nat.le_refl (blocksN filF))
  have hb : blocksN filF = 3 := by
    have hs : sizeL filF.Counts = 1 := by decide
    have := dataL_len filF
    rw [hs] at this
    unfold blocksN
    rw [this]
    decide
  have e3 : frame_Number k filF (⟨#[65]⟩ : ByteArray) (⟨#[116, 105, 99, 107]⟩ : ByteArray) = some (3000, 0) := by
    have g : frame_Get k filF (⟨#[65]⟩ : ByteArray) = some (⟨⟨#[65]⟩, ⟨#[51]⟩, ⟨#[98, 101, 97, 116]⟩, ⟨#[]⟩⟩, true) := by
      unfold frame_Get
      rw [bnd (find_eq k _ _ (by decide) (by show 1 < k; omega)), show findL filF.Cards (⟨#[65]⟩ : ByteArray) = 0 by decide]
      rfl
    have p : strconv_ParseInt k (⟨#[51]⟩ : ByteArray) 10 64 = some 3 := by
      unfold strconv_ParseInt
      rw [ifp rfl, ifp rfl, ifp (by show 1 ≤ 9223372036854775806; decide)]
      rfl
    have q : strconv_FormatInt k 3 10 = some (numeral 3) := by
      unfold strconv_FormatInt
      rw [ifp rfl, ifp (by decide), ifp (by decide)]
    have n3 : (numeral 3).data.toList = [51] := by
      show Go.Lib.itoa ((3 : Nat) : Int) = [51]
      rw [Go.Lib.itoa_nonneg, Go.Lib.decDigits_one (by decide)]
      rfl
    have u1 : frame_unit k (⟨#[98, 101, 97, 116]⟩ : ByteArray) = some ((⟨#[116, 105, 109, 101]⟩ : ByteArray), 1000) := by
      unfold frame_unit
      rw [s_eqn (by decide), ifn (by simp), s_eqp rfl]
      rfl
    have u2 : frame_unit k (⟨#[116, 105, 99, 107]⟩ : ByteArray) = some ((⟨#[116, 105, 109, 101]⟩ : ByteArray), 1) := by
      unfold frame_unit
      rw [s_eqp rfl]
      rfl
    have m : num_Mul k 3 1000 = some (3000, true) := by kernel_rfl
    unfold frame_Number
    rw [bnd g]
    dsimp only
    rw [ifn (by simp), bnd p, bnd q, s_eqp n3, ifn (by simp), s_eqn (by decide), ifn (by simp), bnd u1]
    dsimp only
    rw [bnd u2]
    dsimp only
    rw [s_eqn (by decide), ifn (by simp), s_eqp rfl, ifn (by simp), bnd m]
    rfl
  unfold spykeep3_filed
  refine (bnd e1).trans ?_
  dsimp only
  rw [bnd e2]
  dsimp only
  rw [bnd e3]
  dsimp only
  rw [ifp rfl, ifp rfl, ifp rfl, ifp rfl, hl, hb]
  rfl
theorem eqself_l0_int (k : Nat) (X : List Int) (hL : X.length ≤ 1000000) : ∀ (d m : Nat) (i : Int), i + d = (X.length : Int) → 0 ≤ i → d < m → slices_Equal_int.l0 k X X m i = some (Sum.inr ()) := by
  intro d
  induction d with
  | zero =>
    intro m i hi i0 hm
    obtain ⟨m, rfl⟩ : ∃ q, m = q + 1 := ⟨m - 1, by omega⟩
    rw [slices_Equal_int.l0, ifn (by omega)]
  | succ d ih =>
    intro m i hi i0 hm
    obtain ⟨m, rfl⟩ : ∃ q, m = q + 1 := ⟨m - 1, by omega⟩
    rw [slices_Equal_int.l0, ifp (by omega), ifp i0, ifp (by omega), ifn (by simp), wid (by omega) (by omega)]
    exact ih m (i + 1) (by omega) (by omega) (by omega)
theorem eqself_int (k : Nat) (X : List Int) (hL : X.length ≤ 1000000) (hk : X.length < k) : slices_Equal_int k X X = some true := by
  unfold slices_Equal_int
  rw [ifn (by simp), bnd (eqself_l0_int k X hL X.length k 0 (by omega) (by omega) hk)]
  rfl
def KK : List ByteArray := [(⟨#[75, 73, 78, 68]⟩ : ByteArray), (⟨#[78, 85, 77, 66, 69, 82]⟩ : ByteArray), (⟨#[78, 69, 87]⟩ : ByteArray), (⟨#[88, 48]⟩ : ByteArray)]
def VV : List ByteArray := [(⟨#[97]⟩ : ByteArray), (⟨#[55]⟩ : ByteArray), (⟨#[91, 120, 93]⟩ : ByteArray)]
theorem get_at (k : Nat) (g : S_Frame) (h : FGoodC g) (hk : 1100 ≤ k) (j : Nat) (hj : j < g.Cards.length) (key : ByteArray) (e : (rd g.Cards (j : Int)).Key.data.toList = key.data.toList) : frame_Get k g key = some (rd g.Cards (j : Int), true) := by
  have hn := h.n
  rw [get_eq k g key (by omega) (by omega), findL_some h.d hj e, ifn (by omega)]
theorem rd_app_old {l : List S_Card} {c : S_Card} {i : Nat} (hi : i < l.length) : rd (l ++ [c]) (i : Int) = rd l (i : Int) := by
  unfold rd
  rw [Int.toNat_natCast, List.getD_eq_getElem?_getD, List.getD_eq_getElem?_getD, List.getElem?_append_left hi]
theorem rd_app_new {l : List S_Card} {c : S_Card} : rd (l ++ [c]) (l.length : Int) = c := by
  unfold rd
  rw [Int.toNat_natCast, List.getD_eq_getElem?_getD, List.getElem?_append_right (Nat.le_refl _), Nat.sub_self]
  rfl
theorem rd_set_self {l : List S_Card} {c : S_Card} {i : Nat} (hi : i < l.length) : rd (l.set i c) (i : Int) = c := by
  unfold rd
  rw [Int.toNat_natCast, List.getD_eq_getElem?_getD, List.getElem?_set, if_pos rfl, if_pos hi]
  rfl
theorem rd_set_other {l : List S_Card} {c : S_Card} {i j : Nat} (h : j ≠ i) : rd (l.set j c) (i : Int) = rd l (i : Int) := by
  unfold rd
  rw [Int.toNat_natCast, List.getD_eq_getElem?_getD, List.getD_eq_getElem?_getD, List.getElem?_set, if_neg h]
theorem sets_l0 (k : Nat) (f g : S_Frame) (hf : FGoodC f) (hg : FGoodC g) (v : Int) (hk : 1100 ≤ k) (h : ∀ i : Nat, i < f.Cards.length → (rd f.Cards (i : Int)).Key.data.toList ≠ (rd KK v).data.toList → i < g.Cards.length ∧ rd g.Cards (i : Int) = rd f.Cards (i : Int)) :
    ∀ (d fuel i : Nat), i + d = f.Cards.length → d < fuel → spykeep3_FrameSets.l0 k f g v fuel (i : Int) = some (Sum.inr ()) := by
  have hn := hf.n
  intro d
  induction d with
  | zero =>
    intro fuel i h1 hfu
    obtain ⟨fuel, rfl⟩ : ∃ q, fuel = q + 1 := ⟨fuel - 1, by omega⟩
    rw [spykeep3_FrameSets.l0, ifn (by omega)]
  | succ d ih =>
    intro fuel i h1 hfu
    obtain ⟨fuel, rfl⟩ : ∃ q, fuel = q + 1 := ⟨fuel - 1, by omega⟩
    have step := ih fuel (i + 1) (by omega) (by omega)
    rw [show ((i + 1 : Nat) : Int) = w64 ((i : Int) + 1) by rw [wid (by omega) (by omega)]; omega] at step
    rw [spykeep3_FrameSets.l0, ifp (by omega), ifp (by omega), show ([(⟨#[75, 73, 78, 68]⟩ : ByteArray), (⟨#[78, 85, 77, 66, 69, 82]⟩ : ByteArray), (⟨#[78, 69, 87]⟩ : ByteArray), (⟨#[88, 48]⟩ : ByteArray)] : List ByteArray) = KK from rfl]
    by_cases c : (rd f.Cards (i : Int)).Key.data.toList = (rd KK v).data.toList
    · rw [get_eq k g _ (by have := hg.n; omega) (by omega), Option.bind_some]
      split
      rw [s_eqp c, ifn (by simp)]
      exact step
    · obtain ⟨g1, g2⟩ := h i (by omega) c
      rw [bnd (get_at k g hg hk i g1 (rd f.Cards (i : Int)).Key (by rw [g2]))]
      dsimp only
      rw [s_eqn c, ifp (by simp), ifn (by simp), g2, s_eqp rfl, s_eqp rfl, s_eqp rfl, s_eqp rfl, ifn (by simp)]
      exact step
theorem sets (k : Nat) (L : List Int) (kk value : Int) (hk : 3000 ≤ k) : spykeep3_FrameSets k L kk value = some true := by
  obtain ⟨f, a', K, n, e1, hf, n3, hK, hkeys, _⟩ := noted_ex k L (by omega)
  obtain ⟨v, e2, v0, v1⟩ := below_ex k kk 4 (by decide) (by decide)
  obtain ⟨u, e3, u0, u1⟩ := below_ex k value 3 (by decide) (by decide)
  have hlen : f.Cards.length ≤ 14 := by
    have e : (keysOf f.Cards).length = f.Cards.length := List.length_map ..
    rw [hkeys, List.length_append, List.length_map, List.length_range] at e
    have : K.length ≤ 11 := by rcases hK with h | h <;> rw [h] <;> decide
    omega
  have hlim := hf.lim
  have hcK : kOk (rd KK v) = true := by
    rcases (show v = 0 ∨ v = 1 ∨ v = 2 ∨ v = 3 by omega) with rfl | rfl | rfl | rfl <;> decide
  have hcV : vOk (rd VV u) = true := by
    rcases (show u = 0 ∨ u = 1 ∨ u = 2 by omega) with rfl | rfl | rfl <;> decide
  have hc : CGood ⟨rd KK v, rd VV u, ⟨#[]⟩, ⟨#[]⟩⟩ := CGood.of hcK hcV (by decide) (by decide)
  have hgood := setL_good hf hc (fun _ => by omega)
  have hset := set_eq k f _ hf hc (fun _ => by omega) (by omega)
  obtain ⟨C, hC⟩ : ∃ C : S_Card, C = ⟨rd KK v, rd VV u, ⟨#[]⟩, ⟨#[]⟩⟩ := ⟨_, rfl⟩
  have hCK : C.Key = rd KK v := by rw [hC]
  rw [← hC] at hset hgood hc
  obtain ⟨G, hG⟩ : ∃ G, G = setL f.Cards C := ⟨_, rfl⟩
  rw [← hG] at hset hgood
  have hat : (∃ j : Nat, j < G.length ∧ rd G (j : Int) = C) ∧ (∀ i : Nat, i < f.Cards.length → (rd f.Cards (i : Int)).Key.data.toList ≠ (rd KK v).data.toList → i < G.length ∧ rd G (i : Int) = rd f.Cards (i : Int)) ∧ (findL f.Cards (rd KK v) = -1 → G.length = f.Cards.length + 1) ∧ (findL f.Cards (rd KK v) ≠ -1 → G.length = f.Cards.length) := by
    rw [hG]
    unfold setL
    rw [hCK]
    rcases findL_cases f.Cards (rd KK v) with ⟨e, hno⟩ | ⟨j, e, hj, hkj⟩
    · rw [ifp e]
      have hl : (f.Cards ++ [C]).length = f.Cards.length + 1 := by rw [List.length_append]; rfl
      exact ⟨⟨f.Cards.length, by omega, rd_app_new⟩, fun i hi _ => ⟨by omega, rd_app_old hi⟩, fun _ => hl, fun h => absurd e h⟩
    · rw [ifn (by omega), e, Int.toNat_natCast]
      refine ⟨⟨j, by rw [List.length_set]; exact hj, rd_set_self hj⟩, fun i hi hne => ⟨by rw [List.length_set]; exact hi, rd_set_other fun e => hne (by rw [← e]; exact hkj)⟩, fun h => by omega, fun _ => List.length_set ..⟩
  obtain ⟨⟨j, hj, hjC⟩, hold, hl1, hl2⟩ := hat
  have e4 := get_at k ⟨f.W, f.H, G, f.Counts⟩ hgood (by omega) j hj (rd KK v) (by dsimp only; rw [hjC, hCK])
  dsimp only at e4
  rw [hjC] at e4
  have e5 : spykeep3_FrameSets.l0 k f ⟨f.W, f.H, G, f.Counts⟩ v k 0 = some (Sum.inr ()) := sets_l0 k f _ hf hgood v (by omega) hold f.Cards.length k 0 (by omega) (by omega)
  have e6 := get_eq k f (rd KK v) (by omega) (by omega)
  unfold spykeep3_FrameSets
  rw [bnd e1]
  dsimp only
  rw [show ([(⟨#[75, 73, 78, 68]⟩ : ByteArray), (⟨#[78, 85, 77, 66, 69, 82]⟩ : ByteArray), (⟨#[78, 69, 87]⟩ : ByteArray), (⟨#[88, 48]⟩ : ByteArray)] : List ByteArray) = KK from rfl, show ([(⟨#[97]⟩ : ByteArray), (⟨#[55]⟩ : ByteArray), (⟨#[91, 120, 93]⟩ : ByteArray)] : List ByteArray) = VV from rfl]
  rw [bnd e2, ifp v0, ifp (show v < ((KK.length : Nat) : Int) from v1), bnd e3, ifp u0, ifp (show u < ((VV.length : Nat) : Int) from u1), ← hC, bnd hset]
  dsimp only
  rw [bnd e4]
  dsimp only
  rw [bnd (filed_eq k hk), ifn (by simp), ifn (by simp), ifn (by simp), hC, s_eqp rfl, s_eqp rfl, s_eqp rfl, ifn (by simp), bnd (eqself_int k _ (by omega) (by omega)), ifn (by simp), bnd e5]
  dsimp only [Sum.elim_inr]
  rw [bnd e6]
  by_cases c : findL f.Cards (rd KK v) = -1
  · rw [ifp c]
    dsimp only
    rw [ifn (by simp), hl1 c, wid (x := (f.Cards.length : Int) + 1) (by omega) (by omega)]
    simp
  · rw [ifn c]
    dsimp only
    rw [ifp rfl, hl2 c, ifp rfl]
theorem law_ex (L : List Int) (kk value : Int) (_ : (Lit.int .i64 kk).wf = true) (_ : (Lit.int .i64 value).wf = true) : ∃ k, spykeep3_FrameSets k L kk value = some true := ⟨3000, sets 3000 L kk value (Nat.le_refl _)⟩
end Go.Sp.T6
