/- A text of this claim. -/
import Derived.Test.YtiofgpdfnhihhaaGreatDoorFF3
import Derived.KernelRfl
import Derived.Lib.Strings
import Derived.Lib.TrimByte
import Derived.Lib.Repeat
import Derived.Lib.Space
import Derived.Lib.ItoaLen
import Derived.Laws.BitsLemmas
import Derived.Laws.Bits64
import Derived.Laws.BitsAllLaws
import Derived.Lib.IndexMore
namespace Go.Sp.F3
open Go Go.Sp
set_option linter.unusedVariables false
theorem bnd {α β : Type} {x : Option α} {g : α → Option β} {v : α} (h : x = some v) : x.bind g = g v := by rw [h]; rfl
theorem ifp {α : Type} {c : Prop} [Decidable c] {x y : α} (h : c) : (if c then x else y) = x := if_pos h
theorem ifn {α : Type} {c : Prop} [Decidable c] {x y : α} (h : ¬ c) : (if c then x else y) = y := if_neg h
theorem rd_mem {α : Type} [Inhabited α] {l : List α} {i : Int} (h0 : 0 ≤ i) (h1 : i < (l.length : Int)) : rd l i ∈ l := by
  obtain ⟨h, e⟩ := rd_lt h0 h1
  rw [e]; exact List.getElem_mem h
theorem wid {x : Int} (h : -9223372036854775808 ≤ x) (h' : x ≤ 9223372036854775807) : w64 x = x := w64_of h h'
theorem mul_le {a b A B : Int} (h1 : 0 ≤ a) (h2 : a ≤ A) (h3 : 0 ≤ b) (h4 : b ≤ B) : 0 ≤ a * b ∧ a * b ≤ A * B :=
  ⟨Int.mul_nonneg h1 h3, Int.mul_le_mul h2 h4 h3 (by omega)⟩
theorem tdiv_nn {a b : Int} (h : 0 ≤ a) : Int.tdiv a b = a / b := Int.tdiv_eq_ediv_of_nonneg h
theorem tmod_nn {a b : Int} (h : 0 ≤ a) : Int.tmod a b = a % b := Int.tmod_eq_emod_of_nonneg h
def AllIn (l : List Int) (lo hi : Int) : Prop := ∀ x, x ∈ l → lo ≤ x ∧ x ≤ hi
theorem AllIn.nil {lo hi : Int} : AllIn [] lo hi := fun x h => by cases h
theorem AllIn.push {l : List Int} {lo hi x : Int} (h : AllIn l lo hi) (h0 : lo ≤ x) (h1 : x ≤ hi) : AllIn (l ++ [x]) lo hi := by
  intro y hy
  rcases List.mem_append.mp hy with hy | hy
  · exact h y hy
  · simp only [List.mem_singleton] at hy; subst hy; exact ⟨h0, h1⟩
theorem AllIn.rd {l : List Int} {lo hi i : Int} (h : AllIn l lo hi) (h0 : 0 ≤ i) (h1 : i < (l.length : Int)) : lo ≤ rd l i ∧ rd l i ≤ hi := h _ (rd_mem h0 h1)
theorem AllIn.mono {l : List Int} {lo hi lo' hi' : Int} (h : AllIn l lo hi) (h0 : lo' ≤ lo) (h1 : hi ≤ hi') : AllIn l lo' hi' := fun x hx => by have := h x hx; omega
theorem rd_set_eq (l : List Int) (i x : Int) (h0 : 0 ≤ i) (h1 : i < (l.length : Int)) : rd (l.set i.toNat x) i = x := by
  obtain ⟨h, e⟩ := rd_lt (xs := l.set i.toNat x) h0 (by simp; omega)
  rw [e]; simp
theorem rd_set_ne (l : List Int) (i j x : Int) (h0 : 0 ≤ i) (hj : 0 ≤ j) (h1 : j < (l.length : Int)) (hne : j ≠ i) : rd (l.set i.toNat x) j = rd l j := by
  obtain ⟨h, e⟩ := rd_lt (xs := l.set i.toNat x) hj (by simp; omega)
  obtain ⟨h', e'⟩ := rd_lt (xs := l) hj h1
  rw [e, e', List.getElem_set, if_neg (by omega)]
theorem rd_push_old (l : List Int) (x i : Int) (h0 : 0 ≤ i) (h1 : i < (l.length : Int)) : rd (l ++ [x]) i = rd l i := by
  obtain ⟨h, e⟩ := rd_lt (xs := l ++ [x]) h0 (by simp; omega)
  obtain ⟨h', e'⟩ := rd_lt (xs := l) h0 h1
  rw [e, e', List.getElem_append_left h']
theorem rd_push_new (l : List Int) (x i : Int) (h1 : i = (l.length : Int)) : rd (l ++ [x]) i = x := by
  obtain ⟨h, e⟩ := rd_lt (xs := l ++ [x]) (i := i) (by omega) (by simp; omega)
  rw [e, List.getElem_append_right (by omega)]
  simp
theorem below_ex (k : Nat) (x n : Int) (h1 : 1 ≤ n) (h2 : n ≤ 4611686018427387904) : ∃ v, spymake_Below k x n = some v ∧ 0 ≤ v ∧ v < n := by
  have e1 := Int.tmod_lt_of_pos x (show 0 < n by omega)
  have e2 := Int.lt_tmod_of_pos x (show 0 < n by omega)
  unfold spymake_Below
  rw [ifn (by omega), ifp (by omega)]
  by_cases c : Int.tmod x n < 0
  · rw [ifp c]
    refine ⟨_, rfl, ?_, ?_⟩ <;> rw [wid (by omega) (by omega)] <;> omega
  · rw [ifn c]
    exact ⟨_, rfl, by omega, by omega⟩
theorem next_ex (k : Nat) (L : List Int) (a n : Int) (h1 : 1 ≤ n) (h2 : n ≤ 4611686018427387904) (a0 : 0 ≤ a) (a1 : a ≤ 4611686018427387904) :
    ∃ v, spymake_Stream_Next k ⟨L, a⟩ n = some (v, a + 1) ∧ 0 ≤ v ∧ v < n := by
  unfold spymake_Stream_Next
  dsimp only
  rw [wid (x := a + 1) (by omega) (by omega)]
  by_cases c : (L.length : Int) = 0
  · rw [ifp c]
    obtain ⟨v, hv, v0, v1⟩ := below_ex k (w64 ((a + 1) * 7919)) n h1 h2
    rw [bnd hv]
    exact ⟨v, rfl, v0, v1⟩
  · rw [ifn c, ifp c, show a + 1 - 1 = a by omega, wid (x := a) (by omega) (by omega)]
    have e1 := Int.tmod_lt_of_pos a (show 0 < (L.length : Int) by omega)
    have e2 : 0 ≤ Int.tmod a (L.length : Int) := Int.tmod_nonneg _ a0
    rw [ifp e2, ifp e1]
    obtain ⟨u, hu, _⟩ := below_ex k (rd L (Int.tmod a (L.length : Int))) 1073741824 (by decide) (by decide)
    rw [bnd hu]
    obtain ⟨v, hv, v0, v1⟩ := below_ex k (w64 (u + (w64 ((w64 (Int.tdiv a (L.length : Int))) * (w64 (7919 + (Int.tmod a (L.length : Int)))))))) n h1 h2
    rw [bnd hv]
    exact ⟨v, rfl, v0, v1⟩
theorem range_ex (k : Nat) (L : List Int) (a lo hi : Int) (h1 : lo ≤ hi) (h2 : hi - lo ≤ 1073741824) (h3 : -4611686018427387904 ≤ lo) (h4 : hi ≤ 4611686018427387904) (a0 : 0 ≤ a) (a1 : a ≤ 4611686018427387904) :
    ∃ v, spymake_Stream_Range k ⟨L, a⟩ lo hi = some (v, a + 1) ∧ lo ≤ v ∧ v ≤ hi := by
  unfold spymake_Stream_Range
  rw [ifn (by omega), wid (x := hi - lo) (by omega) (by omega), wid (x := hi - lo + 1) (by omega) (by omega)]
  obtain ⟨v, hv, v0, v1⟩ := next_ex k L a (hi - lo + 1) (by omega) (by omega) a0 a1
  rw [bnd hv]
  dsimp only
  rw [wid (by omega) (by omega)]
  exact ⟨_, rfl, by omega, by omega⟩
structure Good (S : S_Sensor) (most : Int) : Prop where
  W0 : 1 ≤ S.W
  W1 : S.W ≤ most
  H0 : 1 ≤ S.H
  H1 : S.H ≤ most
  lb : (S.Bias.length : Int) = S.W * S.H
  ld : (S.Dark.length : Int) = S.W * S.H
  lf : (S.Flat.length : Int) = S.W * S.H
  B : AllIn S.Bias 0 59
  D : AllIn S.Dark 0 33554432
  F : AllIn S.Flat 0 4096
  F0 : 200 ≤ S.Full
  F1 : S.Full ≤ 1048576
  G0 : 1 ≤ S.Gain
  G1 : S.Gain ≤ 64
  N0 : 0 ≤ S.Noise
  N1 : S.Noise ≤ 64
theorem Good.n {S : S_Sensor} {most : Int} (h : Good S most) (hm : most ≤ 32) : 1 ≤ S.W * S.H ∧ S.W * S.H ≤ 1024 := by
  have h1 := mul_le (a := S.W) (b := S.H) (A := 32) (B := 32) (by have := h.W0; omega) (by have := h.W1; omega) (by have := h.H0; omega) (by have := h.H1; omega)
  have h2 : 1 * 1 ≤ S.W * S.H := Int.mul_le_mul h.W0 h.H0 (by decide) (by have := h.W0; omega)
  omega
theorem push_len {l : List Int} {x : Int} {n : Int} (h : (l.length : Int) = n) : ((l ++ [x]).length : Int) = n + 1 := by simp; omega
theorem sensor_l0 (k : Nat) (L : List Int) (a0_ W H m : Int) (hn0 : 0 ≤ W * H) (hn : W * H ≤ 1024) (hm0 : 0 ≤ m) (hm : m ≤ 2) : ∀ (d n : Nat) (i a : Int) (B D F : List Int), i + d = W * H → 0 ≤ i → d < n → 0 ≤ a → a + 6 * d ≤ 4611686018427387904 →
    (B.length : Int) = i → (D.length : Int) = i → (F.length : Int) = i → AllIn B 0 59 → AllIn D 0 33554432 → AllIn F 0 4096 →
    ∃ a' B' D' F', spymake_Stream_Sensor.l0 k W H ⟨L, a0_⟩ m n i a B D F = some (a', B', D', F') ∧ a ≤ a' ∧ a' ≤ a + 6 * d ∧
      (B'.length : Int) = W * H ∧ (D'.length : Int) = W * H ∧ (F'.length : Int) = W * H ∧ AllIn B' 0 59 ∧ AllIn D' 0 33554432 ∧ AllIn F' 0 4096 := by
  intro d
  induction d with
  | zero =>
    intro n i a B D F hi i0 hd ha0 ha lB lD lF bB bD bF
    obtain ⟨n, rfl⟩ : ∃ j, n = j + 1 := ⟨n - 1, by omega⟩
    rw [spymake_Stream_Sensor.l0, wid (x := W * H) (by omega) (by omega), ifn (by omega)]
    exact ⟨a, B, D, F, rfl, by omega, by omega, by omega, by omega, by omega, bB, bD, bF⟩
  | succ d ih =>
    intro n i a B D F hi i0 hd ha0 ha lB lD lF bB bD bF
    obtain ⟨n, rfl⟩ : ∃ j, n = j + 1 := ⟨n - 1, by omega⟩
    rw [spymake_Stream_Sensor.l0, wid (x := W * H) (by omega) (by omega), ifp (by omega)]
    obtain ⟨v1, h1, p1, q1⟩ := next_ex k L a 60 (by decide) (by decide) (by omega) (by omega)
    rw [bnd h1]; dsimp only
    rw [ifp (by omega), wid (x := m * 16777216) (by omega) (by omega), wid (x := m * 16777216 + 1) (by omega) (by omega)]
    obtain ⟨v2, h2, p2, q2⟩ := next_ex k L (a + 1) (m * 16777216 + 1) (by omega) (by omega) (by omega) (by omega)
    rw [bnd h2]; dsimp only
    rw [ifp (by omega)]
    obtain ⟨v3, h3, p3, q3⟩ := range_ex k L (a + 1 + 1) 2048 4096 (by decide) (by decide) (by decide) (by decide) (by omega) (by omega)
    rw [bnd h3]; dsimp only
    obtain ⟨v4, h4, p4, q4⟩ := next_ex k L (a + 1 + 1 + 1) 12 (by decide) (by decide) (by omega) (by omega)
    rw [bnd h4]; dsimp only
    by_cases c : v4 = 0
    · rw [ifp c]
      obtain ⟨v5, h5, p5, q5⟩ := next_ex k L (a + 1 + 1 + 1 + 1) 512 (by decide) (by decide) (by omega) (by omega)
      rw [bnd h5]; dsimp only
      obtain ⟨v6, h6, p6, q6⟩ := next_ex k L (a + 1 + 1 + 1 + 1 + 1) 2 (by decide) (by decide) (by omega) (by omega)
      rw [bnd h6]; dsimp only
      have hm6 := mul_le (a := v5) (b := v6) (A := 511) (B := 1) p5 (by omega) p6 (by omega)
      rw [ifp (by omega), wid (x := i + 1) (by omega) (by omega), wid (x := v5 * v6) (by omega) (by omega)]
      obtain ⟨a', B', D', F', e, g1, g2, g3, g4, g5, g6, g7, g8⟩ := ih n (i + 1) (a + 1 + 1 + 1 + 1 + 1 + 1) (B ++ [v1]) (D ++ [v2]) (F ++ [v5 * v6]) (by omega) (by omega) (by omega) (by omega) (by omega) (push_len lB) (push_len lD) (push_len lF) (bB.push p1 (by omega)) (bD.push p2 (by omega)) (bF.push (by omega) (by omega))
      exact ⟨a', B', D', F', e, by omega, by omega, g3, g4, g5, g6, g7, g8⟩
    · rw [ifn c, ifp (by omega), wid (x := i + 1) (by omega) (by omega)]
      obtain ⟨a', B', D', F', e, g1, g2, g3, g4, g5, g6, g7, g8⟩ := ih n (i + 1) (a + 1 + 1 + 1 + 1) (B ++ [v1]) (D ++ [v2]) (F ++ [v3]) (by omega) (by omega) (by omega) (by omega) (by omega) (push_len lB) (push_len lD) (push_len lF) (bB.push p1 (by omega)) (bD.push p2 (by omega)) (bF.push (by omega) (by omega))
      exact ⟨a', B', D', F', e, by omega, by omega, g3, g4, g5, g6, g7, g8⟩
theorem sensor_ex (k : Nat) (L : List Int) (a most : Int) (hm0 : 1 ≤ most) (hm : most ≤ 32) (a0 : 0 ≤ a) (a1 : a ≤ 1000000) (hk : 1100 ≤ k) :
    ∃ S a', spymake_Stream_Sensor k ⟨L, a⟩ most = some (S, a') ∧ Good S most ∧ a ≤ a' ∧ a' ≤ a + 7000 := by
  unfold spymake_Stream_Sensor
  dsimp only
  obtain ⟨W, h1, W0, W1⟩ := range_ex k L a 1 most (by omega) (by omega) (by omega) (by omega) (by omega) (by omega)
  rw [bnd h1]; dsimp only
  obtain ⟨H, h2, H0, H1⟩ := range_ex k L (a + 1) 1 most (by omega) (by omega) (by omega) (by omega) (by omega) (by omega)
  rw [bnd h2]; dsimp only
  obtain ⟨u, h3, u0, u1⟩ := range_ex k L (a + 1 + 1) 20000 1048576 (by decide) (by decide) (by decide) (by decide) (by omega) (by omega)
  rw [bnd h3]; dsimp only
  obtain ⟨g, h4, g0, g1⟩ := range_ex k L (a + 1 + 1 + 1) 1 4 (by decide) (by decide) (by decide) (by decide) (by omega) (by omega)
  rw [bnd h4]; dsimp only
  obtain ⟨n, h5, n0, n1⟩ := next_ex k L (a + 1 + 1 + 1 + 1) 4 (by decide) (by decide) (by omega) (by omega)
  rw [bnd h5]; dsimp only
  obtain ⟨z, h6, z0, z1⟩ := next_ex k L (a + 1 + 1 + 1 + 1 + 1) 6 (by decide) (by decide) (by omega) (by omega)
  rw [bnd h6]; dsimp only
  have hWH := mul_le (a := W) (b := H) (A := 32) (B := 32) (by omega) (by omega) (by omega) (by omega)
  have fin : ∀ (a' : Int) (Fu G N : Int), a ≤ a' → a' ≤ a + 20 → 200 ≤ Fu → Fu ≤ 1048576 → 1 ≤ G → G ≤ 64 → 0 ≤ N → N ≤ 64 →
      ∃ S a2, ((spymake_Stream_Next k (⟨L, a'⟩ : S_Stream) 3).bind fun (vt164, vt165) => ((spymake_Stream_Sensor.l0 k W H ⟨L, a⟩ vt164 k 0 vt165 ([] : List Int) ([] : List Int) ([] : List Int)).bind fun (x675, x676, x682, x688) => (some ((⟨W, H, x676, x682, x688, Fu, G, N⟩ : S_Sensor), x675)))) = some (S, a2) ∧
        Good S most ∧ a ≤ a2 ∧ a2 ≤ a + 7000 := by
    intro a' Fu G N b0 b1 c0 c1 d0 d1 e0 e1
    obtain ⟨m, h7, m0, m1⟩ := next_ex k L a' 3 (by decide) (by decide) (by omega) (by omega)
    rw [bnd h7]; dsimp only
    obtain ⟨a2, B, D, F, h8, r1, r2, r3, r4, r5, r6, r7, r8⟩ := sensor_l0 k L a W H m (by omega) (by omega) m0 (by omega) (W * H).toNat k 0 (a' + 1) [] [] [] (by omega) (by omega) (by omega) (by omega) (by omega) rfl rfl rfl .nil .nil .nil
    rw [bnd h8]; dsimp only
    exact ⟨_, _, rfl, ⟨W0, W1, H0, H1, r3, r4, r5, r6, r7, r8, c0, c1, d0, d1, e0, e1⟩, by omega, by omega⟩
  by_cases c : z = 0
  · rw [ifp c]
    obtain ⟨v, hv, v0, v1⟩ := range_ex k L (a + 1 + 1 + 1 + 1 + 1 + 1) 200 5000 (by decide) (by decide) (by decide) (by decide) (by omega) (by omega)
    rw [bnd hv]; dsimp only
    exact fin _ v g n (by omega) (by omega) (by omega) (by omega) (by omega) (by omega) (by omega) (by omega)
  · rw [ifn c]
    by_cases c2 : z = 1
    · rw [ifp c2]
      obtain ⟨v, hv, v0, v1⟩ := range_ex k L (a + 1 + 1 + 1 + 1 + 1 + 1) 1 64 (by decide) (by decide) (by decide) (by decide) (by omega) (by omega)
      rw [bnd hv]; dsimp only
      obtain ⟨x, hx, x0, x1⟩ := next_ex k L (a + 1 + 1 + 1 + 1 + 1 + 1 + 1) 20 (by decide) (by decide) (by omega) (by omega)
      rw [bnd hx]; dsimp only
      exact fin _ u v x (by omega) (by omega) (by omega) (by omega) (by omega) (by omega) (by omega) (by omega)
    · rw [ifn c2]
      exact fin _ u g n (by omega) (by omega) (by omega) (by omega) (by omega) (by omega) (by omega) (by omega)
theorem sx {a b : ByteArray} (h : a.data.toList = b.data.toList) : a = b := by
  cases a; cases b
  simp only [Array.toList_inj] at h
  rw [h]
theorem smk (l : List UInt8) : (⟨l.toArray⟩ : ByteArray).data.toList = l := rfl
theorem ssz (a : ByteArray) : a.size = a.data.toList.length := Go.Lib.size_eq a
theorem smk_size (l : List UInt8) : (⟨l.toArray⟩ : ByteArray).size = l.length := by rw [ssz]
theorem smk_of (a : ByteArray) : (⟨a.data.toList.toArray⟩ : ByteArray) = a := sx rfl
theorem s_eq (a b : ByteArray) : (a.toList == b.toList) = decide (a.data.toList = b.data.toList) := by
  rw [Go.Lib.toList_data, Go.Lib.toList_data, Bool.eq_iff_iff]
  simp
theorem s_eqp {a b : ByteArray} (h : a.data.toList = b.data.toList) : (a.toList == b.toList) = true := by rw [s_eq]; exact decide_eq_true h
theorem s_eqn {a b : ByteArray} (h : a.data.toList ≠ b.data.toList) : (a.toList == b.toList) = false := by rw [s_eq]; exact decide_eq_false h
theorem sapp (a b : ByteArray) : (a ++ b).data.toList = a.data.toList ++ b.data.toList := by
  rw [ByteArray.data_append, Array.toList_append]
theorem smk_app (a b : List UInt8) : (⟨a.toArray⟩ : ByteArray) ++ ⟨b.toArray⟩ = ⟨(a ++ b).toArray⟩ := sx (by rw [sapp])
theorem bt_mem (s : ByteArray) (i : Nat) (h : i < s.size) : ∃ b, b ∈ s.data.toList ∧ bt s (i : Int) = (b.toNat : Int) := by
  have h' : i < s.data.size := h
  refine ⟨s.data[i], by simp, ?_⟩
  unfold bt
  rw [Int.toNat_natCast, Array.getD, dif_pos h']
  rfl
def upB (b : UInt8) : Bool := decide (65 ≤ b.toNat) && decide (b.toNat ≤ 90)
def dgB (b : UInt8) : Bool := decide (48 ≤ b.toNat) && decide (b.toNat ≤ 57)
def inKeyB (b : UInt8) : Bool := upB b || (dgB b || b.toNat == 45)
def inkedB (b : UInt8) : Bool := decide (33 ≤ b.toNat) && decide (b.toNat ≤ 126)
def lowerB (b : UInt8) : Bool := decide (97 ≤ b.toNat) && decide (b.toNat ≤ 122)
def typedB (b : UInt8) : Bool := decide (32 ≤ b.toNat) && decide (b.toNat ≤ 126)
theorem upper_eq (k : Nat) (b : UInt8) : frame_upper k (b.toNat : Int) = some (upB b) := by
  unfold frame_upper upB
  by_cases c : 65 ≤ b.toNat
  · rw [ifp (by omega), decide_eq_true c, Bool.true_and]
    exact congrArg some (decide_eq_decide.mpr (by omega))
  · rw [ifn (by omega), decide_eq_false c, Bool.false_and]
theorem digit_eq (k : Nat) (b : UInt8) : frame_digit k (b.toNat : Int) = some (dgB b) := by
  unfold frame_digit dgB
  by_cases c : 48 ≤ b.toNat
  · rw [ifp (by omega), decide_eq_true c, Bool.true_and]
    exact congrArg some (decide_eq_decide.mpr (by omega))
  · rw [ifn (by omega), decide_eq_false c, Bool.false_and]
theorem inked_eq (k : Nat) (b : UInt8) : frame_inked k (b.toNat : Int) = some (inkedB b) := by
  unfold frame_inked inkedB
  by_cases c : 33 ≤ b.toNat
  · rw [ifp (by omega), decide_eq_true c, Bool.true_and]
    exact congrArg some (decide_eq_decide.mpr (by omega))
  · rw [ifn (by omega), decide_eq_false c, Bool.false_and]
theorem lower_eq (k : Nat) (b : UInt8) : frame_lower k (b.toNat : Int) = some (lowerB b) := by
  unfold frame_lower lowerB
  by_cases c : 97 ≤ b.toNat
  · rw [ifp (by omega), decide_eq_true c, Bool.true_and]
    exact congrArg some (decide_eq_decide.mpr (by omega))
  · rw [ifn (by omega), decide_eq_false c, Bool.false_and]
theorem typed_eq (k : Nat) (b : UInt8) : frame_typed k (b.toNat : Int) = some (typedB b) := by
  unfold frame_typed typedB
  by_cases c : 32 ≤ b.toNat
  · rw [ifp (by omega), decide_eq_true c, Bool.true_and]
    exact congrArg some (decide_eq_decide.mpr (by omega))
  · rw [ifn (by omega), decide_eq_false c, Bool.false_and]
theorem inKey_eq (k : Nat) (b : UInt8) (h : inKeyB b = true) : frame_inKey k (b.toNat : Int) = some true := by
  unfold frame_inKey
  rw [bnd (upper_eq k b)]
  unfold inKeyB at h
  by_cases c : upB b = true
  · rw [ifp c]
  · rw [ifn c, bnd (digit_eq k b)]
    rw [Bool.not_eq_true] at c
    rw [c, Bool.false_or] at h
    by_cases d : dgB b = true
    · rw [ifp d]
    · rw [ifn d]
      rw [Bool.not_eq_true] at d
      rw [d, Bool.false_or] at h
      have := eq_of_beq h
      rw [this]
      rfl
theorem all_inKey_l0 (k : Nat) (s : ByteArray) (h : ∀ b, b ∈ s.data.toList → frame_inKey k (b.toNat : Int) = some true) (hs : s.size ≤ 1000000) : ∀ (d fuel i : Nat), i + d = s.size → d < fuel → frame_all__frame_inKey.l0 k s fuel (i : Int) = some (Sum.inr ()) := by
  intro d
  induction d with
  | zero =>
    intro fuel i h1 hf
    obtain ⟨fuel, rfl⟩ : ∃ q, fuel = q + 1 := ⟨fuel - 1, by omega⟩
    rw [frame_all__frame_inKey.l0, ifn (by omega)]
  | succ d ih =>
    intro fuel i h1 hf
    obtain ⟨fuel, rfl⟩ : ∃ q, fuel = q + 1 := ⟨fuel - 1, by omega⟩
    obtain ⟨b, hb, e⟩ := bt_mem s i (by omega)
    rw [frame_all__frame_inKey.l0, ifp (by omega), ifp (by omega), e, bnd (h b hb), ifn (by simp), wid (x := (i : Int) + 1) (by omega) (by omega), show (i : Int) + 1 = ((i + 1 : Nat) : Int) by omega]
    exact ih fuel (i + 1) (by omega) (by omega)
theorem all_inKey (k : Nat) (s : ByteArray) (h : ∀ b, b ∈ s.data.toList → frame_inKey k (b.toNat : Int) = some true) (hs : s.size ≤ 1000000) (hk : s.size < k) : frame_all__frame_inKey k s = some true := by
  have e : frame_all__frame_inKey.l0 k s k 0 = some (Sum.inr ()) := all_inKey_l0 k s h hs s.size k 0 (by omega) hk
  unfold frame_all__frame_inKey
  rw [bnd e]
  rfl
theorem all_inked_l0 (k : Nat) (s : ByteArray) (h : ∀ b, b ∈ s.data.toList → frame_inked k (b.toNat : Int) = some true) (hs : s.size ≤ 1000000) : ∀ (d fuel i : Nat), i + d = s.size → d < fuel → frame_all__frame_inked.l0 k s fuel (i : Int) = some (Sum.inr ()) := by
  intro d
  induction d with
  | zero =>
    intro fuel i h1 hf
    obtain ⟨fuel, rfl⟩ : ∃ q, fuel = q + 1 := ⟨fuel - 1, by omega⟩
    rw [frame_all__frame_inked.l0, ifn (by omega)]
  | succ d ih =>
    intro fuel i h1 hf
    obtain ⟨fuel, rfl⟩ : ∃ q, fuel = q + 1 := ⟨fuel - 1, by omega⟩
    obtain ⟨b, hb, e⟩ := bt_mem s i (by omega)
    rw [frame_all__frame_inked.l0, ifp (by omega), ifp (by omega), e, bnd (h b hb), ifn (by simp), wid (x := (i : Int) + 1) (by omega) (by omega), show (i : Int) + 1 = ((i + 1 : Nat) : Int) by omega]
    exact ih fuel (i + 1) (by omega) (by omega)
theorem all_inked (k : Nat) (s : ByteArray) (h : ∀ b, b ∈ s.data.toList → frame_inked k (b.toNat : Int) = some true) (hs : s.size ≤ 1000000) (hk : s.size < k) : frame_all__frame_inked k s = some true := by
  have e : frame_all__frame_inked.l0 k s k 0 = some (Sum.inr ()) := all_inked_l0 k s h hs s.size k 0 (by omega) hk
  unfold frame_all__frame_inked
  rw [bnd e]
  rfl
theorem all_lower_l0 (k : Nat) (s : ByteArray) (h : ∀ b, b ∈ s.data.toList → frame_lower k (b.toNat : Int) = some true) (hs : s.size ≤ 1000000) : ∀ (d fuel i : Nat), i + d = s.size → d < fuel → frame_all__frame_lower.l0 k s fuel (i : Int) = some (Sum.inr ()) := by
  intro d
  induction d with
  | zero =>
    intro fuel i h1 hf
    obtain ⟨fuel, rfl⟩ : ∃ q, fuel = q + 1 := ⟨fuel - 1, by omega⟩
    rw [frame_all__frame_lower.l0, ifn (by omega)]
  | succ d ih =>
    intro fuel i h1 hf
    obtain ⟨fuel, rfl⟩ : ∃ q, fuel = q + 1 := ⟨fuel - 1, by omega⟩
    obtain ⟨b, hb, e⟩ := bt_mem s i (by omega)
    rw [frame_all__frame_lower.l0, ifp (by omega), ifp (by omega), e, bnd (h b hb), ifn (by simp), wid (x := (i : Int) + 1) (by omega) (by omega), show (i : Int) + 1 = ((i + 1 : Nat) : Int) by omega]
    exact ih fuel (i + 1) (by omega) (by omega)
theorem all_lower (k : Nat) (s : ByteArray) (h : ∀ b, b ∈ s.data.toList → frame_lower k (b.toNat : Int) = some true) (hs : s.size ≤ 1000000) (hk : s.size < k) : frame_all__frame_lower k s = some true := by
  have e : frame_all__frame_lower.l0 k s k 0 = some (Sum.inr ()) := all_lower_l0 k s h hs s.size k 0 (by omega) hk
  unfold frame_all__frame_lower
  rw [bnd e]
  rfl
theorem all_typed_l0 (k : Nat) (s : ByteArray) (h : ∀ b, b ∈ s.data.toList → frame_typed k (b.toNat : Int) = some true) (hs : s.size ≤ 1000000) : ∀ (d fuel i : Nat), i + d = s.size → d < fuel → frame_all__frame_typed.l0 k s fuel (i : Int) = some (Sum.inr ()) := by
  intro d
  induction d with
  | zero =>
    intro fuel i h1 hf
    obtain ⟨fuel, rfl⟩ : ∃ q, fuel = q + 1 := ⟨fuel - 1, by omega⟩
    rw [frame_all__frame_typed.l0, ifn (by omega)]
  | succ d ih =>
    intro fuel i h1 hf
    obtain ⟨fuel, rfl⟩ : ∃ q, fuel = q + 1 := ⟨fuel - 1, by omega⟩
    obtain ⟨b, hb, e⟩ := bt_mem s i (by omega)
    rw [frame_all__frame_typed.l0, ifp (by omega), ifp (by omega), e, bnd (h b hb), ifn (by simp), wid (x := (i : Int) + 1) (by omega) (by omega), show (i : Int) + 1 = ((i + 1 : Nat) : Int) by omega]
    exact ih fuel (i + 1) (by omega) (by omega)
theorem all_typed (k : Nat) (s : ByteArray) (h : ∀ b, b ∈ s.data.toList → frame_typed k (b.toNat : Int) = some true) (hs : s.size ≤ 1000000) (hk : s.size < k) : frame_all__frame_typed k s = some true := by
  have e : frame_all__frame_typed.l0 k s k 0 = some (Sum.inr ()) := all_typed_l0 k s h hs s.size k 0 (by omega) hk
  unfold frame_all__frame_typed
  rw [bnd e]
  rfl
def textL (c : S_Card) : List UInt8 := c.Key.data.toList ++ List.replicate (8 - c.Key.data.toList.length) 32 ++ [61, 32] ++ c.Value.data.toList ++ (if c.Unit.data.toList = [] then [] else [32, 91] ++ c.Unit.data.toList ++ [93]) ++ (if c.Note.data.toList = [] then [] else [32, 47, 32] ++ c.Note.data.toList)
theorem textL_len (c : S_Card) : c.Key.data.toList.length ≤ (textL c).length ∧ c.Value.data.toList.length ≤ (textL c).length ∧ c.Unit.data.toList.length ≤ (textL c).length ∧ c.Note.data.toList.length ≤ (textL c).length := by
  unfold textL
  refine ⟨?_, ?_, ?_, ?_⟩
  · simp
  · simp; omega
  · by_cases h : c.Unit.data.toList = []
    · rw [h]; simp
    · rw [ifn h]; simp; omega
  · by_cases h : c.Note.data.toList = []
    · rw [h]; simp
    · rw [ifn h]; simp; omega
theorem rep_eq (k : Nat) (n : Int) (h0 : 0 ≤ n) (h1 : n ≤ 1000000) : strings_Repeat k (⟨#[32]⟩ : ByteArray) n = some ⟨(List.replicate n.toNat 32).toArray⟩ := by
  unfold strings_Repeat
  have e : (⟨#[32]⟩ : ByteArray).size = 1 := rfl
  rw [ifp h0, ifp (by rw [e]; omega), ifp (by omega)]
  have := Go.Lib.repeatL_replicate (32 : UInt8) 1 n.toNat
  rw [Nat.mul_one] at this
  exact congrArg (fun l : List UInt8 => some (⟨l.toArray⟩ : ByteArray)) this
theorem text_eq (k : Nat) (c : S_Card) (h : (textL c).length ≤ 100000) (hk8 : c.Key.data.toList.length ≤ 8) : frame_text k c = some ⟨(textL c).toArray⟩ := by
  obtain ⟨l1, l2, l3, l4⟩ := textL_len c
  obtain ⟨K, V, U, N⟩ := c
  obtain ⟨K, rfl⟩ : ∃ l : List UInt8, K = ⟨l.toArray⟩ := ⟨K.data.toList, (smk_of K).symm⟩
  obtain ⟨V, rfl⟩ : ∃ l : List UInt8, V = ⟨l.toArray⟩ := ⟨V.data.toList, (smk_of V).symm⟩
  obtain ⟨U, rfl⟩ : ∃ l : List UInt8, U = ⟨l.toArray⟩ := ⟨U.data.toList, (smk_of U).symm⟩
  obtain ⟨N, rfl⟩ : ∃ l : List UInt8, N = ⟨l.toArray⟩ := ⟨N.data.toList, (smk_of N).symm⟩
  unfold frame_text
  simp only [smk] at hk8 l1 l2 l3 l4
  have e0 : mx 0 (w64 (8 - ((⟨K.toArray⟩ : ByteArray).size : Int))) = ((8 - K.length : Nat) : Int) := by
    rw [smk_size, wid (by omega) (by omega)]
    unfold mx
    split <;> omega
  have q1 : (⟨#[61, 32]⟩ : ByteArray) = ⟨([61, 32] : List UInt8).toArray⟩ := rfl
  have q2 : (⟨#[32, 91]⟩ : ByteArray) = ⟨([32, 91] : List UInt8).toArray⟩ := rfl
  have q3 : (⟨#[93]⟩ : ByteArray) = ⟨([93] : List UInt8).toArray⟩ := rfl
  have q4 : (⟨#[32, 47, 32]⟩ : ByteArray) = ⟨([32, 47, 32] : List UInt8).toArray⟩ := rfl
  rw [e0, bnd (rep_eq k _ (by omega) (by omega)), Int.toNat_natCast]
  simp only [q1, q2, q3, q4, smk_app, smk_size, List.length_append, List.length_replicate, List.length_cons, List.length_nil]
  rw [ifp (by omega), ifp (by omega), ifp (by omega)]
  unfold textL
  simp only [smk]
  by_cases cU : U = []
  · rw [cU, s_eqp rfl, ifn (by simp), ifp rfl, List.append_nil]
    by_cases cN : N = []
    · rw [cN, s_eqp rfl, ifn (by simp), ifp rfl, List.append_nil]
    · rw [s_eqn (by simp only [smk]; exact cN), ifp (by simp), ifp (by omega), ifp (by omega), ifn cN]
  · rw [s_eqn (by simp only [smk]; exact cU), ifp (by simp), ifp (by omega), ifp (by omega), ifp (by omega), ifn cU]
    by_cases cN : N = []
    · rw [cN, s_eqp rfl, ifn (by simp), ifp rfl, List.append_nil]
    · rw [s_eqn (by simp only [smk]; exact cN), ifp (by simp), ifp (by omega), ifp (by omega), ifn cN]
def ownL (k : List UInt8) : Bool := k == [87, 73, 68, 84, 72] || (k == [72, 69, 73, 71, 72, 84] || (k == [66, 89, 84, 69, 83] || k == [69, 78, 68]))
structure CGood (c : S_Card) : Prop where
  k8 : c.Key.data.toList.length ≤ 8
  ku : upB (c.Key.data.toList.headD 0) = true
  ki : c.Key.data.toList.all inKeyB = true
  ko : ownL c.Key.data.toList = false
  v0 : c.Value.data.toList ≠ []
  v20 : c.Value.data.toList.length ≤ 20
  vi : c.Value.data.toList.all inkedB = true
  u8 : c.Unit.data.toList.length ≤ 8
  ul : c.Unit.data.toList.all lowerB = true
  nt : c.Note.data.toList.all typedB = true
  ns : Go.Lib.trimSpace c.Note.data.toList = c.Note.data.toList
  t : (textL c).length ≤ 64
theorem own_eq (k : Nat) (s : ByteArray) (h : ownL s.data.toList = false) : frame_own k s = some false := by
  unfold frame_own
  unfold ownL at h
  simp only [Bool.or_eq_false_iff, beq_eq_false_iff_ne, ne_eq] at h
  obtain ⟨h1, h2, h3, h4⟩ := h
  rw [s_eqn (b := (⟨#[87, 73, 68, 84, 72]⟩ : ByteArray)) h1, ifn (by simp), s_eqn (b := (⟨#[72, 69, 73, 71, 72, 84]⟩ : ByteArray)) h2, ifn (by simp), s_eqn (b := (⟨#[66, 89, 84, 69, 83]⟩ : ByteArray)) h3, ifn (by simp), s_eqn (b := (⟨#[69, 78, 68]⟩ : ByteArray)) h4]
theorem card_ok (k : Nat) (c : S_Card) (h : CGood c) (hk : 100 ≤ k) : frame_CheckCard k c = some 0 := by
  obtain ⟨l1, l2, l3, l4⟩ := textL_len c
  have ht := h.t; have hk8 := h.k8; have hv := h.v20; have hu := h.u8
  have k0 : c.Key.data.toList ≠ [] := fun e => by have := h.ku; rw [e] at this; cases this
  have kl : 1 ≤ c.Key.data.toList.length := by
    rcases Nat.eq_zero_or_pos c.Key.data.toList.length with e | e
    · exact absurd (List.length_eq_zero_iff.mp e) k0
    · exact e
  unfold frame_CheckCard
  rw [s_eqn (b := (⟨#[]⟩ : ByteArray)) k0, ifn (by simp), ssz c.Key, ifn (by omega), ifp (by omega)]
  have e1 : bt c.Key 0 = ((c.Key.data.toList.headD 0).toNat : Int) := by
    have h' : 0 < c.Key.data.size := by rw [← Array.length_toList]; omega
    unfold bt
    obtain ⟨⟨⟨l⟩⟩, _, _, _⟩ := c
    cases l with
    | nil => exact absurd rfl k0
    | cons b l => simp [Array.getD]
  rw [e1, bnd (upper_eq k _), h.ku, ifn (by simp)]
  have hki := h.ki; have hvi := h.vi; have hul := h.ul; have hnt := h.nt
  rw [List.all_eq_true] at hki hvi hul hnt
  rw [bnd (all_inKey k c.Key (fun b hb => inKey_eq k b (hki b hb)) (by rw [ssz]; omega) (by rw [ssz]; omega)), ifn (by simp), bnd (own_eq k _ h.ko), ifn (by simp)]
  rw [s_eqn (b := (⟨#[]⟩ : ByteArray)) h.v0, ifn (by simp), ssz c.Value, ifn (by omega), bnd (all_inked k c.Value (fun b hb => by rw [inked_eq, hvi b hb]) (by rw [ssz]; omega) (by rw [ssz]; omega)), ifn (by simp)]
  rw [ssz c.Unit, ifn (by omega), bnd (all_lower k c.Unit (fun b hb => by rw [lower_eq, hul b hb]) (by rw [ssz]; omega) (by rw [ssz]; omega)), ifn (by simp), bnd (all_typed k c.Note (fun b hb => by rw [typed_eq, hnt b hb]) (by rw [ssz]; omega) (by rw [ssz]; omega)), ifn (by simp)]
  have e2 : strings_TrimSpace k c.Note = some c.Note := by
    unfold strings_TrimSpace
    rw [ifp (by rw [ssz]; omega), ifp, h.ns, smk_of]
    rw [List.all_eq_true]
    intro b hb
    have := hnt b hb
    unfold typedB at this
    simp only [Bool.and_eq_true, decide_eq_true_eq] at this
    exact decide_eq_true (by omega)
  rw [bnd e2, s_eqp rfl, ifn (by simp), bnd (text_eq k c (by omega) h.k8), smk_size, ifn (by omega)]
theorem numeral_size {n : Int} (h0 : -9223372036854775808 ≤ n) (h1 : n ≤ 9223372036854775807) : (numeral n).data.toList.length ≤ 21 := Go.Lib.itoa_length_le n h0 h1
theorem drop_rd {α : Type} [Inhabited α] (l : List α) (i : Nat) (h : i < l.length) : l.drop i = rd l (i : Int) :: l.drop (i + 1) := by
  obtain ⟨hi, er⟩ := rd_lt (xs := l) (i := (i : Int)) (by omega) (by omega)
  rw [er]
  exact List.drop_eq_getElem_cons h
def lineL (t : List UInt8) : List UInt8 := t ++ List.replicate (64 - t.length) 32
theorem lineL_len {t : List UInt8} (h : t.length ≤ 64) : (lineL t).length = 64 := by
  unfold lineL
  rw [List.length_append, List.length_replicate]; omega
def cardsL (f : S_Frame) (size : Int) : List S_Card := ([(⟨(⟨#[87, 73, 68, 84, 72]⟩ : ByteArray), numeral f.W, (⟨#[]⟩ : ByteArray), (⟨#[]⟩ : ByteArray)⟩ : S_Card), (⟨(⟨#[72, 69, 73, 71, 72, 84]⟩ : ByteArray), numeral f.H, (⟨#[]⟩ : ByteArray), (⟨#[]⟩ : ByteArray)⟩ : S_Card), (⟨(⟨#[66, 89, 84, 69, 83]⟩ : ByteArray), numeral size, (⟨#[]⟩ : ByteArray), (⟨#[]⟩ : ByteArray)⟩ : S_Card)] : List S_Card) ++ f.Cards
def linesL (cs : List S_Card) : List UInt8 := cs.flatMap fun c => lineL (textL c)
theorem linesL_cons (c : S_Card) (cs : List S_Card) : linesL (c :: cs) = lineL (textL c) ++ linesL cs := List.flatMap_cons ..
theorem linesL_len : ∀ {cs : List S_Card}, (∀ c ∈ cs, (textL c).length ≤ 64) → (linesL cs).length = 64 * cs.length
  | [], _ => rfl
  | c :: cs, h => by
    have := linesL_len (cs := cs) (fun c hc => h c (List.mem_cons_of_mem _ hc))
    unfold linesL at this ⊢
    rw [List.flatMap_cons, List.length_append, this, lineL_len (h c (List.mem_cons_self ..)), List.length_cons]; omega
def padN (n : Nat) : Nat := (256 - n % 256) % 256
def headL (f : S_Frame) (size : Int) : List UInt8 := (linesL (cardsL f size) ++ lineL [69, 78, 68]) ++ List.replicate (padN (64 * ((cardsL f size).length + 1))) 32
theorem header1_eq (k : Nat) (t x : List UInt8) (h : t.length ≤ 64) (hx : x.length ≤ 1000000) : frame_header_1 k ⟨t.toArray⟩ x = some (x ++ lineL t) := by
  unfold frame_header_1
  rw [smk_size, wid (by omega) (by omega), bnd (rep_eq k _ (by omega) (by omega)), smk_size, List.length_replicate, ifp (by omega), smk_app]
  have e : (64 - (t.length : Int)).toNat = 64 - t.length := by omega
  have : strings_Builder_WriteString k x ⟨(t ++ List.replicate ((64 : Int) - (t.length : Int)).toNat 32).toArray⟩ = some (((⟨(t ++ List.replicate ((64 : Int) - (t.length : Int)).toNat 32).toArray⟩ : ByteArray).size : Int), x ++ (t ++ List.replicate ((64 : Int) - (t.length : Int)).toNat 32)) := by
    unfold strings_Builder_WriteString
    rw [smk_size, List.length_append, List.length_replicate, ifp (by omega), smk]
  rw [bnd this]
  unfold lineL
  rw [e]
theorem header_l0 (k : Nat) (f : S_Frame) (size : Int) (hc : ∀ c ∈ cardsL f size, (textL c).length ≤ 64 ∧ c.Key.data.toList.length ≤ 8) (hn : (cardsL f size).length ≤ 1000) : ∀ (d fuel i : Nat) (x : List UInt8), i + d = (cardsL f size).length → d < fuel → x.length ≤ 64 * i → frame_header.l0 k (numeral f.W) (numeral f.H) (numeral size) f fuel x (i : Int) = some (x ++ linesL ((cardsL f size).drop i)) := by
  intro d
  induction d with
  | zero =>
    intro fuel i x h1 hf hx
    obtain ⟨fuel, rfl⟩ : ∃ q, fuel = q + 1 := ⟨fuel - 1, by omega⟩
    rw [frame_header.l0, ifn (by show ¬ (i : Int) < ((cardsL f size).length : Int); omega), List.drop_of_length_le (by omega)]
    show _ = some (x ++ [])
    rw [List.append_nil]
  | succ d ih =>
    intro fuel i x h1 hf hx
    obtain ⟨fuel, rfl⟩ : ∃ q, fuel = q + 1 := ⟨fuel - 1, by omega⟩
    have hi : i < (cardsL f size).length := by omega
    have hm := hc _ (rd_mem (l := cardsL f size) (i := (i : Int)) (by omega) (by omega))
    rw [frame_header.l0, ifp (by show (i : Int) < ((cardsL f size).length : Int); omega), ifp (by omega)]
    have e1 := text_eq k (rd (cardsL f size) (i : Int)) (by omega) hm.2
    have e2 := header1_eq k (textL (rd (cardsL f size) (i : Int))) x hm.1 (by omega)
    refine Eq.trans (bnd e1) ?_
    rw [bnd e2, wid (x := (i : Int) + 1) (by omega) (by omega), show (i : Int) + 1 = ((i + 1 : Nat) : Int) by omega]
    rw [ih fuel (i + 1) _ (by omega) (by omega) (by rw [List.length_append, lineL_len hm.1]; omega), drop_rd _ i hi, linesL_cons, List.append_assoc]
theorem header_l1 (k : Nat) : ∀ (d fuel : Nat) (x : List UInt8), d ≤ 3 → (x.length + 64 * d) % 256 = 0 → d < fuel → x.length + 64 * d ≤ 100000 → frame_header.l1 k fuel x = some (x ++ List.replicate (64 * d) 32) := by
  intro d
  induction d with
  | zero =>
    intro fuel x h1 h2 hf hx
    obtain ⟨fuel, rfl⟩ : ∃ q, fuel = q + 1 := ⟨fuel - 1, by omega⟩
    have e : strings_Builder_Len k x = some ((x.length : Int), x) := rfl
    rw [frame_header.l1, bnd e]
    dsimp only
    rw [ifn (by rw [tmod_nn (by omega)]; omega)]
    exact congrArg some (List.append_nil x).symm
  | succ d ih =>
    intro fuel x h1 h2 hf hx
    obtain ⟨fuel, rfl⟩ : ∃ q, fuel = q + 1 := ⟨fuel - 1, by omega⟩
    have e : strings_Builder_Len k x = some ((x.length : Int), x) := rfl
    rw [frame_header.l1, bnd e]
    dsimp only
    have e2 : frame_header_1 k (⟨#[]⟩ : ByteArray) x = some (x ++ lineL []) := header1_eq k [] x (by decide) (by omega)
    have e3 := lineL_len (t := []) (by decide)
    rw [ifp (by rw [tmod_nn (by omega)]; omega), bnd e2, ih fuel _ (by omega) (by rw [List.length_append, e3]; omega) (by omega) (by rw [List.length_append, e3]; omega), List.append_assoc]
    have e4 : lineL [] ++ List.replicate (64 * d) 32 = List.replicate (64 * (d + 1)) 32 := by
      show List.replicate 64 32 ++ List.replicate (64 * d) 32 = _
      rw [List.replicate_append_replicate]
      congr 1; omega
    rw [e4]
theorem header_eq (k : Nat) (f : S_Frame) (size : Int) (hW : 0 ≤ f.W ∧ f.W ≤ 1000) (hH : 0 ≤ f.H ∧ f.H ≤ 1000) (hs : 0 ≤ size ∧ size ≤ 1000) (hc : ∀ c ∈ cardsL f size, (textL c).length ≤ 64 ∧ c.Key.data.toList.length ≤ 8) (hn : f.Cards.length ≤ 100) (hk : 200 ≤ k) : frame_header k f size = some ⟨(headL f size).toArray⟩ := by
  have it : ∀ n : Int, 0 ≤ n ∧ n ≤ 1000 → strconv_Itoa k n = some (numeral n) := fun n h => by
    unfold strconv_Itoa
    rw [ifp (by omega), ifp (by omega)]
  have hl : (cardsL f size).length = 3 + f.Cards.length := by
    unfold cardsL
    rw [List.length_append]
    rfl
  have hL := linesL_len (fun c h => (hc c h).1)
  unfold frame_header
  rw [bnd (it _ hW), bnd (it _ hH), bnd (it _ hs), ifp (by show (3 + f.Cards.length) * 64 ≤ _; omega)]
  have e0 : frame_header.l0 k (numeral f.W) (numeral f.H) (numeral size) f k [] 0 = some ([] ++ linesL ((cardsL f size).drop 0)) := header_l0 k f size hc (by omega) (cardsL f size).length k 0 [] (by omega) (by omega) (by simp)
  rw [List.drop_zero, List.nil_append] at e0
  have e1 : frame_header_1 k (⟨#[69, 78, 68]⟩ : ByteArray) (linesL (cardsL f size)) = some (linesL (cardsL f size) ++ lineL [69, 78, 68]) := header1_eq k [69, 78, 68] _ (by decide) (by omega)
  have hE := lineL_len (t := [69, 78, 68]) (by decide)
  obtain ⟨d, hd, hp⟩ : ∃ d, d ≤ 3 ∧ padN (64 * ((cardsL f size).length + 1)) = 64 * d := by
    unfold padN
    exact ⟨(256 - 64 * ((cardsL f size).length + 1) % 256) % 256 / 64, by omega, by omega⟩
  have e2 := header_l1 k d k (linesL (cardsL f size) ++ lineL [69, 78, 68]) hd (by rw [List.length_append, hL, hE]; unfold padN at hp; omega) (by omega) (by rw [List.length_append, hL, hE]; omega)
  rw [bnd e0, bnd e1, bnd e2]
  unfold strings_Builder_String
  rw [ifp]
  · unfold headL
    rw [hp]
    rfl
  · intro h
    have := congrArg List.length h
    rw [List.length_append, List.length_append, hL, hE] at this
    simp at this
theorem headL_len (f : S_Frame) (size : Int) (hc : ∀ c ∈ cardsL f size, (textL c).length ≤ 64) : (headL f size).length = 256 * (((cardsL f size).length) / 4 + 1) := by
  unfold headL
  rw [List.length_append, List.length_append, linesL_len hc, lineL_len (by decide), List.length_replicate]
  unfold padN
  omega
theorem i64_and_low (x : Int) (i : Nat) (hi : i ≤ 62) : Go.bits .and .i64 x ((2 ^ i - 1 : Nat) : Int) = (((x % 18446744073709551616).toNat % 2 ^ i : Nat) : Int) := by
  have hp : 2 ^ i ≤ 2 ^ 62 := Nat.pow_le_pow_right (by decide) hi
  have hpos : 0 < 2 ^ i := Nat.two_pow_pos i
  have e1 : (BitVec.ofInt 64 x).toNat = (x % 18446744073709551616).toNat := by simp [BitVec.toNat_ofInt]
  have hb : (2 ^ i - 1) % 2 ^ IntKind.i64.bits = 2 ^ i - 1 := Nat.mod_eq_of_lt (by show 2 ^ i - 1 < 2 ^ 64; omega)
  simp only [Go.bits, BitVec.ofInt_natCast, BitVec.toNat_and, BitVec.toNat_ofNat, hb]
  rw [show (BitVec.ofInt IntKind.i64.bits x).toNat = (x % 18446744073709551616).toNat from e1, Nat.and_two_pow_sub_one_eq_mod]
  have := Nat.mod_lt (x % 18446744073709551616).toNat hpos
  rw [IntKind.wrap_i64]
  omega
theorem shr_nat (a n : Nat) : shr (a : Int) n = ((a / 2 ^ n : Nat) : Int) := by
  unfold shr
  rw [Int.fdiv_eq_ediv_of_nonneg _ (Int.pow_nonneg (by decide))]
  simp
def cstep (s : Nat) : Nat := if s % 2 = 1 then (s / 2) ^^^ 3988292384 else s / 2
def csteps : Nat → Nat → Nat
  | 0, s => s
  | d + 1, s => csteps d (cstep s)
theorem cstep_lt {s : Nat} (h : s < 4294967296) : cstep s < 4294967296 := by
  unfold cstep
  split
  · exact Nat.xor_lt_two_pow (n := 32) (by omega) (by decide)
  · omega
theorem csteps_lt : ∀ (d : Nat) {s : Nat}, s < 4294967296 → csteps d s < 4294967296
  | 0, _, h => h
  | d + 1, s, h => csteps_lt d (cstep_lt h)
def cbyte (s : Nat) (c : Int) : Nat := csteps 8 (s ^^^ c.toNat)
theorem cbyte_lt {s : Nat} {c : Int} (h : s < 4294967296) (c1 : c ≤ 255) : cbyte s c < 4294967296 :=
  csteps_lt 8 (Nat.xor_lt_two_pow (n := 32) h (by omega))
theorem cfold_lt : ∀ (l : List Int) {s : Nat}, s < 4294967296 → AllIn l 0 255 → l.foldl cbyte s < 4294967296
  | [], _, h, _ => h
  | c :: l, s, h, hl => cfold_lt l (cbyte_lt h (hl c (List.mem_cons_self ..)).2) (fun x hx => hl x (List.mem_cons_of_mem _ hx))
def crcN (b : List Int) : Nat := 4294967295 ^^^ b.foldl cbyte 4294967295
theorem sum_l1 (k : Nat) : ∀ (d fuel s : Nat) (i : Int), i + d = 8 → 0 ≤ i → d < fuel → s < 4294967296 → frame_Sum.l1 k fuel (s : Int) i = some ((csteps d s : Nat) : Int) := by
  intro d
  induction d with
  | zero =>
    intro fuel s i h1 h2 hf hs
    obtain ⟨fuel, rfl⟩ : ∃ q, fuel = q + 1 := ⟨fuel - 1, by omega⟩
    rw [frame_Sum.l1, ifn (by omega)]
    rfl
  | succ d ih =>
    intro fuel s i h1 h2 hf hs
    obtain ⟨fuel, rfl⟩ : ∃ q, fuel = q + 1 := ⟨fuel - 1, by omega⟩
    have e1 : Go.bits .and .u32 (s : Int) 1 = ((s % 2 : Nat) : Int) := by
      have := Go.u32_and_nat s 1 (by omega) (by decide)
      rw [Nat.and_one_is_mod] at this
      exact this
    rw [frame_Sum.l1, ifp (by omega), e1, shr_nat, wid (x := i + 1) (by omega) (by omega)]
    have hc := cstep_lt hs
    by_cases c : s % 2 = 1
    · have e2 : cstep s = (s / 2 ^ 1) ^^^ 3988292384 := by unfold cstep; rw [if_pos c]
      have := Go.u32_xor_nat (s / 2 ^ 1) 3988292384 (by omega) (by decide)
      rw [ifp (by omega), show (3988292384 : Int) = ((3988292384 : Nat) : Int) from rfl, this, ← e2, ih fuel (cstep s) (i + 1) (by omega) (by omega) (by omega) hc]
      rfl
    · have e2 : cstep s = s / 2 ^ 1 := by unfold cstep; rw [if_neg c]
      rw [ifn (by omega), ← e2, ih fuel (cstep s) (i + 1) (by omega) (by omega) (by omega) hc]
      rfl
theorem sum_l0 (k : Nat) (hk : 10 ≤ k) (b : List Int) (hb : AllIn b 0 255) (hl : b.length ≤ 1000000) : ∀ (d fuel i s : Nat), i + d = b.length → d < fuel → s < 4294967296 → frame_Sum.l0 k b fuel (s : Int) (i : Int) = some (((b.drop i).foldl cbyte s : Nat) : Int) := by
  intro d
  induction d with
  | zero =>
    intro fuel i s h1 hf hs
    obtain ⟨fuel, rfl⟩ : ∃ q, fuel = q + 1 := ⟨fuel - 1, by omega⟩
    rw [frame_Sum.l0, ifn (by omega), List.drop_of_length_le (by omega)]
    rfl
  | succ d ih =>
    intro fuel i s h1 hf hs
    obtain ⟨fuel, rfl⟩ : ∃ q, fuel = q + 1 := ⟨fuel - 1, by omega⟩
    obtain ⟨hi, er⟩ := rd_lt (xs := b) (i := (i : Int)) (by omega) (by omega)
    have hc := hb.rd (i := (i : Int)) (by omega) (by omega)
    obtain ⟨c, hcn⟩ : ∃ c : Nat, rd b (i : Int) = c := ⟨(rd b (i : Int)).toNat, by omega⟩
    rw [hcn] at hc
    have ed : b.drop i = (c : Int) :: b.drop (i + 1) := by
      rw [← hcn, er]
      exact List.drop_eq_getElem_cons (by omega)
    rw [frame_Sum.l0, ifp (by omega), ifp (by omega), hcn, u32_def, Int.emod_eq_of_lt (by omega) (by omega), Go.u32_xor_nat s c hs (by omega)]
    rw [bnd (sum_l1 k 8 k (s ^^^ c) 0 rfl (by decide) (by omega) (Nat.xor_lt_two_pow (n := 32) hs (by omega))), wid (x := (i : Int) + 1) (by omega) (by omega)]
    have := ih fuel (i + 1) (csteps 8 (s ^^^ c)) (by omega) (by omega) (csteps_lt 8 (Nat.xor_lt_two_pow (n := 32) hs (by omega)))
    rw [show (i : Int) + 1 = ((i + 1 : Nat) : Int) by omega, this, ed, List.foldl_cons]
    simp [cbyte]
theorem sum_eq (k : Nat) (b : List Int) (hb : AllIn b 0 255) (hl : b.length ≤ 1000000) (hk : 10 ≤ k) (hk2 : b.length < k) : frame_Sum k b = some ((crcN b : Nat) : Int) := by
  have this : frame_Sum.l0 k b k 4294967295 0 = some (((b.drop 0).foldl cbyte 4294967295 : Nat) : Int) := sum_l0 k hk b hb hl b.length k 0 4294967295 (by omega) (by omega) (by decide)
  unfold frame_Sum
  rw [bnd this, List.drop_zero]
  have e : IntKind.u32.max = ((4294967295 : Nat) : Int) := by decide
  rw [e, Go.u32_xor_nat _ _ (by decide) (cfold_lt b (by decide) hb)]
  rfl
def fourL (n : Nat) : List Int := [((n / 16777216 % 256 : Nat) : Int), ((n / 65536 % 256 : Nat) : Int), ((n / 256 % 256 : Nat) : Int), ((n % 256 : Nat) : Int)]
theorem fourL_in (n : Nat) : AllIn (fourL n) 0 255 := by
  intro x hx
  simp only [fourL, List.mem_cons, List.not_mem_nil, or_false] at hx
  rcases hx with rfl | rfl | rfl | rfl <;> omega
theorem fourL_len (n : Nat) : (fourL n).length = 4 := rfl
theorem four_eq (k n : Nat) : frame_four k (n : Int) = some (fourL n) := by
  unfold frame_four fourL
  rw [shr_nat, shr_nat, shr_nat, u8_def, u8_def, u8_def, u8_def]
  simp only [show 2 ^ 24 = 16777216 from rfl, show 2 ^ 16 = 65536 from rfl, show 2 ^ 8 = 256 from rfl, Int.natCast_emod]
  rfl
def sealL (i : Nat) (block : List Int) : List Int := fourL (crcN (fourL i ++ block))
theorem AllIn.app {a b : List Int} {lo hi : Int} (h : AllIn a lo hi) (h' : AllIn b lo hi) : AllIn (a ++ b) lo hi := fun x hx => by
  rcases List.mem_append.mp hx with hx | hx
  · exact h x hx
  · exact h' x hx
theorem seal_eq (k i : Nat) (block : List Int) (hi : i < 1000000) (hb : AllIn block 0 255) (hl : block.length ≤ 256) (hk : 300 ≤ k) : frame_seal k (i : Int) block = some (sealL i block) := by
  unfold frame_seal sealL
  rw [u32_def, Int.emod_eq_of_lt (by omega) (by omega), bnd (four_eq k i), ifp (by rw [fourL_len]; omega)]
  have hall := (fourL_in i).app hb
  rw [bnd (sum_eq k (fourL i ++ block) hall (by rw [List.length_append, fourL_len]; omega) (by omega) (by rw [List.length_append, fourL_len]; omega)), bnd (four_eq k _)]
theorem sealL_in (i : Nat) (b : List Int) : AllIn (sealL i b) 0 255 := fourL_in _
theorem sealL_len (i : Nat) (b : List Int) : (sealL i b).length = 4 := rfl
theorem find_l0 (k : Nat) (l : List S_Card) (key : ByteArray) (hl : l.length ≤ 1000000) : ∀ (d fuel i : Nat), i + d = l.length → d < fuel → slices_IndexFunc_Card__frame_find_1.l0 k l key fuel (i : Int) = some (match (l.drop i).findIdx? (fun c => decide (c.Key.data.toList = key.data.toList)) with | some j => Sum.inl ((i + j : Nat) : Int) | none => Sum.inr ()) := by
  intro d
  induction d with
  | zero =>
    intro fuel i h1 hf
    obtain ⟨fuel, rfl⟩ : ∃ q, fuel = q + 1 := ⟨fuel - 1, by omega⟩
    rw [slices_IndexFunc_Card__frame_find_1.l0, ifn (by omega), List.drop_of_length_le (by omega)]
    rfl
  | succ d ih =>
    intro fuel i h1 hf
    obtain ⟨fuel, rfl⟩ : ∃ q, fuel = q + 1 := ⟨fuel - 1, by omega⟩
    have e1 : frame_find_1 k key (rd l (i : Int)) = some (decide ((rd l (i : Int)).Key.data.toList = key.data.toList)) := by
      unfold frame_find_1
      rw [s_eq]
    rw [slices_IndexFunc_Card__frame_find_1.l0, ifp (by omega), ifp (by omega), bnd e1, drop_rd l i (by omega), List.findIdx?_cons]
    by_cases c : (rd l (i : Int)).Key.data.toList = key.data.toList
    · rw [decide_eq_true c, ifp rfl, ifp rfl]
      rfl
    · rw [decide_eq_false c, ifn (by simp), ifn (by simp), wid (x := (i : Int) + 1) (by omega) (by omega), show (i : Int) + 1 = ((i + 1 : Nat) : Int) by omega, ih fuel (i + 1) (by omega) (by omega)]
      cases (l.drop (i + 1)).findIdx? (fun c => decide (c.Key.data.toList = key.data.toList)) with
      | none => rfl
      | some j =>
        simp only [Option.map_some]
        rw [show i + 1 + j = i + (j + 1) by omega]
def findL (l : List S_Card) (key : ByteArray) : Int := match l.findIdx? (fun c => decide (c.Key.data.toList = key.data.toList)) with | some j => (j : Int) | none => -1
theorem find_eq (k : Nat) (l : List S_Card) (key : ByteArray) (hl : l.length ≤ 1000000) (hk : l.length < k) : frame_find k l key = some (findL l key) := by
  have e : slices_IndexFunc_Card__frame_find_1.l0 k l key k 0 = _ := find_l0 k l key hl l.length k 0 (by omega) (by omega)
  unfold frame_find slices_IndexFunc_Card__frame_find_1
  rw [e, List.drop_zero]
  unfold findL
  cases l.findIdx? (fun c => decide (c.Key.data.toList = key.data.toList)) with
  | none => rfl
  | some j =>
    simp only [Option.bind_some, Sum.elim_inl, Nat.zero_add]
theorem findL_none {l : List S_Card} {key : ByteArray} (h : ∀ c ∈ l, c.Key.data.toList ≠ key.data.toList) : findL l key = -1 := by
  unfold findL
  have : l.findIdx? (fun c => decide (c.Key.data.toList = key.data.toList)) = none := by
    rw [List.findIdx?_eq_none_iff]
    intro c hc
    exact decide_eq_false (h c hc)
  rw [this]
structure FGoodC (f : S_Frame) : Prop where
  W0 : 1 ≤ f.W
  W1 : f.W ≤ 32
  H0 : 1 ≤ f.H
  H1 : f.H ≤ 32
  l : (f.Counts.length : Int) = f.W * f.H
  c : AllIn f.Counts 0 65535
  n : f.Cards.length ≤ 28
  g : ∀ c ∈ f.Cards, CGood c
  d : (f.Cards.map fun c => c.Key.data.toList).Nodup
theorem FGoodC.lim {f : S_Frame} (h : FGoodC f) : 1 ≤ f.Counts.length ∧ f.Counts.length ≤ 1024 := by
  have h1 := mul_le (a := f.W - 1) (b := f.H - 1) (A := 31) (B := 31) (by have := h.W0; omega) (by have := h.W1; omega) (by have := h.H0; omega) (by have := h.H1; omega)
  have h2 := h.l
  have e : (f.W - 1) * (f.H - 1) = f.W * f.H - f.W - f.H + 1 := by rw [Int.sub_mul, Int.mul_sub]; omega
  have := h.W0; have := h.W1; have := h.H0; have := h.H1
  omega
theorem counts_l0 (k : Nat) (l : List Int) (h : AllIn l 0 65535) (hl : l.length ≤ 1000000) : ∀ (d fuel i : Nat), i + d = l.length → d < fuel → slices_IndexFunc_int__frame_Check_1.l0 k l fuel (i : Int) = some (Sum.inr ()) := by
  intro d
  induction d with
  | zero =>
    intro fuel i h1 hf
    obtain ⟨fuel, rfl⟩ : ∃ q, fuel = q + 1 := ⟨fuel - 1, by omega⟩
    rw [slices_IndexFunc_int__frame_Check_1.l0, ifn (by omega)]
  | succ d ih =>
    intro fuel i h1 hf
    obtain ⟨fuel, rfl⟩ : ∃ q, fuel = q + 1 := ⟨fuel - 1, by omega⟩
    have hc := h.rd (i := (i : Int)) (by omega) (by omega)
    have e : frame_Check_1 k (rd l (i : Int)) = some false := by
      unfold frame_Check_1
      rw [ifn (by omega), decide_eq_false (by omega)]
    rw [slices_IndexFunc_int__frame_Check_1.l0, ifp (by omega), ifp (by omega), bnd e, ifn (by simp), wid (x := (i : Int) + 1) (by omega) (by omega), show (i : Int) + 1 = ((i + 1 : Nat) : Int) by omega]
    exact ih fuel (i + 1) (by omega) (by omega)
theorem check_l0 (k : Nat) (f : S_Frame) (h : FGoodC f) (hk : 200 ≤ k) : ∀ (d fuel i : Nat), i + d = f.Cards.length → d < fuel → frame_Check.l0 k f fuel (i : Int) = some (Sum.inr ()) := by
  have hn := h.n
  intro d
  induction d with
  | zero =>
    intro fuel i h1 hf
    obtain ⟨fuel, rfl⟩ : ∃ q, fuel = q + 1 := ⟨fuel - 1, by omega⟩
    rw [frame_Check.l0, ifn (by omega)]
  | succ d ih =>
    intro fuel i h1 hf
    obtain ⟨fuel, rfl⟩ : ∃ q, fuel = q + 1 := ⟨fuel - 1, by omega⟩
    have hm := rd_mem (l := f.Cards) (i := (i : Int)) (by omega) (by omega)
    have hnone : findL (f.Cards.take i) (rd f.Cards (i : Int)).Key = -1 := by
      refine findL_none fun c hc e => ?_
      have hd := h.d
      rw [← List.take_append_drop i f.Cards, drop_rd f.Cards i (by omega), List.map_append, List.map_cons, List.nodup_append] at hd
      exact hd.2.2 _ (List.mem_map_of_mem hc) _ (List.mem_cons_self ..) e
    rw [frame_Check.l0, ifp (by omega), ifp (by omega), bnd (card_ok k _ (h.g _ hm) (by omega)), ifn (by simp), ifp (by omega), Int.toNat_natCast, bnd (find_eq k _ _ (by rw [List.length_take]; omega) (by rw [List.length_take]; omega)), hnone, ifn (by decide), wid (x := (i : Int) + 1) (by omega) (by omega), show (i : Int) + 1 = ((i + 1 : Nat) : Int) by omega]
    exact ih fuel (i + 1) (by omega) (by omega)
theorem check_eq (k : Nat) (f : S_Frame) (h : FGoodC f) (hk : 1100 ≤ k) : frame_Check k f = some 0 := by
  have hw0 := h.W0; have hw1 := h.W1; have hh0 := h.H0; have hh1 := h.H1; have hn := h.n
  have hlim := h.lim
  have hl := h.l
  unfold frame_Check mn mx
  rw [ifn (by split <;> omega), ifn (by split <;> omega), wid (x := f.W * f.H) (by omega) (by omega), ifn (by omega)]
  have e0 : slices_IndexFunc_int__frame_Check_1.l0 k f.Counts k 0 = some (Sum.inr ()) := counts_l0 k f.Counts h.c (by omega) f.Counts.length k 0 (by omega) (by omega)
  have e1 : slices_ContainsFunc_int__frame_Check_1 k f.Counts = some false := by
    unfold slices_ContainsFunc_int__frame_Check_1 slices_IndexFunc_int__frame_Check_1
    rw [e0]
    rfl
  have e2 : frame_Check.l0 k f k 0 = some (Sum.inr ()) := check_l0 k f h (by omega) f.Cards.length k 0 (by omega) (by omega)
  rw [bnd e1, ifn (by simp), ifn (by omega), bnd e2]
  rfl
def sizeL (l : List Int) : Int := if l.any (fun n => decide (n > 255)) = true then 2 else 1
theorem enc_l0 (k : Nat) (f : S_Frame) (hl : f.Counts.length ≤ 1000000) : ∀ (d fuel i : Nat) (s : Int), i + d = f.Counts.length → d < fuel → frame_Encode.l0 k f fuel s (i : Int) = some (if (f.Counts.drop i).any (fun n => decide (n > 255)) = true then 2 else s) := by
  intro d
  induction d with
  | zero =>
    intro fuel i s h1 hf
    obtain ⟨fuel, rfl⟩ : ∃ q, fuel = q + 1 := ⟨fuel - 1, by omega⟩
    rw [frame_Encode.l0, ifn (by omega), List.drop_of_length_le (by omega)]
    rfl
  | succ d ih =>
    intro fuel i s h1 hf
    obtain ⟨fuel, rfl⟩ : ∃ q, fuel = q + 1 := ⟨fuel - 1, by omega⟩
    rw [frame_Encode.l0, ifp (by omega), ifp (by omega), drop_rd f.Counts i (by omega), List.any_cons, wid (x := (i : Int) + 1) (by omega) (by omega), show (i : Int) + 1 = ((i + 1 : Nat) : Int) by omega]
    by_cases c : rd f.Counts (i : Int) > 255
    · rw [ifp c, ih fuel (i + 1) 2 (by omega) (by omega), decide_eq_true c, Bool.true_or, ifp rfl]
      split <;> rfl
    · rw [ifn c, ih fuel (i + 1) s (by omega) (by omega), decide_eq_false c, Bool.false_or]
def cntL (size : Int) (n : Int) : List Int := if size = 2 then [n / 256, n % 256] else [n % 256]
theorem cntL_in (size n : Int) (h : 0 ≤ n ∧ n ≤ 65535) : AllIn (cntL size n) 0 255 := by
  unfold cntL
  split
  · intro x hx
    simp only [List.mem_cons, List.not_mem_nil, or_false] at hx
    rcases hx with rfl | rfl <;> omega
  · intro x hx
    simp only [List.mem_cons, List.not_mem_nil, or_false] at hx
    rcases hx with rfl; omega
theorem enc_l1 (k : Nat) (f : S_Frame) (size : Int) (hc : AllIn f.Counts 0 65535) (hl : f.Counts.length ≤ 1000000) : ∀ (d fuel i : Nat) (x : List Int), i + d = f.Counts.length → d < fuel → x.length + 2 * d ≤ 100000000 → frame_Encode.l1 k f size fuel x (i : Int) = some (x ++ (f.Counts.drop i).flatMap (cntL size)) := by
  intro d
  induction d with
  | zero =>
    intro fuel i x h1 hf hx
    obtain ⟨fuel, rfl⟩ : ∃ q, fuel = q + 1 := ⟨fuel - 1, by omega⟩
    rw [frame_Encode.l1, ifn (by omega), List.drop_of_length_le (by omega), List.flatMap_nil, List.append_nil]
  | succ d ih =>
    intro fuel i x h1 hf hx
    obtain ⟨fuel, rfl⟩ : ∃ q, fuel = q + 1 := ⟨fuel - 1, by omega⟩
    have hm := hc.rd (i := (i : Int)) (by omega) (by omega)
    rw [frame_Encode.l1, ifp (by omega), ifp (by omega), drop_rd f.Counts i (by omega), List.flatMap_cons, wid (x := (i : Int) + 1) (by omega) (by omega), show (i : Int) + 1 = ((i + 1 : Nat) : Int) by omega]
    obtain ⟨n, hn⟩ : ∃ n : Nat, rd f.Counts (i : Int) = n := ⟨(rd f.Counts (i : Int)).toNat, by omega⟩
    rw [hn] at hm ⊢
    have e1 : u8 (n : Int) = (n : Int) % 256 := u8_def _
    have e2 : u8 (shr (n : Int) 8) = (n : Int) / 256 := by
      rw [shr_nat, u8_def]
      show (((n / 256 : Nat) : Int)) % 256 = _
      omega
    by_cases c : size = 2
    · rw [ifp c, ifp (by omega), ifp (by rw [List.length_append]; show (x.length + 1 + 1) * 1 ≤ _; omega), e1, e2]
      have : cntL size (n : Int) = [(n : Int) / 256, (n : Int) % 256] := if_pos c
      rw [this, ih fuel (i + 1) _ (by omega) (by omega) (by simp only [List.length_append, List.length_cons, List.length_nil]; omega)]
      simp only [List.append_assoc, List.cons_append, List.nil_append]
    · rw [ifn c, ifp (by omega), e1]
      have : cntL size (n : Int) = [(n : Int) % 256] := if_neg c
      rw [this, ih fuel (i + 1) _ (by omega) (by omega) (by simp only [List.length_append, List.length_cons, List.length_nil]; omega)]
      simp only [List.append_assoc, List.cons_append, List.nil_append]
theorem enc_l2 (k : Nat) : ∀ (d fuel : Nat) (x : List Int), d ≤ 255 → (x.length + d) % 256 = 0 → d < fuel → x.length + d ≤ 100000000 → frame_Encode.l2 k fuel x = some (x ++ List.replicate d 0) := by
  intro d
  induction d with
  | zero =>
    intro fuel x h1 h2 hf hx
    obtain ⟨fuel, rfl⟩ : ∃ q, fuel = q + 1 := ⟨fuel - 1, by omega⟩
    rw [frame_Encode.l2, ifn (by rw [tmod_nn (by omega)]; omega)]
    exact congrArg some (List.append_nil x).symm
  | succ d ih =>
    intro fuel x h1 h2 hf hx
    obtain ⟨fuel, rfl⟩ : ∃ q, fuel = q + 1 := ⟨fuel - 1, by omega⟩
    rw [frame_Encode.l2, ifp (by rw [tmod_nn (by omega)]; omega), ifp (by omega), ih fuel _ (by omega) (by simp only [List.length_append, List.length_cons, List.length_nil]; omega) (by omega) (by simp only [List.length_append, List.length_cons, List.length_nil]; omega), List.append_assoc]
    rfl
def blkL (b : List Int) (i : Nat) : List Int := (b.drop (i * 256)).take 256
def outL (b : List Int) : Nat → List Int
  | 0 => []
  | n + 1 => outL b n ++ (blkL b n ++ sealL n (blkL b n))
theorem blkL_len {b : List Int} {n i : Nat} (h : b.length = 256 * n) (hi : i < n) : (blkL b i).length = 256 := by
  unfold blkL
  rw [List.length_take, List.length_drop]; omega
theorem outL_len {b : List Int} {m : Nat} (h : b.length = 256 * m) : ∀ {n : Nat}, n ≤ m → (outL b n).length = 260 * n
  | 0, _ => rfl
  | n + 1, hn => by
    rw [outL, List.length_append, List.length_append, outL_len h (by omega), blkL_len h hn, sealL_len]; omega
theorem blkL_in {b : List Int} (h : AllIn b 0 255) (i : Nat) : AllIn (blkL b i) 0 255 := fun x hx => h x (List.mem_of_mem_drop (List.mem_of_mem_take hx))
theorem outL_in {b : List Int} (h : AllIn b 0 255) : ∀ n : Nat, AllIn (outL b n) 0 255
  | 0 => AllIn.nil
  | n + 1 => (outL_in h n).app ((blkL_in h n).app (sealL_in _ _))
theorem take_drop_blk (b : List Int) (i s : Nat) : (b.take ((i + 1) * s)).drop (i * s) = (b.drop (i * s)).take s := by
  rw [List.drop_take]
  congr 1
  rw [Nat.add_mul]; omega
theorem enc_l3 (k : Nat) (b : List Int) (m : Nat) (hb : b.length = 256 * m) (hm : m ≤ 10000) (hin : AllIn b 0 255) (hk : 300 ≤ k) : ∀ (d fuel i : Nat), i + d = m → d < fuel → frame_Encode.l3 k b fuel (outL b i) (i : Int) = some (outL b m) := by
  intro d
  induction d with
  | zero =>
    intro fuel i h1 hf
    obtain ⟨fuel, rfl⟩ : ∃ q, fuel = q + 1 := ⟨fuel - 1, by omega⟩
    obtain rfl : i = m := by omega
    rw [frame_Encode.l3, wid (x := (i : Int) * 256) (by omega) (by omega), ifn (by omega)]
  | succ d ih =>
    intro fuel i h1 hf
    obtain ⟨fuel, rfl⟩ : ∃ q, fuel = q + 1 := ⟨fuel - 1, by omega⟩
    have hol := outL_len hb (n := i) (by omega)
    have hbl := blkL_len hb (i := i) (by omega)
    have e0 : ((b.take (((i : Int) + 1) * 256).toNat).drop ((i : Int) * 256).toNat) = blkL b i := by
      rw [show (((i : Int) + 1) * 256).toNat = (i + 1) * 256 by omega, show ((i : Int) * 256).toNat = i * 256 by omega]
      exact take_drop_blk b i 256
    rw [frame_Encode.l3, wid (x := (i : Int) * 256) (by omega) (by omega), wid (x := (i : Int) + 1) (by omega) (by omega), wid (x := ((i : Int) + 1) * 256) (by omega) (by omega), ifp (by omega), ifp (by omega), ifp (by omega), ifp (by omega), e0, ifp (by omega)]
    rw [bnd (seal_eq k i (blkL b i) (by omega) (blkL_in hin i) (by omega) hk), ifp (by rw [List.length_append, sealL_len]; omega), show (i : Int) + 1 = ((i + 1 : Nat) : Int) by omega, List.append_assoc]
    exact ih fuel (i + 1) (by omega) (by omega)
def sb (l : List UInt8) : List Int := l.map fun b => (b.toNat : Int)
theorem sb_in (l : List UInt8) : AllIn (sb l) 0 255 := fun x hx => by
  unfold sb at hx
  rw [List.mem_map] at hx
  obtain ⟨b, _, rfl⟩ := hx
  have := b.toNat_lt
  omega
def dataL (f : S_Frame) : List Int := f.Counts.flatMap (cntL (sizeL f.Counts))
def bodyL (f : S_Frame) : List Int := (sb (headL f (sizeL f.Counts)) ++ dataL f) ++ List.replicate (padN (dataL f).length) 0
theorem sizeL_in (l : List Int) : 1 ≤ sizeL l ∧ sizeL l ≤ 2 := by unfold sizeL; split <;> omega
theorem cntL_len {size n : Int} (h : 1 ≤ size ∧ size ≤ 2) : (cntL size n).length = size.toNat := by
  unfold cntL
  split
  · rename_i h; rw [h]; rfl
  · rw [show size = 1 by omega]; rfl
theorem flat_len {size : Int} (h : 1 ≤ size ∧ size ≤ 2) : ∀ l : List Int, (l.flatMap (cntL size)).length = l.length * size.toNat
  | [] => by simp
  | x :: l => by rw [List.flatMap_cons, List.length_append, flat_len h l, cntL_len h, List.length_cons, Nat.add_mul]; omega
theorem flat_in {size : Int} : ∀ {l : List Int}, AllIn l 0 65535 → AllIn (l.flatMap (cntL size)) 0 255
  | [], _ => AllIn.nil
  | x :: l, h => by
    rw [List.flatMap_cons]
    exact (cntL_in size x (h x (List.mem_cons_self ..))).app (flat_in fun y hy => h y (List.mem_cons_of_mem _ hy))
theorem dataL_len (f : S_Frame) : (dataL f).length = f.Counts.length * (sizeL f.Counts).toNat := flat_len (sizeL_in _) _
theorem cardsL_ok {f : S_Frame} (h : FGoodC f) (size : Int) (hs : 1 ≤ size ∧ size ≤ 2) : ∀ c ∈ cardsL f size, (textL c).length ≤ 64 ∧ c.Key.data.toList.length ≤ 8 := by
  have hw0 := h.W0; have hw1 := h.W1; have hh0 := h.H0; have hh1 := h.H1
  intro c hc
  unfold cardsL at hc
  rcases List.mem_append.mp hc with hc | hc
  · simp only [List.mem_cons, List.not_mem_nil, or_false] at hc
    have g : ∀ (K : ByteArray) (n : Int), K.data.toList.length ≤ 8 → 0 ≤ n → n ≤ 1000 → (textL (⟨K, numeral n, ⟨#[]⟩, ⟨#[]⟩⟩ : S_Card)).length ≤ 64 := fun K n h1 h2 h3 => by
      have := numeral_size (n := n) (by omega) (by omega)
      unfold textL
      rw [ifp rfl, ifp rfl]
      simp only [List.length_append, List.length_replicate, List.length_cons, List.length_nil]
      omega
    rcases hc with rfl | rfl | rfl
    · exact ⟨g _ _ (by decide) (by omega) (by omega), by show 5 ≤ 8; decide⟩
    · exact ⟨g _ _ (by decide) (by omega) (by omega), by show 6 ≤ 8; decide⟩
    · exact ⟨g _ _ (by decide) (by omega) (by omega), by show 5 ≤ 8; decide⟩
  · have := h.g c hc
    exact ⟨this.t, this.k8⟩
theorem cardsL_len (f : S_Frame) (size : Int) : (cardsL f size).length = 3 + f.Cards.length := by
  unfold cardsL
  rw [List.length_append]
  rfl
def blocksN (f : S_Frame) : Nat := (3 + f.Cards.length) / 4 + 1 + ((dataL f).length + 255) / 256
theorem bodyL_len {f : S_Frame} (h : FGoodC f) : (bodyL f).length = 256 * blocksN f := by
  unfold bodyL
  have := headL_len f (sizeL f.Counts) (fun c hc => (cardsL_ok h _ (sizeL_in _) c hc).1)
  rw [List.length_append, List.length_append, sb, List.length_map, this, cardsL_len, List.length_replicate]
  unfold padN blocksN
  omega
theorem bodyL_in {f : S_Frame} (h : FGoodC f) : AllIn (bodyL f) 0 255 := by
  unfold bodyL
  refine AllIn.app ((sb_in _).app (flat_in h.c)) fun x hx => ?_
  have := List.eq_of_mem_replicate hx
  omega
theorem blocksN_lim {f : S_Frame} (h : FGoodC f) : 2 ≤ blocksN f ∧ blocksN f ≤ 100 := by
  have h1 := h.lim
  have h2 := h.n
  have h3 := dataL_len f
  rcases (show sizeL f.Counts = 1 ∨ sizeL f.Counts = 2 by have := sizeL_in f.Counts; omega) with e | e
  · rw [e, show (1 : Int).toNat = 1 from rfl] at h3
    unfold blocksN; omega
  · rw [e, show (2 : Int).toNat = 2 from rfl] at h3
    unfold blocksN; omega
theorem encode_eq (k : Nat) (f : S_Frame) (h : FGoodC f) (hk : 3000 ≤ k) : frame_Encode k f = some (outL (bodyL f) (blocksN f), 0) := by
  have hlim := h.lim
  have hb := blocksN_lim h
  have hw0 := h.W0; have hw1 := h.W1; have hh0 := h.H0; have hh1 := h.H1; have hn := h.n
  unfold frame_Encode
  have e0 : frame_Encode.l0 k f k 1 0 = some (sizeL f.Counts) := enc_l0 k f (by omega) f.Counts.length k 0 1 (by omega) (by omega)
  have hs := sizeL_in f.Counts
  rw [bnd (check_eq k f h (by omega)), ifn (by simp), bnd e0, bnd (header_eq k f _ (by omega) (by omega) (by omega) (cardsL_ok h _ hs) (by omega) (by omega))]
  have hH := headL_len f (sizeL f.Counts) (fun c hc => (cardsL_ok h _ hs c hc).1)
  rw [cardsL_len] at hH
  have e1 : frame_Encode.l1 k f (sizeL f.Counts) k (sby ⟨(headL f (sizeL f.Counts)).toArray⟩) 0 = some (sb (headL f (sizeL f.Counts)) ++ dataL f) :=
    enc_l1 k f _ h.c (by omega) f.Counts.length k 0 (sb (headL f (sizeL f.Counts))) (by omega) (by omega) (by rw [sb, List.length_map]; omega)
  have hd := dataL_len f
  have hd2 : (dataL f).length ≤ 2048 := by
    rcases (show sizeL f.Counts = 1 ∨ sizeL f.Counts = 2 by omega) with e | e
    · rw [e, show (1 : Int).toNat = 1 from rfl] at hd; omega
    · rw [e, show (2 : Int).toNat = 2 from rfl] at hd; omega
  have e2 := enc_l2 k (padN (dataL f).length) k (sb (headL f (sizeL f.Counts)) ++ dataL f) (by unfold padN; omega) (by rw [List.length_append, sb, List.length_map]; unfold padN; omega) (by unfold padN; omega) (by rw [List.length_append, sb, List.length_map]; unfold padN; omega)
  have e3 : frame_Encode.l3 k (bodyL f) k [] 0 = some (outL (bodyL f) (blocksN f)) := enc_l3 k (bodyL f) (blocksN f) (bodyL_len h) (by omega) (bodyL_in h) (by omega) (blocksN f) k 0 (by omega) (by omega)
  rw [smk_size, ifp (by omega), bnd e1, bnd e2]
  rw [bnd (show frame_Encode.l3 k ((sb (headL f (sizeL f.Counts)) ++ dataL f) ++ List.replicate (padN (dataL f).length) 0) k [] 0 = _ from e3)]
theorem bstr_data (l : List Int) : (bstr l).data.toList = l.map fun n => UInt8.ofNat n.toNat := rfl
theorem bstr_inj {a b : List Int} (ha : AllIn a 0 255) (hb : AllIn b 0 255) (h : (bstr a).data.toList = (bstr b).data.toList) : a = b := by
  rw [bstr_data, bstr_data] at h
  induction a generalizing b with
  | nil =>
    cases b with
    | nil => rfl
    | cons y b => cases h
  | cons x a ih =>
    cases b with
    | nil => cases h
    | cons y b =>
      rw [List.map_cons, List.map_cons, List.cons.injEq] at h
      have hx := ha x (List.mem_cons_self ..)
      have hy := hb y (List.mem_cons_self ..)
      have e := congrArg UInt8.toNat h.1
      rw [UInt8.toNat_ofNat', UInt8.toNat_ofNat', Nat.mod_eq_of_lt (show x.toNat < 2 ^ 8 by omega), Nat.mod_eq_of_lt (show y.toNat < 2 ^ 8 by omega)] at e
      rw [show x = y by omega, ih (fun z hz => ha z (List.mem_cons_of_mem _ hz)) (fun z hz => hb z (List.mem_cons_of_mem _ hz)) h.2]
theorem bstr_eq {a b : List Int} (ha : AllIn a 0 255) (hb : AllIn b 0 255) : ((bstr a).toList == (bstr b).toList) = decide (a = b) := by
  rw [s_eq]
  exact decide_eq_decide.mpr ⟨bstr_inj ha hb, fun h => by rw [h]⟩
def pcL (b : List Int) (i : Nat) : List Int := (b.drop (i * 260)).take 260
def badL (b : List Int) (i : Nat) : Bool := !decide (sealL i ((pcL b i).take 256) = (pcL b i).drop 256)
theorem pcL_len {b : List Int} {n i : Nat} (h : b.length = 260 * n) (hi : i < n) : (pcL b i).length = 260 := by
  unfold pcL
  rw [List.length_take, List.length_drop]; omega
theorem ver_l0 (k : Nat) (b : List Int) (m : Nat) (hb : b.length = 260 * m) (hm : m ≤ 10000) (hin : AllIn b 0 255) (hk : 300 ≤ k) : ∀ (d fuel i : Nat) (x : List Int), i + d = m → d < fuel → x.length ≤ i → frame_Verify.l0 k b fuel x (i : Int) = some (x ++ ((List.range' i d).filter (badL b)).map Int.ofNat) := by
  intro d
  induction d with
  | zero =>
    intro fuel i x h1 hf hx
    obtain ⟨fuel, rfl⟩ : ∃ q, fuel = q + 1 := ⟨fuel - 1, by omega⟩
    rw [frame_Verify.l0, wid (x := (i : Int) * 260) (by omega) (by omega), ifn (by omega)]
    exact congrArg some (List.append_nil x).symm
  | succ d ih =>
    intro fuel i x h1 hf hx
    obtain ⟨fuel, rfl⟩ : ∃ q, fuel = q + 1 := ⟨fuel - 1, by omega⟩
    have hpl := pcL_len hb (i := i) (by omega)
    have hpin : AllIn (pcL b i) 0 255 := fun z hz => hin z (List.mem_of_mem_drop (List.mem_of_mem_take hz))
    have htin : AllIn ((pcL b i).take 256) 0 255 := fun z hz => hpin z (List.mem_of_mem_take hz)
    have hdin : AllIn ((pcL b i).drop 256) 0 255 := fun z hz => hpin z (List.mem_of_mem_drop hz)
    have e0 : ((b.take (((i : Int) + 1) * 260).toNat).drop ((i : Int) * 260).toNat) = pcL b i := by
      rw [show (((i : Int) + 1) * 260).toNat = (i + 1) * 260 by omega, show ((i : Int) * 260).toNat = i * 260 by omega]
      exact take_drop_blk b i 260
    have e1 : ((256 : Int).toNat) = 256 := rfl
    rw [frame_Verify.l0, wid (x := (i : Int) * 260) (by omega) (by omega), wid (x := (i : Int) + 1) (by omega) (by omega), wid (x := ((i : Int) + 1) * 260) (by omega) (by omega), ifp (by omega), ifp (by omega), ifp (by omega), ifp (by omega), e0, ifp (by omega), e1]
    rw [bnd (seal_eq k i _ (by omega) htin (by rw [List.length_take]; omega) hk), bstr_eq (sealL_in _ _) hdin, show (i : Int) + 1 = ((i + 1 : Nat) : Int) by omega, List.range'_succ, List.filter_cons]
    have hbad : badL b i = !decide (sealL i ((pcL b i).take 256) = (pcL b i).drop 256) := rfl
    rw [← hbad]
    by_cases c : badL b i = true
    · rw [ifp c, ifp (by omega), ifp c, ih fuel (i + 1) _ (by omega) (by omega) (by rw [List.length_append]; show x.length + 1 ≤ _; omega), List.map_cons, List.append_assoc]
      rfl
    · rw [ifn c, ifn c, ih fuel (i + 1) _ (by omega) (by omega) (by omega)]
theorem verify_eq (k : Nat) (b : List Int) (m : Nat) (hb : b.length = 260 * m) (h1 : 1 ≤ m) (hm : m ≤ 10000) (hin : AllIn b 0 255) (hk : 300 ≤ k) (hk2 : m < k) : frame_Verify k b = some (((List.range m).filter (badL b)).map Int.ofNat, 0) := by
  have e : frame_Verify.l0 k b k [] 0 = _ := ver_l0 k b m hb hm hin hk m k 0 [] (by omega) (by omega) (by simp)
  unfold frame_Verify
  rw [ifn (by omega), ifn (by rw [tmod_nn (by omega)]; omega), bnd e, List.nil_append, List.range_eq_range']
theorem pcL_out {b : List Int} {m : Nat} (h : b.length = 256 * m) : ∀ {n : Nat}, n ≤ m → ∀ {i : Nat}, i < n → pcL (outL b n) i = blkL b i ++ sealL i (blkL b i)
  | 0, _, _, hi => absurd hi (by omega)
  | n + 1, hn, i, hi => by
    have hl := outL_len h (n := n) (by omega)
    have hbl := blkL_len h (i := n) (by omega)
    unfold pcL
    rw [outL]
    by_cases c : i < n
    · rw [List.drop_append_of_le_length (by omega), List.take_append_of_le_length (by rw [List.length_drop]; omega)]
      exact pcL_out h (by omega) c
    · obtain rfl : i = n := by omega
      rw [List.drop_append, List.drop_of_length_le (by omega), List.nil_append, show i * 260 - (outL b i).length = 0 by omega, List.drop_zero]
      exact List.take_of_length_le (by rw [List.length_append, sealL_len]; omega)
theorem piece_parts {b : List Int} {n i : Nat} (h : b.length = 256 * n) (hi : i < n) : (blkL b i ++ sealL i (blkL b i)).take 256 = blkL b i ∧ (blkL b i ++ sealL i (blkL b i)).drop 256 = sealL i (blkL b i) := by
  have hbl := blkL_len h hi
  constructor
  · rw [List.take_append_of_le_length (by omega)]
    exact List.take_of_length_le (by omega)
  · rw [List.drop_append, List.drop_of_length_le (by omega), List.nil_append, show 256 - (blkL b i).length = 0 by omega, List.drop_zero]
theorem badL_out {b : List Int} {n : Nat} (h : b.length = 256 * n) {i : Nat} (hi : i < n) : badL (outL b n) i = false := by
  unfold badL
  rw [pcL_out h (Nat.le_refl n) hi, (piece_parts h hi).1, (piece_parts h hi).2, decide_eq_true rfl]
  rfl
theorem verify_out (k : Nat) (b : List Int) (n : Nat) (h : b.length = 256 * n) (h1 : 1 ≤ n) (hn : n ≤ 10000) (hin : AllIn b 0 255) (hk : 300 ≤ k) (hk2 : n < k) : frame_Verify k (outL b n) = some ([], 0) := by
  have e := verify_eq k (outL b n) n (outL_len h (Nat.le_refl n)) h1 hn (outL_in hin n) hk hk2
  have e2 : (List.range n).filter (badL (outL b n)) = [] := by
    rw [List.filter_eq_nil_iff]
    intro i hi
    rw [badL_out h (List.mem_range.mp hi)]
    simp
  rw [e, e2]
  rfl
theorem trimR_pad (x : List UInt8) (n : Nat) (h : ∀ b, x.getLast? = some b → b ≠ 32) : Go.Lib.trimRightB (x ++ List.replicate n 32) 32 = x := by
  unfold Go.Lib.trimRightB
  rw [List.reverse_append, List.reverse_replicate]
  have e : ∀ n : Nat, (List.replicate n (32 : UInt8) ++ x.reverse).dropWhile (· == 32) = x.reverse := by
    intro n
    induction n with
    | zero =>
      rw [List.replicate_zero, List.nil_append]
      cases hx : x.reverse with
      | nil => rfl
      | cons b l =>
        have : x.getLast? = some b := by rw [← List.head?_reverse, hx]; rfl
        rw [List.dropWhile_cons, if_neg (by simpa using h b this)]
    | succ n ih => rw [List.replicate_succ, List.cons_append, List.dropWhile_cons, if_pos (by decide), ih]
  rw [e, List.reverse_reverse]
theorem index_byte (c : UInt8) (r : List UInt8) : ∀ v : List UInt8, (∀ b ∈ v, b ≠ c) → Go.Lib.index (v ++ c :: r) [c] = (v.length : Int)
  | [], _ => by
    rw [List.nil_append, Go.Lib.index, if_pos (by simp [List.isPrefixOf])]
    rfl
  | b :: v, h => by
    have hb := h b (List.mem_cons_self ..)
    have := index_byte c r v (fun x hx => h x (List.mem_cons_of_mem _ hx))
    rw [List.cons_append, Go.Lib.index, if_neg (by simp [List.isPrefixOf]; exact fun e => hb e.symm), this, if_neg (by simp), List.length_cons]
    omega
theorem index_none (c : UInt8) : ∀ v : List UInt8, (∀ b ∈ v, b ≠ c) → Go.Lib.index v [c] = -1
  | [], _ => rfl
  | b :: v, h => by
    have hb := h b (List.mem_cons_self ..)
    have := index_none c v (fun x hx => h x (List.mem_cons_of_mem _ hx))
    rw [Go.Lib.index, if_neg (by simp [List.isPrefixOf]; exact fun e => hb e.symm), this]
    rfl
theorem cut_byte (c : UInt8) (v r : List UInt8) (h : ∀ b ∈ v, b ≠ c) : Go.Lib.cut (v ++ c :: r) [c] = (v, r, true) := by
  unfold Go.Lib.cut
  rw [index_byte c r v h, if_pos (by omega), Int.toNat_natCast]
  have e1 : (v ++ c :: r).take v.length = v := List.take_left ..
  have e2 : (v ++ c :: r).drop (v.length + [c].length) = r := by
    rw [List.drop_append, List.drop_of_length_le (by simp), List.nil_append]
    simp
  rw [e1, e2]
theorem cut_none (c : UInt8) (v : List UInt8) (h : ∀ b ∈ v, b ≠ c) : Go.Lib.cut v [c] = (v, [], false) := by
  unfold Go.Lib.cut
  rw [index_none c v h, if_neg (by decide)]
structure CRead (c : S_Card) : Prop where
  k8 : c.Key.data.toList.length ≤ 8
  ki : ∀ b ∈ c.Key.data.toList, b ≠ 32
  v0 : c.Value.data.toList ≠ []
  vi : ∀ b ∈ c.Value.data.toList, b ≠ 32
  ul : ∀ b ∈ c.Unit.data.toList, b ≠ 93
  nl : ∀ b, c.Note.data.toList.getLast? = some b → b ≠ 32
  t : (textL c).length ≤ 64
theorem drW_le (p : UInt8 → Bool) (l : List UInt8) : (l.dropWhile p).length ≤ l.length := (List.dropWhile_suffix p).length_le
theorem trim_last {l : List UInt8} (h : Go.Lib.trimSpace l = l) : ∀ b, l.getLast? = some b → b ≠ 32 := by
  intro b hb e
  subst e
  have hl : (Go.Lib.trimSpace l).length = l.length := congrArg List.length h
  unfold Go.Lib.trimSpace at hl
  obtain ⟨ys, rfl⟩ := List.getLast?_eq_some_iff.mp hb
  have h1 : ((ys ++ [32]).dropWhile Go.Lib.isSp).length ≤ (ys ++ [32]).length := drW_le _ _
  by_cases c : (ys ++ [32]).dropWhile Go.Lib.isSp = ys ++ [32]
  · rw [c, List.reverse_append, List.reverse_singleton, List.singleton_append, List.dropWhile_cons, if_pos (by decide), List.length_reverse] at hl
    have := drW_le Go.Lib.isSp ys.reverse
    rw [List.length_reverse] at this
    rw [List.length_append, List.length_singleton] at hl
    omega
  · have h2 : ((ys ++ [32]).dropWhile Go.Lib.isSp).length ≠ (ys ++ [32]).length := fun e => c ((List.dropWhile_suffix Go.Lib.isSp).eq_of_length e)
    have h3 := drW_le Go.Lib.isSp ((ys ++ [32]).dropWhile Go.Lib.isSp).reverse
    rw [List.length_reverse] at h3 hl
    omega
theorem CGood.read {c : S_Card} (h : CGood c) : CRead c := by
  have hki := h.ki; have hvi := h.vi; have hul := h.ul
  rw [List.all_eq_true] at hki hvi hul
  refine ⟨h.k8, fun b hb e => ?_, h.v0, fun b hb e => ?_, fun b hb e => ?_, trim_last h.ns, h.t⟩
  · have := hki b hb; rw [e] at this; exact absurd this (by decide)
  · have := hvi b hb; rw [e] at this; exact absurd this (by decide)
  · have := hul b hb; rw [e] at this; exact absurd this (by decide)
theorem trimP_hit (p r : List UInt8) : Go.Lib.trimPrefix (p ++ r) p = r := by
  unfold Go.Lib.trimPrefix Go.Lib.hasPrefix
  rw [if_pos (by simp), List.drop_left]
def restL (c : S_Card) : List UInt8 := c.Value.data.toList ++ (if c.Unit.data.toList = [] then [] else [32, 91] ++ c.Unit.data.toList ++ [93]) ++ (if c.Note.data.toList = [] then [] else [32, 47, 32] ++ c.Note.data.toList)
theorem last_app {a b : List UInt8} (hb : b ≠ []) : (a ++ b).getLast? = b.getLast? := by
  rw [List.getLast?_append]
  cases h : b.getLast? with
  | none => exact absurd (List.getLast?_eq_none_iff.mp h) hb
  | some x => rfl
theorem rest_last {c : S_Card} (h : CRead c) : ∀ b, (restL c).getLast? = some b → b ≠ 32 := by
  intro b hb
  unfold restL at hb
  by_cases cN : c.Note.data.toList = []
  · rw [ifp cN, List.append_nil] at hb
    by_cases cU : c.Unit.data.toList = []
    · rw [ifp cU, List.append_nil] at hb
      exact h.vi b (List.mem_of_getLast? hb)
    · rw [ifn cU, ← List.append_assoc, last_app (by simp)] at hb
      simp at hb
      rw [← hb]; decide
  · rw [ifn cN, ← List.append_assoc, last_app cN] at hb
    exact h.nl b hb
theorem card_read (k : Nat) (c : S_Card) (h : CRead c) : frame_card k ⟨(lineL (textL c)).toArray⟩ = some (c, true) := by
  obtain ⟨l1, l2, l3, l4⟩ := textL_len c
  have ht := h.t; have hk8 := h.k8
  have hlen := lineL_len h.t
  have hP : (c.Key.data.toList ++ List.replicate (8 - c.Key.data.toList.length) (32 : UInt8)).length = 8 := by rw [List.length_append, List.length_replicate]; omega
  have eT : lineL (textL c) = (c.Key.data.toList ++ List.replicate (8 - c.Key.data.toList.length) 32) ++ ([61, 32] ++ (restL c ++ List.replicate (64 - (textL c).length) 32)) := by
    unfold lineL restL
    have : textL c = (c.Key.data.toList ++ List.replicate (8 - c.Key.data.toList.length) 32) ++ ([61, 32] ++ restL c) := by
      unfold textL restL
      simp only [List.append_assoc]
    rw [this, show restL c = c.Value.data.toList ++ (if c.Unit.data.toList = [] then [] else [32, 91] ++ c.Unit.data.toList ++ [93]) ++ (if c.Note.data.toList = [] then [] else [32, 47, 32] ++ c.Note.data.toList) from rfl]
    simp only [List.append_assoc]
  generalize hn : 64 - (textL c).length = n at eT
  generalize hk' : 8 - c.Key.data.toList.length = m at eT hP
  generalize hPe : c.Key.data.toList ++ List.replicate m (32 : UInt8) = P at eT hP
  generalize hRe : restL c ++ List.replicate n (32 : UInt8) = R at eT
  rw [eT] at hlen ⊢
  have hR : R.length = 54 := by
    simp only [List.length_append, List.length_cons, List.length_nil] at hlen
    omega
  have c1 : scut ⟨(P ++ ([61, 32] ++ R)).toArray⟩ 8 10 = ⟨([61, 32] : List UInt8).toArray⟩ := by
    unfold scut
    rw [smk, show (8 : Int).toNat = P.length by rw [hP]; rfl, List.drop_left, show (10 : Int).toNat - P.length = ([61, 32] : List UInt8).length by rw [hP]; rfl, List.take_left]
  have c2 : scut ⟨(P ++ ([61, 32] ++ R)).toArray⟩ 0 8 = ⟨P.toArray⟩ := by
    unfold scut
    rw [smk, show (0 : Int).toNat = 0 from rfl, List.drop_zero, show (8 : Int).toNat - 0 = P.length by rw [hP]; rfl, List.take_left]
  have c3 : scut ⟨(P ++ ([61, 32] ++ R)).toArray⟩ 10 ((64 : Nat) : Int) = ⟨R.toArray⟩ := by
    unfold scut
    rw [smk, ← List.append_assoc, show (10 : Int).toNat = (P ++ [61, 32]).length by rw [List.length_append, hP]; rfl, List.drop_left, List.take_of_length_le (by rw [hR, List.length_append, hP, Int.toNat_natCast]; decide)]
  have tr : ∀ l : List UInt8, l.length ≤ 100000 → strings_TrimRight k ⟨l.toArray⟩ (⟨#[32]⟩ : ByteArray) = some ⟨(Go.Lib.trimRightB l 32).toArray⟩ := fun l hl => by
    unfold strings_TrimRight
    rw [smk_size, ifp (by omega), ifp rfl]
  have ct : ∀ (l : List UInt8) (b : UInt8), l.length ≤ 100000 → strings_Cut k ⟨l.toArray⟩ (⟨#[b]⟩ : ByteArray) = some (⟨(Go.Lib.cut l [b]).1.toArray⟩, ⟨(Go.Lib.cut l [b]).2.1.toArray⟩, (Go.Lib.cut l [b]).2.2) := fun l b hl => by
    unfold strings_Cut
    rw [smk_size, ifp (by omega)]
  have e1 : Go.Lib.trimRightB P 32 = c.Key.data.toList := by
    rw [← hPe]
    exact trimR_pad _ _ fun b hb => h.ki b (List.mem_of_getLast? hb)
  have e2 : Go.Lib.trimRightB R 32 = restL c := by
    rw [← hRe]
    exact trimR_pad _ _ (rest_last h)
  have hrl : (restL c).length ≤ 54 := by rw [← hRe, List.length_append] at hR; omega
  unfold frame_card
  rw [smk_size, hlen, ifn (by decide), ifp (by decide), c1, s_eqp rfl, ifn (by simp), ifp (by decide), c2, c3, bnd (tr P (by omega)), bnd (tr R (by omega)), e1, e2, bnd (ct _ 32 (by omega))]
  dsimp only
  obtain ⟨K, V, U, N⟩ := c
  have hv := h.vi; have hu := h.ul
  have hUb := l3; have hNb := l4
  unfold restL
  dsimp only at hv hu hUb hNb ⊢
  by_cases cU : U.data.toList = []
  · have hU : U = ⟨#[]⟩ := sx cU
    rw [ifp cU, List.append_nil]
    by_cases cN : N.data.toList = []
    · have hN : N = ⟨#[]⟩ := sx cN
      rw [ifp cN, List.append_nil, cut_none 32 _ hv, hU, hN]
      simp only [smk_of]
      rfl
    · rw [ifn cN, show V.data.toList ++ ([32, 47, 32] ++ N.data.toList) = V.data.toList ++ 32 :: ([47, 32] ++ N.data.toList) from rfl, cut_byte 32 _ _ hv, hU]
      simp only [smk_of]
      have p1 : strings_CutPrefix k ⟨([47, 32] ++ N.data.toList).toArray⟩ (⟨#[91]⟩ : ByteArray) = some (⟨([47, 32] ++ N.data.toList).toArray⟩, false) := rfl
      have p2 : strings_TrimPrefix k ⟨([47, 32] ++ N.data.toList).toArray⟩ (⟨#[47, 32]⟩ : ByteArray) = some N := by
        unfold strings_TrimPrefix
        rw [smk, show (⟨#[47, 32]⟩ : ByteArray).data.toList = [47, 32] from rfl, trimP_hit, smk_of]
      rw [bnd p1]
      dsimp only
      rw [ifn (by simp), bnd p2]
  · rw [ifn cU]
    have q : ∀ r : List UInt8, r.length ≤ 1000 → (Go.Lib.cut (V.data.toList ++ ([32, 91] ++ U.data.toList ++ [93]) ++ r) [32]) = (V.data.toList, [91] ++ (U.data.toList ++ 93 :: r), true) ∧
        strings_CutPrefix k ⟨([91] ++ (U.data.toList ++ 93 :: r)).toArray⟩ (⟨#[91]⟩ : ByteArray) = some (⟨(U.data.toList ++ 93 :: r).toArray⟩, true) ∧
        strings_Cut k ⟨(U.data.toList ++ 93 :: r).toArray⟩ (⟨#[93]⟩ : ByteArray) = some (U, ⟨r.toArray⟩, true) := fun r hr => by
      refine ⟨?_, ?_, ?_⟩
      · have := cut_byte 32 V.data.toList ([91] ++ (U.data.toList ++ 93 :: r)) hv
        rw [← this]
        simp only [List.append_assoc, List.cons_append, List.nil_append]
      · unfold strings_CutPrefix
        rw [smk, show (⟨#[91]⟩ : ByteArray).data.toList = [91] from rfl, trimP_hit]
        rfl
      · rw [ct _ 93 (by rw [List.length_append, List.length_cons]; omega), cut_byte 93 _ _ hu, smk_of]
    by_cases cN : N.data.toList = []
    · have hN : N = ⟨#[]⟩ := sx cN
      obtain ⟨q1, q2, q3⟩ := q [] (by decide)
      rw [ifp cN, q1]
      dsimp only
      rw [bnd q2]
      dsimp only
      rw [ifp rfl, bnd q3, smk_of, hN]
      rfl
    · rw [ifn cN]
      obtain ⟨q1, q2, q3⟩ := q ([32, 47, 32] ++ N.data.toList) (by rw [List.length_append]; show 3 + _ ≤ _; omega)
      rw [q1]
      dsimp only
      rw [bnd q2]
      dsimp only
      rw [ifp rfl, bnd q3, smk_of]
      dsimp only
      have p1 : strings_TrimPrefix k ⟨([32, 47, 32] ++ N.data.toList).toArray⟩ (⟨#[32]⟩ : ByteArray) = some ⟨([47, 32] ++ N.data.toList).toArray⟩ := by
        unfold strings_TrimPrefix
        rw [smk, show (⟨#[32]⟩ : ByteArray).data.toList = [32] from rfl, show [32, 47, 32] ++ N.data.toList = [32] ++ ([47, 32] ++ N.data.toList) from rfl, trimP_hit]
      have p2 : strings_TrimPrefix k ⟨([47, 32] ++ N.data.toList).toArray⟩ (⟨#[47, 32]⟩ : ByteArray) = some N := by
        unfold strings_TrimPrefix
        rw [smk, show (⟨#[47, 32]⟩ : ByteArray).data.toList = [47, 32] from rfl, trimP_hit, smk_of]
      rw [bnd p1, ifn (by simp), bnd p2]
theorem i64_or_sum (a b : Int) (i : Nat) (ha : 0 ≤ a) (hb0 : 0 ≤ b) (hb : b < 2 ^ i) (h : a * 2 ^ i + b < 4611686018427387904) : Go.bits .or .i64 (a * 2 ^ i) b = a * 2 ^ i + b := by
  obtain ⟨A, rfl⟩ := Int.eq_ofNat_of_zero_le ha
  obtain ⟨B, rfl⟩ := Int.eq_ofNat_of_zero_le hb0
  have e0 : ((A : Int) * 2 ^ i) = ((A * 2 ^ i : Nat) : Int) := by simp
  rw [e0] at h ⊢
  have hB : B < 2 ^ i := by
    have : ((B : Nat) : Int) < ((2 ^ i : Nat) : Int) := by simpa using hb
    omega
  have e1 : A * 2 ^ i ||| B = A * 2 ^ i + B := by
    rw [← Nat.shiftLeft_eq, Nat.shiftLeft_add_eq_or_of_lt hB]
  have hm1 : A * 2 ^ i % 2 ^ IntKind.i64.bits = A * 2 ^ i := Nat.mod_eq_of_lt (by show _ < 2 ^ 64; omega)
  have hm2 : B % 2 ^ IntKind.i64.bits = B := Nat.mod_eq_of_lt (by show _ < 2 ^ 64; omega)
  simp only [Go.bits, BitVec.ofInt_natCast, BitVec.toNat_or, BitVec.toNat_ofNat, hm1, hm2, e1]
  rw [IntKind.wrap_i64]
  omega
theorem flat_drop {α β : Type} {g : α → List β} {s : Nat} : ∀ {l : List α}, (∀ x ∈ l, (g x).length = s) → ∀ i, (l.flatMap g).drop (i * s) = (l.drop i).flatMap g
  | [], _, i => by simp
  | x :: l, h, 0 => by simp
  | x :: l, h, i + 1 => by
    have hx := h x (List.mem_cons_self ..)
    rw [List.flatMap_cons, List.drop_succ_cons, ← flat_drop (fun y hy => h y (List.mem_cons_of_mem _ hy)) i, Nat.add_mul, List.drop_append, List.drop_of_length_le (by omega), List.nil_append]
    congr 1
    omega
theorem dec_l0 (k : Nat) (b : List Int) (m : Nat) (hb : b.length = 256 * m) (hm : m ≤ 10000) : ∀ (d fuel i : Nat), i + d = m → d < fuel → frame_Decode.l0 k (outL b m) fuel (b.take (256 * i)) ((260 * i : Nat) : Int) = some b := by
  have hol := outL_len hb (Nat.le_refl m)
  intro d
  induction d with
  | zero =>
    intro fuel i h1 hf
    obtain ⟨fuel, rfl⟩ : ∃ q, fuel = q + 1 := ⟨fuel - 1, by omega⟩
    rw [frame_Decode.l0, ifn (by omega), List.take_of_length_le (by omega)]
  | succ d ih =>
    intro fuel i h1 hf
    obtain ⟨fuel, rfl⟩ : ∃ q, fuel = q + 1 := ⟨fuel - 1, by omega⟩
    have hbl := blkL_len hb (i := i) (by omega)
    have e0 : (((outL b m).take (((260 * i : Nat) : Int) + 256).toNat).drop ((260 * i : Nat) : Int).toNat) = blkL b i := by
      have hp := pcL_out hb (Nat.le_refl m) (i := i) (by omega)
      have hpp := piece_parts hb (i := i) (by omega)
      rw [← hpp.1, ← hp]
      unfold pcL
      rw [Int.toNat_natCast, show (((260 * i : Nat) : Int) + 256).toNat = 260 * i + 256 by omega, List.drop_take, List.take_take, show i * 260 = 260 * i by omega]
      congr 1
      omega
    rw [frame_Decode.l0, wid (x := ((260 * i : Nat) : Int) + 256) (by omega) (by omega), wid (x := ((260 * i : Nat) : Int) + 260) (by omega) (by omega), ifp (by omega), ifp (by omega), ifp (by omega), ifp (by omega), e0, ifp (by rw [List.length_take]; omega)]
    have e1 : b.take (256 * i) ++ blkL b i = b.take (256 * (i + 1)) := by
      unfold blkL
      rw [show i * 256 = 256 * i by omega, show 256 * (i + 1) = 256 * i + 256 by omega, List.take_add]
    rw [e1, show ((260 * i : Nat) : Int) + 260 = ((260 * (i + 1) : Nat) : Int) by omega]
    exact ih fuel (i + 1) (by omega) (by omega)
theorem bstr_sb (l : List UInt8) : bstr (sb l) = ⟨l.toArray⟩ := by
  refine sx ?_
  rw [bstr_data, smk, sb, List.map_map]
  have : ((fun n : Int => UInt8.ofNat n.toNat) ∘ fun b : UInt8 => (b.toNat : Int)) = id := by
    funext b
    simp
  rw [this, List.map_id]
theorem sb_app (a b : List UInt8) : sb (a ++ b) = sb a ++ sb b := List.map_append
theorem sb_len (a : List UInt8) : (sb a).length = a.length := List.length_map ..
theorem trimR_line (k : Nat) (t : List UInt8) (ht : t.length ≤ 64) (h : ∀ b, t.getLast? = some b → b ≠ 32) : strings_TrimRight k ⟨(lineL t).toArray⟩ (⟨#[32]⟩ : ByteArray) = some ⟨t.toArray⟩ := by
  have hl := lineL_len ht
  unfold strings_TrimRight
  rw [smk_size, ifp (by omega), ifp rfl, smk]
  unfold lineL
  rw [trimR_pad _ _ h]
theorem text_last {c : S_Card} (h : CRead c) : ∀ b, (textL c).getLast? = some b → b ≠ 32 := by
  intro b hb
  have : textL c = (c.Key.data.toList ++ List.replicate (8 - c.Key.data.toList.length) 32 ++ [61, 32]) ++ restL c := by
    unfold textL restL
    simp only [List.append_assoc]
  rw [this, last_app] at hb
  · exact rest_last h b hb
  · intro e
    have := h.v0
    unfold restL at e
    simp only [List.append_eq_nil_iff] at e
    exact this e.1.1
theorem dec_l1 (k : Nat) (cs : List S_Card) (hc : ∀ c ∈ cs, CRead c) (hn : cs.length ≤ 31) (tl : List Int) : ∀ (d fuel i : Nat), i + d = cs.length → d < fuel → frame_Decode.l1 k (sb (linesL cs) ++ (sb (lineL [69, 78, 68]) ++ tl)) fuel (cs.take i) ((64 * i : Nat) : Int) = some (Sum.inr (cs, ((64 * cs.length : Nat) : Int))) := by
  have hL := linesL_len (fun c h => (hc c h).t)
  have hE := lineL_len (t := [69, 78, 68]) (by decide)
  have hbl : (sb (linesL cs) ++ (sb (lineL [69, 78, 68]) ++ tl)).length = 64 * cs.length + (64 + tl.length) := by rw [List.length_append, List.length_append, sb_len, sb_len, hL, hE]
  have hdr : ∀ i, i ≤ cs.length → (sb (linesL cs) ++ (sb (lineL [69, 78, 68]) ++ tl)).drop (64 * i) = sb (linesL (cs.drop i)) ++ (sb (lineL [69, 78, 68]) ++ tl) := fun i hi => by
    rw [List.drop_append_of_le_length (by rw [sb_len, hL]; omega), sb, sb, ← List.map_drop, show 64 * i = i * 64 by omega]
    unfold linesL
    rw [flat_drop (fun c h => lineL_len (hc c h).t)]
    rfl
  intro d
  induction d with
  | zero =>
    intro fuel i h1 hf
    obtain ⟨fuel, rfl⟩ : ∃ q, fuel = q + 1 := ⟨fuel - 1, by omega⟩
    obtain rfl : i = cs.length := by omega
    generalize hB : (sb (linesL cs) ++ (sb (lineL [69, 78, 68]) ++ tl)) = B at *
    have e0 : ((B.take (((64 * cs.length : Nat) : Int) + 64).toNat).drop ((64 * cs.length : Nat) : Int).toNat) = sb (lineL [69, 78, 68]) := by
      rw [Int.toNat_natCast, show (((64 * cs.length : Nat) : Int) + 64).toNat = 64 * cs.length + 64 by omega, List.drop_take, hdr _ (Nat.le_refl _), List.drop_of_length_le (Nat.le_refl _), show 64 * cs.length + 64 - 64 * cs.length = (sb (lineL [69, 78, 68])).length by rw [sb_len, hE]; omega]
      show (([] : List Int) ++ (sb (lineL [69, 78, 68]) ++ tl)).take _ = _
      rw [List.nil_append, List.take_left]
    rw [frame_Decode.l1, ifp (by omega), ifp (by omega)]
    by_cases big : ((64 * cs.length : Nat) : Int) + 64 ≤ 4611686018427387904
    · rw [wid (x := ((64 * cs.length : Nat) : Int) + 64) (by omega) (by omega), ifp (by omega), ifp (by omega), e0, bstr_sb, bnd (trimR_line k [69, 78, 68] (by decide) (by decide)), s_eqp rfl, ifn (by simp), List.take_of_length_le (by omega)]
    · omega
  | succ d ih =>
    intro fuel i h1 hf
    obtain ⟨fuel, rfl⟩ : ∃ q, fuel = q + 1 := ⟨fuel - 1, by omega⟩
    have hm := hc _ (rd_mem (l := cs) (i := (i : Int)) (by omega) (by omega))
    generalize hB : (sb (linesL cs) ++ (sb (lineL [69, 78, 68]) ++ tl)) = B at *
    have e0 : ((B.take (((64 * i : Nat) : Int) + 64).toNat).drop ((64 * i : Nat) : Int).toNat) = sb (lineL (textL (rd cs (i : Int)))) := by
      rw [Int.toNat_natCast, show (((64 * i : Nat) : Int) + 64).toNat = 64 * i + 64 by omega, List.drop_take, hdr i (by omega), drop_rd cs i (by omega), linesL_cons, sb_app, List.append_assoc, show 64 * i + 64 - 64 * i = (sb (lineL (textL (rd cs (i : Int))))).length by rw [sb_len, lineL_len hm.t]; omega, List.take_left]
    rw [frame_Decode.l1, ifp (by omega), ifp (by omega), wid (x := ((64 * i : Nat) : Int) + 64) (by omega) (by omega), ifp (by omega), ifp (by omega), e0, bstr_sb, bnd (trimR_line k _ hm.t (text_last hm)), s_eqn, ifp (by simp), bnd (card_read k _ hm)]
    · dsimp only
      rw [ifn (by simp), ifn (by rw [List.length_take]; omega), ifp (by rw [List.length_take]; omega)]
      have e1 : cs.take i ++ [rd cs (i : Int)] = cs.take (i + 1) := by
        obtain ⟨g1, g2⟩ := rd_lt (xs := cs) (i := (i : Int)) (by omega) (by omega)
        rw [g2, List.take_succ_eq_append_getElem (by omega)]
        rfl
      rw [e1, show ((64 * i : Nat) : Int) + 64 = ((64 * (i + 1) : Nat) : Int) by omega]
      exact ih fuel (i + 1) (by omega) (by omega)
    · intro e
      have := congrArg List.length e
      rw [smk] at this
      have h3 : (textL (rd cs (i : Int))).length = 3 := this
      unfold textL at h3
      simp only [List.length_append, List.length_cons, List.length_nil, List.length_replicate] at h3
      omega
theorem atoi1 : ∀ m, m < 10 → (match Go.Lib.atoiAll [UInt8.ofNat (48 + m)] with | .ok v => some v | _ => none) = some (m : Int) := by decide
theorem atoi2 : ∀ m, m < 100 → ¬ m < 10 → (match Go.Lib.atoiAll [UInt8.ofNat (48 + m / 10), UInt8.ofNat (48 + m % 10)] with | .ok v => some v | _ => none) = some (m : Int) := by decide
theorem atoi_eq (k : Nat) (n : Int) (h0 : 0 ≤ n) (h1 : n < 100) : strconv_Atoi k (numeral n) = some n := by
  obtain ⟨m, rfl⟩ : ∃ m : Nat, n = m := ⟨n.toNat, by omega⟩
  have := numeral_size (n := (m : Int)) (by omega) (by omega)
  unfold strconv_Atoi
  rw [ifp (by rw [ssz]; omega)]
  show (match Go.Lib.atoiAll (Go.Lib.itoa (m : Int)) with | .ok v => some v | _ => none) = some (m : Int)
  rw [Go.Lib.itoa_nonneg]
  by_cases c : m < 10
  · rw [Go.Lib.decDigits_one c]
    exact atoi1 m c
  · rw [Go.Lib.decDigits_two c (by omega)]
    exact atoi2 m (by omega) c
theorem whole_l1 (k : Nat) (data : List Int) (size x n : Int) (hs : 1 ≤ size ∧ size ≤ 2) (hn : 0 ≤ n ∧ n ≤ 65535) (h1 : size = 1 → n ≤ 255) (hsl : ((data.take (w64 ((w64 (x + 1)) * size)).toNat).drop (w64 (x * size)).toNat) = cntL size n) (hk : 10 ≤ k) : frame_whole.l1 k data x size k 0 0 = some n := by
  obtain ⟨k', rfl⟩ : ∃ q, k = q + 10 := ⟨k - 10, by omega⟩
  have z : w64 ((0 : Int) * 2 ^ 8) = 0 * 2 ^ 8 := by decide
  rcases (show size = 1 ∨ size = 2 by omega) with rfl | rfl
  · have e : cntL 1 n = [n % 256] := if_neg (by decide)
    rw [e] at hsl
    have r0 : rd [n % 256] 0 = n % 256 := rfl
    have := i64_or_sum 0 (n % 256) 8 (by decide) (by omega) (by omega) (by omega)
    rw [frame_whole.l1, hsl, ifp (by show (0 : Int) < 1; decide), ifp (by decide), r0, z, wid (x := n % 256) (by omega) (by omega), this, frame_whole.l1, hsl, ifn (by show ¬ w64 (0 + 1) < 1; decide)]
    have := h1 rfl
    congr 1; omega
  · have e : cntL 2 n = [n / 256, n % 256] := if_pos rfl
    rw [e] at hsl
    have r0 : rd [n / 256, n % 256] 0 = n / 256 := rfl
    have r1 : rd [n / 256, n % 256] 1 = n % 256 := rfl
    have o0 := i64_or_sum 0 (n / 256) 8 (by decide) (by omega) (by omega) (by omega)
    have o1 := i64_or_sum (n / 256) (n % 256) 8 (by omega) (by omega) (by omega) (by omega)
    have w1 : w64 ((0 : Int) + 1) = 1 := by decide
    rw [frame_whole.l1, hsl, ifp (by show (0 : Int) < 2; decide), ifp (by decide), r0, z, wid (x := n / 256) (by omega) (by omega), o0, w1, frame_whole.l1, hsl, ifp (by show (1 : Int) < 2; decide), ifp (by decide), r1, Int.zero_mul, Int.zero_add, wid (x := n / 256 * 2 ^ 8) (by omega) (by omega), wid (x := n % 256) (by omega) (by omega), o1, frame_whole.l1, hsl, ifn (by show ¬ w64 (1 + 1) < 2; decide)]
    congr 1; omega
theorem sizeL_one {l : List Int} (h : sizeL l = 1) : ∀ n ∈ l, n ≤ 255 := by
  intro n hn
  unfold sizeL at h
  split at h
  · cases h
  · rename_i c
    rw [List.any_eq_true] at c
    rcases Int.lt_or_le 255 n with g | g
    · exact absurd ⟨n, hn, decide_eq_true g⟩ c
    · exact g
theorem whole_l0 (k : Nat) (f : S_Frame) (h : FGoodC f) (tl : List Int) (hk : 10 ≤ k) : ∀ (d fuel i : Nat), i + d = f.Counts.length → d < fuel → frame_whole.l0 k f.W f.H (sizeL f.Counts) (dataL f ++ tl) fuel (i : Int) (f.Counts.take i) = some f.Counts := by
  have hlim := h.lim
  have hs := sizeL_in f.Counts
  have hdl := dataL_len f
  have hl := h.l
  have hsn : (sizeL f.Counts).toNat = 1 ∨ (sizeL f.Counts).toNat = 2 := by omega
  generalize hS : sizeL f.Counts = size at *
  obtain ⟨s, rfl⟩ : ∃ s : Nat, size = s := ⟨size.toNat, by omega⟩
  rw [Int.toNat_natCast] at hdl hsn
  intro d
  induction d with
  | zero =>
    intro fuel i h1 hf
    obtain ⟨fuel, rfl⟩ : ∃ q, fuel = q + 1 := ⟨fuel - 1, by omega⟩
    rw [frame_whole.l0, wid (x := f.W * f.H) (by omega) (by omega), ifn (by omega), List.take_of_length_le (by omega)]
  | succ d ih =>
    intro fuel i h1 hf
    obtain ⟨fuel, rfl⟩ : ∃ q, fuel = q + 1 := ⟨fuel - 1, by omega⟩
    have hm := h.c.rd (i := (i : Int)) (by omega) (by omega)
    have hmem := rd_mem (l := f.Counts) (i := (i : Int)) (by omega) (by omega)
    have b1 : i * s ≤ f.Counts.length * s := Nat.mul_le_mul_right _ (by omega)
    have b2 : (i + 1) * s ≤ f.Counts.length * s := Nat.mul_le_mul_right _ (by omega)
    have b3 : f.Counts.length * s ≤ 1024 * s := Nat.mul_le_mul_right _ (by omega)
    have w1 : w64 ((i : Int) * (s : Int)) = ((i * s : Nat) : Int) := by
      rw [← Int.natCast_mul]; exact wid (by omega) (by omega)
    have w2 : w64 (w64 ((i : Int) + 1) * (s : Int)) = (((i + 1) * s : Nat) : Int) := by
      rw [wid (x := (i : Int) + 1) (by omega) (by omega), show (i : Int) + 1 = ((i + 1 : Nat) : Int) by omega, ← Int.natCast_mul]; exact wid (by omega) (by omega)
    have hsl : ((dataL f ++ tl).take (w64 ((w64 ((i : Int) + 1)) * (s : Int))).toNat).drop (w64 ((i : Int) * (s : Int))).toNat = cntL (s : Int) (rd f.Counts (i : Int)) := by
      have hcl : ∀ n : Int, (cntL (s : Int) n).length = s := fun n => by rw [cntL_len hs, Int.toNat_natCast]
      rw [w1, w2, Int.toNat_natCast, Int.toNat_natCast, take_drop_blk, List.drop_append_of_le_length (by omega)]
      unfold dataL
      rw [hS, flat_drop (s := s) (fun n _ => hcl n), drop_rd f.Counts i (by omega), List.flatMap_cons, List.append_assoc]
      have := List.take_left (l₁ := cntL (s : Int) (rd f.Counts (i : Int))) (l₂ := List.flatMap (cntL ↑s) (List.drop (i + 1) f.Counts) ++ tl)
      rw [hcl] at this
      exact this
    have e1 := whole_l1 k (dataL f ++ tl) (s : Int) (i : Int) (rd f.Counts (i : Int)) hs hm (fun e => sizeL_one (hS.trans e) _ hmem) hsl hk
    have e2 : f.Counts.take i ++ [rd f.Counts (i : Int)] = f.Counts.take (i + 1) := by
      obtain ⟨g1, g2⟩ := rd_lt (xs := f.Counts) (i := (i : Int)) (by omega) (by omega)
      rw [g2, List.take_succ_eq_append_getElem (by omega)]
      rfl
    have b4 : i * s ≤ (i + 1) * s := Nat.mul_le_mul_right _ (by omega)
    rw [frame_whole.l0, wid (x := f.W * f.H) (by omega) (by omega), ifp (by omega), ifp (by rw [w1]; omega), ifp (by rw [w1, w2]; omega), ifp (by rw [w2, List.length_append]; omega), bnd e1, ifp (by rw [List.length_take]; omega), e2, wid (x := (i : Int) + 1) (by omega) (by omega), show (i : Int) + 1 = ((i + 1 : Nat) : Int) by omega]
    exact ih fuel (i + 1) (by omega) (by omega)
theorem whole_eq (k : Nat) (f : S_Frame) (h : FGoodC f) (tl : List Int) (hk : 2000 ≤ k) : frame_whole k (cardsL f (sizeL f.Counts)) (dataL f ++ tl) = some (f, true) := by
  have hw0 := h.W0; have hw1 := h.W1; have hh0 := h.H0; have hh1 := h.H1; have hn := h.n
  have hs := sizeL_in f.Counts
  have hl := h.l
  have hlim := h.lim
  have hdl := dataL_len f
  have hcl := cardsL_len f (sizeL f.Counts)
  have r0 : rd (cardsL f (sizeL f.Counts)) 0 = (⟨(⟨#[87, 73, 68, 84, 72]⟩ : ByteArray), numeral f.W, (⟨#[]⟩ : ByteArray), (⟨#[]⟩ : ByteArray)⟩ : S_Card) := rfl
  have r1 : rd (cardsL f (sizeL f.Counts)) 1 = (⟨(⟨#[72, 69, 73, 71, 72, 84]⟩ : ByteArray), numeral f.H, (⟨#[]⟩ : ByteArray), (⟨#[]⟩ : ByteArray)⟩ : S_Card) := rfl
  have r2 : rd (cardsL f (sizeL f.Counts)) 2 = (⟨(⟨#[66, 89, 84, 69, 83]⟩ : ByteArray), numeral (sizeL f.Counts), (⟨#[]⟩ : ByteArray), (⟨#[]⟩ : ByteArray)⟩ : S_Card) := rfl
  have hd : (cardsL f (sizeL f.Counts)).drop (3 : Int).toNat = f.Cards := rfl
  have e0 : frame_whole.l0 k f.W f.H (sizeL f.Counts) (dataL f ++ tl) k 0 [] = some f.Counts := whole_l0 k f h tl (by omega) f.Counts.length k 0 (by omega) (by omega)
  have hmul : w64 (w64 (f.W * f.H) * sizeL f.Counts) ≤ ((dataL f ++ tl).length : Int) := by
    rw [wid (x := f.W * f.H) (by omega) (by omega), ← hl, List.length_append, hdl]
    rcases (show sizeL f.Counts = 1 ∨ sizeL f.Counts = 2 by omega) with e | e
    · rw [e, wid (by omega) (by omega), show (1 : Int).toNat = 1 from rfl]; omega
    · rw [e, wid (by omega) (by omega), show (2 : Int).toNat = 2 from rfl]; omega
  unfold frame_whole
  rw [ifn (by omega), ifp (by omega), r0, bnd (atoi_eq k _ (by omega) (by omega)), ifn (by omega), ifn (by omega), ifn (by omega), ifp (by omega), r1, bnd (atoi_eq k _ (by omega) (by omega)), ifn (by omega), ifn (by omega), ifn (by omega), ifp (by omega), r2, bnd (atoi_eq k _ (by omega) (by omega)), ifn (by omega), ifn (by omega), ifp (by omega), ifn (by omega), ifn (by omega), bnd e0, hd]
theorem own_read (K : ByteArray) (n : Int) (hK : K.data.toList.length ≤ 8) (hk : ∀ b ∈ K.data.toList, b ≠ 32) (h0 : 0 ≤ n) (h1 : n < 100) : CRead (⟨K, numeral n, ⟨#[]⟩, ⟨#[]⟩⟩ : S_Card) := by
  have hd : ∀ m, m < 10 → ∀ b ∈ [UInt8.ofNat (48 + m)], b ≠ 32 := by decide
  have hd2 : ∀ m, m < 100 → ∀ b ∈ [UInt8.ofNat (48 + m / 10), UInt8.ofNat (48 + m % 10)], b ≠ 32 := by decide
  obtain ⟨m, rfl⟩ : ∃ m : Nat, n = m := ⟨n.toNat, by omega⟩
  have hnum : (numeral (m : Int)).data.toList = Go.Lib.decDigits m := Go.Lib.itoa_nonneg m
  refine ⟨hK, hk, ?_, ?_, fun b hb => (by cases hb), fun b hb => (by cases hb), ?_⟩
  · show (numeral (m : Int)).data.toList ≠ []
    rw [hnum]
    by_cases c : m < 10
    · rw [Go.Lib.decDigits_one c]; simp
    · rw [Go.Lib.decDigits_two c (by omega)]; simp
  · show ∀ b ∈ (numeral (m : Int)).data.toList, b ≠ 32
    rw [hnum]
    by_cases c : m < 10
    · rw [Go.Lib.decDigits_one c]; exact hd m c
    · rw [Go.Lib.decDigits_two c (by omega)]; exact hd2 m (by omega)
  · have := numeral_size (n := (m : Int)) (by omega) (by omega)
    unfold textL
    rw [ifp rfl, ifp rfl]
    simp only [List.length_append, List.length_replicate, List.length_cons, List.length_nil]
    omega
theorem cardsL_read {f : S_Frame} (h : FGoodC f) : ∀ c ∈ cardsL f (sizeL f.Counts), CRead c := by
  have hw0 := h.W0; have hw1 := h.W1; have hh0 := h.H0; have hh1 := h.H1
  have hs := sizeL_in f.Counts
  intro c hc
  unfold cardsL at hc
  rcases List.mem_append.mp hc with hc | hc
  · simp only [List.mem_cons, List.not_mem_nil, or_false] at hc
    rcases hc with rfl | rfl | rfl
    · exact own_read _ _ (by decide) (by decide) (by omega) (by omega)
    · exact own_read _ _ (by decide) (by decide) (by omega) (by omega)
    · exact own_read _ _ (by decide) (by decide) (by omega) (by omega)
  · exact (h.g c hc).read
theorem decode_eq (k : Nat) (f : S_Frame) (h : FGoodC f) (hk : 3000 ≤ k) : frame_Decode k (outL (bodyL f) (blocksN f)) = some (f, 0) := by
  have hb := bodyL_len h
  have hlim := blocksN_lim h
  have hn := h.n
  have hcl := cardsL_len f (sizeL f.Counts)
  have e0 : frame_Decode.l0 k (outL (bodyL f) (blocksN f)) k [] 0 = some (bodyL f) := dec_l0 k (bodyL f) (blocksN f) hb (by omega) (blocksN f) k 0 (by omega) (by omega)
  have hbody : bodyL f = sb (linesL (cardsL f (sizeL f.Counts))) ++ (sb (lineL [69, 78, 68]) ++ (sb (List.replicate (padN (64 * ((cardsL f (sizeL f.Counts)).length + 1))) 32) ++ (dataL f ++ List.replicate (padN (dataL f).length) 0))) := by
    unfold bodyL headL
    rw [sb_app, sb_app]
    simp only [List.append_assoc]
  have e1 : frame_Decode.l1 k (bodyL f) k [] 0 = some (Sum.inr (cardsL f (sizeL f.Counts), ((64 * (cardsL f (sizeL f.Counts)).length : Nat) : Int))) := by
    rw [hbody]
    exact dec_l1 k _ (cardsL_read h) (by omega) _ (cardsL f (sizeL f.Counts)).length k 0 (by omega) (by omega)
  have hH := headL_len f (sizeL f.Counts) (fun c hc => (cardsL_ok h _ (sizeL_in _) c hc).1)
  have hat : mn ((bodyL f).length : Int) (w64 ((w64 ((w64 (Int.tdiv ((64 * (cardsL f (sizeL f.Counts)).length : Nat) : Int) 256)) + 1)) * 256)) = ((headL f (sizeL f.Counts)).length : Int) := by
    have hle : (headL f (sizeL f.Counts)).length ≤ (bodyL f).length := by
      unfold bodyL
      rw [List.length_append, List.length_append, sb_len]; omega
    rw [tdiv_nn (by omega), wid (x := ((64 * (cardsL f (sizeL f.Counts)).length : Nat) : Int) / 256) (by omega) (by omega), wid (x := ((64 * (cardsL f (sizeL f.Counts)).length : Nat) : Int) / 256 + 1) (by omega) (by omega), wid (by omega) (by omega)]
    unfold mn
    split <;> omega
  have hdrop : (bodyL f).drop (headL f (sizeL f.Counts)).length = dataL f ++ List.replicate (padN (dataL f).length) 0 := by
    unfold bodyL
    rw [List.append_assoc, ← sb_len, List.drop_left]
  have hle : (headL f (sizeL f.Counts)).length ≤ (bodyL f).length := by
    unfold bodyL
    rw [List.length_append, List.length_append, sb_len]; omega
  unfold frame_Decode
  rw [bnd (verify_out k (bodyL f) (blocksN f) hb (by omega) (by omega) (bodyL_in h) (by omega) (by omega))]
  dsimp only
  rw [ifn (by simp), ifn (by simp), bnd e0, bnd e1]
  dsimp only [Sum.elim_inr]
  rw [hat, ifp (by omega), ifp (by omega), Int.toNat_natCast, hdrop, bnd (whole_eq k f h _ (by omega))]
  dsimp only
  rw [ifn (by simp), bnd (encode_eq k f h hk)]
  dsimp only
  rw [ifn (by simp), s_eqp rfl, ifn (by simp)]
def kOk (k : ByteArray) : Bool := decide (k.data.toList.length ≤ 8) && (upB (k.data.toList.headD 0) && (k.data.toList.all inKeyB && !ownL k.data.toList))
def vOk (v : ByteArray) : Bool := decide (v.data.toList ≠ []) && (decide (v.data.toList.length ≤ 20) && v.data.toList.all inkedB)
def uOk (u : ByteArray) : Bool := decide (u.data.toList.length ≤ 8) && u.data.toList.all lowerB
def nOk (n : ByteArray) : Bool := decide (n.data.toList.length ≤ 20) && (n.data.toList.all typedB && decide (Go.Lib.trimSpace n.data.toList = n.data.toList))
theorem CGood.of {K V U N : ByteArray} (hK : kOk K = true) (hV : vOk V = true) (hU : uOk U = true) (hN : nOk N = true) : CGood ⟨K, V, U, N⟩ := by
  unfold kOk at hK; unfold vOk at hV; unfold uOk at hU; unfold nOk at hN
  simp only [Bool.and_eq_true, decide_eq_true_eq, Bool.not_eq_true'] at hK hV hU hN
  obtain ⟨k1, k2, k3, k4⟩ := hK
  obtain ⟨v1, v2, v3⟩ := hV
  obtain ⟨u1, u2⟩ := hU
  obtain ⟨n1, n2, n3⟩ := hN
  refine ⟨k1, k2, k3, k4, v1, v2, v3, u1, u2, n2, n3, ?_⟩
  unfold textL
  dsimp only
  have e1 : (if U.data.toList = [] then ([] : List UInt8) else [32, 91] ++ U.data.toList ++ [93]).length ≤ 3 + U.data.toList.length := by
    split
    · simp
    · simp only [List.length_append, List.length_cons, List.length_nil]; omega
  have e2 : (if N.data.toList = [] then ([] : List UInt8) else [32, 47, 32] ++ N.data.toList).length ≤ 3 + N.data.toList.length := by
    split
    · simp
    · simp only [List.length_append, List.length_cons, List.length_nil]; omega
  simp only [List.length_append, List.length_cons, List.length_nil, List.length_replicate]
  omega
theorem dd_digits : ∀ (u : Nat), ∀ b ∈ Go.Lib.decDigits u, 48 ≤ b.toNat ∧ b.toNat ≤ 57 := by
  have one : ∀ m, m < 10 → 48 ≤ (UInt8.ofNat (48 + m)).toNat ∧ (UInt8.ofNat (48 + m)).toNat ≤ 57 := by decide
  intro u
  induction u using Nat.strongRecOn with
  | _ u ih =>
    intro b hb
    rw [Go.Lib.decDigits] at hb
    split at hb
    · rename_i h
      rw [List.mem_singleton] at hb
      rw [hb]; exact one u h
    · rename_i h
      rcases List.mem_append.mp hb with hb | hb
      · exact ih (u / 10) (by omega) b hb
      · rw [List.mem_singleton] at hb
        rw [hb]; exact one (u % 10) (by omega)
theorem nDigits_lim : ∀ (k u : Nat), u < 10 ^ (k + 1) → Go.Lib.nDigits u ≤ k + 1
  | 0, u, h => by rw [Go.Lib.nDigits_small (by simpa using h)]; omega
  | k + 1, u, h => by
    by_cases c : u < 10
    · rw [Go.Lib.nDigits_small c]; omega
    · rw [Go.Lib.nDigits_big c]
      have := nDigits_lim k (u / 10) (by rw [Nat.pow_succ] at h; omega)
      omega
theorem num_vOk {n : Int} (h0 : -1000000000000 ≤ n) (h1 : n ≤ 1000000000000) : vOk (numeral n) = true := by
  have dd : ∀ u : Nat, u < 10 ^ 13 → Go.Lib.decDigits u ≠ [] ∧ (Go.Lib.decDigits u).length ≤ 13 ∧ (Go.Lib.decDigits u).all inkedB = true := fun u hu => by
    have e := Go.Lib.decDigits_length u
    have p := Go.Lib.nDigits_pos u
    refine ⟨fun e2 => ?_, ?_, ?_⟩
    · rw [e2, List.length_nil] at e; omega
    · rw [e]; exact nDigits_lim 12 u hu
    · rw [List.all_eq_true]
      intro b hb
      have := dd_digits u b hb
      unfold inkedB
      rw [decide_eq_true (by omega), decide_eq_true (by omega)]
      rfl
  have hd : (numeral n).data.toList = Go.Lib.itoa n := rfl
  unfold vOk
  rw [hd]
  by_cases c : n < 0
  · obtain ⟨u, rfl⟩ : ∃ u : Nat, n = -(u : Int) := ⟨n.natAbs, by omega⟩
    obtain ⟨d1, d2, d3⟩ := dd u (by omega)
    rw [Go.Lib.itoa_neg u (by omega), decide_eq_true (by simp), decide_eq_true (by rw [List.length_cons]; omega), List.all_cons, d3]
    decide
  · obtain ⟨u, rfl⟩ : ∃ u : Nat, n = u := ⟨n.toNat, by omega⟩
    obtain ⟨d1, d2, d3⟩ := dd u (by omega)
    rw [Go.Lib.itoa_nonneg, decide_eq_true d1, decide_eq_true (by omega), d3]
    rfl
def Sml (x : Int) : Prop := -1000000000000 ≤ x ∧ x ≤ 1000000000000
theorem bind_ite {α β : Type} {c : Prop} [Decidable c] {x y : Option α} {g : α → Option β} {Q : Option β → Prop} (P : α → Prop) (hx : c → ∃ v, x = some v ∧ P v) (hy : ¬ c → ∃ v, y = some v ∧ P v) (hg : ∀ v, P v → Q (g v)) : Q ((if c then x else y).bind g) := by
  by_cases h : c
  · obtain ⟨v, e, p⟩ := hx h
    rw [ifp h, bnd e]; exact hg v p
  · obtain ⟨v, e, p⟩ := hy h
    rw [ifn h, bnd e]; exact hg v p
theorem next_b {β : Type} {Q : Option β → Prop} {g : Int × Int → Option β} (k : Nat) (L : List Int) (a n : Int) (h1 : 1 ≤ n) (h2 : n ≤ 4611686018427387904) (a0 : 0 ≤ a) (a1 : a ≤ 4611686018427387904) (h : ∀ v, 0 ≤ v → v < n → Q (g (v, a + 1))) : Q ((spymake_Stream_Next k ⟨L, a⟩ n).bind g) := by
  obtain ⟨v, e, v0, v1⟩ := next_ex k L a n h1 h2 a0 a1
  rw [bnd e]; exact h v v0 v1
theorem range_b {β : Type} {Q : Option β → Prop} {g : Int × Int → Option β} (k : Nat) (L : List Int) (a lo hi : Int) (h1 : lo ≤ hi) (h2 : hi - lo ≤ 1073741824) (h3 : -4611686018427387904 ≤ lo) (h4 : hi ≤ 4611686018427387904) (a0 : 0 ≤ a) (a1 : a ≤ 4611686018427387904) (h : ∀ v, lo ≤ v → v ≤ hi → Q (g (v, a + 1))) : Q ((spymake_Stream_Range k ⟨L, a⟩ lo hi).bind g) := by
  obtain ⟨v, e, v0, v1⟩ := range_ex k L a lo hi h1 h2 h3 h4 a0 a1
  rw [bnd e]; exact h v v0 v1
structure PGood (p : S_Plate) : Prop where
  A : Sml p.A
  B : Sml p.B
  C : Sml p.C
  D : Sml p.D
def PAns (a : Int) (e : Option (S_Plate × Int)) : Prop := ∃ p a', e = some (p, a') ∧ a ≤ a' ∧ a' ≤ a + 5 ∧ PGood p
theorem plate_ex (k : Nat) (L : List Int) (a : Int) (a0 : 0 ≤ a) (a1 : a ≤ 2000000) : PAns a (spymake_Stream_Plate k ⟨L, a⟩) := by
  unfold spymake_Stream_Plate
  refine next_b k L a 3 (by decide) (by decide) (by omega) (by omega) fun v v0 v1 => ?_
  dsimp only
  obtain ⟨m, hm, m0, m1⟩ : ∃ m, rd ([2, 30, 1024] : List Int) v = m ∧ 2 ≤ m ∧ m ≤ 1024 := by
    rcases (show v = 0 ∨ v = 1 ∨ v = 2 by omega) with rfl | rfl | rfl <;> exact ⟨_, rfl, by decide, by decide⟩
  rw [ifp v0, ifp (by show v < 3; exact v1), hm, wid (x := 0 - m) (by omega) (by omega)]
  refine range_b k L (a + 1) (0 - m) m (by omega) (by omega) (by omega) (by omega) (by omega) (by omega) fun A A0 A1 => ?_
  dsimp only
  refine range_b k L (a + 1 + 1) (0 - m) m (by omega) (by omega) (by omega) (by omega) (by omega) (by omega) fun B B0 B1 => ?_
  dsimp only
  refine range_b k L (a + 1 + 1 + 1) (0 - m) m (by omega) (by omega) (by omega) (by omega) (by omega) (by omega) fun C C0 C1 => ?_
  dsimp only
  refine range_b k L (a + 1 + 1 + 1 + 1) (0 - m) m (by omega) (by omega) (by omega) (by omega) (by omega) (by omega) fun D D0 D1 => ?_
  dsimp only
  split
  · exact ⟨_, _, rfl, by omega, by omega, ⟨by dsimp only; omega, by dsimp only; omega⟩, ⟨by dsimp only; omega, by dsimp only; omega⟩, ⟨by dsimp only; omega, by dsimp only; omega⟩, ⟨by dsimp only; omega, by dsimp only; omega⟩⟩
  · exact ⟨_, _, rfl, by omega, by omega, ⟨by dsimp only; omega, by dsimp only; omega⟩, ⟨by dsimp only; omega, by dsimp only; omega⟩, ⟨by dsimp only; omega, by dsimp only; omega⟩, ⟨by dsimp only; omega, by dsimp only; omega⟩⟩
structure XGood (x : S_Shot) (kind : Int) : Prop where
  K : x.Kind = kind
  N : Sml x.Number
  B : Sml x.Begin
  T : Sml x.Beats
  P : PGood x.Plate
  S : Sml x.Seeing
  X : Sml x.DriftX
  Y : Sml x.DriftY
def XAns (a kind : Int) (e : Option (S_Shot × Int)) : Prop := ∃ x a', e = some (x, a') ∧ a ≤ a' ∧ a' ≤ a + 40 ∧ XGood x kind
theorem Sml.of {x : Int} (h0 : -1000000000000 ≤ x) (h1 : x ≤ 1000000000000) : Sml x := ⟨h0, h1⟩
theorem PGood.zero : PGood ⟨0, 0, 0, 0⟩ := ⟨by unfold Sml; decide, by unfold Sml; decide, by unfold Sml; decide, by unfold Sml; decide⟩
theorem shot_ex (k : Nat) (L : List Int) (S : S_Sensor) (a kind number : Int) (a0 : 0 ≤ a) (a1 : a ≤ 1000000) (k0 : 0 ≤ kind) (k1 : kind ≤ 3) (n0 : 1 ≤ number) (n1 : number ≤ 99) : XAns a kind (spymake_Stream_Shot k ⟨L, a⟩ S kind number) := by
  unfold spymake_Stream_Shot
  refine next_b k L a 1073741824 (by decide) (by decide) (by omega) (by omega) fun seed _ _ => ?_
  dsimp only
  refine range_b k L (a + 1) (-3000) 3000 (by decide) (by decide) (by decide) (by decide) (by omega) (by omega) fun beg b0 b1 => ?_
  dsimp only
  refine next_b k L (a + 1 + 1) 5 (by decide) (by decide) (by omega) (by omega) fun c _ _ => ?_
  dsimp only
  refine bind_ite (fun v : Int × Int => a ≤ v.1 ∧ v.1 ≤ a + 4 ∧ Sml v.2) (fun _ => ?_) (fun _ => ⟨_, rfl, by dsimp only; omega, by dsimp only; omega, Sml.of (by dsimp only; omega) (by dsimp only; omega)⟩) ?_
  · refine range_b (Q := fun e => ∃ v : Int × Int, e = some v ∧ a ≤ v.1 ∧ v.1 ≤ a + 4 ∧ Sml v.2) k L (a + 1 + 1 + 1) (-30) 30 (by decide) (by decide) (by decide) (by decide) (by omega) (by omega) fun v v0 v1 => ?_
    dsimp only
    rw [wid (x := v * 28800000) (by omega) (by omega)]
    exact ⟨_, rfl, by dsimp only; omega, by dsimp only; omega, Sml.of (by dsimp only; omega) (by dsimp only; omega)⟩
  rintro ⟨a2, B⟩ ⟨h1, h2, hB⟩
  dsimp only at h1 h2 hB ⊢
  refine bind_ite (fun v : Int × Int => a ≤ v.1 ∧ v.1 ≤ a + 8 ∧ Sml v.2) (fun _ => ?_) (fun _ => ⟨_, rfl, by dsimp only; omega, by dsimp only; omega, Sml.of (by dsimp only; omega) (by dsimp only; omega)⟩) ?_
  · refine next_b (Q := fun e => ∃ v : Int × Int, e = some v ∧ a ≤ v.1 ∧ v.1 ≤ a + 8 ∧ Sml v.2) k L a2 3 (by decide) (by decide) (by omega) (by omega) fun v v0 v1 => ?_
    dsimp only
    obtain ⟨m, hm, m0, m1⟩ : ∃ m, rd ([2, 5, 16] : List Int) v = m ∧ 2 ≤ m ∧ m ≤ 16 := by
      rcases (show v = 0 ∨ v = 1 ∨ v = 2 by omega) with rfl | rfl | rfl <;> exact ⟨_, rfl, by decide, by decide⟩
    rw [ifp v0, ifp (by show v < 3; exact v1), hm]
    refine range_b (Q := fun e => ∃ v : Int × Int, e = some v ∧ a ≤ v.1 ∧ v.1 ≤ a + 8 ∧ Sml v.2) k L (a2 + 1) 1 m (by omega) (by omega) (by decide) (by omega) (by omega) (by omega) fun u u0 u1 => ?_
    dsimp only
    exact ⟨_, rfl, by dsimp only; omega, by dsimp only; omega, Sml.of (by dsimp only; omega) (by dsimp only; omega)⟩
  rintro ⟨a3, T⟩ ⟨h3, h4, hT⟩
  dsimp only at h3 h4 hT ⊢
  have z : Sml 0 := by unfold Sml; decide
  have hN : Sml number := Sml.of (by omega) (by omega)
  by_cases c2 : kind = 2
  · rw [ifp c2]
    refine next_b k L a3 3 (by decide) (by decide) (by omega) (by omega) fun v v0 v1 => ?_
    dsimp only
    obtain ⟨m, hm, m0, m1⟩ : ∃ m, rd ([100, 3000, 40000] : List Int) v = m ∧ 100 ≤ m ∧ m ≤ 40000 := by
      rcases (show v = 0 ∨ v = 1 ∨ v = 2 by omega) with rfl | rfl | rfl <;> exact ⟨_, rfl, by decide, by decide⟩
    rw [ifp v0, ifp (by show v < 3; exact v1), hm]
    refine range_b k L (a3 + 1) 1 m (by omega) (by omega) (by decide) (by omega) (by omega) (by omega) fun u u0 u1 => ?_
    dsimp only
    exact ⟨_, _, rfl, by omega, by omega, rfl, hN, hB, hT, .zero, z, z, z⟩
  · rw [ifn c2]
    by_cases c3 : kind = 3
    · rw [ifp c3]
      obtain ⟨p, a4, e4, p0, p1, hp⟩ := plate_ex k L a3 (by omega) (by omega)
      rw [bnd e4]; dsimp only
      refine next_b k L a4 2 (by decide) (by decide) (by omega) (by omega) fun v v0 v1 => ?_
      dsimp only
      rw [ifp (by omega)]
      refine next_b k L (a4 + 1) 6 (by decide) (by decide) (by omega) (by omega) fun u u0 u1 => ?_
      dsimp only
      refine bind_ite (fun v : Int => Sml v) (fun _ => ⟨_, rfl, by unfold Sml; decide⟩) (fun _ => ⟨_, rfl, ?_⟩) ?_
      · rcases (show v = 0 ∨ v = 1 by omega) with rfl | rfl
        · exact Sml.of (by decide) (by decide)
        · exact Sml.of (by decide) (by decide)
      intro g hg
      refine next_b k L (a4 + 1 + 1) 3 (by decide) (by decide) (by omega) (by omega) fun q q0 q1 => ?_
      dsimp only
      by_cases c4 : q = 0
      · rw [ifp c4]
        refine range_b k L (a4 + 1 + 1 + 1) (-64) 64 (by decide) (by decide) (by decide) (by decide) (by omega) (by omega) fun x x0 x1 => ?_
        dsimp only
        refine range_b k L (a4 + 1 + 1 + 1 + 1) (-64) 64 (by decide) (by decide) (by decide) (by decide) (by omega) (by omega) fun y y0 y1 => ?_
        dsimp only
        exact ⟨_, _, rfl, by omega, by omega, rfl, hN, hB, hT, hp, hg, Sml.of (by dsimp only; omega) (by dsimp only; omega), Sml.of (by dsimp only; omega) (by dsimp only; omega)⟩
      · rw [ifn c4]
        exact ⟨_, _, rfl, by omega, by omega, rfl, hN, hB, hT, hp, hg, z, z⟩
    · rw [ifn c3]
      exact ⟨_, _, rfl, by omega, by omega, rfl, hN, hB, hT, .zero, z, z, z⟩
theorem card_ex (k : Nat) (key unit : ByteArray) (n : Int) (h : Sml n) : spymake_Cards_1 k key n unit = some ⟨key, numeral n, unit, ⟨#[]⟩⟩ := by
  obtain ⟨h0, h1⟩ := h
  unfold spymake_Cards_1 strconv_FormatInt
  rw [ifp rfl, ifp (by omega), ifp (by omega)]
  rfl
theorem num_good {key unit : ByteArray} {n : Int} (h : Sml n) (hK : kOk key = true) (hU : uOk unit = true) : CGood ⟨key, numeral n, unit, ⟨#[]⟩⟩ := CGood.of hK (num_vOk h.1 h.2) hU (by decide)
def keysOf (l : List S_Card) : List (List UInt8) := l.map fun c => c.Key.data.toList
def plKey (i : Nat) : ByteArray := (⟨#[80, 76, 65, 84, 69, 45]⟩ : ByteArray) ++ (bstr ([u8 (w64 (65 + (i : Int)))] : List Int))
theorem cards_step (k : Nat) (x : S_Shot) (hp : PGood x.Plate) (fuel : Nat) (out : List S_Card) (i : Nat) (hi : i < 4) (ho : out.length ≤ 100) : ∃ n, Sml n ∧ spymake_Cards.l0 k x (fuel + 1) out (i : Int) = spymake_Cards.l0 k x fuel (out ++ [⟨plKey i, numeral n, ⟨#[]⟩, ⟨#[]⟩⟩]) ((i + 1 : Nat) : Int) := by
  have hs : Sml (rd [x.Plate.A, x.Plate.B, x.Plate.C, x.Plate.D] (i : Int)) := by
    rcases (show i = 0 ∨ i = 1 ∨ i = 2 ∨ i = 3 by omega) with rfl | rfl | rfl | rfl
    · exact hp.A
    · exact hp.B
    · exact hp.C
    · exact hp.D
  refine ⟨_, hs, ?_⟩
  rw [spymake_Cards.l0, ifp (by omega), ifp (by omega), ifp (by show 6 + 1 ≤ 9223372036854775807; decide), bnd (card_ex k _ _ _ hs), ifp (by omega), wid (x := (i : Int) + 1) (by omega) (by omega)]
  rfl
def kindK : List (List UInt8) := [[75, 73, 78, 68], [78, 85, 77, 66, 69, 82], [66, 69, 71, 73, 78], [66, 69, 65, 84, 83]]
def longK : List (List UInt8) := kindK ++ [[80, 76, 65, 84, 69, 45, 65], [80, 76, 65, 84, 69, 45, 66], [80, 76, 65, 84, 69, 45, 67], [80, 76, 65, 84, 69, 45, 68], [83, 69, 69, 73, 78, 71], [68, 82, 73, 70, 84, 45, 88], [68, 82, 73, 70, 84, 45, 89]]
def CardsOk (l : List S_Card) : Prop := (keysOf l = kindK ∨ keysOf l = longK) ∧ ∀ c ∈ l, CGood c
theorem cards_ex (k : Nat) (x : S_Shot) (kind : Int) (h : XGood x kind) (k0 : 0 ≤ kind) (k1 : kind ≤ 3) (hk : 10 ≤ k) : ∃ l, spymake_Cards k x = some l ∧ CardsOk l := by
  unfold spymake_Cards
  rw [h.K]
  obtain ⟨v, e, v0, v1⟩ := below_ex k kind 4 (by decide) (by decide)
  have e1 := card_ex k (⟨#[78, 85, 77, 66, 69, 82]⟩ : ByteArray) (⟨#[]⟩ : ByteArray) _ h.N
  have e2 := card_ex k (⟨#[66, 69, 71, 73, 78]⟩ : ByteArray) (⟨#[116, 105, 99, 107]⟩ : ByteArray) _ h.B
  have e3 := card_ex k (⟨#[66, 69, 65, 84, 83]⟩ : ByteArray) (⟨#[98, 101, 97, 116]⟩ : ByteArray) _ h.T
  rw [bnd e, ifp v0, ifp (by show v < 4; exact v1), bnd e1, bnd e2, bnd e3]
  obtain ⟨kv, hkv, gkv⟩ : ∃ kv, rd ([(⟨#[98, 105, 97, 115]⟩ : ByteArray), ⟨#[100, 97, 114, 107]⟩, ⟨#[102, 108, 97, 116]⟩, ⟨#[115, 99, 105, 101, 110, 99, 101]⟩] : List ByteArray) v = kv ∧ vOk kv = true := by
    rcases (show v = 0 ∨ v = 1 ∨ v = 2 ∨ v = 3 by omega) with rfl | rfl | rfl | rfl <;> exact ⟨_, rfl, by decide⟩
  rw [hkv]
  have g0 : CGood (⟨⟨#[75, 73, 78, 68]⟩, kv, ⟨#[]⟩, ⟨#[]⟩⟩ : S_Card) := CGood.of (by decide) gkv (by decide) (by decide)
  have g1 := num_good (key := (⟨#[78, 85, 77, 66, 69, 82]⟩ : ByteArray)) (unit := (⟨#[]⟩ : ByteArray)) h.N (by decide) (by decide)
  have g2 := num_good (key := (⟨#[66, 69, 71, 73, 78]⟩ : ByteArray)) (unit := (⟨#[116, 105, 99, 107]⟩ : ByteArray)) h.B (by decide) (by decide)
  have g3 := num_good (key := (⟨#[66, 69, 65, 84, 83]⟩ : ByteArray)) (unit := (⟨#[98, 101, 97, 116]⟩ : ByteArray)) h.T (by decide) (by decide)
  by_cases c : kind ≠ 3
  · rw [ifp c]
    refine ⟨_, rfl, .inl rfl, fun c hc => ?_⟩
    simp only [List.mem_cons, List.not_mem_nil, or_false] at hc
    rcases hc with rfl | rfl | rfl | rfl
    · exact g0
    · exact g1
    · exact g2
    · exact g3
  · rw [ifn c]
    obtain ⟨f, rfl⟩ : ∃ f, k = f + 1 + 1 + 1 + 1 + 1 := ⟨k - 5, by omega⟩
    generalize hl0 : [(⟨⟨#[75, 73, 78, 68]⟩, kv, ⟨#[]⟩, ⟨#[]⟩⟩ : S_Card), ⟨⟨#[78, 85, 77, 66, 69, 82]⟩, numeral x.Number, ⟨#[]⟩, ⟨#[]⟩⟩, ⟨⟨#[66, 69, 71, 73, 78]⟩, numeral x.Begin, ⟨#[116, 105, 99, 107]⟩, ⟨#[]⟩⟩, ⟨⟨#[66, 69, 65, 84, 83]⟩, numeral x.Beats, ⟨#[98, 101, 97, 116]⟩, ⟨#[]⟩⟩] = l0
    have hlen : l0.length = 4 := by rw [← hl0]; rfl
    obtain ⟨n0, s0, q0⟩ := cards_step (f + 1 + 1 + 1 + 1 + 1) x h.P (f + 1 + 1 + 1 + 1) l0 0 (by decide) (by omega)
    obtain ⟨n1, s1, q1⟩ := cards_step (f + 1 + 1 + 1 + 1 + 1) x h.P (f + 1 + 1 + 1) (l0 ++ [⟨plKey 0, numeral n0, ⟨#[]⟩, ⟨#[]⟩⟩]) 1 (by decide) (by rw [List.length_append]; show l0.length + 1 ≤ _; omega)
    obtain ⟨n2, s2, q2⟩ := cards_step (f + 1 + 1 + 1 + 1 + 1) x h.P (f + 1 + 1) (l0 ++ [⟨plKey 0, numeral n0, ⟨#[]⟩, ⟨#[]⟩⟩] ++ [⟨plKey 1, numeral n1, ⟨#[]⟩, ⟨#[]⟩⟩]) 2 (by decide) (by rw [List.length_append, List.length_append]; show l0.length + 1 + 1 ≤ _; omega)
    obtain ⟨n3, s3, q3⟩ := cards_step (f + 1 + 1 + 1 + 1 + 1) x h.P (f + 1) (l0 ++ [⟨plKey 0, numeral n0, ⟨#[]⟩, ⟨#[]⟩⟩] ++ [⟨plKey 1, numeral n1, ⟨#[]⟩, ⟨#[]⟩⟩] ++ [⟨plKey 2, numeral n2, ⟨#[]⟩, ⟨#[]⟩⟩]) 3 (by decide) (by rw [List.length_append, List.length_append, List.length_append]; show l0.length + 1 + 1 + 1 ≤ _; omega)
    have e5 := card_ex (f + 1 + 1 + 1 + 1 + 1) (⟨#[83, 69, 69, 73, 78, 71]⟩ : ByteArray) (⟨#[99, 101, 108, 108]⟩ : ByteArray) _ h.S
    have e6 := card_ex (f + 1 + 1 + 1 + 1 + 1) (⟨#[68, 82, 73, 70, 84, 45, 88]⟩ : ByteArray) (⟨#[115, 117, 98]⟩ : ByteArray) _ h.X
    have e7 := card_ex (f + 1 + 1 + 1 + 1 + 1) (⟨#[68, 82, 73, 70, 84, 45, 89]⟩ : ByteArray) (⟨#[115, 117, 98]⟩ : ByteArray) _ h.Y
    have q4 : ∀ out : List S_Card, spymake_Cards.l0 (f + 1 + 1 + 1 + 1 + 1) x (f + 1) out ((3 + 1 : Nat) : Int) = some out := fun out => by rw [spymake_Cards.l0, ifn (by decide)]
    have e4 := ((q0.trans q1).trans (q2.trans q3)).trans (q4 _)
    have hlen2 : (l0 ++ [(⟨plKey 0, numeral n0, ⟨#[]⟩, ⟨#[]⟩⟩ : S_Card)] ++ [(⟨plKey 1, numeral n1, ⟨#[]⟩, ⟨#[]⟩⟩ : S_Card)] ++ [(⟨plKey 2, numeral n2, ⟨#[]⟩, ⟨#[]⟩⟩ : S_Card)] ++ [(⟨plKey 3, numeral n3, ⟨#[]⟩, ⟨#[]⟩⟩ : S_Card)]).length = 8 := by
      simp only [List.length_append, List.length_cons, List.length_nil, hlen]
    rw [bnd (show spymake_Cards.l0 (f + 1 + 1 + 1 + 1 + 1) x (f + 1 + 1 + 1 + 1 + 1) l0 0 = _ from e4), bnd e5, bnd e6, bnd e7, ifp (by rw [hlen2]; decide)]
    refine ⟨_, rfl, .inr ?_, fun c hc => ?_⟩
    · rw [← hl0]
      rfl
    · rw [← hl0] at hc
      simp only [List.mem_append, List.mem_cons, List.not_mem_nil, or_false] at hc
      rcases hc with (((((rfl | rfl | rfl | rfl) | rfl) | rfl) | rfl) | rfl) | rfl | rfl | rfl
      · exact g0
      · exact g1
      · exact g2
      · exact g3
      · exact num_good s0 (by decide) (by decide)
      · exact num_good s1 (by decide) (by decide)
      · exact num_good s2 (by decide) (by decide)
      · exact num_good s3 (by decide) (by decide)
      · exact num_good h.S (by decide) (by decide)
      · exact num_good h.X (by decide) (by decide)
      · exact num_good h.Y (by decide) (by decide)
theorem frame_l0 (k : Nat) (L : List Int) (a0_ W H v base m : Int) (hm : rd ([2, 256, 300, 5000, 65536] : List Int) v = m) (m0 : 2 ≤ m) (m1 : m ≤ 65536) (hn : W * H ≤ 1024) (hn0 : 0 ≤ W * H) : ∀ (d fuel : Nat) (i a : Int) (c : List Int), i + d = W * H → 0 ≤ i → d < fuel → 0 ≤ a → a + 3 * d ≤ 4000000 → (c.length : Int) = i → AllIn c 0 65535 →
    ∃ a' c', spymake_Stream_Frame.l0 k W H ⟨L, a0_⟩ v base fuel i a c = some (a', c') ∧ a ≤ a' ∧ a' ≤ a + 3 * d ∧ (c'.length : Int) = W * H ∧ AllIn c' 0 65535 := by
  intro d
  induction d with
  | zero =>
    intro fuel i a c h1 h2 hf ha ha2 hl hc
    obtain ⟨fuel, rfl⟩ : ∃ q, fuel = q + 1 := ⟨fuel - 1, by omega⟩
    rw [spymake_Stream_Frame.l0, wid (x := W * H) (by omega) (by omega), ifn (by omega)]
    exact ⟨a, c, rfl, by omega, by omega, by omega, hc⟩
  | succ d ih =>
    intro fuel i a c h1 h2 hf ha ha2 hl hc
    obtain ⟨fuel, rfl⟩ : ∃ q, fuel = q + 1 := ⟨fuel - 1, by omega⟩
    have cl : ∀ z : Int, 0 ≤ mx 0 (mn 65535 z) ∧ mx 0 (mn 65535 z) ≤ 65535 := fun z => by rw [mx_def, mn_def]; omega
    rw [spymake_Stream_Frame.l0, wid (x := W * H) (by omega) (by omega), ifp (by omega)]
    obtain ⟨u, e1, _, _⟩ := range_ex k L a (-3) 3 (by decide) (by decide) (by decide) (by decide) (by omega) (by omega)
    rw [bnd e1]; dsimp only
    obtain ⟨q, e2, _, _⟩ := next_ex k L (a + 1) 3 (by decide) (by decide) (by omega) (by omega)
    rw [bnd e2]; dsimp only
    by_cases cq : q = 0
    · obtain ⟨y, e3, _, _⟩ := next_ex k L (a + 1 + 1) m (by omega) (by omega) (by omega) (by omega)
      rw [ifp cq, hm, bnd e3]; dsimp only
      rw [ifp (by omega), wid (x := i + 1) (by omega) (by omega)]
      obtain ⟨a', c', e, g1, g2, g3, g4⟩ := ih fuel (i + 1) (a + 1 + 1 + 1) (c ++ [mx 0 (mn 65535 y)]) (by omega) (by omega) (by omega) (by omega) (by omega) (push_len hl) (hc.push (cl _).1 (cl _).2)
      exact ⟨a', c', e, by omega, by omega, g3, g4⟩
    · rw [ifn cq, ifp (by omega), wid (x := i + 1) (by omega) (by omega)]
      obtain ⟨a', c', e, g1, g2, g3, g4⟩ := ih fuel (i + 1) (a + 1 + 1) (c ++ [mx 0 (mn 65535 (w64 (base + u)))]) (by omega) (by omega) (by omega) (by omega) (by omega) (push_len hl) (hc.push (cl _).1 (cl _).2)
      exact ⟨a', c', e, by omega, by omega, g3, g4⟩
structure FGood (f : S_Frame) (W H : Int) : Prop where
  eW : f.W = W
  eH : f.H = H
  l : (f.Counts.length : Int) = W * H
  c : AllIn f.Counts 0 65535
  k : CardsOk f.Cards
theorem frame_ex (k : Nat) (L : List Int) (a kind W H : Int) (x : S_Shot) (hx : XGood x kind) (k0 : 0 ≤ kind) (k1 : kind ≤ 3) (a0 : 0 ≤ a) (a1 : a ≤ 1000000) (hn : W * H ≤ 1024) (hn0 : 0 ≤ W * H) (hk : 1100 ≤ k) :
    ∃ f a', spymake_Stream_Frame k ⟨L, a⟩ x W H = some (f, a') ∧ a ≤ a' ∧ a' ≤ a + 4000 ∧ FGood f W H := by
  unfold spymake_Stream_Frame
  obtain ⟨l, e1, hl⟩ := cards_ex k x kind hx k0 k1 (by omega)
  obtain ⟨v, e2, v0, v1⟩ := next_ex k L a 5 (by decide) (by decide) (by omega) (by omega)
  obtain ⟨m, hm, m0, m1⟩ : ∃ m, rd ([2, 256, 300, 5000, 65536] : List Int) v = m ∧ 2 ≤ m ∧ m ≤ 65536 := by
    rcases (show v = 0 ∨ v = 1 ∨ v = 2 ∨ v = 3 ∨ v = 4 by omega) with rfl | rfl | rfl | rfl | rfl <;> exact ⟨_, rfl, by decide, by decide⟩
  obtain ⟨b, e3, b0, b1⟩ := next_ex k L (a + 1) m (by omega) (by omega) (by omega) (by omega)
  obtain ⟨a', c', e4, g1, g2, g3, g4⟩ := frame_l0 k L a W H v b m hm m0 m1 hn hn0 (W * H).toNat k 0 (a + 1 + 1) [] (by omega) (by omega) (by omega) (by omega) (by omega) rfl .nil
  rw [bnd e1, bnd e2]; dsimp only
  rw [ifp v0, ifp (by show v < 5; exact v1), hm, bnd e3]; dsimp only
  rw [bnd e4]
  exact ⟨_, _, rfl, by omega, by omega, ⟨rfl, rfl, g3, g4, hl⟩⟩
def xKey (i : Nat) : ByteArray := (⟨#[88]⟩ : ByteArray) ++ numeral (i : Int)
theorem xKey_data (i : Nat) (h : i < 10) : (xKey i).data.toList = [88, UInt8.ofNat (48 + i)] := by
  unfold xKey
  rw [sapp]
  show [88] ++ Go.Lib.itoa (i : Int) = _
  rw [Go.Lib.itoa_nonneg, Go.Lib.decDigits_one h]
  rfl
theorem xKey_ok (i : Nat) (h : i < 3) : kOk (xKey i) = true := by
  unfold kOk
  rw [xKey_data i (by omega)]
  rcases (show i = 0 ∨ i = 1 ∨ i = 2 by omega) with rfl | rfl | rfl <;> decide
theorem notes_l0 (k : Nat) (L : List Int) (a0_ n : Int) (n1 : n ≤ 3) : ∀ (d fuel : Nat) (l : List S_Card) (i : Nat) (a : Int), (i : Int) + d = n → d < fuel → 0 ≤ a → a + 5 * d ≤ 4000000 → l.length + d ≤ 100 → (∀ c ∈ l, CGood c) →
    ∃ l' a', spymake_Stream_Notes.l0 k n ⟨L, a0_⟩ fuel l (i : Int) a = some (l', a') ∧ keysOf l' = keysOf l ++ (List.range' i d).map (fun j => (xKey j).data.toList) ∧ ∀ c ∈ l', CGood c := by
  intro d
  induction d with
  | zero =>
    intro fuel l i a h1 hf ha ha2 hl hg
    obtain ⟨fuel, rfl⟩ : ∃ q, fuel = q + 1 := ⟨fuel - 1, by omega⟩
    rw [spymake_Stream_Notes.l0, ifn (by omega)]
    exact ⟨l, a, rfl, (List.append_nil _).symm, hg⟩
  | succ d ih =>
    intro fuel l i a h1 hf ha ha2 hl hg
    obtain ⟨fuel, rfl⟩ : ∃ q, fuel = q + 1 := ⟨fuel - 1, by omega⟩
    have hi : strconv_Itoa k (i : Int) = some (numeral (i : Int)) := by unfold strconv_Itoa; rw [ifp (by omega), ifp (by omega)]
    have hs : (numeral (i : Int)).size ≤ 21 := by rw [ssz]; exact numeral_size (by omega) (by omega)
    have hkx := xKey_ok i (by omega)
    have go : ∀ (c : S_Card) (a2 : Int), c.Key = xKey i → CGood c → 0 ≤ a2 → a2 ≤ a + 5 → ∃ l' a', spymake_Stream_Notes.l0 k n ⟨L, a0_⟩ fuel (l ++ [c]) ((i + 1 : Nat) : Int) a2 = some (l', a') ∧ keysOf l' = keysOf l ++ (List.range' i (d + 1)).map (fun j => (xKey j).data.toList) ∧ ∀ c ∈ l', CGood c := fun c a2 hc hcg h2 h3 => by
      obtain ⟨l', a', e, g1, g2⟩ := ih fuel (l ++ [c]) (i + 1) a2 (by omega) (by omega) (by omega) (by omega) (by rw [List.length_append]; show l.length + 1 + d ≤ _; omega) (fun x hx => by
        rcases List.mem_append.mp hx with hx | hx
        · exact hg x hx
        · rw [List.mem_singleton] at hx; rw [hx]; exact hcg)
      refine ⟨l', a', e, ?_, g2⟩
      rw [g1, List.range'_succ, List.map_cons]
      unfold keysOf
      rw [List.map_append, List.map_cons, hc, List.append_assoc]
      rfl
    rw [spymake_Stream_Notes.l0, ifp (by omega), bnd hi, ifp (by show 1 + (numeral (i : Int)).size ≤ _; omega)]
    obtain ⟨v, e1, v0, v1⟩ := next_ex k L a 6 (by decide) (by decide) (by omega) (by omega)
    rw [bnd e1]; dsimp only
    rw [ifp v0, ifp (by show v < 6; exact v1)]
    obtain ⟨vv, hvv, gvv⟩ : ∃ vv, rd ([(⟨#[49]⟩ : ByteArray), (⟨#[97, 47, 98]⟩ : ByteArray), (⟨#[61]⟩ : ByteArray), (⟨#[91, 55, 93]⟩ : ByteArray), (⟨#[45, 49, 50]⟩ : ByteArray), (⟨#[50, 48]⟩ : ByteArray)] : List ByteArray) v = vv ∧ vOk vv = true := by
      rcases (show v = 0 ∨ v = 1 ∨ v = 2 ∨ v = 3 ∨ v = 4 ∨ v = 5 by omega) with rfl | rfl | rfl | rfl | rfl | rfl <;> exact ⟨_, rfl, by decide⟩
    rw [hvv]
    obtain ⟨u, e2, u0, u1⟩ := next_ex k L (a + 1) 2 (by decide) (by decide) (by omega) (by omega)
    rw [bnd e2]; dsimp only
    refine bind_ite (Q := fun e => ∃ (l' : List S_Card) (a' : Int), e = some (l', a') ∧ keysOf l' = keysOf l ++ (List.range' i (d + 1)).map (fun j => (xKey j).data.toList) ∧ ∀ c ∈ l', CGood c) (fun w : Int × ByteArray => a + 2 ≤ w.1 ∧ w.1 ≤ a + 3 ∧ uOk w.2 = true) (fun _ => ?_) (fun _ => ⟨_, rfl, by dsimp only; omega, by dsimp only; omega, by show uOk ⟨#[]⟩ = true; decide⟩) ?_
    · refine next_b (Q := fun e => ∃ w : Int × ByteArray, e = some w ∧ a + 2 ≤ w.1 ∧ w.1 ≤ a + 3 ∧ uOk w.2 = true) k L (a + 1 + 1) 5 (by decide) (by decide) (by omega) (by omega) fun y y0 y1 => ?_
      dsimp only
      rw [ifp y0, ifp (by show y < 5; exact y1)]
      refine ⟨_, rfl, by dsimp only; omega, by dsimp only; omega, ?_⟩
      dsimp only
      rcases (show y = 0 ∨ y = 1 ∨ y = 2 ∨ y = 3 ∨ y = 4 by omega) with rfl | rfl | rfl | rfl | rfl <;> decide
    rintro ⟨a2, un⟩ ⟨h3, h4, h5⟩
    dsimp only at h3 h4 h5 ⊢
    refine next_b (Q := fun e => ∃ (l' : List S_Card) (a' : Int), e = some (l', a') ∧ keysOf l' = keysOf l ++ (List.range' i (d + 1)).map (fun j => (xKey j).data.toList) ∧ ∀ c ∈ l', CGood c) k L a2 2 (by decide) (by decide) (by omega) (by omega) fun y y0 y1 => ?_
    dsimp only
    by_cases cy : y = 0
    · rw [ifp cy]
      refine next_b (Q := fun e => ∃ (l' : List S_Card) (a' : Int), e = some (l', a') ∧ keysOf l' = keysOf l ++ (List.range' i (d + 1)).map (fun j => (xKey j).data.toList) ∧ ∀ c ∈ l', CGood c) k L (a2 + 1) 4 (by decide) (by decide) (by omega) (by omega) fun z z0 z1 => ?_
      dsimp only
      rw [ifp z0, ifp (by show z < 4; exact z1), ifp (by omega), wid (x := (i : Int) + 1) (by omega) (by omega), show (i : Int) + 1 = ((i + 1 : Nat) : Int) by omega]
      refine go _ _ rfl (CGood.of hkx gvv h5 ?_) (by omega) (by omega)
      rcases (show z = 0 ∨ z = 1 ∨ z = 2 ∨ z = 3 by omega) with rfl | rfl | rfl | rfl <;> decide
    · rw [ifn cy, ifp (by omega), wid (x := (i : Int) + 1) (by omega) (by omega), show (i : Int) + 1 = ((i + 1 : Nat) : Int) by omega]
      exact go _ _ rfl (CGood.of hkx gvv h5 (by decide)) (by omega) (by omega)
theorem noted_ex (k : Nat) (L : List Int) (hk : 1100 ≤ k) : ∃ (f : S_Frame) (a' : Int) (K : List (List UInt8)) (n : Nat), spykeep3_noted k ⟨L, 0⟩ = some (f, a') ∧ FGoodC f ∧ n ≤ 3 ∧ (K = kindK ∨ K = longK) ∧ keysOf f.Cards = K ++ (List.range n).map (fun j => (xKey j).data.toList) ∧ f.W ≤ 9 ∧ f.H ≤ 9 := by
  obtain ⟨S, a1, e1, hS, ha, hb⟩ := sensor_ex k L 0 9 (by decide) (by decide) (by decide) (by decide) hk
  obtain ⟨kind, e2, k0, k1⟩ := next_ex k L a1 4 (by decide) (by decide) (by omega) (by omega)
  obtain ⟨num, e3, n0, n1⟩ := range_ex k L (a1 + 1) 1 99 (by decide) (by decide) (by decide) (by decide) (by omega) (by omega)
  obtain ⟨x, a2, e4, h1, h2, hx⟩ := shot_ex k L S (a1 + 1 + 1) kind num (by omega) (by omega) k0 (by omega) n0 n1
  have hWH := hS.n (by decide)
  obtain ⟨f, a3, e5, h3, h4, hf⟩ := frame_ex k L a2 kind S.W S.H x hx k0 (by omega) (by omega) (by omega) hWH.2 (by omega) hk
  obtain ⟨n, e6, m0, m1⟩ := next_ex k L a3 4 (by decide) (by decide) (by omega) (by omega)
  have hcl : f.Cards.length ≤ 20 := by
    have e : (keysOf f.Cards).length = f.Cards.length := List.length_map ..
    rcases hf.k.1 with h | h
    · rw [h] at e; rw [← e]; decide
    · rw [h] at e; rw [← e]; decide
  obtain ⟨l', a4, e7, g1, g2⟩ := notes_l0 k L a3 n (by omega) n.toNat k (([] : List S_Card) ++ f.Cards) 0 (a3 + 1) (by omega) (by omega) (by omega) (by omega) (by simp; omega) (by simpa using hf.k.2)
  have e8 : spymake_Stream_Notes k ⟨L, a3⟩ f = some (⟨f.W, f.H, l', f.Counts⟩, a4) := by
    unfold spymake_Stream_Notes
    rw [ifp (by simp; omega), bnd e6]; dsimp only
    rw [bnd (show spymake_Stream_Notes.l0 k n ⟨L, a3⟩ k (([] : List S_Card) ++ f.Cards) 0 (a3 + 1) = _ from e7)]
  unfold spykeep3_noted
  rw [bnd e1]; dsimp only
  rw [bnd e2]; dsimp only
  rw [bnd e3]; dsimp only
  rw [bnd e4]; dsimp only
  rw [bnd e5]; dsimp only
  rw [bnd e8]
  have w0 := hS.W0; have w1 := hS.W1; have y0 := hS.H0; have y1 := hS.H1
  rw [List.nil_append, ← List.range_eq_range'] at g1
  have hn3 : n.toNat ≤ 3 := by omega
  have hnd : (keysOf l').Nodup := by
    rw [g1]
    have d0 : ∀ m, m ≤ 3 → (List.range m).map (fun j => (xKey j).data.toList) = (List.range m).map (fun j => [88, UInt8.ofNat (48 + j)]) := fun m hm => List.map_congr_left fun j hj => xKey_data j (by have := List.mem_range.mp hj; omega)
    rw [d0 _ hn3]
    have d1 : ∀ m, m < 4 → (kindK ++ (List.range m).map (fun j => [88, UInt8.ofNat (48 + j)])).Nodup := by decide
    have d2 : ∀ m, m < 4 → (longK ++ (List.range m).map (fun j => [88, UInt8.ofNat (48 + j)])).Nodup := by decide
    rcases hf.k.1 with h | h
    · rw [h]; exact d1 _ (by omega)
    · rw [h]; exact d2 _ (by omega)
  have hln : l'.length ≤ 28 := by
    have e : (keysOf l').length = l'.length := List.length_map ..
    rw [g1, List.length_append, List.length_map, List.length_range] at e
    have e2 : (keysOf f.Cards).length = f.Cards.length := List.length_map ..
    omega
  refine ⟨_, _, keysOf f.Cards, n.toNat, rfl, ⟨?_, ?_, ?_, ?_, ?_, hf.c, hln, g2, hnd⟩, hn3, hf.k.1, g1, ?_, ?_⟩
  · dsimp only; rw [hf.eW]; omega
  · dsimp only; rw [hf.eW]; omega
  · dsimp only; rw [hf.eH]; omega
  · dsimp only; rw [hf.eH]; omega
  · dsimp only; rw [hf.eW, hf.eH]; exact hf.l
  · dsimp only; rw [hf.eW]; omega
  · dsimp only; rw [hf.eH]; omega
theorem rd_at {α : Type} [Inhabited α] {l pre post : List α} {x : α} {i : Int} (hl : l = pre ++ x :: post) (hi : i = (pre.length : Int)) : rd l i = x := by
  subst hl hi
  obtain ⟨h, e⟩ := rd_lt (xs := pre ++ x :: post) (i := (pre.length : Int)) (by omega) (by simp; omega)
  rw [e]
  simp
theorem eqself_l0_int (k : Nat) (X : List Int) (hL : X.length ≤ 1000000) : ∀ (d m : Nat) (i : Int), i + d = (X.length : Int) → 0 ≤ i → d < m → slices_Equal_int.l0 k X X m i = some (Sum.inr ()) := by
  intro d
  induction d with
  | zero =>
    intro m i hi i0 hm
    obtain ⟨m, rfl⟩ : ∃ q, m = q + 1 := ⟨m - 1, by omega⟩
    rw [slices_Equal_int.l0, ifn (by omega)]
  | succ d ih =>
    intro m i hi i0 hm
    obtain ⟨m, rfl⟩ : ∃ q, m = q + 1 := ⟨m - 1, by omega⟩
    rw [slices_Equal_int.l0, ifp (by omega), ifp i0, ifp (by omega), ifn (by simp), wid (by omega) (by omega)]
    exact ih m (i + 1) (by omega) (by omega) (by omega)
theorem eqself_int (k : Nat) (X : List Int) (hL : X.length ≤ 1000000) (hk : X.length < k) : slices_Equal_int k X X = some true := by
  unfold slices_Equal_int
  rw [ifn (by simp), bnd (eqself_l0_int k X hL X.length k 0 (by omega) (by omega) hk)]
  rfl
theorem eqcard_l0 (k : Nat) (X : List S_Card) (hL : X.length ≤ 1000000) : ∀ (d m : Nat) (i : Int), i + d = (X.length : Int) → 0 ≤ i → d < m → slices_Equal_Card.l0 k X X m i = some (Sum.inr ()) := by
  intro d
  induction d with
  | zero =>
    intro m i hi i0 hm
    obtain ⟨m, rfl⟩ : ∃ q, m = q + 1 := ⟨m - 1, by omega⟩
    rw [slices_Equal_Card.l0, ifn (by omega)]
  | succ d ih =>
    intro m i hi i0 hm
    obtain ⟨m, rfl⟩ : ∃ q, m = q + 1 := ⟨m - 1, by omega⟩
    rw [slices_Equal_Card.l0, ifp (by omega), ifp i0, ifp (by omega), s_eqp rfl, s_eqp rfl, s_eqp rfl, s_eqp rfl, ifn (by simp), wid (by omega) (by omega)]
    exact ih m (i + 1) (by omega) (by omega) (by omega)
theorem eqcard (k : Nat) (X : List S_Card) (hL : X.length ≤ 1000000) (hk : X.length < k) : slices_Equal_Card k X X = some true := by
  unfold slices_Equal_Card
  rw [ifn (by simp), bnd (eqcard_l0 k X hL X.length k 0 (by omega) (by omega) hk)]
  rfl
theorem same_self (k : Nat) (f : S_Frame) (h : FGoodC f) (hk : 2000 ≤ k) : spykeep3_same k f f = some true := by
  have h1 := h.lim
  have h2 := h.n
  unfold spykeep3_same
  rw [ifp rfl, ifp rfl, bnd (eqcard k _ (by omega) (by omega)), ifp rfl, bnd (eqself_int k _ (by omega) (by omega))]
theorem p2pos (n : Nat) : (0 : Int) < 2 ^ n := Int.pow_pos (by decide)
theorem u8_or_sum (q v : Int) (s : Nat) (hs : s ≤ 7) (q0 : 0 ≤ q) (hq : q * 2 ^ (s + 1) < 256) (v0 : 0 ≤ v) (v1 : v ≤ 1) : Go.bits .or .u8 (q * 2 ^ (s + 1)) (v * 2 ^ s) = q * 2 ^ (s + 1) + v * 2 ^ s := by
  obtain ⟨Q, rfl⟩ := Int.eq_ofNat_of_zero_le q0
  obtain ⟨V, rfl⟩ := Int.eq_ofNat_of_zero_le v0
  have e0 : ((Q : Int) * 2 ^ (s + 1)) = ((Q * 2 ^ (s + 1) : Nat) : Int) := by simp
  have e1 : ((V : Int) * 2 ^ s) = ((V * 2 ^ s : Nat) : Int) := by simp
  rw [e0] at hq ⊢
  rw [e1]
  have hp : 2 ^ s ≤ 2 ^ 7 := Nat.pow_le_pow_right (by decide) hs
  have hp2 : 2 ^ (s + 1) = 2 * 2 ^ s := by rw [Nat.pow_succ, Nat.mul_comm]
  have hV : V * 2 ^ s ≤ 1 * 2 ^ s := Nat.mul_le_mul_right _ (by omega)
  have hpos := Nat.two_pow_pos s
  rw [Go.u8_or_nat _ _ (by omega) (by omega), ← Nat.shiftLeft_eq, ← Nat.shiftLeft_add_eq_or_of_lt (by omega)]
  simp
theorem shr_bit (v : Int) (n : Nat) (hv : 0 ≤ v) (hv2 : v < 4611686018427387904) : Go.bits .and .i64 (shr v n) 1 = v / 2 ^ n % 2 := by
  have h0 : 0 ≤ v / 2 ^ n := Int.ediv_nonneg hv (by have := p2pos n; omega)
  have h1 : v / 2 ^ n ≤ v := Int.ediv_le_self _ hv
  have := i64_and_low (v / 2 ^ n) 1 (by decide)
  rw [shr_def, show (1 : Int) = ((2 ^ 1 - 1 : Nat) : Int) from rfl, this]
  omega
def bitAt (b : List Int) (i : Nat) : Int := rd b ((i / 8 : Nat) : Int) / 2 ^ (7 - i % 8) % 2
def bitsOf (v : Int) : Nat → List Int
  | 0 => []
  | n + 1 => v / 2 ^ n % 2 :: bitsOf v n
theorem bitsOf_len (v : Int) : ∀ n, (bitsOf v n).length = n
  | 0 => rfl
  | n + 1 => by rw [bitsOf, List.length_cons, bitsOf_len v n]
theorem bitsOf_mod (v : Int) : ∀ (n m : Nat), n ≤ m → bitsOf (v % 2 ^ m) n = bitsOf v n
  | 0, _, _ => rfl
  | n + 1, m, h => by
    rw [bitsOf, bitsOf, bitsOf_mod v n m (by omega)]
    congr 1
    obtain ⟨d, rfl⟩ : ∃ d, m = n + (d + 1) := ⟨m - n - 1, by omega⟩
    have e1 := Int.emod_def v (2 ^ (n + (d + 1)))
    rw [e1, Int.pow_add, Int.mul_assoc, Int.sub_mul_ediv_left _ _ (by have := p2pos n; omega), Int.pow_succ]
    generalize v / (2 ^ n * (2 ^ d * 2)) = z
    rw [Int.mul_comm ((2 : Int) ^ d) 2, Int.mul_assoc]
    omega
structure WB (out bs : List Int) : Prop where
  len : out.length = (bs.length + 7) / 8
  bytes : AllIn out 0 255
  at_ : ∀ i, i < bs.length → bitAt out i = bs.getD i 0
  last : bs.length % 8 ≠ 0 → ∃ q : Int, 0 ≤ q ∧ rd out ((out.length : Int) - 1) = q * 2 ^ (8 - bs.length % 8)
theorem WB.nil : WB [] [] := ⟨rfl, AllIn.nil, fun i h => by simp at h, fun h => absurd rfl h⟩
theorem top_bit (q v : Int) (s t : Nat) (v0 : 0 ≤ v) (v1 : v ≤ 1) : (q * 2 ^ (s + 1) + v * 2 ^ s) / 2 ^ (s + (t + 1)) = q * 2 ^ (s + 1) / 2 ^ (s + (t + 1)) := by
  have hp := p2pos s
  have e1 : q * 2 ^ (s + 1) + v * 2 ^ s = (2 * q + v) * 2 ^ s := by rw [Int.pow_succ, Int.add_mul, Int.mul_comm 2 q, Int.mul_assoc, Int.mul_comm 2]
  have e2 : q * 2 ^ (s + 1) = (2 * q) * 2 ^ s := by rw [Int.pow_succ, Int.mul_comm 2 q, Int.mul_assoc, Int.mul_comm 2]
  rw [e1, e2, Int.pow_add, Int.mul_comm ((2 : Int) ^ s) (2 ^ (t + 1)), Int.mul_ediv_mul_of_pos_left _ _ hp, Int.mul_ediv_mul_of_pos_left _ _ hp, Int.pow_succ, Int.mul_comm ((2 : Int) ^ t) 2, ← Int.ediv_ediv_of_nonneg (by decide), ← Int.ediv_ediv_of_nonneg (by decide)]
  congr 1
  omega
theorem low_bit (q v : Int) (s : Nat) (v0 : 0 ≤ v) (v1 : v ≤ 1) : (q * 2 ^ (s + 1) + v * 2 ^ s) / 2 ^ s % 2 = v := by
  have hp := p2pos s
  have e1 : q * 2 ^ (s + 1) + v * 2 ^ s = (2 * q + v) * 2 ^ s := by rw [Int.pow_succ, Int.add_mul, Int.mul_comm 2 q, Int.mul_assoc, Int.mul_comm 2]
  rw [e1, Int.mul_ediv_cancel _ (by omega)]
  omega
theorem WB.push {out bs : List Int} (h : WB out bs) (v : Int) (v0 : 0 ≤ v) (v1 : v ≤ 1) : if bs.length % 8 = 0 then WB (out ++ [v * 2 ^ 7]) (bs ++ [v]) else
    ∃ q : Int, 0 ≤ q ∧ q * 2 ^ (7 - bs.length % 8 + 1) < 256 ∧ rd out ((out.length : Int) - 1) = q * 2 ^ (7 - bs.length % 8 + 1) ∧ WB (out.set (out.length - 1) (q * 2 ^ (7 - bs.length % 8 + 1) + v * 2 ^ (7 - bs.length % 8))) (bs ++ [v]) := by
  have hl := h.len
  have hgd : ∀ i, i < bs.length → (bs ++ [v]).getD i 0 = bs.getD i 0 := fun i hi => by simp [List.getD, List.getElem?_append_left hi]
  have hgl : (bs ++ [v]).getD bs.length 0 = v := by simp [List.getD]
  have lb : (bs ++ [v]).length = bs.length + 1 := by simp
  by_cases c : bs.length % 8 = 0
  · rw [if_pos c]
    have lo : out.length * 8 = bs.length := by omega
    refine ⟨by rw [lb, List.length_append, List.length_cons, List.length_nil]; omega, h.bytes.push (by omega) (by omega), fun i hi => ?_, fun _ => ⟨v, v0, ?_⟩⟩
    · rw [lb] at hi
      by_cases d : i < bs.length
      · rw [hgd i d, ← h.at_ i d]
        unfold bitAt
        rw [rd_push_old _ _ _ (by omega) (by omega)]
      · have e : i = bs.length := by omega
        subst e
        rw [hgl]
        unfold bitAt
        rw [rd_push_new _ _ _ (by omega), c]
        have := low_bit 0 v 7 v0 v1
        rw [Int.zero_mul, Int.zero_add] at this
        exact this
    · rw [rd_push_new _ _ _ (by rw [List.length_append, List.length_cons, List.length_nil]; omega), lb, show 8 - (bs.length + 1) % 8 = 7 by omega]
  · rw [if_neg c]
    obtain ⟨q, q0, hq⟩ := h.last c
    have lo : 1 ≤ out.length := by omega
    have hs : 8 - bs.length % 8 = 7 - bs.length % 8 + 1 := by omega
    rw [hs] at hq
    have hb := h.bytes.rd (i := (out.length : Int) - 1) (by omega) (by omega)
    rw [hq] at hb
    refine ⟨q, q0, by omega, hq, ?_⟩
    generalize hS : 7 - bs.length % 8 = s at *
    have hp := p2pos s
    have hp2 : (2 : Int) ^ (s + 1) = 2 * 2 ^ s := by rw [Int.pow_succ, Int.mul_comm]
    have hlim : q * 2 ^ (s + 1) + v * 2 ^ s ≤ 255 := by
      have hv : v * 2 ^ s ≤ 1 * 2 ^ s := Int.mul_le_mul_of_nonneg_right v1 (by omega)
      obtain ⟨d, hd⟩ : ∃ d, 8 = s + 1 + d := ⟨7 - s, by omega⟩
      have e8 : (256 : Int) = 2 ^ (s + 1) * 2 ^ d := by rw [← Int.pow_add, ← hd]; rfl
      have hlt : q < 2 ^ d := by
        rcases Int.lt_or_le q (2 ^ d) with h | h
        · exact h
        · have := Int.mul_le_mul_of_nonneg_right h (show (0 : Int) ≤ 2 ^ (s + 1) by omega)
          rw [Int.mul_comm ((2 : Int) ^ d)] at this
          omega
      have : (q + 1) * 2 ^ (s + 1) ≤ 2 ^ d * 2 ^ (s + 1) := Int.mul_le_mul_of_nonneg_right (by omega) (by omega)
      rw [Int.add_mul, Int.mul_comm ((2 : Int) ^ d)] at this
      omega
    have hnn : 0 ≤ q * 2 ^ (s + 1) := Int.mul_nonneg q0 (by omega)
    have hvn : 0 ≤ v * 2 ^ s := Int.mul_nonneg v0 (by omega)
    have hset : ∀ j : Int, 0 ≤ j → j < (out.length : Int) → rd (out.set (out.length - 1) (q * 2 ^ (s + 1) + v * 2 ^ s)) j = if j = (out.length : Int) - 1 then q * 2 ^ (s + 1) + v * 2 ^ s else rd out j := by
      intro j j0 j1
      rw [show out.length - 1 = ((out.length : Int) - 1).toNat by omega]
      by_cases d : j = (out.length : Int) - 1
      · rw [if_pos d, d, rd_set_eq _ _ _ (by omega) (by omega)]
      · rw [if_neg d, rd_set_ne _ _ _ _ (by omega) j0 j1 d]
    refine ⟨by rw [lb, List.length_set]; omega, fun x hx => ?_, fun i hi => ?_, fun hne => ?_⟩
    · rcases List.mem_or_eq_of_mem_set hx with hx | hx
      · exact h.bytes x hx
      · rw [hx]; exact ⟨by omega, hlim⟩
    · rw [lb] at hi
      unfold bitAt
      rw [hset _ (by omega) (by omega)]
      by_cases d : i < bs.length
      · rw [hgd i d, ← h.at_ i d]
        unfold bitAt
        by_cases e : ((i / 8 : Nat) : Int) = (out.length : Int) - 1
        · rw [if_pos e, e, hq]
          obtain ⟨t, ht⟩ : ∃ t, 7 - i % 8 = s + (t + 1) := ⟨7 - i % 8 - s - 1, by omega⟩
          rw [ht, top_bit q v s t v0 v1]
        · rw [if_neg e]
      · have e : i = bs.length := by omega
        subst e
        rw [hgl, if_pos (by omega), hS, low_bit q v s v0 v1]
    · rw [lb] at hne ⊢
      rw [List.length_set, hset _ (by omega) (by omega), if_pos rfl]
      have : 8 - (bs.length + 1) % 8 = s := by omega
      rw [this]
      exact ⟨2 * q + v, by omega, by rw [hp2, Int.add_mul, Int.mul_left_comm, Int.mul_assoc, Int.mul_left_comm]⟩
theorem u8_id {x : Int} (h0 : 0 ≤ x) (h1 : x ≤ 255) : u8 x = x := by rw [u8_def]; omega
theorem put_l0 (k : Nat) (v : Int) (v0 : 0 ≤ v) (v1 : v < 4611686018427387904) : ∀ (n fuel : Nat) (out bs : List Int), WB out bs → bs.length + n ≤ 1000000 → n ≤ 40 → n < fuel →
    ∃ out', squeeze_writer_put.l0 k v fuel ((n : Int) - 1) out (bs.length : Int) = some (out', ((bs ++ bitsOf v n).length : Int)) ∧ WB out' (bs ++ bitsOf v n) := by
  intro n
  induction n with
  | zero =>
    intro fuel out bs h hl hn hf
    obtain ⟨fuel, rfl⟩ : ∃ q, fuel = q + 1 := ⟨fuel - 1, by omega⟩
    rw [squeeze_writer_put.l0, ifn (by omega), bitsOf, List.append_nil]
    exact ⟨out, rfl, h⟩
  | succ n ih =>
    intro fuel out bs h hl hn hf
    obtain ⟨fuel, rfl⟩ : ∃ q, fuel = q + 1 := ⟨fuel - 1, by omega⟩
    have hlen := h.len
    have hb0 : 0 ≤ v / 2 ^ n % 2 := by omega
    have hb1 : v / 2 ^ n % 2 ≤ 1 := by omega
    have hp := h.push (v / 2 ^ n % 2) hb0 hb1
    have hbit : u8 (Go.bits .and .i64 (shr v (min (((n + 1 : Nat) : Int) - 1).toNat 64)) 1) = v / 2 ^ n % 2 := by
      rw [show min (((n + 1 : Nat) : Int) - 1).toNat 64 = n by omega, shr_bit v n v0 v1, u8_id (by omega) (by omega)]
    have hm := tmod_nn (a := (bs.length : Int)) (b := 8) (by omega)
    have happ : bs ++ bitsOf v (n + 1) = (bs ++ [v / 2 ^ n % 2]) ++ bitsOf v n := by rw [bitsOf]; simp
    have lb : ((bs ++ [v / 2 ^ n % 2]).length : Int) = (bs.length : Int) + 1 := by simp
    have pw : ∀ s : Nat, s ≤ 7 → (2 : Int) ^ s ≤ 128 := fun s hs => by
      have : (2 : Nat) ^ s ≤ 2 ^ 7 := Nat.pow_le_pow_right (by decide) hs
      have e : ((2 ^ s : Nat) : Int) = (2 : Int) ^ s := by simp
      omega
    have vb : ∀ s : Nat, s ≤ 7 → 0 ≤ v / 2 ^ n % 2 * 2 ^ s ∧ v / 2 ^ n % 2 * 2 ^ s ≤ 128 := fun s hs => by
      have h1 := p2pos s
      have h2 := pw s hs
      exact ⟨Int.mul_nonneg hb0 (by omega), Int.le_trans (Int.mul_le_mul_of_nonneg_right hb1 (by omega)) (by omega)⟩
    rw [squeeze_writer_put.l0, ifp (by omega), hm, hbit, wid (x := 7 - (bs.length : Int) % 8) (by omega) (by omega), show min (7 - (bs.length : Int) % 8).toNat 8 = 7 - bs.length % 8 by omega,
      u8_id (vb _ (by omega)).1 (by have := (vb (7 - bs.length % 8) (by omega)).2; omega), wid (x := ((n + 1 : Nat) : Int) - 1 - 1) (by omega) (by omega), wid (x := (bs.length : Int) + 1) (by omega) (by omega), happ, ← lb, show ((n + 1 : Nat) : Int) - 1 - 1 = (n : Int) - 1 by omega]
    by_cases c : bs.length % 8 = 0
    · rw [if_pos c] at hp
      have hL : (((out ++ ([0] : List Int)).length : Nat) : Int) = (out.length : Int) + 1 := by simp
      rw [ifp (by omega), ifp (by omega), hL, wid (x := (out.length : Int) + 1 - 1) (by omega) (by omega), ifp (by omega), ifp (by omega), ifp (by omega), ifp (by omega)]
      rw [rd_push_new out 0 _ (by omega), c, show (out.length : Int) + 1 - 1 = (out.length : Int) by omega, show ((out.length : Int)).toNat = out.length by omega]
      have := u8_or_sum 0 (v / 2 ^ n % 2) 7 (by decide) (by decide) (by decide) hb0 hb1
      rw [Int.zero_mul, Int.zero_add] at this
      rw [this, show List.set (out ++ ([0] : List Int)) out.length (v / 2 ^ n % 2 * 2 ^ 7) = out ++ ([v / 2 ^ n % 2 * 2 ^ 7] : List Int) by simp]
      exact ih fuel _ _ hp (by simp; omega) (by omega) (by omega)
    · rw [if_neg c] at hp
      obtain ⟨q, q0, q1, q2, hq⟩ := hp
      rw [ifn (by omega), wid (x := (out.length : Int) - 1) (by omega) (by omega), ifp (by omega), ifp (by omega), ifp (by omega), ifp (by omega), q2, u8_or_sum q _ _ (by omega) q0 q1 hb0 hb1, show ((out.length : Int) - 1).toNat = out.length - 1 by omega]
      exact ih fuel _ _ hq (by simp; omega) (by omega) (by omega)
theorem put_ex (k : Nat) (v : Int) (n : Nat) (out bs : List Int) (h : WB out bs) (v0 : 0 ≤ v) (v1 : v < 4611686018427387904) (hl : bs.length + n ≤ 1000000) (hn : n ≤ 40) (hk : 100 ≤ k) :
    ∃ out', squeeze_writer_put k ⟨out, (bs.length : Int)⟩ v (n : Int) = some (out', ((bs ++ bitsOf v n).length : Int)) ∧ WB out' (bs ++ bitsOf v n) := by
  unfold squeeze_writer_put
  dsimp only
  rw [wid (x := (n : Int) - 1) (by omega) (by omega)]
  obtain ⟨o, e, he⟩ := put_l0 k v v0 v1 n k out bs h hl hn (by omega)
  rw [bnd e]
  exact ⟨o, rfl, he⟩
def foldZ (d : Int) : Int := if d < 0 then -2 * d - 1 else 2 * d
theorem fold_ex (k : Nat) (d : Int) (h0 : -65535 ≤ d) (h1 : d ≤ 65535) : squeeze_fold k d = some (foldZ d) := by
  unfold squeeze_fold foldZ
  by_cases c : d < 0
  · rw [ifp c, if_pos c, wid (x := -2 * d) (by omega) (by omega), wid (by omega) (by omega)]
  · rw [ifn c, if_neg c, wid (by omega) (by omega)]
theorem foldZ_in {d : Int} (h0 : -65535 ≤ d) (h1 : d ≤ 65535) : 0 ≤ foldZ d ∧ foldZ d ≤ 131070 := by
  unfold foldZ
  split <;> omega
structure ZS (cs f : List Int) (n : Nat) : Prop where
  len : f.length = n
  at_ : ∀ j : Int, 0 ≤ j → j < (n : Int) → rd f j = foldZ (rd cs (j + 1) - rd cs j)
  in_ : AllIn f 0 131070
theorem folds_l0 (k : Nat) (cs : List Int) (hc : AllIn cs 0 65535) (hl : cs.length ≤ 1000) : ∀ (d fuel i : Nat) (f : List Int), 1 ≤ i → i + d = cs.length → d < fuel → ZS cs f (i - 1) → ∃ f', squeeze_row.l0 k cs fuel f (i : Int) = some f' ∧ ZS cs f' (cs.length - 1) := by
  intro d
  induction d with
  | zero =>
    intro fuel i f h1 h2 hf hz
    obtain ⟨fuel, rfl⟩ : ∃ q, fuel = q + 1 := ⟨fuel - 1, by omega⟩
    rw [squeeze_row.l0, ifn (by omega)]
    exact ⟨f, rfl, by rw [← h2]; exact hz⟩
  | succ d ih =>
    intro fuel i f h1 h2 hf hz
    obtain ⟨fuel, rfl⟩ : ∃ q, fuel = q + 1 := ⟨fuel - 1, by omega⟩
    have a1 := hc.rd (i := (i : Int)) (by omega) (by omega)
    have a2 := hc.rd (i := (i : Int) - 1) (by omega) (by omega)
    have hfl := hz.len
    rw [squeeze_row.l0, ifp (by omega), ifp (by omega), wid (x := (i : Int) - 1) (by omega) (by omega), ifp (by omega), ifp (by omega), wid (x := rd cs (i : Int) - rd cs ((i : Int) - 1)) (by omega) (by omega), bnd (fold_ex k _ (by omega) (by omega)), ifp (by omega), wid (x := (i : Int) + 1) (by omega) (by omega), show (i : Int) + 1 = ((i + 1 : Nat) : Int) by omega]
    have hin := foldZ_in (d := rd cs (i : Int) - rd cs ((i : Int) - 1)) (by omega) (by omega)
    refine ih fuel (i + 1) _ (by omega) (by omega) (by omega) ⟨by simp; omega, fun j j0 j1 => ?_, hz.in_.push hin.1 hin.2⟩
    by_cases c : j < (f.length : Int)
    · rw [rd_push_old _ _ _ j0 c]; exact hz.at_ j j0 (by omega)
    · have e : j = (f.length : Int) := by omega
      rw [rd_push_new _ _ _ e, show j + 1 = (i : Int) by omega, show j = (i : Int) - 1 by omega]
def CK (n : Nat) : List (List Int) → Prop
  | [] => True
  | g :: gs => 1 ≤ g.length ∧ g.length ≤ n ∧ (gs ≠ [] → g.length = n) ∧ CK n gs
theorem chunk_l0 (k n : Nat) (l : List Int) (n1 : 1 ≤ n) (n2 : n ≤ 1000) (hl : l.length ≤ 100000) : ∀ (d fuel i : Nat), l.length ≤ i + d → i ≤ 200000 → d < fuel → ∃ gs, slices_Chunk_int_1.l0 k l (n : Int) fuel (i : Int) = some gs ∧ gs.flatten = l.drop i ∧ CK n gs ∧ gs.length ≤ d := by
  intro d
  induction d with
  | zero =>
    intro fuel i h1 h2 hf
    obtain ⟨fuel, rfl⟩ : ∃ q, fuel = q + 1 := ⟨fuel - 1, by omega⟩
    rw [slices_Chunk_int_1.l0, ifn (by omega)]
    exact ⟨[], rfl, by rw [List.drop_of_length_le (by omega)]; rfl, trivial, by simp⟩
  | succ d ih =>
    intro fuel i h1 h2 hf
    obtain ⟨fuel, rfl⟩ : ∃ q, fuel = q + 1 := ⟨fuel - 1, by omega⟩
    by_cases c : i < l.length
    · have ld : ((l.drop ((i : Int)).toNat).length : Int) = (l.length : Int) - i := by rw [List.length_drop]; omega
      obtain ⟨m, hm⟩ : ∃ m : Nat, (i : Int) + mn (n : Int) ((l.length : Int) - i) = (m : Int) := ⟨min (i + n) l.length, by rw [mn_def]; omega⟩
      have hm2 : m = min (i + n) l.length := by rw [mn_def] at hm; omega
      obtain ⟨gs, e, hg, hk, hlen⟩ := ih fuel (i + n) (by omega) (by omega) (by omega)
      rw [slices_Chunk_int_1.l0, ifp (by omega), ifp (by omega), ifp (by omega), ld, hm, wid (x := (m : Int)) (by omega) (by omega), ifp (by omega), ifp (by omega), wid (x := (i : Int) + n) (by omega) (by omega), show (i : Int) + n = ((i + n : Nat) : Int) by omega, bnd e]
      have gl : (List.drop ((i : Int)).toNat (List.take ((m : Int)).toNat l)).length = m - i := by rw [List.length_drop, List.length_take]; omega
      refine ⟨_, rfl, ?_, ⟨by rw [gl]; omega, by rw [gl]; omega, fun hne => ?_, hk⟩, by simp; omega⟩
      · rw [List.flatten_cons, hg, show ((i : Int)).toNat = i by omega, show ((m : Int)).toNat = m by omega]
        by_cases c2 : i + n ≤ l.length
        · rw [show m = i + n by omega, List.drop_take, show i + n - i = n by omega, ← List.drop_drop, List.take_append_drop]
        · rw [show m = l.length by omega, List.take_length, List.drop_of_length_le (show l.length ≤ i + n by omega), List.append_nil]
      · rw [gl]
        have : i + n < l.length := by
          rcases Nat.lt_or_ge (i + n) l.length with h | h
          · exact h
          · rw [List.drop_of_length_le h] at hg
            cases gs with
            | nil => exact absurd rfl hne
            | cons g gs =>
              have h1 := hk.1
              have := congrArg List.length hg
              rw [List.flatten_cons, List.length_append, List.length_nil] at this
              omega
        omega
    · rw [slices_Chunk_int_1.l0, ifn (by omega)]
      exact ⟨[], rfl, by rw [List.drop_of_length_le (by omega)]; rfl, trivial, by simp⟩
theorem chunk_ex (k n : Nat) (l : List Int) (n1 : 1 ≤ n) (n2 : n ≤ 1000) (hl : l.length ≤ 5000) (hk : 10000 ≤ k) : ∃ gs, slices_Chunk_int k l (n : Int) = some (l, (n : Int)) ∧ slices_Chunk_int_1 k l (n : Int) = some gs ∧ gs.flatten = l ∧ CK n gs := by
  obtain ⟨gs, e, h1, h2, _⟩ := chunk_l0 k n l n1 n2 (by omega) l.length k 0 (by omega) (by omega) (by omega)
  exact ⟨gs, by unfold slices_Chunk_int; rw [ifn (by omega)], e, h1, h2⟩
theorem CK.all {n : Nat} (n1 : 1 ≤ n) : ∀ {gs : List (List Int)} {h : Nat}, CK n gs → gs.flatten.length = n * h → (∀ g, g ∈ gs → g.length = n) ∧ gs.length = h
  | [], h, _, e => by
    have e : 0 = n * h := e
    rcases Nat.mul_eq_zero.mp e.symm with h0 | h0
    · omega
    · exact ⟨fun g hg => (by cases hg), h0.symm⟩
  | g :: gs, 0, hk, e => by
    rw [List.flatten_cons, List.length_append, Nat.mul_zero] at e
    have := hk.1
    omega
  | g :: gs, h + 1, hk, e => by
    rw [List.flatten_cons, List.length_append, Nat.mul_succ] at e
    obtain ⟨h1, h2, h3, h4⟩ := hk
    by_cases c : gs = []
    · subst c
      have e : g.length + 0 = n * h + n := e
      have h0 : n * h = 0 := by omega
      rcases Nat.mul_eq_zero.mp h0 with h0 | h0
      · omega
      · subst h0
        refine ⟨fun x hx => ?_, rfl⟩
        simp only [List.mem_singleton] at hx
        subst hx
        omega
    · have hg := h3 c
      obtain ⟨i1, i2⟩ := CK.all n1 (gs := gs) (h := h) h4 (by omega)
      refine ⟨fun x hx => ?_, by rw [List.length_cons, i2]⟩
      rcases List.mem_cons.mp hx with rfl | hx
      · exact hg
      · exact i1 x hx
def unitZ (x z : Int) : Int := if x = 15 then 17 else z / 2 ^ x.toNat + 1 + x
def costL (x : Int) : List Int → Int
  | [] => 0
  | z :: g => unitZ x z + costL x g
theorem unitZ_in {x z : Int} (x0 : 0 ≤ x) (x1 : x ≤ 15) (z0 : 0 ≤ z) (z1 : z ≤ 131070) : 1 ≤ unitZ x z ∧ unitZ x z ≤ 131100 := by
  unfold unitZ
  split
  · omega
  · have h0 : 0 ≤ z / 2 ^ x.toNat := Int.ediv_nonneg z0 (by have := p2pos x.toNat; omega)
    have h1 : z / 2 ^ x.toNat ≤ z := Int.ediv_le_self _ z0
    omega
theorem costL_in {x : Int} (x0 : 0 ≤ x) (x1 : x ≤ 15) : ∀ {g : List Int}, AllIn g 0 131070 → 0 ≤ costL x g ∧ costL x g ≤ 131100 * g.length
  | [], _ => ⟨by simp [costL], by simp [costL]⟩
  | z :: g, h => by
    have h1 := h z (List.mem_cons_self ..)
    have h2 := unitZ_in x0 x1 h1.1 h1.2
    have h3 := costL_in x0 x1 (g := g) (fun y hy => h y (List.mem_cons_of_mem _ hy))
    rw [costL, List.length_cons]
    omega
theorem cost15 : ∀ g : List Int, costL 15 g = 17 * g.length
  | [] => rfl
  | z :: g => by rw [costL, cost15 g, List.length_cons, unitZ, if_pos rfl]; omega
theorem cost_l0 (k : Nat) (g : List Int) (x : Int) (hg : AllIn g 0 131070) (gl : g.length ≤ 100) (x0 : 0 ≤ x) (x1 : x ≤ 15) : ∀ (q p : List Int) (fuel : Nat) (n : Int), g = p ++ q → q.length < fuel → 0 ≤ n → n ≤ 131100 * p.length →
    squeeze_cost.l0 k g x fuel n (p.length : Int) = some (n + costL x q) := by
  intro q
  induction q with
  | nil =>
    intro p fuel n hl hf n0 n1
    obtain ⟨fuel, rfl⟩ : ∃ q, fuel = q + 1 := ⟨fuel - 1, by omega⟩
    rw [squeeze_cost.l0, ifn (by rw [hl, List.append_nil]; omega), costL, Int.add_zero]
  | cons z q ih =>
    intro p fuel n hl hf n0 n1
    obtain ⟨fuel, rfl⟩ : ∃ q, fuel = q + 1 := ⟨fuel - 1, by omega⟩
    have ll : g.length = p.length + (q.length + 1) := by rw [hl, List.length_append, List.length_cons]
    have e : rd g (p.length : Int) = z := rd_at hl rfl
    have hz := hg z (by rw [hl]; simp)
    have hu := unitZ_in x0 x1 hz.1 hz.2
    have hn := ih (p ++ [z]) fuel (n + unitZ x z) (by rw [hl]; simp) (by simp at hf; omega) (by omega) (by simp; omega)
    rw [show ((p ++ [z]).length : Int) = (p.length : Int) + 1 by simp] at hn
    rw [squeeze_cost.l0, ifp (by omega), ifp (by omega), e, wid (x := (p.length : Int) + 1) (by omega) (by omega), costL, ← Int.add_assoc, ← hn]
    by_cases c : x = 15
    · rw [ifp c, wid (x := n + 17) (by omega) (by omega), show unitZ x z = 17 by unfold unitZ; rw [if_pos c]]
    · have hux : unitZ x z = z / 2 ^ x.toNat + 1 + x := by unfold unitZ; rw [if_neg c]
      rw [hux] at hu
      rw [ifn c, ifp (by omega), show min x.toNat 64 = x.toNat by omega, shr_def, wid (x := z / 2 ^ x.toNat + 1) (by omega) (by omega), wid (x := z / 2 ^ x.toNat + 1 + x) (by omega) (by omega), wid (by omega) (by omega), hux]
theorem cost_ex (k : Nat) (g : List Int) (x : Int) (hg : AllIn g 0 131070) (gl : g.length ≤ 100) (x0 : 0 ≤ x) (x1 : x ≤ 15) (hk : 200 ≤ k) : squeeze_cost k g x = some (costL x g) := by
  unfold squeeze_cost
  have := cost_l0 k g x hg gl x0 x1 g [] k 0 rfl (by omega) (by omega) (by simp)
  rw [show (([] : List Int).length : Int) = 0 from rfl, Int.zero_add] at this
  rw [bnd this]
theorem best_l2 (k : Nat) (g : List Int) (hg : AllIn g 0 131070) (gl : g.length ≤ 100) (hk : 200 ≤ k) : ∀ (d fuel : Nat) (x best : Int), 0 ≤ x → x + d = 16 → d < fuel → 0 ≤ best → best ≤ 15 → (∀ y, 0 ≤ y → y < x → costL best g ≤ costL y g) →
    ∃ b, squeeze_row.l2 k g fuel best x = some b ∧ 0 ≤ b ∧ b ≤ 15 ∧ costL b g ≤ costL 15 g := by
  intro d
  induction d with
  | zero =>
    intro fuel x best x0 hx hf b0 b1 hb
    obtain ⟨fuel, rfl⟩ : ∃ q, fuel = q + 1 := ⟨fuel - 1, by omega⟩
    rw [squeeze_row.l2, ifn (by omega)]
    exact ⟨best, rfl, b0, b1, hb 15 (by decide) (by omega)⟩
  | succ d ih =>
    intro fuel x best x0 hx hf b0 b1 hb
    obtain ⟨fuel, rfl⟩ : ∃ q, fuel = q + 1 := ⟨fuel - 1, by omega⟩
    rw [squeeze_row.l2, ifp (by omega), bnd (cost_ex k g x hg gl x0 (by omega) hk), bnd (cost_ex k g best hg gl b0 b1 hk), wid (by omega) (by omega)]
    by_cases c : costL x g < costL best g
    · rw [ifp c]
      refine ih fuel (x + 1) x (by omega) (by omega) (by omega) x0 (by omega) fun y y0 y1 => ?_
      by_cases e : y = x
      · rw [e]; exact Int.le_refl _
      · have := hb y y0 (by omega); omega
    · rw [ifn c]
      refine ih fuel (x + 1) best (by omega) (by omega) (by omega) b0 b1 fun y y0 y1 => ?_
      by_cases e : y = x
      · rw [e]; omega
      · exact hb y y0 (by omega)
def zb (best z : Int) : List Int := if best = 15 then bitsOf z 17 else List.replicate (z / 2 ^ best.toNat).toNat 1 ++ (0 :: bitsOf z best.toNat)
def gb (best : Int) : List Int → List Int
  | [] => []
  | z :: g => zb best z ++ gb best g
theorem zb_len {best z : Int} (b0 : 0 ≤ best) (z0 : 0 ≤ z) : ((zb best z).length : Int) = unitZ best z := by
  have h0 : 0 ≤ z / 2 ^ best.toNat := Int.ediv_nonneg z0 (by have := p2pos best.toNat; omega)
  unfold zb unitZ
  by_cases c : best = 15
  · rw [if_pos c, if_pos c, bitsOf_len]; rfl
  · rw [if_neg c, if_neg c, List.length_append, List.length_replicate, List.length_cons, bitsOf_len]; omega
theorem gb_len {best : Int} (b0 : 0 ≤ best) : ∀ {g : List Int}, AllIn g 0 131070 → ((gb best g).length : Int) = costL best g
  | [], _ => rfl
  | z :: g, h => by
    rw [gb, costL, List.length_append, ← gb_len b0 (g := g) (fun y hy => h y (List.mem_cons_of_mem _ hy)), ← zb_len b0 (h z (List.mem_cons_self ..)).1]
    omega
theorem ones_l4 (k : Nat) (g : List Int) (i best u : Int) (hu : shr (rd g i) (min best.toNat 64) = u) (hk : 100 ≤ k) : ∀ (d fuel : Nat) (j : Int) (out bs : List Int), 0 ≤ j → j + d = u → u ≤ 1000000 → d < fuel → WB out bs → bs.length + d ≤ 900000 →
    ∃ out', squeeze_row.l4 k g i best fuel j out (bs.length : Int) = some (out', ((bs ++ List.replicate d 1).length : Int)) ∧ WB out' (bs ++ List.replicate d 1) := by
  intro d
  induction d with
  | zero =>
    intro fuel j out bs j0 hj u1 hf h hl
    obtain ⟨fuel, rfl⟩ : ∃ q, fuel = q + 1 := ⟨fuel - 1, by omega⟩
    rw [squeeze_row.l4, hu, ifn (by omega), List.replicate_zero, List.append_nil]
    exact ⟨out, rfl, h⟩
  | succ d ih =>
    intro fuel j out bs j0 hj u1 hf h hl
    obtain ⟨fuel, rfl⟩ : ∃ q, fuel = q + 1 := ⟨fuel - 1, by omega⟩
    obtain ⟨o, e, ho⟩ := put_ex k 1 1 out bs h (by decide) (by decide) (by omega) (by decide) hk
    rw [squeeze_row.l4, hu, ifp (by omega), wid (by omega) (by omega)]
    have e' : squeeze_writer_put k ⟨out, (bs.length : Int)⟩ 1 1 = some (o, ((bs ++ [1]).length : Int)) := e
    rw [bnd e']; dsimp only
    have ho' : WB o (bs ++ [1]) := ho
    obtain ⟨o2, e2, h2⟩ := ih fuel (j + 1) o (bs ++ [1]) (by omega) (by omega) u1 (by omega) ho' (by simp; omega)
    rw [show bs ++ List.replicate (d + 1) 1 = (bs ++ [1]) ++ List.replicate d 1 by rw [List.replicate_succ]; simp]
    exact ⟨o2, e2, h2⟩
theorem group_l3 (k : Nat) (g : List Int) (best : Int) (hg : AllIn g 0 131070) (gl : g.length ≤ 100) (b0 : 0 ≤ best) (b1 : best ≤ 15) (hk : 10000 ≤ k) (hc : costL best g ≤ 9000) : ∀ (q p : List Int) (fuel : Nat) (out bs : List Int), g = p ++ q → q.length < fuel → WB out bs → bs.length + costL best q ≤ 800000 → costL best q ≤ 9000 →
    ∃ out', squeeze_row.l3 k g best fuel (p.length : Int) out (bs.length : Int) = some (out', ((bs ++ gb best q).length : Int)) ∧ WB out' (bs ++ gb best q) := by
  intro q
  induction q with
  | nil =>
    intro p fuel out bs hl hf h hb hq
    obtain ⟨fuel, rfl⟩ : ∃ q, fuel = q + 1 := ⟨fuel - 1, by omega⟩
    rw [squeeze_row.l3, ifn (by rw [hl, List.append_nil]; omega), gb, List.append_nil]
    exact ⟨out, rfl, h⟩
  | cons z q ih =>
    intro p fuel out bs hl hf h hb hq
    obtain ⟨fuel, rfl⟩ : ∃ q, fuel = q + 1 := ⟨fuel - 1, by omega⟩
    have ll : g.length = p.length + (q.length + 1) := by rw [hl, List.length_append, List.length_cons]
    have e : rd g (p.length : Int) = z := rd_at hl rfl
    have hz := hg z (by rw [hl]; simp)
    have hu := unitZ_in b0 b1 hz.1 hz.2
    have hzl := zb_len (best := best) b0 hz.1
    have hqc := costL_in (x := best) b0 b1 (g := q) (fun y hy => hg y (by rw [hl]; simp [hy]))
    rw [costL] at hb hq
    have nx : ∀ (out2 : List Int), WB out2 (bs ++ zb best z) → ∃ out', squeeze_row.l3 k g best fuel ((p.length : Int) + 1) out2 ((bs ++ zb best z).length : Int) = some (out', ((bs ++ gb best (z :: q)).length : Int)) ∧ WB out' (bs ++ gb best (z :: q)) := by
      intro out2 h2
      have := ih (p ++ [z]) fuel out2 (bs ++ zb best z) (by rw [hl]; simp) (by simp at hf; omega) h2 (by rw [List.length_append]; omega) (by omega)
      rw [show ((p ++ [z]).length : Int) = (p.length : Int) + 1 by simp] at this
      rw [gb, ← List.append_assoc]
      exact this
    rw [squeeze_row.l3, ifp (by omega), ifp (by omega), e, wid (x := (p.length : Int) + 1) (by omega) (by omega)]
    by_cases c : best = 15
    · obtain ⟨o, e1, ho⟩ := put_ex k z 17 out bs h hz.1 (by omega) (by omega) (by decide) (by omega)
      have hzb : zb best z = bitsOf z 17 := by unfold zb; rw [if_pos c]
      have e1' : squeeze_writer_put k ⟨out, (bs.length : Int)⟩ z 17 = some (o, ((bs ++ bitsOf z 17).length : Int)) := e1
      rw [ifp c, bnd e1']; dsimp only
      rw [← hzb]
      exact nx o (by rw [hzb]; exact ho)
    · have hux : unitZ best z = z / 2 ^ best.toNat + 1 + best := by unfold unitZ; rw [if_neg c]
      have h0 : 0 ≤ z / 2 ^ best.toNat := Int.ediv_nonneg hz.1 (by have := p2pos best.toNat; omega)
      have hsh : shr (rd g (p.length : Int)) (min best.toNat 64) = z / 2 ^ best.toNat := by rw [e, show min best.toNat 64 = best.toNat by omega, shr_def]
      obtain ⟨o, e1, ho⟩ := ones_l4 k g (p.length : Int) best (z / 2 ^ best.toNat) hsh (by omega) (z / 2 ^ best.toNat).toNat k 0 out bs (by omega) (by omega) (by omega) (by omega) h (by omega)
      obtain ⟨o2, e2, ho2⟩ := put_ex k 0 1 o _ ho (by decide) (by decide) (by rw [List.length_append, List.length_replicate]; omega) (by decide) (by omega)
      obtain ⟨o3, e3, ho3⟩ := put_ex k z best.toNat o2 _ ho2 hz.1 (by omega) (by simp only [List.length_append, List.length_replicate, bitsOf_len]; omega) (by omega) (by omega)
      have hzb : bs ++ zb best z = bs ++ List.replicate (z / 2 ^ best.toNat).toNat 1 ++ bitsOf 0 1 ++ bitsOf z best.toNat := by
        unfold zb; rw [if_neg c]; simp [bitsOf]
      rw [← hzb] at e3 ho3
      rw [show ((best.toNat : Nat) : Int) = best by omega] at e3
      have e2' : squeeze_writer_put k ⟨o, ((bs ++ List.replicate (z / 2 ^ best.toNat).toNat 1).length : Int)⟩ 0 1 = some (o2, ((bs ++ List.replicate (z / 2 ^ best.toNat).toNat 1 ++ bitsOf 0 1).length : Int)) := e2
      rw [ifn c, ifp (by omega), bnd e1]; dsimp only
      rw [bnd e2']; dsimp only
      rw [bnd e3]; dsimp only
      exact nx o3 ho3
def GB : List (List Int) → List Int → Prop
  | [], bs => bs = []
  | g :: gs, bs => ∃ best rest, 0 ≤ best ∧ best ≤ 15 ∧ bs = bitsOf best 4 ++ (gb best g ++ rest) ∧ GB gs rest
theorem groups_g1 (k : Nat) (hk : 10000 ≤ k) : ∀ (gs : List (List Int)) (out bs : List Int), (∀ g, g ∈ gs → AllIn g 0 131070 ∧ g.length ≤ 8) → gs.length ≤ 50 → WB out bs → bs.length + 200 * gs.length ≤ 500000 →
    ∃ out' body, squeeze_row.g1 k gs out (bs.length : Int) = some (out', ((bs ++ body).length : Int)) ∧ WB out' (bs ++ body) ∧ GB gs body ∧ body.length ≤ 4 * gs.length + 17 * gs.flatten.length := by
  intro gs
  induction gs with
  | nil =>
    intro out bs hg hl h hb
    refine ⟨out, [], by rw [List.append_nil]; rfl, by rw [List.append_nil]; exact h, rfl, by simp⟩
  | cons g gs ih =>
    intro out bs hg hl h hb
    rw [List.length_cons] at hl hb
    obtain ⟨g1, g2⟩ := hg g (List.mem_cons_self ..)
    obtain ⟨best, e1, b0, b1, bc⟩ := best_l2 k g g1 (by omega) (by omega) 16 k 0 0 (by decide) (by decide) (by omega) (by decide) (by decide) (fun y y0 y1 => by omega)
    have hcl := gb_len (best := best) b0 g1
    rw [cost15] at bc
    obtain ⟨o1, e2, h1⟩ := put_ex k best 4 out bs h b0 (by omega) (by omega) (by decide) (by omega)
    have e2' : squeeze_writer_put k ⟨out, (bs.length : Int)⟩ best 4 = some (o1, ((bs ++ bitsOf best 4).length : Int)) := e2
    have l1 : (bs ++ bitsOf best 4).length = bs.length + 4 := by rw [List.length_append, bitsOf_len]
    obtain ⟨o2, e3, h2⟩ := group_l3 k g best g1 (by omega) b0 b1 hk (by omega) g [] k o1 (bs ++ bitsOf best 4) rfl (by omega) h1 (by omega) (by omega)
    rw [show (([] : List Int).length : Int) = 0 from rfl] at e3
    have l2 : (bs ++ bitsOf best 4 ++ gb best g).length = bs.length + 4 + (gb best g).length := by rw [List.length_append, l1]
    obtain ⟨o3, body, e4, h3, h4, h5⟩ := ih o2 (bs ++ bitsOf best 4 ++ gb best g) (fun x hx => hg x (List.mem_cons_of_mem _ hx)) (by omega) h2 (by omega)
    refine ⟨o3, bitsOf best 4 ++ (gb best g ++ body), ?_, ?_, ⟨best, body, b0, b1, rfl, h4⟩, ?_⟩
    · rw [squeeze_row.g1, bnd e1, bnd e2']; dsimp only
      rw [bnd e3]; dsimp only
      rw [e4]
      simp only [List.append_assoc]
    · simp only [List.append_assoc] at h3; exact h3
    · rw [List.length_append, List.length_append, bitsOf_len, List.flatten_cons, List.length_append, List.length_cons]
      omega
def RB (cs bs : List Int) : Prop := ∃ f gs body, ZS cs f (cs.length - 1) ∧ gs.flatten = f ∧ CK 8 gs ∧ GB gs body ∧ bs = bitsOf (rd cs 0) 16 ++ body
theorem CK.len {n : Nat} : ∀ {gs : List (List Int)}, CK n gs → gs.length ≤ gs.flatten.length ∧ (n * gs.length ≤ gs.flatten.length + (n - 1))
  | [], _ => ⟨by simp, by simp⟩
  | g :: gs, h => by
    obtain ⟨h1, h2, h3, h4⟩ := h
    obtain ⟨i1, i2⟩ := CK.len h4
    rw [List.length_cons, List.flatten_cons, List.length_append]
    refine ⟨by omega, ?_⟩
    rw [Nat.mul_succ]
    by_cases c : gs = []
    · subst c; simp; omega
    · have := h3 c; omega
theorem CK.mem {n : Nat} : ∀ {gs : List (List Int)}, CK n gs → ∀ g, g ∈ gs → g.length ≤ n
  | [], _, g, hg => by cases hg
  | x :: gs, h, g, hg => by
    rcases List.mem_cons.mp hg with rfl | hg
    · exact h.2.1
    · exact CK.mem h.2.2.2 g hg
theorem row_ex (k : Nat) (cs : List Int) (hc : AllIn cs 0 65535) (l1 : 1 ≤ cs.length) (l2 : cs.length ≤ 32) (hk : 10000 ≤ k) : ∃ r bs, squeeze_row k cs = some r ∧ WB r bs ∧ RB cs bs ∧ r.length ≤ 70 := by
  have h0 := hc.rd (i := 0) (by decide) (by omega)
  obtain ⟨o1, e1, h1⟩ := put_ex k (rd cs 0) 16 [] [] WB.nil h0.1 (by omega) (by simp) (by decide) (by omega)
  have e1' : squeeze_writer_put k ⟨[], 0⟩ (rd cs 0) 16 = some (o1, (([] ++ bitsOf (rd cs 0) 16).length : Int)) := e1
  rw [List.nil_append] at e1' h1
  obtain ⟨f, e2, hz⟩ := folds_l0 k cs hc (by omega) (cs.length - 1) k 1 [] (by decide) (by omega) (by omega) ⟨rfl, fun j h0 h1 => by omega, AllIn.nil⟩
  have hfl := hz.len
  obtain ⟨gs, e3, e4, hg, hck⟩ := chunk_ex k 8 f (by decide) (by decide) (by omega) hk
  have hcl := hck.len
  rw [hg] at hcl
  obtain ⟨o2, body, e5, h5, h6, h7⟩ := groups_g1 k hk gs o1 (bitsOf (rd cs 0) 16) (fun g hgm => ⟨fun x hx => hz.in_ x (by rw [← hg]; exact List.mem_flatten.mpr ⟨g, hgm, hx⟩), hck.mem g hgm⟩) (by omega) h1 (by rw [bitsOf_len]; omega)
  rw [hg] at h7
  refine ⟨o2, _, ?_, h5, ⟨f, gs, body, hz, hg, hck, h6, rfl⟩, ?_⟩
  · have e2' : squeeze_row.l0 k cs k [] 1 = some f := e2
    have e3' : slices_Chunk_int k f 8 = some (f, 8) := e3
    have e4' : slices_Chunk_int_1 k f 8 = some gs := e4
    unfold squeeze_row
    rw [ifp (by omega), bnd e1']; dsimp only
    rw [bnd e2', bnd e3']; dsimp only
    rw [bnd e4', bnd e5]
  · have := h5.len
    rw [List.length_append, bitsOf_len] at this
    omega
theorem eqself_l0_byte (k : Nat) (X : List Int) (hL : X.length ≤ 1000000) : ∀ (d m : Nat) (i : Int), i + d = (X.length : Int) → 0 ≤ i → d < m → slices_Equal_byte.l0 k X X m i = some (Sum.inr ()) := by
  intro d
  induction d with
  | zero =>
    intro m i hi i0 hm
    obtain ⟨m, rfl⟩ : ∃ q, m = q + 1 := ⟨m - 1, by omega⟩
    rw [slices_Equal_byte.l0, ifn (by omega)]
  | succ d ih =>
    intro m i hi i0 hm
    obtain ⟨m, rfl⟩ : ∃ q, m = q + 1 := ⟨m - 1, by omega⟩
    rw [slices_Equal_byte.l0, ifp (by omega), ifp i0, ifp (by omega), ifn (by simp), wid (by omega) (by omega)]
    exact ih m (i + 1) (by omega) (by omega) (by omega)
theorem eqself_byte (k : Nat) (X : List Int) (hL : X.length ≤ 1000000) (hk : X.length < k) : slices_Equal_byte k X X = some true := by
  unfold slices_Equal_byte
  rw [ifn (by simp), bnd (eqself_l0_byte k X hL X.length k 0 (by omega) (by omega) hk)]
  rfl
theorem nofind_squeeze_read_1 (k : Nat) (s : List Int) (hs : AllIn s 0 65535) (hl : s.length ≤ 100000) (j : Nat) : ∀ (fuel : Nat) (i : Int), 0 ≤ i → (s.length : Int) - i ≤ j → j < fuel → slices_IndexFunc_int__squeeze_read_1.l0 k s fuel i = some (Sum.inr ()) := by
  induction j with
  | zero =>
    intro fuel i i0 hj hf
    obtain ⟨fuel, rfl⟩ : ∃ q, fuel = q + 1 := ⟨fuel - 1, by omega⟩
    rw [slices_IndexFunc_int__squeeze_read_1.l0, ifn (by omega)]
  | succ j ih =>
    intro fuel i i0 hj hf
    obtain ⟨fuel, rfl⟩ : ∃ q, fuel = q + 1 := ⟨fuel - 1, by omega⟩
    by_cases c : i < (s.length : Int)
    · have hr := hs.rd i0 c
      have h1 : squeeze_read_1 k (rd s i) = some false := by
        unfold squeeze_read_1
        rw [ifn (by omega), decide_eq_false (by omega)]
      rw [slices_IndexFunc_int__squeeze_read_1.l0, ifp c, ifp i0, bnd h1, ifn (by decide), wid (by omega) (by omega)]
      exact ih fuel (i + 1) (by omega) (by omega) (by omega)
    · rw [slices_IndexFunc_int__squeeze_read_1.l0, ifn c]
theorem nocont_squeeze_read_1 (k : Nat) (s : List Int) (hs : AllIn s 0 65535) (hl : s.length ≤ 100000) (hk : s.length < k) : slices_ContainsFunc_int__squeeze_read_1 k s = some false := by
  unfold slices_ContainsFunc_int__squeeze_read_1 slices_IndexFunc_int__squeeze_read_1
  rw [nofind_squeeze_read_1 k s hs hl s.length k 0 (by decide) (by omega) hk]
  rfl
theorem nofind_frame_Check_1 (k : Nat) (s : List Int) (hs : AllIn s 0 65535) (hl : s.length ≤ 100000) (j : Nat) : ∀ (fuel : Nat) (i : Int), 0 ≤ i → (s.length : Int) - i ≤ j → j < fuel → slices_IndexFunc_int__frame_Check_1.l0 k s fuel i = some (Sum.inr ()) := by
  induction j with
  | zero =>
    intro fuel i i0 hj hf
    obtain ⟨fuel, rfl⟩ : ∃ q, fuel = q + 1 := ⟨fuel - 1, by omega⟩
    rw [slices_IndexFunc_int__frame_Check_1.l0, ifn (by omega)]
  | succ j ih =>
    intro fuel i i0 hj hf
    obtain ⟨fuel, rfl⟩ : ∃ q, fuel = q + 1 := ⟨fuel - 1, by omega⟩
    by_cases c : i < (s.length : Int)
    · have hr := hs.rd i0 c
      have h1 : frame_Check_1 k (rd s i) = some false := by
        unfold frame_Check_1
        rw [ifn (by omega), decide_eq_false (by omega)]
      rw [slices_IndexFunc_int__frame_Check_1.l0, ifp c, ifp i0, bnd h1, ifn (by decide), wid (by omega) (by omega)]
      exact ih fuel (i + 1) (by omega) (by omega) (by omega)
    · rw [slices_IndexFunc_int__frame_Check_1.l0, ifn c]
theorem nocont_frame_Check_1 (k : Nat) (s : List Int) (hs : AllIn s 0 65535) (hl : s.length ≤ 100000) (hk : s.length < k) : slices_ContainsFunc_int__frame_Check_1 k s = some false := by
  unfold slices_ContainsFunc_int__frame_Check_1 slices_IndexFunc_int__frame_Check_1
  rw [nofind_frame_Check_1 k s hs hl s.length k 0 (by decide) (by omega) hk]
  rfl
def RD (b : List Int) (p : Nat) (l : List Int) : Prop := p + l.length ≤ 8 * b.length ∧ ∀ i, i < l.length → bitAt b (p + i) = l.getD i 0
theorem RD.head {b : List Int} {p : Nat} {x : Int} {l : List Int} (h : RD b p (x :: l)) : p < 8 * b.length ∧ bitAt b p = x ∧ RD b (p + 1) l := by
  obtain ⟨h1, h2⟩ := h
  rw [List.length_cons] at h1
  refine ⟨by omega, h2 0 (by simp), by omega, fun i hi => ?_⟩
  have := h2 (i + 1) (by rw [List.length_cons]; omega)
  rw [show p + (i + 1) = p + 1 + i by omega] at this
  rw [this]
  rfl
theorem get_l0 (k : Nat) (b : List Int) (u0 : Int) (o0 : Bool) (n : Int) (hb : AllIn b 0 255) (bl : b.length ≤ 100000) (n40 : n ≤ 40) : ∀ (d fuel : Nat) (x : Int) (p : Nat) (v : Int) (rest : List Int) (ov : Bool), 0 ≤ v → v < 1099511627776 → x + d = n → 0 ≤ x → d < fuel → RD b p (bitsOf v d ++ rest) →
    squeeze_reader_get.l0 k n ⟨b, u0, o0⟩ fuel (v / 2 ^ d) x (p : Int) ov = some (v, ((p + d : Nat) : Int), ov) ∧ RD b (p + d) rest := by
  intro d
  induction d with
  | zero =>
    intro fuel x p v rest ov v0 v1 hx x0 hf h
    obtain ⟨fuel, rfl⟩ : ∃ q, fuel = q + 1 := ⟨fuel - 1, by omega⟩
    rw [squeeze_reader_get.l0, ifn (by omega), Int.pow_zero, Int.ediv_one]
    exact ⟨rfl, h⟩
  | succ d ih =>
    intro fuel x p v rest ov v0 v1 hx x0 hf h
    obtain ⟨fuel, rfl⟩ : ∃ q, fuel = q + 1 := ⟨fuel - 1, by omega⟩
    rw [bitsOf, List.cons_append] at h
    obtain ⟨h1, h2, h3⟩ := h.head
    have hm := tmod_nn (a := (p : Int)) (b := 8) (by omega)
    have hd := tdiv_nn (a := (p : Int)) (b := 8) (by omega)
    have hr := hb.rd (i := ((p / 8 : Nat) : Int)) (by omega) (by omega)
    have hd2 : (p : Int) / 8 = ((p / 8 : Nat) : Int) := by omega
    have hs0 : 0 ≤ rd b ((p / 8 : Nat) : Int) / 2 ^ (7 - p % 8) := Int.ediv_nonneg hr.1 (by have := p2pos (7 - p % 8); omega)
    have hs1 : rd b ((p / 8 : Nat) : Int) / 2 ^ (7 - p % 8) ≤ rd b ((p / 8 : Nat) : Int) := Int.ediv_le_self _ hr.1
    have hbit : Go.bits .and .i64 (w64 (shr (rd b ((p / 8 : Nat) : Int)) (7 - p % 8))) 1 = v / 2 ^ d % 2 := by
      rw [wid (by rw [shr_def]; omega) (by rw [shr_def]; omega), shr_bit _ _ hr.1 (by omega)]
      exact h2
    have q0 : 0 ≤ v / 2 ^ (d + 1) := Int.ediv_nonneg v0 (by have := p2pos (d + 1); omega)
    have q1 : v / 2 ^ (d + 1) ≤ v := Int.ediv_le_self _ v0
    have hq : v / 2 ^ (d + 1) = v / 2 ^ d / 2 := by rw [Int.pow_succ, ← Int.ediv_ediv_of_nonneg (by have := p2pos d; omega)]
    have hor := i64_or_sum (v / 2 ^ (d + 1)) (v / 2 ^ d % 2) 1 q0 (by omega) (by rw [show (2 : Int) ^ 1 = 2 from rfl]; omega) (by rw [show (2 : Int) ^ 1 = 2 from rfl]; omega)
    rw [squeeze_reader_get.l0, ifp (by omega)]
    dsimp only
    rw [wid (x := 8 * (b.length : Int)) (by omega) (by omega), ifn (by omega), hd, hm, hd2, wid (x := ((p / 8 : Nat) : Int)) (by omega) (by omega), wid (x := 7 - (p : Int) % 8) (by omega) (by omega), ifp (by omega), ifp (by omega), ifp (by omega), show min (7 - (p : Int) % 8).toNat 8 = 7 - p % 8 by omega, hbit,
      wid (x := v / 2 ^ (d + 1) * 2 ^ 1) (by rw [show (2 : Int) ^ 1 = 2 from rfl]; omega) (by rw [show (2 : Int) ^ 1 = 2 from rfl]; omega), hor, show v / 2 ^ (d + 1) * 2 ^ 1 + v / 2 ^ d % 2 = v / 2 ^ d by rw [show (2 : Int) ^ 1 = 2 from rfl]; omega, wid (x := x + 1) (by omega) (by omega), wid (x := (p : Int) + 1) (by omega) (by omega), show (p : Int) + 1 = ((p + 1 : Nat) : Int) by omega, show p + (d + 1) = p + 1 + d by omega]
    exact ih fuel (x + 1) (p + 1) v rest ov v0 v1 (by omega) (by omega) (by omega) h3
theorem get_ex (k : Nat) (b : List Int) (n p : Nat) (v : Int) (rest : List Int) (ov : Bool) (hb : AllIn b 0 255) (bl : b.length ≤ 100000) (n40 : n ≤ 39) (v0 : 0 ≤ v) (v1 : v < 2 ^ n) (hk : 100 ≤ k) (h : RD b p (bitsOf v n ++ rest)) :
    squeeze_reader_get k ⟨b, (p : Int), ov⟩ (n : Int) = some (v, ((p + n : Nat) : Int), ov) ∧ RD b (p + n) rest := by
  have hle : (2 : Int) ^ n ≤ 2 ^ 39 := by
    have h1 : (2 : Nat) ^ n ≤ 2 ^ 39 := Nat.pow_le_pow_right (by decide) n40
    have e : ((2 ^ n : Nat) : Int) = (2 : Int) ^ n := by simp
    rw [← e]
    have e2 : ((2 ^ 39 : Nat) : Int) = (2 : Int) ^ 39 := by simp
    rw [← e2]
    exact Int.ofNat_le.mpr h1
  have e39 : (2 : Int) ^ 39 = 549755813888 := by decide
  obtain ⟨e, h2⟩ := get_l0 k b (p : Int) ov (n : Int) hb bl (by omega) n k 0 p v rest ov v0 (by omega) (by omega) (by decide) (by omega) h
  rw [Int.ediv_eq_zero_of_lt v0 v1] at e
  refine ⟨?_, h2⟩
  unfold squeeze_reader_get
  dsimp only
  rw [bnd e]
theorem ones_l1 (k : Nat) (b : List Int) (hb : AllIn b 0 255) (bl : b.length ≤ 100000) (hk : 100 ≤ k) : ∀ (u fuel p : Nat) (z : Int) (rest : List Int), 0 ≤ z → z + u ≤ 1000000 → u < fuel → RD b p (List.replicate u 1 ++ 0 :: rest) →
    squeeze_read.l1 k b fuel z (p : Int) false = some (z + u, ((p + u + 1 : Nat) : Int), false) ∧ RD b (p + u + 1) rest := by
  intro u
  induction u with
  | zero =>
    intro fuel p z rest z0 z1 hf h
    obtain ⟨fuel, rfl⟩ : ∃ q, fuel = q + 1 := ⟨fuel - 1, by omega⟩
    obtain ⟨e, h2⟩ := get_ex k b 1 p 0 rest false hb bl (by decide) (by decide) (by decide) hk h
    have e' : squeeze_reader_get k ⟨b, (p : Int), false⟩ 1 = some (0, ((p + 1 : Nat) : Int), false) := e
    rw [squeeze_read.l1, bnd e']; dsimp only
    rw [ifn (by decide)]
    exact ⟨by simp, h2⟩
  | succ u ih =>
    intro fuel p z rest z0 z1 hf h
    obtain ⟨fuel, rfl⟩ : ∃ q, fuel = q + 1 := ⟨fuel - 1, by omega⟩
    rw [List.replicate_succ] at h
    obtain ⟨e, h2⟩ := get_ex k b 1 p 1 (List.replicate u 1 ++ 0 :: rest) false hb bl (by decide) (by decide) (by decide) hk h
    have e' : squeeze_reader_get k ⟨b, (p : Int), false⟩ 1 = some (1, ((p + 1 : Nat) : Int), false) := e
    rw [squeeze_read.l1, bnd e']; dsimp only
    rw [ifp rfl, wid (by omega) (by omega)]
    obtain ⟨e3, h3⟩ := ih fuel (p + 1) (z + 1) rest (by omega) (by omega) (by omega) h2
    rw [e3]
    refine ⟨?_, by rw [show p + (u + 1) + 1 = p + 1 + u + 1 by omega]; exact h3⟩
    rw [show z + 1 + (u : Int) = z + ((u + 1 : Nat) : Int) by omega, show p + 1 + u + 1 = p + (u + 1) + 1 by omega]
def zget (k : Nat) (b1 : List Int) (vk331 x332 : Int) (x333 : Bool) : Option (Int × Int × Bool) :=
  (if vk331 = 15 then ((squeeze_reader_get k (⟨b1, x332, x333⟩ : S_reader) 17).bind fun (vt347, vt348, vt349) => (some (vt347, vt348, vt349))) else ((squeeze_read.l1 k b1 k 0 x332 x333).bind fun (z434, x435, x436) => (if ¬ (vk331 < 0) then ((squeeze_reader_get k (⟨b1, x435, x436⟩ : S_reader) vk331).bind fun (vt446, vt447, vt448) => (some ((Go.bits .or .i64 (w64 (z434 * 2 ^ (min (vk331).toNat 64))) vt446), vt447, vt448))) else none)))
theorem zget_ex (k : Nat) (b : List Int) (kk z : Int) (p : Nat) (rest : List Int) (hb : AllIn b 0 255) (bl : b.length ≤ 100000) (k0 : 0 ≤ kk) (k1 : kk ≤ 15) (z0 : 0 ≤ z) (z1 : z ≤ 131070) (hk : 200000 ≤ k) (h : RD b p (zb kk z ++ rest)) :
    ∃ q : Nat, zget k b kk (p : Int) false = some (z, (q : Int), false) ∧ RD b q rest := by
  unfold zb at h
  unfold zget
  by_cases c : kk = 15
  · rw [if_pos c] at h
    obtain ⟨e, h2⟩ := get_ex k b 17 p z rest false hb bl (by decide) z0 (by rw [show (2 : Int) ^ 17 = 131072 by decide]; omega) (by omega) h
    have e' : squeeze_reader_get k ⟨b, (p : Int), false⟩ 17 = some (z, ((p + 17 : Nat) : Int), false) := e
    rw [ifp c, bnd e']
    exact ⟨_, rfl, h2⟩
  · rw [if_neg c, List.append_assoc] at h
    have hp := p2pos kk.toNat
    have d0 : 0 ≤ z / 2 ^ kk.toNat := Int.ediv_nonneg z0 (by omega)
    have d1 : z / 2 ^ kk.toNat ≤ z := Int.ediv_le_self _ z0
    have m0 := Int.emod_nonneg z (show (2 : Int) ^ kk.toNat ≠ 0 by omega)
    have m1 := Int.emod_lt_of_pos z hp
    have hz : z / 2 ^ kk.toNat * 2 ^ kk.toNat + z % 2 ^ kk.toNat = z := by rw [Int.mul_comm]; exact Int.mul_ediv_add_emod z (2 ^ kk.toNat)
    have hj : 0 ≤ z / 2 ^ kk.toNat * 2 ^ kk.toNat := Int.mul_nonneg d0 (by omega)
    obtain ⟨e, h2⟩ := ones_l1 k b hb bl (by omega) (z / 2 ^ kk.toNat).toNat k p 0 (bitsOf z kk.toNat ++ rest) (by decide) (by omega) (by omega) h
    rw [← bitsOf_mod z kk.toNat kk.toNat (Nat.le_refl _)] at h2
    obtain ⟨e2, h3⟩ := get_ex k b kk.toNat _ (z % 2 ^ kk.toNat) rest false hb bl (by omega) m0 m1 (by omega) h2
    rw [show ((kk.toNat : Nat) : Int) = kk by omega] at e2
    rw [ifn c, bnd e]; dsimp only
    rw [ifp (by omega), bnd e2]; dsimp only
    have hor := i64_or_sum (z / 2 ^ kk.toNat) (z % 2 ^ kk.toNat) kk.toNat d0 m0 m1 (by omega)
    rw [show min kk.toNat 64 = kk.toNat by omega, show (0 : Int) + ((z / 2 ^ kk.toNat).toNat : Int) = z / 2 ^ kk.toNat by omega, wid (x := z / 2 ^ kk.toNat * 2 ^ kk.toNat) (by omega) (by omega), hor, hz]
    exact ⟨_, rfl, h3⟩
theorem take_rd (cs : List Int) (i : Nat) (h : i < cs.length) : cs.take i ++ [rd cs (i : Int)] = cs.take (i + 1) := by
  obtain ⟨h1, e⟩ := rd_lt (xs := cs) (i := (i : Int)) (by omega) (by omega)
  rw [e, List.take_succ_eq_append_getElem h]
  simp
theorem rd_take (cs : List Int) (n : Nat) (i : Int) (i0 : 0 ≤ i) (h : i < (n : Int)) (hn : n ≤ cs.length) : rd (cs.take n) i = rd cs i := by
  obtain ⟨h1, e1⟩ := rd_lt (xs := cs.take n) (i := i) i0 (by rw [List.length_take]; omega)
  obtain ⟨h2, e2⟩ := rd_lt (xs := cs) (i := i) i0 (by omega)
  rw [e1, e2, List.getElem_take]
structure Al (i : Nat) (rem : List Int) (gs : List (List Int)) : Prop where
  a1 : rem ≠ [] → (i - 1) % 8 ≠ 0
  a2 : rem = [] → gs ≠ [] → (i - 1) % 8 = 0
  a3 : gs ≠ [] → (i - 1 + rem.length) % 8 = 0
  a4 : (i - 1) % 8 + rem.length ≤ 8
theorem read_l0 (k : Nat) (b cs f : List Int) (hb : AllIn b 0 255) (bl : b.length ≤ 100000) (hc : AllIn cs 0 65535) (cl : cs.length ≤ 1000) (hf : ZS cs f (cs.length - 1)) (hk : 200000 ≤ k) : ∀ (n : Nat) (rem : List Int) (gs : List (List Int)) (fuel i p : Nat) (kk : Int) (body : List Int),
    rem.length + gs.flatten.length = n → n < fuel → 1 ≤ i → i + n = cs.length → f.drop (i - 1) = rem ++ gs.flatten → Al i rem gs → CK 8 gs → GB gs body → RD b p (gb kk rem ++ body) → (rem ≠ [] → 0 ≤ kk ∧ kk ≤ 15) →
    ∃ q : Int, squeeze_read.l0 k (cs.length : Int) b fuel (cs.take i) kk (i : Int) (p : Int) false = some (cs, q, false) := by
  intro n
  induction n with
  | zero =>
    intro rem gs fuel i p kk body hn hfu i1 hi hd ha hck hg hr hkk
    obtain ⟨fuel, rfl⟩ : ∃ q, fuel = q + 1 := ⟨fuel - 1, by omega⟩
    rw [squeeze_read.l0, ifn (by omega), List.take_of_length_le (by omega)]
    exact ⟨_, rfl⟩
  | succ n ih =>
    intro rem gs fuel i p kk body hn hfu i1 hi hd ha hck hg hr hkk
    obtain ⟨fuel, rfl⟩ : ∃ q, fuel = q + 1 := ⟨fuel - 1, by omega⟩
    have hfl := hf.len
    obtain ⟨z, tl, htl⟩ : ∃ z tl, rem ++ gs.flatten = z :: tl := by
      cases h : rem ++ gs.flatten with
      | nil => have := congrArg List.length h; rw [List.length_append, List.length_nil] at this; omega
      | cons z tl => exact ⟨z, tl, rfl⟩
    have hz : rd f ((i - 1 : Nat) : Int) = z := by
      have e := List.take_append_drop (i - 1) f
      rw [hd, htl] at e
      exact rd_at e.symm (by rw [List.length_take]; omega)
    have hat := hf.at_ ((i - 1 : Nat) : Int) (by omega) (by omega)
    have hin := hf.in_.rd (i := ((i - 1 : Nat) : Int)) (by omega) (by omega)
    rw [hz] at hat hin
    have c1 := hc.rd (i := (i : Int)) (by omega) (by omega)
    have c0 := hc.rd (i := (i : Int) - 1) (by omega) (by omega)
    rw [show (((i - 1 : Nat) : Int)) + 1 = (i : Int) by omega, show ((i - 1 : Nat) : Int) = (i : Int) - 1 by omega] at hat
    have hdrop : f.drop (i + 1 - 1) = tl := by
      have : f.drop (i - 1 + 1) = (f.drop (i - 1)).drop 1 := by rw [List.drop_drop]
      rw [show i + 1 - 1 = i - 1 + 1 by omega, this, hd, htl]; rfl
    have fin : ∀ (kk2 : Int) (q : Nat), (∃ q2 : Int, squeeze_read.l0 k (cs.length : Int) b fuel (cs.take (i + 1)) kk2 ((i + 1 : Nat) : Int) (q : Int) false = some (cs, q2, false)) →
        ∃ q2 : Int, (if (Int.tmod z 2) = 1 then (if 0 ≤ (w64 ((i : Int) - 1)) then (if (w64 ((i : Int) - 1)) < ((cs.take i).length : Int) then (if ((cs.take i).length + 1) * 8 ≤ 140737488355328 then (squeeze_read.l0 k (cs.length : Int) b fuel (cs.take i ++ ([w64 ((rd (cs.take i) (w64 ((i : Int) - 1))) + (w64 ((w64 (0 - (w64 (Int.tdiv z 2)))) - 1)))] : List Int)) kk2 (w64 ((i : Int) + 1)) (q : Int) false) else none) else none) else none) else (if 0 ≤ (w64 ((i : Int) - 1)) then (if (w64 ((i : Int) - 1)) < ((cs.take i).length : Int) then (if ((cs.take i).length + 1) * 8 ≤ 140737488355328 then (squeeze_read.l0 k (cs.length : Int) b fuel (cs.take i ++ ([w64 ((rd (cs.take i) (w64 ((i : Int) - 1))) + (w64 (Int.tdiv z 2)))] : List Int)) kk2 (w64 ((i : Int) + 1)) (q : Int) false) else none) else none) else none)) = some (cs, q2, false) := by
      intro kk2 q hq
      have lt : (cs.take i).length = i := by rw [List.length_take]; omega
      have hrt := rd_take cs i ((i : Int) - 1) (by omega) (by omega) (by omega)
      have hm := tmod_nn (a := z) (b := 2) hin.1
      have hd2 := tdiv_nn (a := z) (b := 2) hin.1
      rw [wid (x := (i : Int) - 1) (by omega) (by omega), lt, hrt, hm, hd2, wid (x := (i : Int) + 1) (by omega) (by omega), show (i : Int) + 1 = ((i + 1 : Nat) : Int) by omega]
      unfold foldZ at hat
      by_cases c : rd cs (i : Int) - rd cs ((i : Int) - 1) < 0
      · rw [if_pos c] at hat
        rw [ifp (by omega), ifp (by omega), ifp (by omega), ifp (by omega), wid (x := z / 2) (by omega) (by omega), wid (x := 0 - z / 2) (by omega) (by omega), wid (x := 0 - z / 2 - 1) (by omega) (by omega), wid (by omega) (by omega), show rd cs ((i : Int) - 1) + (0 - z / 2 - 1) = rd cs (i : Int) by omega, take_rd cs i (by omega)]
        exact hq
      · rw [if_neg c] at hat
        rw [ifn (by omega), ifp (by omega), ifp (by omega), ifp (by omega), wid (x := z / 2) (by omega) (by omega), wid (by omega) (by omega), show rd cs ((i : Int) - 1) + z / 2 = rd cs (i : Int) by omega, take_rd cs i (by omega)]
        exact hq
    have hmi := tmod_nn (a := (i : Int) - 1) (b := 8) (by omega)
    rw [squeeze_read.l0, ifp (by omega), ifp (by decide), wid (x := (i : Int) - 1) (by omega) (by omega), hmi]
    cases rem with
    | cons z' rem =>
      have e1 : z' = z ∧ rem ++ gs.flatten = tl := by rw [List.cons_append] at htl; injection htl with h1 h2; exact ⟨h1, h2⟩
      obtain ⟨rfl, e2⟩ := e1
      obtain ⟨k0, k1⟩ := hkk (by simp)
      have a1 := ha.a1 (by simp)
      have a4 := ha.a4
      rw [List.length_cons] at hn a4
      rw [ifn (by omega), bnd rfl]; dsimp only
      rw [gb, List.append_assoc] at hr
      obtain ⟨q, eq, hq⟩ := zget_ex k b kk z' p _ hb bl k0 k1 hin.1 hin.2 hk hr
      show ∃ q2 : Int, (zget k b kk (p : Int) false).bind _ = _
      rw [bnd eq]; dsimp only
      have ha2 : Al (i + 1) rem gs := ⟨fun hne => by
          have : 1 ≤ rem.length := by cases rem with
            | nil => exact absurd rfl hne
            | cons => simp
          omega, fun h1 h2 => by
          have := ha.a3 h2
          subst h1
          simp at this
          omega, fun h => by
          have := ha.a3 h
          rw [List.length_cons] at this
          rw [show i + 1 - 1 + rem.length = i - 1 + (rem.length + 1) by omega]; exact this, by omega⟩
      have := ih rem gs fuel (i + 1) q kk body (by omega) (by omega) (by omega) (by omega) (by rw [hdrop, e2]) ha2 hck hg hq (fun _ => ⟨k0, k1⟩)
      have hfin := fin kk q this
      rw [wid (x := (i : Int) - 1) (by omega) (by omega)] at hfin
      exact hfin
    | nil =>
      cases gs with
      | nil => simp at hn
      | cons g gs =>
        obtain ⟨g1, g2, g3, g4⟩ := hck
        cases g with
        | nil => simp at g1
        | cons z' g =>
          have e1 : z' = z ∧ g ++ gs.flatten = tl := by
            rw [List.nil_append, List.flatten_cons, List.cons_append] at htl; injection htl with h1 h2; exact ⟨h1, h2⟩
          obtain ⟨rfl, e2⟩ := e1
          obtain ⟨best, rest, b0, b1, hbody, hrest⟩ := hg
          have a2 := ha.a2 rfl (by simp)
          have a3 := ha.a3 (by simp)
          rw [gb, List.nil_append, hbody, gb] at hr
          obtain ⟨e4, hr4⟩ := get_ex k b 4 p best _ false hb bl (by decide) b0 (by rw [show (2 : Int) ^ 4 = 16 by decide]; omega) (by omega) hr
          have e4' : squeeze_reader_get k ⟨b, (p : Int), false⟩ 4 = some (best, ((p + 4 : Nat) : Int), false) := e4
          rw [ifp (by omega), bnd e4']; dsimp only
          rw [bnd rfl]; dsimp only
          rw [List.append_assoc] at hr4
          obtain ⟨q, eq, hq⟩ := zget_ex k b best z' (p + 4) _ hb bl b0 b1 hin.1 hin.2 hk hr4
          show ∃ q2 : Int, (zget k b best ((p + 4 : Nat) : Int) false).bind _ = _
          rw [bnd eq]; dsimp only
          rw [List.nil_append, List.flatten_cons, List.cons_append] at hd
          rw [List.flatten_cons, List.length_append, List.length_cons, List.length_nil] at hn
          rw [List.length_cons] at g2 g3
          have ha2 : Al (i + 1) g gs := ⟨fun _ => by omega, fun h1 h2 => by
              have := g3 h2
              subst h1
              simp at this, fun h => by have := g3 h; omega, by omega⟩
          have := ih g gs fuel (i + 1) q best rest (by omega) (by omega) (by omega) (by omega) (by rw [hdrop, e2]) ha2 g4 hrest hq (fun _ => ⟨b0, b1⟩)
          have hfin := fin best q this
          rw [wid (x := (i : Int) - 1) (by omega) (by omega)] at hfin
          exact hfin
theorem read_ex (k : Nat) (cs r bs : List Int) (hc : AllIn cs 0 65535) (l1 : 1 ≤ cs.length) (l2 : cs.length ≤ 32) (hk : 300000 ≤ k) (hrow : squeeze_row k cs = some r) (hw : WB r bs) (hrb : RB cs bs) (rl : r.length ≤ 70) : squeeze_read k r (cs.length : Int) = some (cs, true) := by
  obtain ⟨f, gs, body, hf, hg, hck, hgb, rfl⟩ := hrb
  have h0 := hc.rd (i := 0) (by decide) (by omega)
  have hlen := hw.len
  have hrd : RD r 0 (bitsOf (rd cs 0) 16 ++ body) := ⟨by omega, fun i hi => by rw [Nat.zero_add]; exact hw.at_ i hi⟩
  obtain ⟨e1, hr1⟩ := get_ex k r 16 0 (rd cs 0) body false hw.bytes (by omega) (by decide) h0.1 (by rw [show (2 : Int) ^ 16 = 65536 by decide]; omega) (by omega) hrd
  have e1' : squeeze_reader_get k ⟨r, 0, false⟩ 16 = some (rd cs 0, ((0 + 16 : Nat) : Int), false) := e1
  have ht : cs.take 1 = [rd cs 0] := by
    have := take_rd cs 0 (by omega)
    simpa using this.symm
  have hfl := hf.len
  obtain ⟨q, e2⟩ := read_l0 k r cs f hw.bytes (by omega) hc (by omega) hf (by omega) (cs.length - 1) [] gs k 1 (0 + 16) 0 body (by rw [hg, hfl]; simp) (by omega) (by decide) (by omega) (by simpa using hg.symm) ⟨fun h => absurd rfl h, fun _ _ => rfl, fun _ => rfl, by decide⟩ hck hgb hr1 (fun h => absurd rfl h)
  rw [ht] at e2
  have e2' : squeeze_read.l0 k (cs.length : Int) r k [rd cs 0] 0 1 ((0 + 16 : Nat) : Int) false = some (cs, q, false) := e2
  unfold squeeze_read
  rw [bnd e1']; dsimp only
  rw [bnd e2']; dsimp only
  rw [ifn (by decide), bnd (nocont_squeeze_read_1 k cs hc (by omega) (by omega)), ifn (by decide), bnd hrow, bnd (eqself_byte k r (by omega) (by omega)), ifn (by decide)]
theorem squeezed_eq (k : Nat) (h : 100 ≤ k) : spykeep3_squeezed k = some true := by
  obtain ⟨k, rfl⟩ : ∃ j, k = j + 100 := ⟨k - 100, by omega⟩
  kernel_rfl
theorem check_ok (k : Nat) (w h : Int) (cs : List Int) (w0 : 1 ≤ w) (w1 : w ≤ 32) (h0 : 1 ≤ h) (h1 : h ≤ 32) (hl : (cs.length : Int) = w * h) (hs : AllIn cs 0 65535) (hk : 3000 ≤ k) : frame_Check_2 k ⟨w, h, [], cs⟩ = some 0 := by
  have hp := mul_le (a := w) (b := h) (A := 32) (B := 32) (by omega) w1 (by omega) h1
  unfold frame_Check_2
  dsimp only
  rw [mn_def, mx_def, ifn (by omega), ifn (by omega), wid (by omega) (by omega), ifn (by omega), bnd (nocont_frame_Check_1 k cs hs (by omega) (by omega)), ifn (by decide)]
def pk : List (List Int) → List Int
  | [] => []
  | r :: rs => 0 :: (r.length : Int) :: (r ++ pk rs)
theorem pk_append : ∀ (a b : List (List Int)), pk (a ++ b) = pk a ++ pk b
  | [], _ => rfl
  | r :: a, b => by rw [List.cons_append, pk, pk, pk_append a b]; simp
theorem pk_len : ∀ {rs : List (List Int)}, (∀ r, r ∈ rs → r.length ≤ 70) → (pk rs).length ≤ 72 * rs.length
  | [], _ => by simp [pk]
  | r :: rs, h => by
    have h1 := h r (List.mem_cons_self ..)
    have h2 := pk_len (rs := rs) (fun x hx => h x (List.mem_cons_of_mem _ hx))
    rw [pk, List.length_cons, List.length_cons, List.length_append, List.length_cons]
    omega
def Codes (k : Nat) : List (List Int) → List (List Int) → Prop
  | [], [] => True
  | c :: cs, r :: rs => (squeeze_row k c = some r ∧ (∃ bs, WB r bs ∧ RB c bs) ∧ r.length ≤ 70 ∧ AllIn c 0 65535 ∧ 1 ≤ r.length) ∧ Codes k cs rs
  | _, _ => False
theorem Codes.len {k : Nat} : ∀ {cs rs : List (List Int)}, Codes k cs rs → cs.length = rs.length
  | [], [], _ => rfl
  | _ :: _, _ :: _, h => by simp [Codes.len h.2]
  | [], _ :: _, h => h.elim
  | _ :: _, [], h => h.elim
theorem Codes.small {k : Nat} : ∀ {cs rs : List (List Int)}, Codes k cs rs → ∀ r, r ∈ rs → r.length ≤ 70 ∧ 1 ≤ r.length
  | [], [], _, r, hr => by cases hr
  | c :: cs, x :: rs, h, r, hr => by
    rcases List.mem_cons.mp hr with rfl | hr
    · exact ⟨h.1.2.2.1, h.1.2.2.2.2⟩
    · exact Codes.small h.2 r hr
  | [], _ :: _, h, _, _ => h.elim
  | _ :: _, [], h, _, _ => h.elim
theorem Codes.at {k : Nat} : ∀ {cs rs : List (List Int)} {c r : List Int} {c1 c2 r1 r2 : List (List Int)}, Codes k cs rs → cs = c1 ++ c :: c2 → rs = r1 ++ r :: r2 → c1.length = r1.length → squeeze_row k c = some r ∧ (∃ bs, WB r bs ∧ RB c bs) ∧ r.length ≤ 70 ∧ AllIn c 0 65535 ∧ 1 ≤ r.length := by
  intro cs rs c r c1
  induction c1 generalizing cs rs with
  | nil =>
    intro c2 r1 r2 h e1 e2 hl
    cases r1 with
    | cons => cases hl
    | nil => subst e1 e2; exact h.1
  | cons x c1 ih =>
    intro c2 r1 r2 h e1 e2 hl
    cases r1 with
    | nil => cases hl
    | cons y r1 => subst e1 e2; exact ih h.2 rfl rfl (by simpa using hl)
theorem pack_g0 (k : Nat) (hk : 10000 ≤ k) : ∀ (gs : List (List Int)) (out : List Int), (∀ g, g ∈ gs → AllIn g 0 65535 ∧ 1 ≤ g.length ∧ g.length ≤ 32) → gs.length ≤ 32 → out.length + 72 * gs.length ≤ 10000 →
    ∃ rs, squeeze_Pack.g0 k gs out = some (out ++ pk rs) ∧ Codes k gs rs := by
  intro gs
  induction gs with
  | nil => intro out _ _ _; exact ⟨[], by rw [pk, List.append_nil]; rfl, trivial⟩
  | cons g gs ih =>
    intro out hg hl ho
    rw [List.length_cons] at hl ho
    obtain ⟨g1, g2, g3⟩ := hg g (List.mem_cons_self ..)
    obtain ⟨r, bs, e, hw, hb, hr⟩ := row_ex k g g1 g2 g3 hk
    have hr1 : 1 ≤ r.length := by
      have := hw.len
      obtain ⟨f, gs', body, _, _, _, _, rfl⟩ := hb
      rw [List.length_append, bitsOf_len] at this
      omega
    have e1 : u8 (shr (r.length : Int) 8) = 0 := by rw [shr_def, u8_id (by omega) (by omega)]; omega
    have e2 : u8 (r.length : Int) = (r.length : Int) := u8_id (by omega) (by omega)
    obtain ⟨rs, e3, hc⟩ := ih (out ++ [0, (r.length : Int)] ++ r) (fun x hx => hg x (List.mem_cons_of_mem _ hx)) (by omega) (by simp; omega)
    refine ⟨r :: rs, ?_, ⟨e, ⟨bs, hw, hb⟩, hr, g1, hr1⟩, hc⟩
    rw [squeeze_Pack.g0, bnd e, ifp (by omega), e1, e2, ifp (by simp; omega), e3, pk]
    simp
theorem pack_ex (k w h : Nat) (counts : List Int) (w0 : 1 ≤ w) (w1 : w ≤ 32) (h0 : 1 ≤ h) (h1 : h ≤ 32) (hl : counts.length = w * h) (hs : AllIn counts 0 65535) (hk : 10000 ≤ k) :
    ∃ gs rs, squeeze_Pack k (w : Int) (h : Int) counts = some ((w : Int) :: (h : Int) :: pk rs, 0) ∧ gs.flatten = counts ∧ (∀ g, g ∈ gs → g.length = w) ∧ gs.length = h ∧ Codes k gs rs := by
  have hp : w * h ≤ 32 * 32 := Nat.mul_le_mul w1 h1
  obtain ⟨gs, e1, e2, hf, hck⟩ := chunk_ex k w counts w0 (by omega) (by omega) hk
  obtain ⟨hg, hgl⟩ := hck.all w0 (h := h) (by rw [hf, hl])
  obtain ⟨rs, e3, hc⟩ := pack_g0 k hk gs [(w : Int), (h : Int)] (fun g hgm => ⟨fun x hx => hs x (by rw [← hf]; exact List.mem_flatten.mpr ⟨g, hgm, hx⟩), by rw [hg g hgm]; exact w0, by rw [hg g hgm]; exact w1⟩) (by omega) (by simp; omega)
  refine ⟨gs, rs, ?_, hf, hg, hgl, hc⟩
  unfold squeeze_Pack
  rw [bnd (check_ok k w h counts (by omega) (by omega) (by omega) (by omega) (by rw [hl]; simp) hs (by omega)), ifn (by decide), bnd e1]; dsimp only
  rw [bnd e2, u8_id (by omega) (by omega), u8_id (by omega) (by omega), bnd e3]
  simp
def offs (s : Int) : List (List Int) → List Int
  | [] => []
  | r :: rs => (s + 2) :: offs (s + (2 + (r.length : Int))) rs
theorem offs_len (s : Int) : ∀ rs, (offs s rs).length = rs.length
  | [] => rfl
  | r :: rs => by rw [offs, List.length_cons, List.length_cons, offs_len]
theorem offs_append (s : Int) : ∀ (a b : List (List Int)), offs s (a ++ b) = offs s a ++ offs (s + (pk a).length) b
  | [], b => by simp [offs, pk]
  | r :: a, b => by
    rw [List.cons_append, offs, offs, offs_append _ a b, pk]
    simp only [List.cons_append, List.length_cons, List.length_append]
    congr 3
    omega
theorem index_l0 (k : Nat) (b : List Int) (W H : Int) (h : Nat) (hb1 : rd b 1 = (h : Int)) (h32 : h ≤ 32) (bl : b.length ≤ 100000) : ∀ (q : List (List Int)) (pre at_ : List Int) (fuel : Nat), b = pre ++ pk q → at_.length + q.length = h → (∀ r, r ∈ q → r.length ≤ 70) → q.length < fuel →
    squeeze_Index.l0 k b fuel W H at_ (pre.length : Int) (at_.length : Int) = some (Sum.inr (W, H, at_ ++ offs (pre.length : Int) q, (b.length : Int))) := by
  intro q
  induction q with
  | nil =>
    intro pre at_ fuel hb ha hr hf
    obtain ⟨fuel, rfl⟩ : ∃ q, fuel = q + 1 := ⟨fuel - 1, by omega⟩
    rw [List.length_nil] at ha
    rw [pk, List.append_nil] at hb
    rw [squeeze_Index.l0, hb1, wid (by omega) (by omega), ifn (by omega), offs, List.append_nil, hb]
  | cons r q ih =>
    intro pre at_ fuel hb ha hr hf
    obtain ⟨fuel, rfl⟩ : ∃ q, fuel = q + 1 := ⟨fuel - 1, by omega⟩
    rw [List.length_cons] at ha hf
    have hr1 := hr r (List.mem_cons_self ..)
    rw [pk] at hb
    have lb : b.length = pre.length + (2 + r.length + (pk q).length) := by rw [hb]; simp; omega
    have r0 : rd b (pre.length : Int) = 0 := rd_at hb rfl
    have r1 : rd b ((pre.length : Int) + 1) = (r.length : Int) := rd_at (pre := pre ++ [0]) (post := r ++ pk q) (by rw [hb]; simp) (by simp)
    have hor := i64_or_sum 0 (r.length : Int) 8 (by decide) (by omega) (by rw [show (2 : Int) ^ 8 = 256 by decide]; omega) (by omega)
    rw [Int.zero_mul, Int.zero_add] at hor
    have hn := ih (pre ++ [0, (r.length : Int)] ++ r) (at_ ++ [(pre.length : Int) + 2]) fuel (by rw [hb]; simp) (by simp; omega) (fun x hx => hr x (List.mem_cons_of_mem _ hx)) (by omega)
    rw [show ((pre ++ [0, (r.length : Int)] ++ r).length : Int) = (pre.length : Int) + (2 + (r.length : Int)) by simp; omega, show ((at_ ++ [(pre.length : Int) + 2]).length : Int) = (at_.length : Int) + 1 by simp] at hn
    rw [squeeze_Index.l0, hb1, wid (x := (h : Int)) (by omega) (by omega), ifp (by omega), wid (x := (b.length : Int) - (pre.length : Int)) (by omega) (by omega), ifn (by omega), ifp (by omega), ifp (by omega), wid (x := (pre.length : Int) + 1) (by omega) (by omega), ifp (by omega), ifp (by omega), ifp (by omega), r0, r1, wid (x := 0) (by decide) (by decide), Int.zero_mul, wid (x := 0) (by decide) (by decide), wid (x := (r.length : Int)) (by omega) (by omega), hor,
      wid (x := (b.length : Int) - (pre.length : Int) - 2) (by omega) (by omega), ifn (by omega), wid (x := (pre.length : Int) + 2) (by omega) (by omega), wid (x := 2 + (r.length : Int)) (by omega) (by omega), wid (x := (pre.length : Int) + (2 + (r.length : Int))) (by omega) (by omega), wid (x := (at_.length : Int) + 1) (by omega) (by omega), hn, offs]
    simp
theorem index_ex (k w h : Nat) (rs : List (List Int)) (w0 : 1 ≤ w) (w1 : w ≤ 32) (h0 : 1 ≤ h) (h1 : h ≤ 32) (hl : rs.length = h) (hr : ∀ r, r ∈ rs → r.length ≤ 70) (hk : 1000 ≤ k) :
    squeeze_Index k ((w : Int) :: (h : Int) :: pk rs) = some ((w : Int), (h : Int), offs 2 rs ++ [(((w : Int) :: (h : Int) :: pk rs).length : Int)], 0) := by
  have hp := pk_len hr
  generalize hb : ((w : Int) :: (h : Int) :: pk rs) = b
  have lb : b.length = 2 + (pk rs).length := by rw [← hb]; simp; omega
  have b0 : rd b 0 = (w : Int) := by rw [← hb]; rfl
  have b1 : rd b 1 = (h : Int) := by rw [← hb]; rfl
  have hi := index_l0 k b (w : Int) (h : Int) h b1 h1 (by omega) rs [(w : Int), (h : Int)] [] k (by rw [← hb]; rfl) (by simpa using hl) hr (by omega)
  have hi' : squeeze_Index.l0 k b k (w : Int) (h : Int) [] 2 0 = some (Sum.inr ((w : Int), (h : Int), offs 2 rs, (b.length : Int))) := hi
  unfold squeeze_Index
  rw [ifn (by omega), ifp (by omega), b0, ifn (by omega), ifn (by omega), ifp (by omega), b1, ifn (by omega), ifn (by omega), wid (x := (w : Int)) (by omega) (by omega), wid (x := (h : Int)) (by omega) (by omega), bnd hi']
  show (if (b.length : Int) ≠ (b.length : Int) then _ else _) = _
  rw [ifn (by simp), ifp (by rw [offs_len]; omega)]
theorem split_at {α : Type} (l : List α) (i : Nat) (h : i < l.length) : ∃ p x q, l = p ++ x :: q ∧ p.length = i :=
  ⟨l.take i, l[i], l.drop (i + 1), by rw [List.getElem_cons_drop, List.take_append_drop], by rw [List.length_take]; omega⟩
theorem row_at (k w h : Nat) (rs p q : List (List Int)) (r c : List Int) (w0 : 1 ≤ w) (w1 : w ≤ 32) (h0 : 1 ≤ h) (h1 : h ≤ 32) (hl : rs.length = h) (hr : ∀ r, r ∈ rs → r.length ≤ 70) (hk : 300000 ≤ k) (hrs : rs = p ++ r :: q) (hc : c.length = w)
    (hcode : squeeze_row k c = some r ∧ (∃ bs, WB r bs ∧ RB c bs) ∧ r.length ≤ 70 ∧ AllIn c 0 65535 ∧ 1 ≤ r.length) : squeeze_Row k ((w : Int) :: (h : Int) :: pk rs) (p.length : Int) = some (c, 0) := by
  obtain ⟨e1, ⟨bs, hw, hb⟩, rl, ca, _⟩ := hcode
  have hp := pk_len hr
  have hidx := index_ex k w h rs w0 w1 h0 h1 hl hr (by omega)
  have lp : p.length + (q.length + 1) = h := by rw [← hl, hrs]; simp
  have lpk : (pk rs).length = (pk p).length + (2 + r.length + (pk q).length) := by rw [hrs, pk_append, pk]; simp; omega
  have o1 : rd (offs 2 rs ++ [(((w : Int) :: (h : Int) :: pk rs).length : Int)]) (p.length : Int) = 2 + ((pk p).length : Int) + 2 :=
    rd_at (pre := offs 2 p) (post := offs (2 + ((pk p).length : Int) + (2 + (r.length : Int))) q ++ [(((w : Int) :: (h : Int) :: pk rs).length : Int)]) (by rw [hrs, offs_append, offs]; simp) (by rw [offs_len])
  have o2 : (if (p.length : Int) + 1 < (h : Int) then some (w64 (rd (offs 2 rs ++ [(((w : Int) :: (h : Int) :: pk rs).length : Int)]) ((p.length : Int) + 1) - 2)) else some (rd (offs 2 rs ++ [(((w : Int) :: (h : Int) :: pk rs).length : Int)]) ((p.length : Int) + 1)) : Option Int) = some (2 + ((pk p).length : Int) + 2 + (r.length : Int)) := by
    cases q with
    | nil =>
      rw [List.length_nil] at lp
      rw [ifn (by omega), rd_at (pre := offs 2 rs) (post := []) (x := (((w : Int) :: (h : Int) :: pk rs).length : Int)) (by simp) (by rw [offs_len, hl]; omega)]
      rw [pk, List.length_nil] at lpk
      rw [List.length_cons, List.length_cons]
      congr 1
      omega
    | cons r2 q =>
      rw [List.length_cons] at lp
      rw [ifp (by omega), rd_at (pre := offs 2 p ++ [2 + ((pk p).length : Int) + 2]) (post := offs (2 + ((pk p).length : Int) + (2 + (r.length : Int)) + (2 + (r2.length : Int))) q ++ [(((w : Int) :: (h : Int) :: pk rs).length : Int)]) (x := 2 + ((pk p).length : Int) + (2 + (r.length : Int)) + 2) (by rw [hrs, offs_append, offs, offs]; simp) (by rw [List.length_append, offs_len]; simp), wid (by omega) (by omega)]
      congr 1
      omega
  have lo : ((offs 2 rs ++ [(((w : Int) :: (h : Int) :: pk rs).length : Int)]).length : Int) = (h : Int) + 1 := by rw [List.length_append, offs_len, hl]; simp
  have lbb : ((((w : Int) :: (h : Int) :: pk rs).length : Nat) : Int) = 2 + ((pk rs).length : Int) := by simp; omega
  have hcut : ((((w : Int) :: (h : Int) :: pk rs).take (2 + ((pk p).length : Int) + 2 + (r.length : Int)).toNat).drop (2 + ((pk p).length : Int) + 2).toNat) = r := by
    have hsp : ((w : Int) :: (h : Int) :: pk rs) = ((w : Int) :: (h : Int) :: (pk p ++ [0, (r.length : Int)])) ++ (r ++ pk q) := by rw [hrs, pk_append, pk]; simp
    have la : ((w : Int) :: (h : Int) :: (pk p ++ [0, (r.length : Int)])).length = 2 + (pk p).length + 2 := by simp; omega
    rw [hsp, show (2 + ((pk p).length : Int) + 2 + (r.length : Int)).toNat = 2 + (pk p).length + 2 + r.length by omega, show (2 + ((pk p).length : Int) + 2).toNat = 2 + (pk p).length + 2 by omega, ← la, List.take_append, List.drop_append]
    simp
  have hread := read_ex k c r bs ca (by omega) (by omega) hk e1 hw hb rl
  rw [hc] at hread
  unfold squeeze_Row
  rw [bnd hidx]; dsimp only
  rw [ifn (by decide), ifn (by omega), ifn (by omega), wid (x := (p.length : Int) + 1) (by omega) (by omega), ifp (by omega), ifp (by omega), bnd o2, ifp (by omega), ifp (by omega), o1, ifp (by omega), ifp (by omega), ifp (by omega), hcut, bnd hread]; dsimp only
  rw [ifn (by decide)]
theorem unpack_l0 (k : Nat) (b : List Int) (W H : Int) (h : Nat) (gs : List (List Int)) (hgl : gs.length = h) (h1 : h ≤ 32) (hl : gs.flatten.length ≤ 100000)
    (hrow : ∀ p c q, gs = p ++ c :: q → squeeze_Row k b (p.length : Int) = some (c, 0)) : ∀ (q p : List (List Int)) (fuel : Nat), gs = p ++ q → q.length < fuel →
    squeeze_Unpack.l0 k (h : Int) b fuel W H p.flatten (p.length : Int) = some (Sum.inr (W, H, gs.flatten)) := by
  intro q
  induction q with
  | nil =>
    intro p fuel e hf
    obtain ⟨fuel, rfl⟩ : ∃ q, fuel = q + 1 := ⟨fuel - 1, by omega⟩
    rw [List.append_nil] at e
    rw [squeeze_Unpack.l0, ifn (by rw [← e]; omega), e]
  | cons c q ih =>
    intro p fuel e hf
    obtain ⟨fuel, rfl⟩ : ∃ q, fuel = q + 1 := ⟨fuel - 1, by omega⟩
    have hl2 : gs.flatten.length = p.flatten.length + (c.length + q.flatten.length) := by rw [e, List.flatten_append, List.flatten_cons, List.length_append, List.length_append]
    have lp : gs.length = p.length + (q.length + 1) := by rw [e, List.length_append, List.length_cons]
    have hn := ih (p ++ [c]) fuel (by rw [e]; simp) (by rw [List.length_cons] at hf; omega)
    rw [List.flatten_append, List.flatten_cons, List.flatten_nil, List.append_nil, show ((p ++ [c]).length : Int) = (p.length : Int) + 1 by simp] at hn
    rw [squeeze_Unpack.l0, ifp (by omega), bnd (hrow p c q e)]; dsimp only
    rw [ifn (by decide), ifp (by omega), wid (x := (p.length : Int) + 1) (by omega) (by omega), hn]
def f0L (f : S_Frame) : S_Frame := ⟨f.W, f.H, f.Cards, List.replicate f.Counts.length 0⟩
theorem f0_good {f : S_Frame} (h : FGoodC f) : FGoodC (f0L f) where
  W0 := h.W0
  W1 := h.W1
  H0 := h.H0
  H1 := h.H1
  l := by
    show ((List.replicate f.Counts.length (0 : Int)).length : Int) = f.W * f.H
    rw [List.length_replicate]; exact h.l
  c := fun x hx => by
    have := List.eq_of_mem_replicate hx
    omega
  n := h.n
  g := h.g
  d := h.d
theorem grow_eq (k : Nat) (n : Int) (h0 : 0 < n) (h1 : n ≤ 1000000) : slices_Grow_byte k n = some [] := by
  have w0 : w64 ((0 : Int) - 0) = 0 := wid (x := (0 : Int) - 0) (by decide) (by decide)
  unfold slices_Grow_byte
  rw [ifn (by omega), w0, Int.sub_zero, wid (x := n) (by omega) (by omega), ifp (by omega), ifp (by omega), ifp (by omega), ifp (by omega)]
  show some (List.take 0 _) = _
  rw [List.take_zero]
theorem concat_eq (k : Nat) (a b c : List Int) (ha : 0 < a.length) (hl : a.length + b.length + c.length ≤ 1000000) (hk : 10 ≤ k) : slices_Concat_byte k ([a, b, c] : List (List Int)) = some (a ++ (b ++ c)) := by
  obtain ⟨j, rfl⟩ : ∃ j, k = j + 1 + 1 + 1 + 1 := ⟨k - 4, by omega⟩
  have l3 : ((([a, b, c] : List (List Int)).length : Nat) : Int) = 3 := rfl
  have r0 : rd ([a, b, c] : List (List Int)) 0 = a := rfl
  have r1 : rd ([a, b, c] : List (List Int)) 1 = b := rfl
  have r2 : rd ([a, b, c] : List (List Int)) 2 = c := rfl
  have w1 : w64 ((0 : Int) + 1) = 1 := wid (x := (0 : Int) + 1) (by decide) (by decide)
  have w2 : w64 ((1 : Int) + 1) = 2 := wid (x := (1 : Int) + 1) (by decide) (by decide)
  have w3 : w64 ((2 : Int) + 1) = 3 := wid (x := (2 : Int) + 1) (by decide) (by decide)
  have s1 : w64 ((0 : Int) + (a.length : Int)) = (a.length : Int) := by rw [wid (by omega) (by omega)]; omega
  have s2 : w64 ((a.length : Int) + (b.length : Int)) = ((a.length + b.length : Nat) : Int) := by rw [wid (by omega) (by omega)]; omega
  have s3 : w64 (((a.length + b.length : Nat) : Int) + (c.length : Int)) = ((a.length + b.length + c.length : Nat) : Int) := by rw [wid (by omega) (by omega)]; omega
  have e0 : slices_Concat_byte.l0 (j + 1 + 1 + 1 + 1) ([a, b, c] : List (List Int)) (j + 1 + 1 + 1 + 1) 0 0 = some ((a.length + b.length + c.length : Nat) : Int) := by
    rw [slices_Concat_byte.l0, l3, ifp (by decide), ifp (by decide), r0, s1, ifn (by omega), w1, slices_Concat_byte.l0, l3, ifp (by decide), ifp (by decide), r1, s2, ifn (by omega), w2, slices_Concat_byte.l0, l3, ifp (by decide), ifp (by decide), r2, s3, ifn (by omega), w3, slices_Concat_byte.l0, l3, ifn (by decide)]
  have e1 : slices_Concat_byte.l1 (j + 1 + 1 + 1 + 1) ([a, b, c] : List (List Int)) (j + 1 + 1 + 1 + 1) [] 0 = some (a ++ (b ++ c)) := by
    rw [slices_Concat_byte.l1, l3, ifp (by decide), ifp (by decide), r0, ifp (by rw [List.length_nil]; omega), w1, List.nil_append, slices_Concat_byte.l1, l3, ifp (by decide), ifp (by decide), r1, ifp (by omega), w2, slices_Concat_byte.l1, l3, ifp (by decide), ifp (by decide), r2,
      ifp (by rw [List.length_append]; omega), w3, slices_Concat_byte.l1, l3, ifn (by decide), List.append_assoc]
  unfold slices_Concat_byte
  rw [bnd e0, bnd (grow_eq _ _ (by omega) (by omega)), bnd e1]
theorem zero_l0 (k : Nat) (s : List Int) (hs : AllIn s 0 0) (hl : s.length ≤ 100000) (j : Nat) : ∀ (fuel : Nat) (i : Int), 0 ≤ i → (s.length : Int) - i ≤ j → j < fuel → slices_IndexFunc_int__squeeze_Load_1.l0 k s fuel i = some (Sum.inr ()) := by
  induction j with
  | zero =>
    intro fuel i i0 hj hf
    obtain ⟨fuel, rfl⟩ : ∃ q, fuel = q + 1 := ⟨fuel - 1, by omega⟩
    rw [slices_IndexFunc_int__squeeze_Load_1.l0, ifn (by omega)]
  | succ j ih =>
    intro fuel i i0 hj hf
    obtain ⟨fuel, rfl⟩ : ∃ q, fuel = q + 1 := ⟨fuel - 1, by omega⟩
    by_cases c : i < (s.length : Int)
    · have hr := hs.rd i0 c
      have h0 : rd s i = 0 := by omega
      have h1 : squeeze_Load_1 k (rd s i) = some false := by
        unfold squeeze_Load_1
        rw [h0]; rfl
      rw [slices_IndexFunc_int__squeeze_Load_1.l0, ifp c, ifp i0, bnd h1, ifn (by decide), wid (by omega) (by omega)]
      exact ih fuel (i + 1) (by omega) (by omega) (by omega)
    · rw [slices_IndexFunc_int__squeeze_Load_1.l0, ifn c]
theorem zero_cont (k : Nat) (s : List Int) (hs : AllIn s 0 0) (hl : s.length ≤ 100000) (hk : s.length < k) : slices_ContainsFunc_int__squeeze_Load_1 k s = some false := by
  unfold slices_ContainsFunc_int__squeeze_Load_1 slices_IndexFunc_int__squeeze_Load_1
  rw [zero_l0 k s hs hl s.length k 0 (by decide) (by omega) hk]
  rfl
theorem save_eq (k : Nat) (f : S_Frame) (h : FGoodC f) (X code : List Int) (hX : frame_Encode k (f0L f) = some (X, 0)) (hc : squeeze_Pack k f.W f.H f.Counts = some (code, 0)) (lx : X.length ≤ 60000) (lc : code.length ≤ 60000) (hk : 2000 ≤ k) :
    squeeze_Save k f = some ([(X.length : Int) / 256, (X.length : Int) % 256] ++ (X ++ code), 0) := by
  have hlim := h.lim
  have e1 : u8 (shr (X.length : Int) 8) = (X.length : Int) / 256 := by rw [shr_def, u8_id (by omega) (by omega)]; omega
  have e2 : u8 ((X.length : Int)) = (X.length : Int) % 256 := u8_def _
  have e3 : (⟨f.W, f.H, f.Cards, List.replicate ((f.Counts.length : Int)).toNat (0 : Int)⟩ : S_Frame) = f0L f := by rw [Int.toNat_natCast]; rfl
  unfold squeeze_Save
  rw [bnd (check_eq k f h (by omega)), ifn (by simp), ifp (by omega), ifp (by omega), e3, bnd hX]; dsimp only
  rw [bnd hc]; dsimp only
  rw [e1, e2, bnd (concat_eq k _ _ _ (by simp) (by simp only [List.length_cons, List.length_nil]; omega) (by omega))]
theorem load_eq (k : Nat) (f : S_Frame) (h : FGoodC f) (X code : List Int) (w1 h1 : Int) (hX : frame_Decode k X = some (f0L f, 0)) (hc : squeeze_Unpack k code = some (f.W, f.H, f.Counts, 0)) (lx : X.length ≤ 60000) (lc : code.length ≤ 60000) (hk : 2000 ≤ k) :
    squeeze_Load k ([(X.length : Int) / 256, (X.length : Int) % 256] ++ (X ++ code)) = some (f, 0) := by
  have hlim := h.lim
  generalize hb : ([(X.length : Int) / 256, (X.length : Int) % 256] ++ (X ++ code) : List Int) = b
  have r0 : rd b 0 = (X.length : Int) / 256 := by rw [← hb]; rfl
  have r1 : rd b 1 = (X.length : Int) % 256 := by rw [← hb]; rfl
  have lb : b.length = 2 + (X.length + code.length) := by rw [← hb, List.length_append, List.length_append]; rfl
  have hor : Go.bits .or .i64 (w64 ((w64 ((rd b 0))) * 2 ^ 8)) (w64 ((rd b 1))) = (X.length : Int) := by
    rw [r0, r1, wid (x := (X.length : Int) / 256) (by omega) (by omega), wid (x := (X.length : Int) % 256) (by omega) (by omega), show (2 : Int) ^ 8 = 256 from rfl, wid (x := (X.length : Int) / 256 * 256) (by omega) (by omega)]
    have := i64_or_sum ((X.length : Int) / 256) ((X.length : Int) % 256) 8 (by omega) (by omega) (by rw [show (2 : Int) ^ 8 = 256 from rfl]; omega) (by rw [show (2 : Int) ^ 8 = 256 from rfl]; omega)
    rw [show (2 : Int) ^ 8 = 256 from rfl] at this
    rw [this]; omega
  have wn : w64 (2 + (X.length : Int)) = ((2 + X.length : Nat) : Int) := by rw [wid (by omega) (by omega)]; omega
  have t1 : (b.take (2 + X.length)).drop 2 = X := by
    rw [← hb, show 2 + X.length = X.length + 1 + 1 by omega]
    show List.drop 2 ((X.length : Int) / 256 :: (X.length : Int) % 256 :: List.take X.length (X ++ code)) = X
    rw [List.take_left' rfl]; rfl
  have t2 : b.drop (2 + X.length) = code := by
    rw [← hb, show 2 + X.length = X.length + 1 + 1 by omega]
    show List.drop X.length (X ++ code) = code
    exact List.drop_left' rfl
  have hz : slices_ContainsFunc_int__squeeze_Load_1 k (f0L f).Counts = some false :=
    zero_cont k _ (fun x hx => by have := List.eq_of_mem_replicate hx; omega) (by show (List.replicate f.Counts.length (0 : Int)).length ≤ _; rw [List.length_replicate]; omega) (by show (List.replicate f.Counts.length (0 : Int)).length < _; rw [List.length_replicate]; omega)
  unfold squeeze_Load
  rw [hor, wn, Int.toNat_natCast, show (2 : Int).toNat = 2 from rfl, t1, t2, ifn (by omega), ifp (by omega), ifp (by omega), wid (x := (b.length : Int) - 2) (by omega) (by omega), ifn (by omega), ifp (by omega), ifp (by omega), bnd hX]; dsimp only
  rw [ifn (by simp), ifp (by omega), bnd hc]; dsimp only
  rw [ifn (by simp), ifn (by simp [f0L]), ifn (by simp [f0L]), bnd hz, ifn (by simp)]
  rfl
theorem law_ex (l : List Int) : ∃ k, spykeep3_SqueezeFramesBack k l = some true := by
  refine ⟨300000, ?_⟩
  generalize hk : (300000 : Nat) = k
  obtain ⟨f, a', K, n, e1, hf, _, _, _, hW, hH⟩ := noted_ex k l (by omega)
  have hW0 := hf.W0
  have hH0 := hf.H0
  have hlim := hf.lim
  obtain ⟨w, hw⟩ : ∃ w : Nat, f.W = (w : Int) := ⟨f.W.toNat, by omega⟩
  obtain ⟨h, hh⟩ : ∃ h : Nat, f.H = (h : Int) := ⟨f.H.toNat, by omega⟩
  have hl : f.Counts.length = w * h := by
    have := hf.l
    rw [hw, hh, ← Int.natCast_mul] at this
    omega
  obtain ⟨gs, rs, e2, hfl, hg, hgl, hc⟩ := pack_ex k w h f.Counts (by omega) (by omega) (by omega) (by omega) hl hf.c (by omega)
  have hlen : rs.length = h := by rw [← hc.len, hgl]
  have hsm := Codes.small hc
  have hidx := index_ex k w h rs (by omega) (by omega) (by omega) (by omega) hlen (fun r hr => (hsm r hr).1) (by omega)
  have hpk := pk_len (fun r hr => (hsm r hr).1)
  have hrow : ∀ p c q, gs = p ++ c :: q → squeeze_Row k ((w : Int) :: (h : Int) :: pk rs) (p.length : Int) = some (c, 0) := by
    intro p c q s1
    have lp : gs.length = p.length + (q.length + 1) := by rw [s1, List.length_append, List.length_cons]
    obtain ⟨p2, r, q2, s2, lp2⟩ := split_at rs p.length (by omega)
    have e5 := row_at k w h rs p2 q2 r c (by omega) (by omega) (by omega) (by omega) hlen (fun r hr => (hsm r hr).1) (by omega) s2 (hg c (by rw [s1]; simp)) (Codes.at hc s1 s2 (by omega))
    rw [lp2] at e5
    exact e5
  have e3 : squeeze_Unpack k ((w : Int) :: (h : Int) :: pk rs) = some (f.W, f.H, f.Counts, 0) := by
    have := unpack_l0 k ((w : Int) :: (h : Int) :: pk rs) (w : Int) (h : Int) h gs hgl (by omega) (by rw [hfl]; omega) hrow gs [] k rfl (by omega)
    have this : squeeze_Unpack.l0 k (h : Int) ((w : Int) :: (h : Int) :: pk rs) k (w : Int) (h : Int) [] 0 = some (Sum.inr ((w : Int), (h : Int), gs.flatten)) := this
    unfold squeeze_Unpack
    rw [bnd hidx]; dsimp only
    rw [ifn (by decide), bnd this, hfl, hw, hh]
    rfl
  rw [← hw, ← hh] at e2
  rw [hw, hh] at e2
  have hf0 := f0_good hf
  have hb := bodyL_len hf0
  have hbl := blocksN_lim hf0
  have hol := outL_len hb (Nat.le_refl (blocksN (f0L f)))
  have lc : ((w : Int) :: (h : Int) :: pk rs).length ≤ 60000 := by simp only [List.length_cons]; omega
  have e4 := save_eq k f hf _ _ (encode_eq k (f0L f) hf0 (by omega)) (by rw [hw, hh]; exact e2) (by omega) lc (by omega)
  have e5 := load_eq k f hf _ _ 0 0 (decode_eq k (f0L f) hf0 (by omega)) e3 (by omega) lc (by omega)
  unfold spykeep3_SqueezeFramesBack
  rw [bnd e1]; dsimp only
  rw [bnd e4]; dsimp only
  rw [bnd e5]; dsimp only
  rw [bnd (squeezed_eq k (by omega)), ifp rfl, ifp rfl, ifp rfl, bnd (same_self k f hf (by omega))]
end Go.Sp.F3
