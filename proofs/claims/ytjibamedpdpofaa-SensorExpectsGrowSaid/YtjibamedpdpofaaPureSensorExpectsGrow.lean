import Derived.Test.YtjibamedpdpofaaFX7
import Derived.KernelRfl
import Derived.Laws.BitsLemmas
import Derived.Laws.Bits64
import Derived.Laws.BitsAllLaws
namespace Go.Sp.X7
open Go Go.Sp
set_option linter.unusedVariables false
theorem bnd {α β : Type} {x : Option α} {g : α → Option β} {v : α} (h : x = some v) : x.bind g = g v := by rw [h]; rfl
theorem ifp {α : Type} {c : Prop} [Decidable c] {x y : α} (h : c) : (if c then x else y) = x := if_pos h
theorem ifn {α : Type} {c : Prop} [Decidable c] {x y : α} (h : ¬ c) : (if c then x else y) = y := if_neg h
theorem rd_mem {α : Type} [Inhabited α] {l : List α} {i : Int} (h0 : 0 ≤ i) (h1 : i < (l.length : Int)) : rd l i ∈ l := by
  obtain ⟨h, e⟩ := rd_lt h0 h1
  rw [e]; exact List.getElem_mem h
theorem wid {x : Int} (h : -9223372036854775808 ≤ x) (h' : x ≤ 9223372036854775807) : w64 x = x := w64_of h h'
theorem wuid {x : Int} (h : 0 ≤ x) (h' : x ≤ 18446744073709551615) : u64 x = x := u64_of h h'
theorem mul_le {a b A B : Int} (h1 : 0 ≤ a) (h2 : a ≤ A) (h3 : 0 ≤ b) (h4 : b ≤ B) : 0 ≤ a * b ∧ a * b ≤ A * B :=
  ⟨Int.mul_nonneg h1 h3, Int.mul_le_mul h2 h4 h3 (by omega)⟩
theorem tdiv_nn {a b : Int} (h : 0 ≤ a) : Int.tdiv a b = a / b := Int.tdiv_eq_ediv_of_nonneg h
theorem tmod_nn {a b : Int} (h : 0 ≤ a) : Int.tmod a b = a % b := Int.tmod_eq_emod_of_nonneg h
def AllIn (l : List Int) (lo hi : Int) : Prop := ∀ x, x ∈ l → lo ≤ x ∧ x ≤ hi
theorem AllIn.nil {lo hi : Int} : AllIn [] lo hi := fun x h => by cases h
theorem AllIn.push {l : List Int} {lo hi x : Int} (h : AllIn l lo hi) (h0 : lo ≤ x) (h1 : x ≤ hi) : AllIn (l ++ [x]) lo hi := by
  intro y hy
  rcases List.mem_append.mp hy with hy | hy
  · exact h y hy
  · simp only [List.mem_singleton] at hy; subst hy; exact ⟨h0, h1⟩
theorem AllIn.rd {l : List Int} {lo hi i : Int} (h : AllIn l lo hi) (h0 : 0 ≤ i) (h1 : i < (l.length : Int)) : lo ≤ rd l i ∧ rd l i ≤ hi := h _ (rd_mem h0 h1)
theorem AllIn.mono {l : List Int} {lo hi lo' hi' : Int} (h : AllIn l lo hi) (h0 : lo' ≤ lo) (h1 : hi ≤ hi') : AllIn l lo' hi' := fun x hx => by have := h x hx; omega
theorem rd_set_eq (l : List Int) (i x : Int) (h0 : 0 ≤ i) (h1 : i < (l.length : Int)) : rd (l.set i.toNat x) i = x := by
  obtain ⟨h, e⟩ := rd_lt (xs := l.set i.toNat x) h0 (by simp; omega)
  rw [e]; simp
theorem rd_set_ne (l : List Int) (i j x : Int) (h0 : 0 ≤ i) (hj : 0 ≤ j) (h1 : j < (l.length : Int)) (hne : j ≠ i) : rd (l.set i.toNat x) j = rd l j := by
  obtain ⟨h, e⟩ := rd_lt (xs := l.set i.toNat x) hj (by simp; omega)
  obtain ⟨h', e'⟩ := rd_lt (xs := l) hj h1
  rw [e, e', List.getElem_set, if_neg (by omega)]
theorem below_ex (k : Nat) (x n : Int) (h1 : 1 ≤ n) (h2 : n ≤ 4611686018427387904) : ∃ v, spymake_Below k x n = some v ∧ 0 ≤ v ∧ v < n := by
  have e1 := Int.tmod_lt_of_pos x (show 0 < n by omega)
  have e2 := Int.lt_tmod_of_pos x (show 0 < n by omega)
  unfold spymake_Below
  rw [ifn (by omega), ifp (by omega)]
  by_cases c : Int.tmod x n < 0
  · rw [ifp c]
    refine ⟨_, rfl, ?_, ?_⟩ <;> rw [wid (by omega) (by omega)] <;> omega
  · rw [ifn c]
    exact ⟨_, rfl, by omega, by omega⟩
theorem next_ex (k : Nat) (L : List Int) (a n : Int) (h1 : 1 ≤ n) (h2 : n ≤ 4611686018427387904) (a0 : 0 ≤ a) (a1 : a ≤ 4611686018427387904) :
    ∃ v, spymake_Stream_Next k ⟨L, a⟩ n = some (v, a + 1) ∧ 0 ≤ v ∧ v < n := by
  unfold spymake_Stream_Next
  dsimp only
  rw [wid (x := a + 1) (by omega) (by omega)]
  by_cases c : (L.length : Int) = 0
  · rw [ifp c]
    obtain ⟨v, hv, v0, v1⟩ := below_ex k (w64 ((a + 1) * 7919)) n h1 h2
    rw [bnd hv]
    exact ⟨v, rfl, v0, v1⟩
  · rw [ifn c, ifp c, show a + 1 - 1 = a by omega, wid (x := a) (by omega) (by omega)]
    have e1 := Int.tmod_lt_of_pos a (show 0 < (L.length : Int) by omega)
    have e2 : 0 ≤ Int.tmod a (L.length : Int) := Int.tmod_nonneg _ a0
    rw [ifp e2, ifp e1]
    obtain ⟨u, hu, _⟩ := below_ex k (rd L (Int.tmod a (L.length : Int))) 1073741824 (by decide) (by decide)
    rw [bnd hu]
    obtain ⟨v, hv, v0, v1⟩ := below_ex k (w64 (u + (w64 ((w64 (Int.tdiv a (L.length : Int))) * (w64 (7919 + (Int.tmod a (L.length : Int)))))))) n h1 h2
    rw [bnd hv]
    exact ⟨v, rfl, v0, v1⟩
theorem range_ex (k : Nat) (L : List Int) (a lo hi : Int) (h1 : lo ≤ hi) (h2 : hi - lo ≤ 1073741824) (h3 : -4611686018427387904 ≤ lo) (h4 : hi ≤ 4611686018427387904) (a0 : 0 ≤ a) (a1 : a ≤ 4611686018427387904) :
    ∃ v, spymake_Stream_Range k ⟨L, a⟩ lo hi = some (v, a + 1) ∧ lo ≤ v ∧ v ≤ hi := by
  unfold spymake_Stream_Range
  rw [ifn (by omega), wid (x := hi - lo) (by omega) (by omega), wid (x := hi - lo + 1) (by omega) (by omega)]
  obtain ⟨v, hv, v0, v1⟩ := next_ex k L a (hi - lo + 1) (by omega) (by omega) a0 a1
  rw [bnd hv]
  dsimp only
  rw [wid (by omega) (by omega)]
  exact ⟨_, rfl, by omega, by omega⟩
structure Good (S : S_Sensor) (most : Int) : Prop where
  W0 : 1 ≤ S.W
  W1 : S.W ≤ most
  H0 : 1 ≤ S.H
  H1 : S.H ≤ most
  lb : (S.Bias.length : Int) = S.W * S.H
  ld : (S.Dark.length : Int) = S.W * S.H
  lf : (S.Flat.length : Int) = S.W * S.H
  B : AllIn S.Bias 0 59
  D : AllIn S.Dark 0 33554432
  F : AllIn S.Flat 0 4096
  F0 : 200 ≤ S.Full
  F1 : S.Full ≤ 1048576
  G0 : 1 ≤ S.Gain
  G1 : S.Gain ≤ 64
  N0 : 0 ≤ S.Noise
  N1 : S.Noise ≤ 64
theorem Good.n {S : S_Sensor} {most : Int} (h : Good S most) (hm : most ≤ 32) : 1 ≤ S.W * S.H ∧ S.W * S.H ≤ 1024 := by
  have h1 := mul_le (a := S.W) (b := S.H) (A := 32) (B := 32) (by have := h.W0; omega) (by have := h.W1; omega) (by have := h.H0; omega) (by have := h.H1; omega)
  have h2 : 1 * 1 ≤ S.W * S.H := Int.mul_le_mul h.W0 h.H0 (by decide) (by have := h.W0; omega)
  omega
theorem push_len {l : List Int} {x : Int} {n : Int} (h : (l.length : Int) = n) : ((l ++ [x]).length : Int) = n + 1 := by simp; omega
theorem sensor_l0 (k : Nat) (L : List Int) (a0_ W H m : Int) (hn0 : 0 ≤ W * H) (hn : W * H ≤ 1024) (hm0 : 0 ≤ m) (hm : m ≤ 2) : ∀ (d n : Nat) (i a : Int) (B D F : List Int), i + d = W * H → 0 ≤ i → d < n → 0 ≤ a → a + 6 * d ≤ 4611686018427387904 →
    (B.length : Int) = i → (D.length : Int) = i → (F.length : Int) = i → AllIn B 0 59 → AllIn D 0 33554432 → AllIn F 0 4096 →
    ∃ a' B' D' F', spymake_Stream_Sensor.l0 k W H ⟨L, a0_⟩ m n i a B D F = some (a', B', D', F') ∧ a ≤ a' ∧ a' ≤ a + 6 * d ∧
      (B'.length : Int) = W * H ∧ (D'.length : Int) = W * H ∧ (F'.length : Int) = W * H ∧ AllIn B' 0 59 ∧ AllIn D' 0 33554432 ∧ AllIn F' 0 4096 := by
  intro d
  induction d with
  | zero =>
    intro n i a B D F hi i0 hd ha0 ha lB lD lF bB bD bF
    obtain ⟨n, rfl⟩ : ∃ j, n = j + 1 := ⟨n - 1, by omega⟩
    rw [spymake_Stream_Sensor.l0, wid (x := W * H) (by omega) (by omega), ifn (by omega)]
    exact ⟨a, B, D, F, rfl, by omega, by omega, by omega, by omega, by omega, bB, bD, bF⟩
  | succ d ih =>
    intro n i a B D F hi i0 hd ha0 ha lB lD lF bB bD bF
    obtain ⟨n, rfl⟩ : ∃ j, n = j + 1 := ⟨n - 1, by omega⟩
    rw [spymake_Stream_Sensor.l0, wid (x := W * H) (by omega) (by omega), ifp (by omega)]
    obtain ⟨v1, h1, p1, q1⟩ := next_ex k L a 60 (by decide) (by decide) (by omega) (by omega)
    rw [bnd h1]; dsimp only
    rw [ifp (by omega), wid (x := m * 16777216) (by omega) (by omega), wid (x := m * 16777216 + 1) (by omega) (by omega)]
    obtain ⟨v2, h2, p2, q2⟩ := next_ex k L (a + 1) (m * 16777216 + 1) (by omega) (by omega) (by omega) (by omega)
    rw [bnd h2]; dsimp only
    rw [ifp (by omega)]
    obtain ⟨v3, h3, p3, q3⟩ := range_ex k L (a + 1 + 1) 2048 4096 (by decide) (by decide) (by decide) (by decide) (by omega) (by omega)
    rw [bnd h3]; dsimp only
    obtain ⟨v4, h4, p4, q4⟩ := next_ex k L (a + 1 + 1 + 1) 12 (by decide) (by decide) (by omega) (by omega)
    rw [bnd h4]; dsimp only
    by_cases c : v4 = 0
    · rw [ifp c]
      obtain ⟨v5, h5, p5, q5⟩ := next_ex k L (a + 1 + 1 + 1 + 1) 512 (by decide) (by decide) (by omega) (by omega)
      rw [bnd h5]; dsimp only
      obtain ⟨v6, h6, p6, q6⟩ := next_ex k L (a + 1 + 1 + 1 + 1 + 1) 2 (by decide) (by decide) (by omega) (by omega)
      rw [bnd h6]; dsimp only
      have hm6 := mul_le (a := v5) (b := v6) (A := 511) (B := 1) p5 (by omega) p6 (by omega)
      rw [ifp (by omega), wid (x := i + 1) (by omega) (by omega), wid (x := v5 * v6) (by omega) (by omega)]
      obtain ⟨a', B', D', F', e, g1, g2, g3, g4, g5, g6, g7, g8⟩ := ih n (i + 1) (a + 1 + 1 + 1 + 1 + 1 + 1) (B ++ [v1]) (D ++ [v2]) (F ++ [v5 * v6]) (by omega) (by omega) (by omega) (by omega) (by omega) (push_len lB) (push_len lD) (push_len lF) (bB.push p1 (by omega)) (bD.push p2 (by omega)) (bF.push (by omega) (by omega))
      exact ⟨a', B', D', F', e, by omega, by omega, g3, g4, g5, g6, g7, g8⟩
    · rw [ifn c, ifp (by omega), wid (x := i + 1) (by omega) (by omega)]
      obtain ⟨a', B', D', F', e, g1, g2, g3, g4, g5, g6, g7, g8⟩ := ih n (i + 1) (a + 1 + 1 + 1 + 1) (B ++ [v1]) (D ++ [v2]) (F ++ [v3]) (by omega) (by omega) (by omega) (by omega) (by omega) (push_len lB) (push_len lD) (push_len lF) (bB.push p1 (by omega)) (bD.push p2 (by omega)) (bF.push (by omega) (by omega))
      exact ⟨a', B', D', F', e, by omega, by omega, g3, g4, g5, g6, g7, g8⟩
theorem sensor_ex (k : Nat) (L : List Int) (a most : Int) (hm0 : 1 ≤ most) (hm : most ≤ 32) (a0 : 0 ≤ a) (a1 : a ≤ 1000000) (hk : 1100 ≤ k) :
    ∃ S a', spymake_Stream_Sensor k ⟨L, a⟩ most = some (S, a') ∧ Good S most ∧ a ≤ a' ∧ a' ≤ a + 7000 := by
  unfold spymake_Stream_Sensor
  dsimp only
  obtain ⟨W, h1, W0, W1⟩ := range_ex k L a 1 most (by omega) (by omega) (by omega) (by omega) (by omega) (by omega)
  rw [bnd h1]; dsimp only
  obtain ⟨H, h2, H0, H1⟩ := range_ex k L (a + 1) 1 most (by omega) (by omega) (by omega) (by omega) (by omega) (by omega)
  rw [bnd h2]; dsimp only
  obtain ⟨u, h3, u0, u1⟩ := range_ex k L (a + 1 + 1) 20000 1048576 (by decide) (by decide) (by decide) (by decide) (by omega) (by omega)
  rw [bnd h3]; dsimp only
  obtain ⟨g, h4, g0, g1⟩ := range_ex k L (a + 1 + 1 + 1) 1 4 (by decide) (by decide) (by decide) (by decide) (by omega) (by omega)
  rw [bnd h4]; dsimp only
  obtain ⟨n, h5, n0, n1⟩ := next_ex k L (a + 1 + 1 + 1 + 1) 4 (by decide) (by decide) (by omega) (by omega)
  rw [bnd h5]; dsimp only
  obtain ⟨z, h6, z0, z1⟩ := next_ex k L (a + 1 + 1 + 1 + 1 + 1) 6 (by decide) (by decide) (by omega) (by omega)
  rw [bnd h6]; dsimp only
  have hWH := mul_le (a := W) (b := H) (A := 32) (B := 32) (by omega) (by omega) (by omega) (by omega)
  have fin : ∀ (a' : Int) (Fu G N : Int), a ≤ a' → a' ≤ a + 20 → 200 ≤ Fu → Fu ≤ 1048576 → 1 ≤ G → G ≤ 64 → 0 ≤ N → N ≤ 64 →
      ∃ S a2, ((spymake_Stream_Next k (⟨L, a'⟩ : S_Stream) 3).bind fun (vt164, vt165) => ((spymake_Stream_Sensor.l0 k W H ⟨L, a⟩ vt164 k 0 vt165 ([] : List Int) ([] : List Int) ([] : List Int)).bind fun (x675, x676, x682, x688) => (some ((⟨W, H, x676, x682, x688, Fu, G, N⟩ : S_Sensor), x675)))) = some (S, a2) ∧
        Good S most ∧ a ≤ a2 ∧ a2 ≤ a + 7000 := by
    intro a' Fu G N b0 b1 c0 c1 d0 d1 e0 e1
    obtain ⟨m, h7, m0, m1⟩ := next_ex k L a' 3 (by decide) (by decide) (by omega) (by omega)
    rw [bnd h7]; dsimp only
    obtain ⟨a2, B, D, F, h8, r1, r2, r3, r4, r5, r6, r7, r8⟩ := sensor_l0 k L a W H m (by omega) (by omega) m0 (by omega) (W * H).toNat k 0 (a' + 1) [] [] [] (by omega) (by omega) (by omega) (by omega) (by omega) rfl rfl rfl .nil .nil .nil
    rw [bnd h8]; dsimp only
    exact ⟨_, _, rfl, ⟨W0, W1, H0, H1, r3, r4, r5, r6, r7, r8, c0, c1, d0, d1, e0, e1⟩, by omega, by omega⟩
  by_cases c : z = 0
  · rw [ifp c]
    obtain ⟨v, hv, v0, v1⟩ := range_ex k L (a + 1 + 1 + 1 + 1 + 1 + 1) 200 5000 (by decide) (by decide) (by decide) (by decide) (by omega) (by omega)
    rw [bnd hv]; dsimp only
    exact fin _ v g n (by omega) (by omega) (by omega) (by omega) (by omega) (by omega) (by omega) (by omega)
  · rw [ifn c]
    by_cases c2 : z = 1
    · rw [ifp c2]
      obtain ⟨v, hv, v0, v1⟩ := range_ex k L (a + 1 + 1 + 1 + 1 + 1 + 1) 1 64 (by decide) (by decide) (by decide) (by decide) (by omega) (by omega)
      rw [bnd hv]; dsimp only
      obtain ⟨x, hx, x0, x1⟩ := next_ex k L (a + 1 + 1 + 1 + 1 + 1 + 1 + 1) 20 (by decide) (by decide) (by omega) (by omega)
      rw [bnd hx]; dsimp only
      exact fin _ u v x (by omega) (by omega) (by omega) (by omega) (by omega) (by omega) (by omega) (by omega)
    · rw [ifn c2]
      exact fin _ u g n (by omega) (by omega) (by omega) (by omega) (by omega) (by omega) (by omega) (by omega)
theorem idx_l0_int (l : List Int) (most : Int) (hl : AllIn l 0 most) (hb : l.length < 4611686018427387904) (k : Nat) : ∀ (d n : Nat) (i : Int), i + d = l.length → 0 ≤ i → d < n →
    slices_IndexFunc_int__sensor_outside_int_1.l0 k l most n i = some (Sum.inr ()) := by
  intro d
  induction d with
  | zero =>
    intro n i hi i0 hd
    obtain ⟨n, rfl⟩ : ∃ j, n = j + 1 := ⟨n - 1, by omega⟩
    rw [slices_IndexFunc_int__sensor_outside_int_1.l0, ifn (by omega)]
  | succ d ih =>
    intro n i hi i0 hd
    obtain ⟨n, rfl⟩ : ∃ j, n = j + 1 := ⟨n - 1, by omega⟩
    have hr := hl.rd i0 (show i < (l.length : Int) by omega)
    have hf : sensor_outside_int_1 k most (rd l i) = some false := by
      unfold sensor_outside_int_1
      rw [ifn (by omega)]
      congr 1
      exact decide_eq_false (by omega)
    rw [slices_IndexFunc_int__sensor_outside_int_1.l0, ifp (by omega), ifp i0, bnd hf, ifn (by decide), wid (by omega) (by omega)]
    exact ih n (i + 1) (by omega) (by omega) (by omega)
theorem outside_int (k : Nat) (l : List Int) (most : Int) (hl : AllIn l 0 most) (hb : l.length < 4611686018427387904) (hk : l.length < k) : sensor_outside_int k l most = some false := by
  have h1 : slices_IndexFunc_int__sensor_outside_int_1 k most l = some (-1) := by
    unfold slices_IndexFunc_int__sensor_outside_int_1
    rw [bnd (idx_l0_int l most hl hb k l.length k 0 (by omega) (by omega) hk)]
    rfl
  have h2 : slices_ContainsFunc_int__sensor_outside_int_1 k most l = some false := by
    unfold slices_ContainsFunc_int__sensor_outside_int_1
    rw [bnd h1]
    rfl
  unfold sensor_outside_int
  rw [bnd h2]
theorem idx_l0_Light (l : List Int) (most : Int) (hl : AllIn l 0 most) (hb : l.length < 4611686018427387904) (k : Nat) : ∀ (d n : Nat) (i : Int), i + d = l.length → 0 ≤ i → d < n →
    slices_IndexFunc_Light__sensor_outside_Light_1.l0 k l most n i = some (Sum.inr ()) := by
  intro d
  induction d with
  | zero =>
    intro n i hi i0 hd
    obtain ⟨n, rfl⟩ : ∃ j, n = j + 1 := ⟨n - 1, by omega⟩
    rw [slices_IndexFunc_Light__sensor_outside_Light_1.l0, ifn (by omega)]
  | succ d ih =>
    intro n i hi i0 hd
    obtain ⟨n, rfl⟩ : ∃ j, n = j + 1 := ⟨n - 1, by omega⟩
    have hr := hl.rd i0 (show i < (l.length : Int) by omega)
    have hf : sensor_outside_Light_1 k most (rd l i) = some false := by
      unfold sensor_outside_Light_1
      rw [ifn (by omega)]
      congr 1
      exact decide_eq_false (by omega)
    rw [slices_IndexFunc_Light__sensor_outside_Light_1.l0, ifp (by omega), ifp i0, bnd hf, ifn (by decide), wid (by omega) (by omega)]
    exact ih n (i + 1) (by omega) (by omega) (by omega)
theorem outside_Light (k : Nat) (l : List Int) (most : Int) (hl : AllIn l 0 most) (hb : l.length < 4611686018427387904) (hk : l.length < k) : sensor_outside_Light k l most = some false := by
  have h1 : slices_IndexFunc_Light__sensor_outside_Light_1 k most l = some (-1) := by
    unfold slices_IndexFunc_Light__sensor_outside_Light_1
    rw [bnd (idx_l0_Light l most hl hb k l.length k 0 (by omega) (by omega) hk)]
    rfl
  have h2 : slices_ContainsFunc_Light__sensor_outside_Light_1 k most l = some false := by
    unfold slices_ContainsFunc_Light__sensor_outside_Light_1
    rw [bnd h1]
    rfl
  unfold sensor_outside_Light
  rw [bnd h2]
theorem check_ok (k : Nat) (S : S_Sensor) (h : Good S 32) (hk : 1100 ≤ k) : sensor_Check k S = some 0 := by
  have hn := h.n (by decide)
  obtain ⟨W0, W1, H0, H1, lb, ld, lf, hB, hD, hF, F0, F1, G0, G1, N0, N1⟩ := h
  unfold sensor_Check
  rw [mn_def, mx_def, wid (x := S.W * S.H) (by omega) (by omega), ifn (by omega), ifn (by omega), ifn (by omega), ifn (by omega), ifn (by omega),
    bnd (outside_int k S.Bias 4096 (hB.mono (by decide) (by decide)) (by omega) (by omega)), ifn (by decide),
    bnd (outside_Light k S.Dark 17592186044416 (hD.mono (by decide) (by decide)) (by omega) (by omega)), ifn (by decide),
    bnd (outside_int k S.Flat 4096 hF (by omega) (by omega)), ifn (by decide), ifn (by omega), ifn (by omega), ifn (by omega), ifn (by omega), ifn (by omega), ifn (by omega)]
theorem Good.wide {S : S_Sensor} {m m' : Int} (h : Good S m) (hm : m ≤ m') : Good S m' := ⟨h.W0, by have := h.W1; omega, h.H0, by have := h.H1; omega, h.lb, h.ld, h.lf, h.B, h.D, h.F, h.F0, h.F1, h.G0, h.G1, h.N0, h.N1⟩
theorem sized_ok (k : Nat) (S : S_Sensor) (n : Int) (h : Good S 32) (hn : n = S.W * S.H) (hk : 1100 ≤ k) : sensor_sized k S n = some 0 := by
  have hb := h.n (by decide)
  unfold sensor_sized
  rw [bnd (check_ok k S h hk), ifn (by decide), wid (by omega) (by omega), ifn (by omega)]
theorem u64_and32 (x : Int) (h0 : 0 ≤ x) (h1 : x < 18446744073709551616) : Go.bits .and .u64 x 4294967295 = x % 4294967296 := by
  rw [Go.u64_and x 4294967295 h0 h1 (by decide) (by decide)]
  have : x.toNat &&& (4294967295 : Int).toNat = x.toNat % 4294967296 := Nat.and_two_pow_sub_one_eq_mod x.toNat 32
  rw [this]
  omega
theorem shr32 (x : Int) : shr x 32 = x / 4294967296 := shr_def x 32
theorem mul64_eq (k : Nat) (a b : Int) (ha : 0 ≤ a) (ha' : a < 18446744073709551616) (hb : 0 ≤ b) (hb' : b < 18446744073709551616) :
    bits_Mul64 k a b = some (a * b / 18446744073709551616, a * b % 18446744073709551616) := by
  unfold bits_Mul64
  rw [u64_and32 a ha ha', u64_and32 b hb hb', shr32 a, shr32 b]
  have h1 := mul_le (a := a / 4294967296) (b := b / 4294967296) (A := 4294967295) (B := 4294967295) (by omega) (by omega) (by omega) (by omega)
  have h2 := mul_le (a := a / 4294967296) (b := b % 4294967296) (A := 4294967295) (B := 4294967295) (by omega) (by omega) (by omega) (by omega)
  have h3 := mul_le (a := a % 4294967296) (b := b / 4294967296) (A := 4294967295) (B := 4294967295) (by omega) (by omega) (by omega) (by omega)
  have h4 := mul_le (a := a % 4294967296) (b := b % 4294967296) (A := 4294967295) (B := 4294967295) (by omega) (by omega) (by omega) (by omega)
  have e : a * b = (a / 4294967296) * (b / 4294967296) * 18446744073709551616 + ((a / 4294967296) * (b % 4294967296) + (a % 4294967296) * (b / 4294967296)) * 4294967296 + (a % 4294967296) * (b % 4294967296) := by
    have ea : a = a / 4294967296 * 4294967296 + a % 4294967296 := by omega
    have eb : b = b / 4294967296 * 4294967296 + b % 4294967296 := by omega
    generalize a / 4294967296 = x1 at *
    generalize a % 4294967296 = x0 at *
    generalize b / 4294967296 = y1 at *
    generalize b % 4294967296 = y0 at *
    subst ea eb
    grind
  rw [u64_def (a * b), e]
  generalize (a / 4294967296) * (b / 4294967296) = p at *
  generalize (a / 4294967296) * (b % 4294967296) = q at *
  generalize (a % 4294967296) * (b / 4294967296) = r at *
  generalize (a % 4294967296) * (b % 4294967296) = s at *
  rw [wuid (x := s) (by omega) (by omega), wuid (x := p) (by omega) (by omega), wuid (x := q) (by omega) (by omega), wuid (x := r) (by omega) (by omega)]
  rw [shr32 s, wuid (x := q + s / 4294967296) (by omega) (by omega)]
  rw [u64_and32 (q + s / 4294967296) (by omega) (by omega), shr32 (q + s / 4294967296)]
  rw [wuid (x := p + (q + s / 4294967296) / 4294967296) (by omega) (by omega)]
  rw [wuid (x := (q + s / 4294967296) % 4294967296 + r) (by omega) (by omega), shr32]
  rw [wuid (by omega) (by omega)]
  have e1 : p + (q + s / 4294967296) / 4294967296 + ((q + s / 4294967296) % 4294967296 + r) / 4294967296 = (p * 18446744073709551616 + (q + r) * 4294967296 + s) / 18446744073709551616 := by omega
  rw [e1]
theorem size_nn (k : Nat) (a : Int) (h0 : 0 ≤ a) (h1 : a ≤ 9223372036854775807) : num_size k a = some a := by
  unfold num_size
  rw [ifn (by omega), wuid h0 (by omega)]
/-- A small product, divided. -/
theorem muldiv_small (k : Nat) (a b c : Int) (ha : 0 ≤ a) (ha' : a ≤ 4611686018427387904) (hb : 0 ≤ b) (hb' : b ≤ 4611686018427387904) (hc : 1 ≤ c) (hc' : c ≤ 4611686018427387904) (hP : a * b ≤ 9223372036854775807) :
    num_MulDiv k a b c = some (a * b / c, 0) := by
  have hP0 : 0 ≤ a * b := Int.mul_nonneg ha hb
  have hq0 : 0 ≤ a * b / c := Int.ediv_nonneg hP0 (by omega)
  have hq1 : a * b / c ≤ a * b := Int.ediv_le_self _ hP0
  have hp : num_Product k a b = some ⟨0, a * b⟩ := by
    unfold num_Product
    rw [bnd (size_nn k a ha (by omega)), bnd (size_nn k b hb (by omega)), bnd (mul64_eq k a b ha (by omega) hb (by omega))]
    dsimp only
    rw [show (decide (a < 0) != decide (b < 0)) = false by rw [decide_eq_false (by omega), decide_eq_false (by omega)]; rfl, ifn (by decide)]
    rw [Int.ediv_eq_zero_of_lt hP0 (by omega), Int.emod_eq_of_lt hP0 (by omega)]
    rfl
  have hd : bits_Div64 k 0 (a * b) c = some (a * b / c, a * b % c) := by
    unfold bits_Div64
    rw [ifn (by omega), ifn (by omega), ifp rfl, ifp (by omega)]
    rw [tdiv_nn hP0, tmod_nn hP0, wuid hq0 (by omega)]
  unfold num_MulDiv
  rw [bnd hp]
  have hw : num_Wide_Div k ⟨0, a * b⟩ c = some (a * b / c, 0) := by
    unfold num_Wide_Div
    dsimp only
    rw [ifn (by omega), ifn (by decide)]
    dsimp only [Option.bind_some]
    rw [wuid (x := 0) (by decide) (by decide), wuid (x := c) (by omega) (by omega), ifn (by omega), bnd hd]
    dsimp only
    rw [ifn (by decide)]
    dsimp only [Option.bind_some]
    rw [ifn (by omega), ifp (by decide), wid (by omega) (by omega)]
  rw [bnd hw]
def worth (S : S_Sensor) (light : List Int) (t : Int) (i : Int) : Int := rd light i * rd S.Flat i / 4096 + rd S.Dark i * t
theorem worth_in (S : S_Sensor) (light : List Int) (t i : Int) (hS : Good S 32) (hl : (light.length : Int) = S.W * S.H) (hL : AllIn light 0 1125899906842624) (t0 : 0 ≤ t) (t1 : t ≤ 16) (i0 : 0 ≤ i) (i1 : i < S.W * S.H) :
    0 ≤ rd light i * rd S.Flat i ∧ rd light i * rd S.Flat i ≤ 4611686018427387904 ∧ 0 ≤ rd S.Dark i * t ∧ rd S.Dark i * t ≤ 536870912 := by
  have h1 := hL.rd i0 (show i < (light.length : Int) by omega)
  have h2 := hS.F.rd i0 (show i < (S.Flat.length : Int) by have := hS.lf; omega)
  have h3 := hS.D.rd i0 (show i < (S.Dark.length : Int) by have := hS.ld; omega)
  have m1 := mul_le h1.1 h1.2 h2.1 h2.2
  have m2 := mul_le h3.1 h3.2 t0 t1
  omega
theorem expect_l0 (k : Nat) (S : S_Sensor) (light : List Int) (t : Int) (hS : Good S 32) (hl : (light.length : Int) = S.W * S.H) (hL : AllIn light 0 1125899906842624) (t0 : 0 ≤ t) (t1 : t ≤ 16) : ∀ (d n : Nat) (i : Int) (out : List Int), i + d = S.W * S.H → 0 ≤ i → d < n →
    (out.length : Int) = S.W * S.H → (∀ j, 0 ≤ j → j < i → rd out j = worth S light t j) →
    ∃ p, sensor_Expect.l0 k light S t n out i = some p ∧ (p.length : Int) = S.W * S.H ∧ (∀ j, 0 ≤ j → j < S.W * S.H → rd p j = worth S light t j) := by
  have hn := hS.n (by decide)
  have lf := hS.lf
  have ld := hS.ld
  intro d
  induction d with
  | zero =>
    intro n i out hi i0 hd lo hv
    obtain ⟨n, rfl⟩ : ∃ j, n = j + 1 := ⟨n - 1, by omega⟩
    rw [sensor_Expect.l0, ifn (by omega)]
    exact ⟨out, rfl, lo, fun j j0 j1 => hv j j0 (by omega)⟩
  | succ d ih =>
    intro n i out hi i0 hd lo hv
    obtain ⟨n, rfl⟩ : ∃ j, n = j + 1 := ⟨n - 1, by omega⟩
    have h1 := hL.rd i0 (show i < (light.length : Int) by omega)
    have h2 := hS.F.rd i0 (show i < (S.Flat.length : Int) by omega)
    obtain ⟨w0, w1, w2, w3⟩ := worth_in S light t i hS hl hL t0 t1 i0 (by omega)
    rw [sensor_Expect.l0, ifp (by omega), ifp i0, ifp (by omega), bnd (muldiv_small k (rd light i) (rd S.Flat i) 4096 h1.1 (by omega) h2.1 (by omega) (by decide) (by decide) (by omega))]
    dsimp only
    have q0 : 0 ≤ rd light i * rd S.Flat i / 4096 := Int.ediv_nonneg w0 (by decide)
    have q1 : rd light i * rd S.Flat i / 4096 ≤ rd light i * rd S.Flat i := Int.ediv_le_self _ w0
    rw [ifp (by omega), ifp (by omega), wid (x := rd S.Dark i * t) (by omega) (by omega), wid (x := rd light i * rd S.Flat i / 4096 + rd S.Dark i * t) (by omega) (by omega), wid (x := i + 1) (by omega) (by omega)]
    refine ih n (i + 1) _ (by omega) (by omega) (by omega) (by rw [List.length_set]; exact lo) ?_
    intro j j0 j1
    by_cases c : j = i
    · subst c
      rw [rd_set_eq _ _ _ i0 (by omega)]
      rfl
    · rw [rd_set_ne _ _ _ _ i0 j0 (by omega) c]
      exact hv j j0 (by omega)
theorem expect_ok (k : Nat) (S : S_Sensor) (light : List Int) (t : Int) (hS : Good S 32) (hl : (light.length : Int) = S.W * S.H) (hL : AllIn light 0 1125899906842624) (t0 : 0 ≤ t) (t1 : t ≤ 16) (hk : 1100 ≤ k) :
    ∃ p, sensor_Expect k S light t = some (p, 0) ∧ (p.length : Int) = S.W * S.H ∧ (∀ j, 0 ≤ j → j < S.W * S.H → rd p j = worth S light t j) := by
  have hn := hS.n (by decide)
  unfold sensor_Expect
  rw [bnd (sized_ok k S _ hS hl hk), ifn (by decide), ifn (by omega), ifn (by omega), bnd (outside_Light k light 72057594037927936 (hL.mono (by decide) (by decide)) (by omega) (by omega)), ifn (by decide), ifp (by omega), ifp (by omega)]
  obtain ⟨p, e, lp, hp⟩ := expect_l0 k S light t hS hl hL t0 t1 (S.W * S.H).toNat k 0 (List.replicate ((light.length : Int)).toNat 0) (by omega) (by omega) (by omega) (by simp; omega) (fun j j0 j1 => by omega)
  rw [bnd e]
  exact ⟨p, rfl, lp, hp⟩
theorem column_eq (k : Nat) (h : 40 ≤ k) : spykeep3_column k = some true := by
  obtain ⟨k, rfl⟩ : ∃ j, k = j + 40 := ⟨k - 40, by omega⟩
  kernel_rfl
theorem shl_small (v s : Int) (v0 : 0 ≤ v) (v1 : v < 1073741824) (s0 : 0 ≤ s) (s1 : s < 20) : 0 ≤ v * 2 ^ (min s.toNat 64) ∧ v * 2 ^ (min s.toNat 64) ≤ 562949953421312 := by
  have e : min s.toNat 64 = s.toNat := by omega
  rw [e]
  have hp : (0 : Int) < 2 ^ s.toNat := Int.pow_pos (by decide)
  have hq : (2 : Int) ^ s.toNat ≤ 2 ^ 19 := by
    have : (2 : Nat) ^ s.toNat ≤ 2 ^ 19 := Nat.pow_le_pow_right (by decide) (by omega)
    have h2 : ((2 ^ s.toNat : Nat) : Int) ≤ ((2 ^ 19 : Nat) : Int) := Int.ofNat_le.mpr this
    simpa [Int.natCast_pow] using h2
  have := mul_le (a := v) (b := 2 ^ s.toNat) (A := 1073741824) (B := 2 ^ 19) v0 (by omega) (by omega) hq
  omega
theorem rd_push_old (l : List Int) (x i : Int) (h0 : 0 ≤ i) (h1 : i < (l.length : Int)) : rd (l ++ [x]) i = rd l i := by
  obtain ⟨h, e⟩ := rd_lt (xs := l ++ [x]) h0 (by simp; omega)
  obtain ⟨h', e'⟩ := rd_lt (xs := l) h0 h1
  rw [e, e', List.getElem_append_left h']
theorem rd_push_new (l : List Int) (x i : Int) (h1 : i = (l.length : Int)) : rd (l ++ [x]) i = x := by
  obtain ⟨h, e⟩ := rd_lt (xs := l ++ [x]) (i := i) (by omega) (by simp; omega)
  rw [e, List.getElem_append_right (by omega)]
  simp
theorem grow_l0 (k : Nat) (L : List Int) (S : S_Sensor) (hS : Good S 32) : ∀ (d n : Nat) (A B : List Int) (i a : Int), i + d = S.W * S.H → 0 ≤ i → d < n → 0 ≤ a → a + 3 * d ≤ 4611686018427387904 →
    (A.length : Int) = i → (B.length : Int) = i → AllIn A 0 1125899906842624 → AllIn B 0 1125899906842624 → (∀ j, 0 ≤ j → j < i → rd A j ≤ rd B j) →
    ∃ A' B' a', spykeep3_SensorExpectsGrow.l0 k S L n A B i a = some (A', B', a') ∧ (A'.length : Int) = S.W * S.H ∧ (B'.length : Int) = S.W * S.H ∧ AllIn A' 0 1125899906842624 ∧ AllIn B' 0 1125899906842624 ∧ (∀ j, 0 ≤ j → j < S.W * S.H → rd A' j ≤ rd B' j) := by
  have hn := hS.n (by decide)
  intro d
  induction d with
  | zero =>
    intro n A B i a hi i0 hd a0 a1 lA lB bA bB hab
    obtain ⟨n, rfl⟩ : ∃ j, n = j + 1 := ⟨n - 1, by omega⟩
    rw [spykeep3_SensorExpectsGrow.l0, wid (x := S.W * S.H) (by omega) (by omega), ifn (by omega)]
    exact ⟨A, B, a, rfl, by omega, by omega, bA, bB, fun j j0 j1 => hab j j0 (by omega)⟩
  | succ d ih =>
    intro n A B i a hi i0 hd a0 a1 lA lB bA bB hab
    obtain ⟨n, rfl⟩ : ∃ j, n = j + 1 := ⟨n - 1, by omega⟩
    rw [spykeep3_SensorExpectsGrow.l0, wid (x := S.W * S.H) (by omega) (by omega), ifp (by omega)]
    obtain ⟨v, h1, v0, v1⟩ := next_ex k L a 1073741824 (by decide) (by decide) (by omega) (by omega)
    rw [bnd h1]; dsimp only
    obtain ⟨s, h2, s0, s1⟩ := next_ex k L (a + 1) 20 (by decide) (by decide) (by omega) (by omega)
    rw [bnd h2]; dsimp only
    obtain ⟨u, h3, u0, u1⟩ := next_ex k L (a + 1 + 1) 1073741824 (by decide) (by decide) (by omega) (by omega)
    rw [ifp (by omega), ifp (by omega), bnd h3]; dsimp only
    obtain ⟨x0, x1⟩ := shl_small v s v0 v1 s0 s1
    generalize v * 2 ^ (min s.toNat 64) = x at *
    rw [ifp (by omega), wid (x := x) (by omega) (by omega), wid (x := x + u) (by omega) (by omega), wid (x := i + 1) (by omega) (by omega)]
    refine ih n _ _ (i + 1) _ (by omega) (by omega) (by omega) (by omega) (by omega) (by simp; omega) (by simp; omega) (bA.push (by omega) (by omega)) (bB.push (by omega) (by omega)) ?_
    intro j j0 j1
    by_cases c : j = i
    · rw [rd_push_new A x j (by omega), rd_push_new B (x + u) j (by omega)]; omega
    · rw [rd_push_old A x j j0 (by omega), rd_push_old B (x + u) j j0 (by omega)]; exact hab j j0 (by omega)
theorem grow_l1 (k : Nat) (L : List Int) (S : S_Sensor) (A B p q : List Int) (t : Int) (hS : Good S 32) (lA : (A.length : Int) = S.W * S.H) (lB : (B.length : Int) = S.W * S.H) (bA : AllIn A 0 1125899906842624) (bB : AllIn B 0 1125899906842624) (hab : ∀ j, 0 ≤ j → j < S.W * S.H → rd A j ≤ rd B j)
    (lp : (p.length : Int) = S.W * S.H) (hp : ∀ j, 0 ≤ j → j < S.W * S.H → rd p j = worth S A t j) (lq : (q.length : Int) = S.W * S.H) (hq : ∀ j, 0 ≤ j → j < S.W * S.H → rd q j = worth S B t j) (t0 : 0 ≤ t) (t1 : t ≤ 16) :
    ∀ (d n : Nat) (i : Int), i + d = S.W * S.H → 0 ≤ i → d < n → spykeep3_SensorExpectsGrow.l1 k A S p q t L n i = some (Sum.inr ()) := by
  have hn := hS.n (by decide)
  have lf := hS.lf
  have ld := hS.ld
  intro d
  induction d with
  | zero =>
    intro n i hi i0 hd
    obtain ⟨n, rfl⟩ : ∃ j, n = j + 1 := ⟨n - 1, by omega⟩
    rw [spykeep3_SensorExpectsGrow.l1, ifn (by omega)]
  | succ d ih =>
    intro n i hi i0 hd
    obtain ⟨n, rfl⟩ : ∃ j, n = j + 1 := ⟨n - 1, by omega⟩
    have h1 := bA.rd i0 (show i < (A.length : Int) by omega)
    have h2 := hS.F.rd i0 (show i < (S.Flat.length : Int) by omega)
    obtain ⟨w0, w1, w2, w3⟩ := worth_in S A t i hS lA bA t0 t1 i0 (by omega)
    obtain ⟨y0, y1, _, _⟩ := worth_in S B t i hS lB bB t0 t1 i0 (by omega)
    have hle : rd A i * rd S.Flat i ≤ rd B i * rd S.Flat i := Int.mul_le_mul_of_nonneg_right (hab i i0 (by omega)) h2.1
    have hfl : rd A i * rd S.Flat i ≤ rd A i * 4096 := Int.mul_le_mul_of_nonneg_left h2.2 h1.1
    have hz : rd S.Flat i = 0 → rd B i * rd S.Flat i = 0 := fun h => by rw [h, Int.mul_zero]
    have ep := hp i i0 (by omega)
    have eq := hq i i0 (by omega)
    unfold worth at ep eq
    rw [spykeep3_SensorExpectsGrow.l1, wid (x := rd S.Dark i * t) (by omega) (by omega), wid (x := rd S.Dark i * t + rd A i) (by omega) (by omega), wid (x := i + 1) (by omega) (by omega)]
    rw [ifp (by omega), ifp (by omega), ifp (by omega), ifp (by omega), ifp (by omega), ifn (by omega), ifn (by omega), ifn (by omega), ifp (by omega)]
    by_cases c : rd S.Flat i = 0
    · have := hz c
      rw [ifp c, ifn (by omega)]
      exact ih n (i + 1) (by omega) (by omega) (by omega)
    · rw [ifn c]
      exact ih n (i + 1) (by omega) (by omega) (by omega)
theorem law (k : Nat) (L : List Int) (beats : Int) (hk : 1100 ≤ k) : spykeep3_SensorExpectsGrow k L beats = some true := by
  unfold spykeep3_SensorExpectsGrow
  obtain ⟨S, a, h1, hS', a0, a1⟩ := sensor_ex k L 0 5 (by decide) (by decide) (by decide) (by decide) hk
  have hS : Good S 32 := hS'.wide (by decide)
  have hn := hS.n (by decide)
  rw [bnd h1]; dsimp only
  obtain ⟨t, h2, t0, t1⟩ := below_ex k beats 17 (by decide) (by decide)
  rw [bnd h2]
  obtain ⟨A, B, a', h3, lA, lB, bA, bB, hab⟩ := grow_l0 k L S hS (S.W * S.H).toNat k [] [] 0 a (by omega) (by omega) (by omega) (by omega) (by omega) rfl rfl .nil .nil (fun j j0 j1 => by omega)
  rw [bnd h3]; dsimp only
  obtain ⟨p, h4, lp, hp⟩ := expect_ok k S A t hS lA bA t0 (by omega) hk
  obtain ⟨q, h5, lq, hq⟩ := expect_ok k S B t hS lB bB t0 (by omega) hk
  rw [bnd h4]; dsimp only
  rw [bnd h5]; dsimp only
  rw [bnd (column_eq k (by omega)), ifn (by decide), ifn (by decide), ifn (by decide), ifn (by omega), ifn (by omega), bnd (grow_l1 k L S A B p q t hS lA lB bA bB hab lp hp lq hq t0 (by omega) (S.W * S.H).toNat k 0 (by omega) (by omega) (by omega))]
  rfl
theorem law_ex (L : List Int) (beats : Int) (_ : (Lit.int .i64 beats).wf = true) : ∃ k, spykeep3_SensorExpectsGrow k L beats = some true := ⟨1100, law 1100 L beats (by decide)⟩

end Go.Sp.X7
