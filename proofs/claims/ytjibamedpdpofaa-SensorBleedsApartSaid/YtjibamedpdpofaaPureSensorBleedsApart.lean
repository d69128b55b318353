import Derived.Test.YtjibamedpdpofaaFX6
import Derived.KernelRfl
namespace Go.Sp.X6
open Go Go.Sp
set_option linter.unusedVariables false
theorem bnd {α β : Type} {x : Option α} {g : α → Option β} {v : α} (h : x = some v) : x.bind g = g v := by rw [h]; rfl
theorem ifp {α : Type} {c : Prop} [Decidable c] {x y : α} (h : c) : (if c then x else y) = x := if_pos h
theorem ifn {α : Type} {c : Prop} [Decidable c] {x y : α} (h : ¬ c) : (if c then x else y) = y := if_neg h
theorem rd_mem {α : Type} [Inhabited α] {l : List α} {i : Int} (h0 : 0 ≤ i) (h1 : i < (l.length : Int)) : rd l i ∈ l := by
  obtain ⟨h, e⟩ := rd_lt h0 h1
  rw [e]; exact List.getElem_mem h
theorem wid {x : Int} (h : -9223372036854775808 ≤ x) (h' : x ≤ 9223372036854775807) : w64 x = x := w64_of h h'
theorem wuid {x : Int} (h : 0 ≤ x) (h' : x ≤ 18446744073709551615) : u64 x = x := u64_of h h'
theorem mul_le {a b A B : Int} (h1 : 0 ≤ a) (h2 : a ≤ A) (h3 : 0 ≤ b) (h4 : b ≤ B) : 0 ≤ a * b ∧ a * b ≤ A * B :=
  ⟨Int.mul_nonneg h1 h3, Int.mul_le_mul h2 h4 h3 (by omega)⟩
theorem tdiv_nn {a b : Int} (h : 0 ≤ a) : Int.tdiv a b = a / b := Int.tdiv_eq_ediv_of_nonneg h
theorem tmod_nn {a b : Int} (h : 0 ≤ a) : Int.tmod a b = a % b := Int.tmod_eq_emod_of_nonneg h
def AllIn (l : List Int) (lo hi : Int) : Prop := ∀ x, x ∈ l → lo ≤ x ∧ x ≤ hi
theorem AllIn.nil {lo hi : Int} : AllIn [] lo hi := fun x h => by cases h
theorem AllIn.push {l : List Int} {lo hi x : Int} (h : AllIn l lo hi) (h0 : lo ≤ x) (h1 : x ≤ hi) : AllIn (l ++ [x]) lo hi := by
  intro y hy
  rcases List.mem_append.mp hy with hy | hy
  · exact h y hy
  · simp only [List.mem_singleton] at hy; subst hy; exact ⟨h0, h1⟩
theorem AllIn.rd {l : List Int} {lo hi i : Int} (h : AllIn l lo hi) (h0 : 0 ≤ i) (h1 : i < (l.length : Int)) : lo ≤ rd l i ∧ rd l i ≤ hi := h _ (rd_mem h0 h1)
theorem AllIn.mono {l : List Int} {lo hi lo' hi' : Int} (h : AllIn l lo hi) (h0 : lo' ≤ lo) (h1 : hi ≤ hi') : AllIn l lo' hi' := fun x hx => by have := h x hx; omega
theorem rd_set_eq (l : List Int) (i x : Int) (h0 : 0 ≤ i) (h1 : i < (l.length : Int)) : rd (l.set i.toNat x) i = x := by
  obtain ⟨h, e⟩ := rd_lt (xs := l.set i.toNat x) h0 (by simp; omega)
  rw [e]; simp
theorem rd_set_ne (l : List Int) (i j x : Int) (h0 : 0 ≤ i) (hj : 0 ≤ j) (h1 : j < (l.length : Int)) (hne : j ≠ i) : rd (l.set i.toNat x) j = rd l j := by
  obtain ⟨h, e⟩ := rd_lt (xs := l.set i.toNat x) hj (by simp; omega)
  obtain ⟨h', e'⟩ := rd_lt (xs := l) hj h1
  rw [e, e', List.getElem_set, if_neg (by omega)]
theorem below_ex (k : Nat) (x n : Int) (h1 : 1 ≤ n) (h2 : n ≤ 4611686018427387904) : ∃ v, spymake_Below k x n = some v ∧ 0 ≤ v ∧ v < n := by
  have e1 := Int.tmod_lt_of_pos x (show 0 < n by omega)
  have e2 := Int.lt_tmod_of_pos x (show 0 < n by omega)
  unfold spymake_Below
  rw [ifn (by omega), ifp (by omega)]
  by_cases c : Int.tmod x n < 0
  · rw [ifp c]
    refine ⟨_, rfl, ?_, ?_⟩ <;> rw [wid (by omega) (by omega)] <;> omega
  · rw [ifn c]
    exact ⟨_, rfl, by omega, by omega⟩
theorem next_ex (k : Nat) (L : List Int) (a n : Int) (h1 : 1 ≤ n) (h2 : n ≤ 4611686018427387904) (a0 : 0 ≤ a) (a1 : a ≤ 4611686018427387904) :
    ∃ v, spymake_Stream_Next k ⟨L, a⟩ n = some (v, a + 1) ∧ 0 ≤ v ∧ v < n := by
  unfold spymake_Stream_Next
  dsimp only
  rw [wid (x := a + 1) (by omega) (by omega)]
  by_cases c : (L.length : Int) = 0
  · rw [ifp c]
    obtain ⟨v, hv, v0, v1⟩ := below_ex k (w64 ((a + 1) * 7919)) n h1 h2
    rw [bnd hv]
    exact ⟨v, rfl, v0, v1⟩
  · rw [ifn c, ifp c, show a + 1 - 1 = a by omega, wid (x := a) (by omega) (by omega)]
    have e1 := Int.tmod_lt_of_pos a (show 0 < (L.length : Int) by omega)
    have e2 : 0 ≤ Int.tmod a (L.length : Int) := Int.tmod_nonneg _ a0
    rw [ifp e2, ifp e1]
    obtain ⟨u, hu, _⟩ := below_ex k (rd L (Int.tmod a (L.length : Int))) 1073741824 (by decide) (by decide)
    rw [bnd hu]
    obtain ⟨v, hv, v0, v1⟩ := below_ex k (w64 (u + (w64 ((w64 (Int.tdiv a (L.length : Int))) * (w64 (7919 + (Int.tmod a (L.length : Int)))))))) n h1 h2
    rw [bnd hv]
    exact ⟨v, rfl, v0, v1⟩
theorem range_ex (k : Nat) (L : List Int) (a lo hi : Int) (h1 : lo ≤ hi) (h2 : hi - lo ≤ 1073741824) (h3 : -4611686018427387904 ≤ lo) (h4 : hi ≤ 4611686018427387904) (a0 : 0 ≤ a) (a1 : a ≤ 4611686018427387904) :
    ∃ v, spymake_Stream_Range k ⟨L, a⟩ lo hi = some (v, a + 1) ∧ lo ≤ v ∧ v ≤ hi := by
  unfold spymake_Stream_Range
  rw [ifn (by omega), wid (x := hi - lo) (by omega) (by omega), wid (x := hi - lo + 1) (by omega) (by omega)]
  obtain ⟨v, hv, v0, v1⟩ := next_ex k L a (hi - lo + 1) (by omega) (by omega) a0 a1
  rw [bnd hv]
  dsimp only
  rw [wid (by omega) (by omega)]
  exact ⟨_, rfl, by omega, by omega⟩
structure Good (S : S_Sensor) (most : Int) : Prop where
  W0 : 1 ≤ S.W
  W1 : S.W ≤ most
  H0 : 1 ≤ S.H
  H1 : S.H ≤ most
  lb : (S.Bias.length : Int) = S.W * S.H
  ld : (S.Dark.length : Int) = S.W * S.H
  lf : (S.Flat.length : Int) = S.W * S.H
  B : AllIn S.Bias 0 59
  D : AllIn S.Dark 0 33554432
  F : AllIn S.Flat 0 4096
  F0 : 200 ≤ S.Full
  F1 : S.Full ≤ 1048576
  G0 : 1 ≤ S.Gain
  G1 : S.Gain ≤ 64
  N0 : 0 ≤ S.Noise
  N1 : S.Noise ≤ 64
theorem Good.n {S : S_Sensor} {most : Int} (h : Good S most) (hm : most ≤ 32) : 1 ≤ S.W * S.H ∧ S.W * S.H ≤ 1024 := by
  have h1 := mul_le (a := S.W) (b := S.H) (A := 32) (B := 32) (by have := h.W0; omega) (by have := h.W1; omega) (by have := h.H0; omega) (by have := h.H1; omega)
  have h2 : 1 * 1 ≤ S.W * S.H := Int.mul_le_mul h.W0 h.H0 (by decide) (by have := h.W0; omega)
  omega
theorem push_len {l : List Int} {x : Int} {n : Int} (h : (l.length : Int) = n) : ((l ++ [x]).length : Int) = n + 1 := by simp; omega
theorem sensor_l0 (k : Nat) (L : List Int) (a0_ W H m : Int) (hn0 : 0 ≤ W * H) (hn : W * H ≤ 1024) (hm0 : 0 ≤ m) (hm : m ≤ 2) : ∀ (d n : Nat) (i a : Int) (B D F : List Int), i + d = W * H → 0 ≤ i → d < n → 0 ≤ a → a + 6 * d ≤ 4611686018427387904 →
    (B.length : Int) = i → (D.length : Int) = i → (F.length : Int) = i → AllIn B 0 59 → AllIn D 0 33554432 → AllIn F 0 4096 →
    ∃ a' B' D' F', spymake_Stream_Sensor.l0 k W H ⟨L, a0_⟩ m n i a B D F = some (a', B', D', F') ∧ a ≤ a' ∧ a' ≤ a + 6 * d ∧
      (B'.length : Int) = W * H ∧ (D'.length : Int) = W * H ∧ (F'.length : Int) = W * H ∧ AllIn B' 0 59 ∧ AllIn D' 0 33554432 ∧ AllIn F' 0 4096 := by
  intro d
  induction d with
  | zero =>
    intro n i a B D F hi i0 hd ha0 ha lB lD lF bB bD bF
    obtain ⟨n, rfl⟩ : ∃ j, n = j + 1 := ⟨n - 1, by omega⟩
    rw [spymake_Stream_Sensor.l0, wid (x := W * H) (by omega) (by omega), ifn (by omega)]
    exact ⟨a, B, D, F, rfl, by omega, by omega, by omega, by omega, by omega, bB, bD, bF⟩
  | succ d ih =>
    intro n i a B D F hi i0 hd ha0 ha lB lD lF bB bD bF
    obtain ⟨n, rfl⟩ : ∃ j, n = j + 1 := ⟨n - 1, by omega⟩
    rw [spymake_Stream_Sensor.l0, wid (x := W * H) (by omega) (by omega), ifp (by omega)]
    obtain ⟨v1, h1, p1, q1⟩ := next_ex k L a 60 (by decide) (by decide) (by omega) (by omega)
    rw [bnd h1]; dsimp only
    rw [ifp (by omega), wid (x := m * 16777216) (by omega) (by omega), wid (x := m * 16777216 + 1) (by omega) (by omega)]
    obtain ⟨v2, h2, p2, q2⟩ := next_ex k L (a + 1) (m * 16777216 + 1) (by omega) (by omega) (by omega) (by omega)
    rw [bnd h2]; dsimp only
    rw [ifp (by omega)]
    obtain ⟨v3, h3, p3, q3⟩ := range_ex k L (a + 1 + 1) 2048 4096 (by decide) (by decide) (by decide) (by decide) (by omega) (by omega)
    rw [bnd h3]; dsimp only
    obtain ⟨v4, h4, p4, q4⟩ := next_ex k L (a + 1 + 1 + 1) 12 (by decide) (by decide) (by omega) (by omega)
    rw [bnd h4]; dsimp only
    by_cases c : v4 = 0
    · rw [ifp c]
      obtain ⟨v5, h5, p5, q5⟩ := next_ex k L (a + 1 + 1 + 1 + 1) 512 (by decide) (by decide) (by omega) (by omega)
      rw [bnd h5]; dsimp only
      obtain ⟨v6, h6, p6, q6⟩ := next_ex k L (a + 1 + 1 + 1 + 1 + 1) 2 (by decide) (by decide) (by omega) (by omega)
      rw [bnd h6]; dsimp only
      have hm6 := mul_le (a := v5) (b := v6) (A := 511) (B := 1) p5 (by omega) p6 (by omega)
      rw [ifp (by omega), wid (x := i + 1) (by omega) (by omega), wid (x := v5 * v6) (by omega) (by omega)]
      obtain ⟨a', B', D', F', e, g1, g2, g3, g4, g5, g6, g7, g8⟩ := ih n (i + 1) (a + 1 + 1 + 1 + 1 + 1 + 1) (B ++ [v1]) (D ++ [v2]) (F ++ [v5 * v6]) (by omega) (by omega) (by omega) (by omega) (by omega) (push_len lB) (push_len lD) (push_len lF) (bB.push p1 (by omega)) (bD.push p2 (by omega)) (bF.push (by omega) (by omega))
      exact ⟨a', B', D', F', e, by omega, by omega, g3, g4, g5, g6, g7, g8⟩
    · rw [ifn c, ifp (by omega), wid (x := i + 1) (by omega) (by omega)]
      obtain ⟨a', B', D', F', e, g1, g2, g3, g4, g5, g6, g7, g8⟩ := ih n (i + 1) (a + 1 + 1 + 1 + 1) (B ++ [v1]) (D ++ [v2]) (F ++ [v3]) (by omega) (by omega) (by omega) (by omega) (by omega) (push_len lB) (push_len lD) (push_len lF) (bB.push p1 (by omega)) (bD.push p2 (by omega)) (bF.push (by omega) (by omega))
      exact ⟨a', B', D', F', e, by omega, by omega, g3, g4, g5, g6, g7, g8⟩
theorem sensor_ex (k : Nat) (L : List Int) (a most : Int) (hm0 : 1 ≤ most) (hm : most ≤ 32) (a0 : 0 ≤ a) (a1 : a ≤ 1000000) (hk : 1100 ≤ k) :
    ∃ S a', spymake_Stream_Sensor k ⟨L, a⟩ most = some (S, a') ∧ Good S most ∧ a ≤ a' ∧ a' ≤ a + 7000 := by
  unfold spymake_Stream_Sensor
  dsimp only
  obtain ⟨W, h1, W0, W1⟩ := range_ex k L a 1 most (by omega) (by omega) (by omega) (by omega) (by omega) (by omega)
  rw [bnd h1]; dsimp only
  obtain ⟨H, h2, H0, H1⟩ := range_ex k L (a + 1) 1 most (by omega) (by omega) (by omega) (by omega) (by omega) (by omega)
  rw [bnd h2]; dsimp only
  obtain ⟨u, h3, u0, u1⟩ := range_ex k L (a + 1 + 1) 20000 1048576 (by decide) (by decide) (by decide) (by decide) (by omega) (by omega)
  rw [bnd h3]; dsimp only
  obtain ⟨g, h4, g0, g1⟩ := range_ex k L (a + 1 + 1 + 1) 1 4 (by decide) (by decide) (by decide) (by decide) (by omega) (by omega)
  rw [bnd h4]; dsimp only
  obtain ⟨n, h5, n0, n1⟩ := next_ex k L (a + 1 + 1 + 1 + 1) 4 (by decide) (by decide) (by omega) (by omega)
  rw [bnd h5]; dsimp only
  obtain ⟨z, h6, z0, z1⟩ := next_ex k L (a + 1 + 1 + 1 + 1 + 1) 6 (by decide) (by decide) (by omega) (by omega)
  rw [bnd h6]; dsimp only
  have hWH := mul_le (a := W) (b := H) (A := 32) (B := 32) (by omega) (by omega) (by omega) (by omega)
  have fin : ∀ (a' : Int) (Fu G N : Int), a ≤ a' → a' ≤ a + 20 → 200 ≤ Fu → Fu ≤ 1048576 → 1 ≤ G → G ≤ 64 → 0 ≤ N → N ≤ 64 →
      ∃ S a2, ((spymake_Stream_Next k (⟨L, a'⟩ : S_Stream) 3).bind fun (vt164, vt165) => ((spymake_Stream_Sensor.l0 k W H ⟨L, a⟩ vt164 k 0 vt165 ([] : List Int) ([] : List Int) ([] : List Int)).bind fun (x675, x676, x682, x688) => (some ((⟨W, H, x676, x682, x688, Fu, G, N⟩ : S_Sensor), x675)))) = some (S, a2) ∧
        Good S most ∧ a ≤ a2 ∧ a2 ≤ a + 7000 := by
    intro a' Fu G N b0 b1 c0 c1 d0 d1 e0 e1
    obtain ⟨m, h7, m0, m1⟩ := next_ex k L a' 3 (by decide) (by decide) (by omega) (by omega)
    rw [bnd h7]; dsimp only
    obtain ⟨a2, B, D, F, h8, r1, r2, r3, r4, r5, r6, r7, r8⟩ := sensor_l0 k L a W H m (by omega) (by omega) m0 (by omega) (W * H).toNat k 0 (a' + 1) [] [] [] (by omega) (by omega) (by omega) (by omega) (by omega) rfl rfl rfl .nil .nil .nil
    rw [bnd h8]; dsimp only
    exact ⟨_, _, rfl, ⟨W0, W1, H0, H1, r3, r4, r5, r6, r7, r8, c0, c1, d0, d1, e0, e1⟩, by omega, by omega⟩
  by_cases c : z = 0
  · rw [ifp c]
    obtain ⟨v, hv, v0, v1⟩ := range_ex k L (a + 1 + 1 + 1 + 1 + 1 + 1) 200 5000 (by decide) (by decide) (by decide) (by decide) (by omega) (by omega)
    rw [bnd hv]; dsimp only
    exact fin _ v g n (by omega) (by omega) (by omega) (by omega) (by omega) (by omega) (by omega) (by omega)
  · rw [ifn c]
    by_cases c2 : z = 1
    · rw [ifp c2]
      obtain ⟨v, hv, v0, v1⟩ := range_ex k L (a + 1 + 1 + 1 + 1 + 1 + 1) 1 64 (by decide) (by decide) (by decide) (by decide) (by omega) (by omega)
      rw [bnd hv]; dsimp only
      obtain ⟨x, hx, x0, x1⟩ := next_ex k L (a + 1 + 1 + 1 + 1 + 1 + 1 + 1) 20 (by decide) (by decide) (by omega) (by omega)
      rw [bnd hx]; dsimp only
      exact fin _ u v x (by omega) (by omega) (by omega) (by omega) (by omega) (by omega) (by omega) (by omega)
    · rw [ifn c2]
      exact fin _ u g n (by omega) (by omega) (by omega) (by omega) (by omega) (by omega) (by omega) (by omega)
theorem idx_l0_int (l : List Int) (most : Int) (hl : AllIn l 0 most) (hb : l.length < 4611686018427387904) (k : Nat) : ∀ (d n : Nat) (i : Int), i + d = l.length → 0 ≤ i → d < n →
    slices_IndexFunc_int__sensor_outside_int_1.l0 k l most n i = some (Sum.inr ()) := by
  intro d
  induction d with
  | zero =>
    intro n i hi i0 hd
    obtain ⟨n, rfl⟩ : ∃ j, n = j + 1 := ⟨n - 1, by omega⟩
    rw [slices_IndexFunc_int__sensor_outside_int_1.l0, ifn (by omega)]
  | succ d ih =>
    intro n i hi i0 hd
    obtain ⟨n, rfl⟩ : ∃ j, n = j + 1 := ⟨n - 1, by omega⟩
    have hr := hl.rd i0 (show i < (l.length : Int) by omega)
    have hf : sensor_outside_int_1 k most (rd l i) = some false := by
      unfold sensor_outside_int_1
      rw [ifn (by omega)]
      congr 1
      exact decide_eq_false (by omega)
    rw [slices_IndexFunc_int__sensor_outside_int_1.l0, ifp (by omega), ifp i0, bnd hf, ifn (by decide), wid (by omega) (by omega)]
    exact ih n (i + 1) (by omega) (by omega) (by omega)
theorem outside_int (k : Nat) (l : List Int) (most : Int) (hl : AllIn l 0 most) (hb : l.length < 4611686018427387904) (hk : l.length < k) : sensor_outside_int k l most = some false := by
  have h1 : slices_IndexFunc_int__sensor_outside_int_1 k most l = some (-1) := by
    unfold slices_IndexFunc_int__sensor_outside_int_1
    rw [bnd (idx_l0_int l most hl hb k l.length k 0 (by omega) (by omega) hk)]
    rfl
  have h2 : slices_ContainsFunc_int__sensor_outside_int_1 k most l = some false := by
    unfold slices_ContainsFunc_int__sensor_outside_int_1
    rw [bnd h1]
    rfl
  unfold sensor_outside_int
  rw [bnd h2]
theorem idx_l0_Light (l : List Int) (most : Int) (hl : AllIn l 0 most) (hb : l.length < 4611686018427387904) (k : Nat) : ∀ (d n : Nat) (i : Int), i + d = l.length → 0 ≤ i → d < n →
    slices_IndexFunc_Light__sensor_outside_Light_1.l0 k l most n i = some (Sum.inr ()) := by
  intro d
  induction d with
  | zero =>
    intro n i hi i0 hd
    obtain ⟨n, rfl⟩ : ∃ j, n = j + 1 := ⟨n - 1, by omega⟩
    rw [slices_IndexFunc_Light__sensor_outside_Light_1.l0, ifn (by omega)]
  | succ d ih =>
    intro n i hi i0 hd
    obtain ⟨n, rfl⟩ : ∃ j, n = j + 1 := ⟨n - 1, by omega⟩
    have hr := hl.rd i0 (show i < (l.length : Int) by omega)
    have hf : sensor_outside_Light_1 k most (rd l i) = some false := by
      unfold sensor_outside_Light_1
      rw [ifn (by omega)]
      congr 1
      exact decide_eq_false (by omega)
    rw [slices_IndexFunc_Light__sensor_outside_Light_1.l0, ifp (by omega), ifp i0, bnd hf, ifn (by decide), wid (by omega) (by omega)]
    exact ih n (i + 1) (by omega) (by omega) (by omega)
theorem outside_Light (k : Nat) (l : List Int) (most : Int) (hl : AllIn l 0 most) (hb : l.length < 4611686018427387904) (hk : l.length < k) : sensor_outside_Light k l most = some false := by
  have h1 : slices_IndexFunc_Light__sensor_outside_Light_1 k most l = some (-1) := by
    unfold slices_IndexFunc_Light__sensor_outside_Light_1
    rw [bnd (idx_l0_Light l most hl hb k l.length k 0 (by omega) (by omega) hk)]
    rfl
  have h2 : slices_ContainsFunc_Light__sensor_outside_Light_1 k most l = some false := by
    unfold slices_ContainsFunc_Light__sensor_outside_Light_1
    rw [bnd h1]
    rfl
  unfold sensor_outside_Light
  rw [bnd h2]
theorem check_ok (k : Nat) (S : S_Sensor) (h : Good S 32) (hk : 1100 ≤ k) : sensor_Check k S = some 0 := by
  have hn := h.n (by decide)
  obtain ⟨W0, W1, H0, H1, lb, ld, lf, hB, hD, hF, F0, F1, G0, G1, N0, N1⟩ := h
  unfold sensor_Check
  rw [mn_def, mx_def, wid (x := S.W * S.H) (by omega) (by omega), ifn (by omega), ifn (by omega), ifn (by omega), ifn (by omega), ifn (by omega),
    bnd (outside_int k S.Bias 4096 (hB.mono (by decide) (by decide)) (by omega) (by omega)), ifn (by decide),
    bnd (outside_Light k S.Dark 17592186044416 (hD.mono (by decide) (by decide)) (by omega) (by omega)), ifn (by decide),
    bnd (outside_int k S.Flat 4096 hF (by omega) (by omega)), ifn (by decide), ifn (by omega), ifn (by omega), ifn (by omega), ifn (by omega), ifn (by omega), ifn (by omega)]
theorem Good.wide {S : S_Sensor} {m m' : Int} (h : Good S m) (hm : m ≤ m') : Good S m' := ⟨h.W0, by have := h.W1; omega, h.H0, by have := h.H1; omega, h.lb, h.ld, h.lf, h.B, h.D, h.F, h.F0, h.F1, h.G0, h.G1, h.N0, h.N1⟩
theorem sized_ok (k : Nat) (S : S_Sensor) (n : Int) (h : Good S 32) (hn : n = S.W * S.H) (hk : 1100 ≤ k) : sensor_sized k S n = some 0 := by
  have hb := h.n (by decide)
  unfold sensor_sized
  rw [bnd (check_ok k S h hk), ifn (by decide), wid (by omega) (by omega), ifn (by omega)]
theorem idx_l0_Quanta (l : List Int) (most : Int) (hl : AllIn l 0 most) (hb : l.length < 4611686018427387904) (k : Nat) : ∀ (d n : Nat) (i : Int), i + d = l.length → 0 ≤ i → d < n →
    slices_IndexFunc_Quanta__sensor_outside_Quanta_1.l0 k l most n i = some (Sum.inr ()) := by
  intro d
  induction d with
  | zero =>
    intro n i hi i0 hd
    obtain ⟨n, rfl⟩ : ∃ j, n = j + 1 := ⟨n - 1, by omega⟩
    rw [slices_IndexFunc_Quanta__sensor_outside_Quanta_1.l0, ifn (by omega)]
  | succ d ih =>
    intro n i hi i0 hd
    obtain ⟨n, rfl⟩ : ∃ j, n = j + 1 := ⟨n - 1, by omega⟩
    have hr := hl.rd i0 (show i < (l.length : Int) by omega)
    have hf : sensor_outside_Quanta_1 k most (rd l i) = some false := by
      unfold sensor_outside_Quanta_1
      rw [ifn (by omega)]
      congr 1
      exact decide_eq_false (by omega)
    rw [slices_IndexFunc_Quanta__sensor_outside_Quanta_1.l0, ifp (by omega), ifp i0, bnd hf, ifn (by decide), wid (by omega) (by omega)]
    exact ih n (i + 1) (by omega) (by omega) (by omega)
theorem outside_Quanta (k : Nat) (l : List Int) (most : Int) (hl : AllIn l 0 most) (hb : l.length < 4611686018427387904) (hk : l.length < k) : sensor_outside_Quanta k l most = some false := by
  have h1 : slices_IndexFunc_Quanta__sensor_outside_Quanta_1 k most l = some (-1) := by
    unfold slices_IndexFunc_Quanta__sensor_outside_Quanta_1
    rw [bnd (idx_l0_Quanta l most hl hb k l.length k 0 (by omega) (by omega) hk)]
    rfl
  have h2 : slices_ContainsFunc_Quanta__sensor_outside_Quanta_1 k most l = some false := by
    unfold slices_ContainsFunc_Quanta__sensor_outside_Quanta_1
    rw [bnd h1]
    rfl
  unfold sensor_outside_Quanta
  rw [bnd h2]
theorem filled_l0 (k : Nat) (L : List Int) (b : Int) (S : S_Sensor) (hS : Good S 32) : ∀ (d n : Nat) (q : List Int) (i a : Int), i + d = S.W * S.H → 0 ≤ i → d < n → 0 ≤ a → a + 3 * d ≤ 4611686018427387904 → (q.length : Int) = i → AllIn q 0 4194304 →
    ∃ q' a', spykeep3_filled.l0 k S ⟨L, b⟩ n q i a = some (q', a') ∧ (q'.length : Int) = S.W * S.H ∧ AllIn q' 0 4194304 ∧ a ≤ a' ∧ a' ≤ a + 3 * d := by
  have hn := hS.n (by decide)
  have F0 := hS.F0
  have F1 := hS.F1
  intro d
  induction d with
  | zero =>
    intro n q i a hi i0 hd a0 a1 lq bq
    obtain ⟨n, rfl⟩ : ∃ j, n = j + 1 := ⟨n - 1, by omega⟩
    rw [spykeep3_filled.l0, wid (x := S.W * S.H) (by omega) (by omega), ifn (by omega)]
    exact ⟨q, a, rfl, by omega, bq, by omega, by omega⟩
  | succ d ih =>
    intro n q i a hi i0 hd a0 a1 lq bq
    obtain ⟨n, rfl⟩ : ∃ j, n = j + 1 := ⟨n - 1, by omega⟩
    rw [spykeep3_filled.l0, wid (x := S.W * S.H) (by omega) (by omega), ifp (by omega), wid (x := S.Full + 1) (by omega) (by omega)]
    obtain ⟨v, h1, v0, v1⟩ := next_ex k L a (S.Full + 1) (by omega) (by omega) (by omega) (by omega)
    rw [bnd h1]; dsimp only
    obtain ⟨z, h2, z0, z1⟩ := next_ex k L (a + 1) 5 (by decide) (by decide) (by omega) (by omega)
    rw [bnd h2]; dsimp only
    by_cases c : z = 0
    · rw [ifp c, wid (x := 4 * S.Full) (by omega) (by omega)]
      obtain ⟨u, h3, u0, u1⟩ := next_ex k L (a + 1 + 1) (4 * S.Full) (by omega) (by omega) (by omega) (by omega)
      rw [bnd h3]; dsimp only
      rw [ifp (by omega), wid (x := i + 1) (by omega) (by omega)]
      obtain ⟨q', a', e, g1, g2, g3, g4⟩ := ih n (q ++ [u]) (i + 1) (a + 1 + 1 + 1) (by omega) (by omega) (by omega) (by omega) (by omega) (push_len lq) (bq.push u0 (by omega))
      exact ⟨q', a', e, g1, g2, by omega, by omega⟩
    · rw [ifn c, ifp (by omega), wid (x := i + 1) (by omega) (by omega)]
      obtain ⟨q', a', e, g1, g2, g3, g4⟩ := ih n (q ++ [v]) (i + 1) (a + 1 + 1) (by omega) (by omega) (by omega) (by omega) (by omega) (push_len lq) (bq.push v0 (by omega))
      exact ⟨q', a', e, g1, g2, by omega, by omega⟩
theorem filled_ex (k : Nat) (L : List Int) (a : Int) (S : S_Sensor) (hS : Good S 32) (a0 : 0 ≤ a) (a1 : a ≤ 1000000) (hk : 1100 ≤ k) :
    ∃ q a', spykeep3_filled k ⟨L, a⟩ S = some (q, a') ∧ (q.length : Int) = S.W * S.H ∧ AllIn q 0 4194304 ∧ a ≤ a' ∧ a' ≤ a + 3100 := by
  have hn := hS.n (by decide)
  unfold spykeep3_filled
  dsimp only
  obtain ⟨q, a', e, g1, g2, g3, g4⟩ := filled_l0 k L a S hS (S.W * S.H).toNat k [] 0 a (by omega) (by omega) (by omega) (by omega) (by omega) rfl .nil
  rw [bnd e]
  exact ⟨q, a', rfl, g1, g2, g3, by omega⟩
theorem column_eq (k : Nat) (h : 40 ≤ k) : spykeep3_column k = some true := by
  obtain ⟨k, rfl⟩ : ∃ j, k = j + 40 := ⟨k - 40, by omega⟩
  kernel_rfl
def exc2 (S : S_Sensor) (x : Int) : Int := w64 (Int.tdiv (w64 ((mx 0 (w64 (x - S.Full))) + 1)) 2)
def exc3 (S : S_Sensor) (x : Int) : Int := w64 (Int.tdiv (mx 0 (w64 (x - S.Full))) 2)
theorem bleed_2 (k : Nat) (q : List Int) (S : S_Sensor) (i : Int) (h0 : 0 ≤ i) (h1 : i < (q.length : Int)) : sensor_Bleed_2 k q S i = some (exc2 S (rd q i)) := by
  unfold sensor_Bleed_2 sensor_Bleed_1
  rw [ifp h0, ifp h1]
  rfl
theorem pour_l0_2 (k : Nat) (S : S_Sensor) (ord q1 q2 : List Int) (N : Int) (hN : N ≤ 1024) (ho : (ord.length : Int) ≤ 1024) (hm : ∀ m, m ∈ ord → 0 ≤ m ∧ m < N) (l1 : (q1.length : Int) = N) (l2 : (q2.length : Int) = N) :
    ∀ (d n : Nat) (i f1 f2 : Int) (h1 h2 : List Int), i + d = ord.length → 0 ≤ i → d < n → (h1.length : Int) = N → (h2.length : Int) = N →
    ∃ a b fa fb, sensor_pour__sensor_Bleed_2.l0 k ord q1 S S n h1 f1 i = some (a, fa) ∧ sensor_pour__sensor_Bleed_2.l0 k ord q2 S S n h2 f2 i = some (b, fb) ∧ (a.length : Int) = N ∧ (b.length : Int) = N ∧
      (∀ j, 0 ≤ j → j < N → j ∉ ord → rd a j = rd h1 j ∧ rd b j = rd h2 j) ∧ ((∀ m, m ∈ ord → rd h1 m = rd h2 m ∧ rd q1 m = rd q2 m) → f1 = f2 → fa = fb ∧ ∀ m, m ∈ ord → rd a m = rd b m) := by
  intro d
  induction d with
  | zero =>
    intro n i f1 f2 h1 h2 hi i0 hd e1 e2
    obtain ⟨n, rfl⟩ : ∃ j, n = j + 1 := ⟨n - 1, by omega⟩
    rw [sensor_pour__sensor_Bleed_2.l0, sensor_pour__sensor_Bleed_2.l0, ifn (by omega), ifn (by omega)]
    exact ⟨h1, h2, f1, f2, rfl, rfl, e1, e2, fun j _ _ _ => ⟨rfl, rfl⟩, fun h hf => ⟨hf, fun m hm => (h m hm).1⟩⟩
  | succ d ih =>
    intro n i f1 f2 h1 h2 hi i0 hd e1 e2
    obtain ⟨n, rfl⟩ : ∃ j, n = j + 1 := ⟨n - 1, by omega⟩
    have hmem : rd ord i ∈ ord := rd_mem i0 (by omega)
    obtain ⟨m0, m1⟩ := hm _ hmem
    rw [sensor_pour__sensor_Bleed_2.l0, sensor_pour__sensor_Bleed_2.l0, ifp (by omega), ifp i0, ifp m0, ifp (by omega), bnd (bleed_2 k q1 S _ m0 (by omega)), ifp (by omega), ifp i0, ifp m0, ifp (by omega), bnd (bleed_2 k q2 S _ m0 (by omega)), wid (x := i + 1) (by omega) (by omega)]
    obtain ⟨a, b, fa, fb, r1, r2, la, lb, g1, g2⟩ := ih n (i + 1)
      (w64 (f1 + (w64 (exc2 S (rd q1 (rd ord i)) - (mn f1 (w64 (S.Full - (rd h1 (rd ord i)))))))))
      (w64 (f2 + (w64 (exc2 S (rd q2 (rd ord i)) - (mn f2 (w64 (S.Full - (rd h2 (rd ord i)))))))))
      (h1.set ((rd ord i)).toNat (w64 ((rd h1 (rd ord i)) + (mn f1 (w64 (S.Full - (rd h1 (rd ord i))))))))
      (h2.set ((rd ord i)).toNat (w64 ((rd h2 (rd ord i)) + (mn f2 (w64 (S.Full - (rd h2 (rd ord i)))))))) (by omega) (by omega) (by omega) (by rw [List.length_set]; exact e1) (by rw [List.length_set]; exact e2)
    refine ⟨a, b, fa, fb, r1, r2, la, lb, ?_, ?_⟩
    · intro j j0 j1 hj
      have hne : j ≠ rd ord i := fun e => hj (e ▸ hmem)
      obtain ⟨p1, p2⟩ := g1 j j0 j1 hj
      rw [rd_set_ne _ _ _ _ m0 j0 (by omega) hne] at p1 p2
      exact ⟨p1, p2⟩
    · intro hag hf
      obtain ⟨x1, x2⟩ := hag _ hmem
      refine g2 ?_ (by rw [x1, x2, hf])
      intro m hmm
      obtain ⟨y1, y2⟩ := hag m hmm
      refine ⟨?_, y2⟩
      by_cases c : m = rd ord i
      · rw [c, rd_set_eq _ _ _ m0 (by omega), rd_set_eq _ _ _ m0 (by omega), x1, hf]
      · obtain ⟨z0, z1⟩ := hm m hmm
        rw [rd_set_ne _ _ _ _ m0 z0 (by omega) c, rd_set_ne _ _ _ _ m0 z0 (by omega) c]; exact y1
theorem pour_2 (k : Nat) (S : S_Sensor) (ord q1 q2 h1 h2 : List Int) (N : Int) (hN : N ≤ 1024) (ho : (ord.length : Int) ≤ 1024) (hm : ∀ m, m ∈ ord → 0 ≤ m ∧ m < N) (l1 : (q1.length : Int) = N) (l2 : (q2.length : Int) = N) (e1 : (h1.length : Int) = N) (e2 : (h2.length : Int) = N) (hk : 1100 ≤ k) :
    ∃ a b fa fb, sensor_pour__sensor_Bleed_2 k q1 S S h1 ord = some (fa, a) ∧ sensor_pour__sensor_Bleed_2 k q2 S S h2 ord = some (fb, b) ∧ (a.length : Int) = N ∧ (b.length : Int) = N ∧
      (∀ j, 0 ≤ j → j < N → j ∉ ord → rd a j = rd h1 j ∧ rd b j = rd h2 j) ∧ ((∀ m, m ∈ ord → rd h1 m = rd h2 m ∧ rd q1 m = rd q2 m) → ∀ m, m ∈ ord → rd a m = rd b m) := by
  obtain ⟨a, b, fa, fb, r1, r2, la, lb, g1, g2⟩ := pour_l0_2 k S ord q1 q2 N hN ho hm l1 l2 ord.length k 0 0 0 h1 h2 (by omega) (by omega) (by omega) e1 e2
  unfold sensor_pour__sensor_Bleed_2
  rw [bnd r1, bnd r2]
  exact ⟨a, b, fa, fb, rfl, rfl, la, lb, g1, fun h => (g2 h rfl).2⟩
theorem bleed_3 (k : Nat) (q : List Int) (S : S_Sensor) (i : Int) (h0 : 0 ≤ i) (h1 : i < (q.length : Int)) : sensor_Bleed_3 k q S i = some (exc3 S (rd q i)) := by
  unfold sensor_Bleed_3 sensor_Bleed_1
  rw [ifp h0, ifp h1]
  rfl
theorem pour_l0_3 (k : Nat) (S : S_Sensor) (ord q1 q2 : List Int) (N : Int) (hN : N ≤ 1024) (ho : (ord.length : Int) ≤ 1024) (hm : ∀ m, m ∈ ord → 0 ≤ m ∧ m < N) (l1 : (q1.length : Int) = N) (l2 : (q2.length : Int) = N) :
    ∀ (d n : Nat) (i f1 f2 : Int) (h1 h2 : List Int), i + d = ord.length → 0 ≤ i → d < n → (h1.length : Int) = N → (h2.length : Int) = N →
    ∃ a b fa fb, sensor_pour__sensor_Bleed_3.l0 k ord q1 S S n h1 f1 i = some (a, fa) ∧ sensor_pour__sensor_Bleed_3.l0 k ord q2 S S n h2 f2 i = some (b, fb) ∧ (a.length : Int) = N ∧ (b.length : Int) = N ∧
      (∀ j, 0 ≤ j → j < N → j ∉ ord → rd a j = rd h1 j ∧ rd b j = rd h2 j) ∧ ((∀ m, m ∈ ord → rd h1 m = rd h2 m ∧ rd q1 m = rd q2 m) → f1 = f2 → fa = fb ∧ ∀ m, m ∈ ord → rd a m = rd b m) := by
  intro d
  induction d with
  | zero =>
    intro n i f1 f2 h1 h2 hi i0 hd e1 e2
    obtain ⟨n, rfl⟩ : ∃ j, n = j + 1 := ⟨n - 1, by omega⟩
    rw [sensor_pour__sensor_Bleed_3.l0, sensor_pour__sensor_Bleed_3.l0, ifn (by omega), ifn (by omega)]
    exact ⟨h1, h2, f1, f2, rfl, rfl, e1, e2, fun j _ _ _ => ⟨rfl, rfl⟩, fun h hf => ⟨hf, fun m hm => (h m hm).1⟩⟩
  | succ d ih =>
    intro n i f1 f2 h1 h2 hi i0 hd e1 e2
    obtain ⟨n, rfl⟩ : ∃ j, n = j + 1 := ⟨n - 1, by omega⟩
    have hmem : rd ord i ∈ ord := rd_mem i0 (by omega)
    obtain ⟨m0, m1⟩ := hm _ hmem
    rw [sensor_pour__sensor_Bleed_3.l0, sensor_pour__sensor_Bleed_3.l0, ifp (by omega), ifp i0, ifp m0, ifp (by omega), bnd (bleed_3 k q1 S _ m0 (by omega)), ifp (by omega), ifp i0, ifp m0, ifp (by omega), bnd (bleed_3 k q2 S _ m0 (by omega)), wid (x := i + 1) (by omega) (by omega)]
    obtain ⟨a, b, fa, fb, r1, r2, la, lb, g1, g2⟩ := ih n (i + 1)
      (w64 (f1 + (w64 (exc3 S (rd q1 (rd ord i)) - (mn f1 (w64 (S.Full - (rd h1 (rd ord i)))))))))
      (w64 (f2 + (w64 (exc3 S (rd q2 (rd ord i)) - (mn f2 (w64 (S.Full - (rd h2 (rd ord i)))))))))
      (h1.set ((rd ord i)).toNat (w64 ((rd h1 (rd ord i)) + (mn f1 (w64 (S.Full - (rd h1 (rd ord i))))))))
      (h2.set ((rd ord i)).toNat (w64 ((rd h2 (rd ord i)) + (mn f2 (w64 (S.Full - (rd h2 (rd ord i)))))))) (by omega) (by omega) (by omega) (by rw [List.length_set]; exact e1) (by rw [List.length_set]; exact e2)
    refine ⟨a, b, fa, fb, r1, r2, la, lb, ?_, ?_⟩
    · intro j j0 j1 hj
      have hne : j ≠ rd ord i := fun e => hj (e ▸ hmem)
      obtain ⟨p1, p2⟩ := g1 j j0 j1 hj
      rw [rd_set_ne _ _ _ _ m0 j0 (by omega) hne] at p1 p2
      exact ⟨p1, p2⟩
    · intro hag hf
      obtain ⟨x1, x2⟩ := hag _ hmem
      refine g2 ?_ (by rw [x1, x2, hf])
      intro m hmm
      obtain ⟨y1, y2⟩ := hag m hmm
      refine ⟨?_, y2⟩
      by_cases c : m = rd ord i
      · rw [c, rd_set_eq _ _ _ m0 (by omega), rd_set_eq _ _ _ m0 (by omega), x1, hf]
      · obtain ⟨z0, z1⟩ := hm m hmm
        rw [rd_set_ne _ _ _ _ m0 z0 (by omega) c, rd_set_ne _ _ _ _ m0 z0 (by omega) c]; exact y1
theorem pour_3 (k : Nat) (S : S_Sensor) (ord q1 q2 h1 h2 : List Int) (N : Int) (hN : N ≤ 1024) (ho : (ord.length : Int) ≤ 1024) (hm : ∀ m, m ∈ ord → 0 ≤ m ∧ m < N) (l1 : (q1.length : Int) = N) (l2 : (q2.length : Int) = N) (e1 : (h1.length : Int) = N) (e2 : (h2.length : Int) = N) (hk : 1100 ≤ k) :
    ∃ a b fa fb, sensor_pour__sensor_Bleed_3 k q1 S S h1 ord = some (fa, a) ∧ sensor_pour__sensor_Bleed_3 k q2 S S h2 ord = some (fb, b) ∧ (a.length : Int) = N ∧ (b.length : Int) = N ∧
      (∀ j, 0 ≤ j → j < N → j ∉ ord → rd a j = rd h1 j ∧ rd b j = rd h2 j) ∧ ((∀ m, m ∈ ord → rd h1 m = rd h2 m ∧ rd q1 m = rd q2 m) → ∀ m, m ∈ ord → rd a m = rd b m) := by
  obtain ⟨a, b, fa, fb, r1, r2, la, lb, g1, g2⟩ := pour_l0_3 k S ord q1 q2 N hN ho hm l1 l2 ord.length k 0 0 0 h1 h2 (by omega) (by omega) (by omega) e1 e2
  unfold sensor_pour__sensor_Bleed_3
  rw [bnd r1, bnd r2]
  exact ⟨a, b, fa, fb, rfl, rfl, la, lb, g1, fun h => (g2 h rfl).2⟩
theorem mem_set {l : List Int} {i : Nat} {x m : Int} (h : m ∈ l.set i x) : m ∈ l ∨ m = x := List.mem_or_eq_of_mem_set h
theorem rev_l0 (k : Nat) (l0_ : List Int) : ∀ (d n : Nat) (s : List Int) (i j : Int), j - i < d → 0 ≤ i → i ≤ 5000 → j < s.length → -2 ≤ j → (s.length : Int) ≤ 1024 → d ≤ n → 1 ≤ n → (∀ m, m ∈ s → m ∈ l0_) →
    ∃ r, slices_Reverse_int.l0 k n s i j = some r ∧ (∀ m, m ∈ r → m ∈ l0_) ∧ r.length = s.length := by
  intro d
  induction d with
  | zero =>
    intro n s i j hd i0 i1 j1 j2 hl hn hn1 hm
    obtain ⟨n, rfl⟩ : ∃ j, n = j + 1 := ⟨n - 1, by omega⟩
    rw [slices_Reverse_int.l0, ifn (by omega)]
    exact ⟨s, rfl, hm, rfl⟩
  | succ d ih =>
    intro n s i j hd i0 i1 j1 j2 hl hn hn1 hm
    obtain ⟨n, rfl⟩ : ∃ j, n = j + 1 := ⟨n - 1, by omega⟩
    by_cases c : i < j
    · rw [slices_Reverse_int.l0, ifp c, ifp (by omega), ifp j1, ifp i0, ifp (by omega), ifp (by rw [List.length_set]; exact j1), wid (x := i + 1) (by omega) (by omega), wid (x := j - 1) (by omega) (by omega)]
      have a1 : rd s j ∈ s := rd_mem (by omega) j1
      have a2 : rd s i ∈ s := rd_mem i0 (by omega)
      obtain ⟨r, e, g, gl⟩ := ih n ((s.set i.toNat (rd s j)).set j.toNat (rd s i)) (i + 1) (j - 1) (by omega) (by omega) (by omega) (by rw [List.length_set, List.length_set]; omega) (by omega) (by rw [List.length_set, List.length_set]; exact hl) (by omega) (by omega) (fun m h => by
        rcases mem_set h with h | rfl
        · rcases mem_set h with h | rfl
          · exact hm m h
          · exact hm _ a1
        · exact hm _ a2)
      exact ⟨r, e, g, by rw [gl, List.length_set, List.length_set]⟩
    · rw [slices_Reverse_int.l0, ifn c]
      exact ⟨s, rfl, hm, rfl⟩
theorem rev_ex (k : Nat) (l : List Int) (hl : (l.length : Int) ≤ 1024) (hk : 1100 ≤ k) : ∃ r, slices_Reverse_int k l = some r ∧ (∀ m, m ∈ r → m ∈ l) ∧ r.length = l.length := by
  unfold slices_Reverse_int
  rw [wid (by omega) (by omega)]
  obtain ⟨r, e, g, gl⟩ := rev_l0 k l l.length k l 0 ((l.length : Int) - 1) (by omega) (by omega) (by omega) (by omega) (by omega) hl (by omega) (by omega) (fun m h => h)
  rw [bnd e]
  exact ⟨r, rfl, g, gl⟩
theorem place (S : S_Sensor) (hS : Good S 32) (y x : Int) (y0 : 0 ≤ y) (y1 : y < S.H) (x0 : 0 ≤ x) (x1 : x < S.W) : 0 ≤ y * S.W + x ∧ y * S.W + x < S.W * S.H ∧ (y * S.W + x) % S.W = x := by
  have W0 := hS.W0
  have h1 : 0 ≤ y * S.W := Int.mul_nonneg y0 (by omega)
  have h2 : (y + 1) * S.W ≤ S.H * S.W := Int.mul_le_mul_of_nonneg_right (by omega) (by omega)
  rw [Int.add_mul, Int.mul_comm S.H] at h2
  refine ⟨by omega, by omega, ?_⟩
  rw [Int.add_comm, Int.add_mul_emod_self_right, Int.emod_eq_of_lt x0 x1]
theorem col_l2 (k : Nat) (S : S_Sensor) (hS : Good S 32) (x : Int) (x0 : 0 ≤ x) (x1 : x < S.W) : ∀ (d n : Nat) (c : List Int) (y : Int), y + d = S.H → 0 ≤ y → d < n → (c.length : Int) = y → (∀ m, m ∈ c → 0 ≤ m ∧ m < S.W * S.H ∧ m % S.W = x) →
    ∃ c', sensor_Bleed.l2 k S x n c y = some c' ∧ (c'.length : Int) = S.H ∧ (∀ m, m ∈ c' → 0 ≤ m ∧ m < S.W * S.H ∧ m % S.W = x) := by
  have hn := hS.n (by decide)
  have H1 := hS.H1
  intro d
  induction d with
  | zero =>
    intro n c y hi y0 hd lc hc
    obtain ⟨n, rfl⟩ : ∃ j, n = j + 1 := ⟨n - 1, by omega⟩
    rw [sensor_Bleed.l2, ifn (by omega)]
    exact ⟨c, rfl, by omega, hc⟩
  | succ d ih =>
    intro n c y hi y0 hd lc hc
    obtain ⟨n, rfl⟩ : ∃ j, n = j + 1 := ⟨n - 1, by omega⟩
    obtain ⟨p0, p1, p2⟩ := place S hS y x y0 (by omega) x0 x1
    have hy : 0 ≤ y * S.W := Int.mul_nonneg y0 (by have := hS.W0; omega)
    rw [sensor_Bleed.l2, ifp (by omega), ifp (by omega), wid (x := y * S.W) (by omega) (by omega), wid (x := y * S.W + x) (by omega) (by omega), wid (x := y + 1) (by omega) (by omega)]
    refine ih n _ (y + 1) (by omega) (by omega) (by omega) (push_len lc) ?_
    intro m hm
    rcases List.mem_append.mp hm with hm | hm
    · exact hc m hm
    · simp only [List.mem_singleton] at hm
      subst hm
      exact ⟨p0, p1, p2⟩
theorem bleed_l0 (k : Nat) (S : S_Sensor) (q : List Int) (N : Int) (hN : N ≤ 1024) (lq : (q.length : Int) = N) : ∀ (d n : Nat) (out : List Int) (i : Int), i + d = N → 0 ≤ i → d < n → (out.length : Int) = N → (∀ j, 0 ≤ j → j < i → rd out j = mn (rd q j) S.Full) →
    ∃ p, sensor_Bleed.l0 k q S n out i = some p ∧ (p.length : Int) = N ∧ (∀ j, 0 ≤ j → j < N → rd p j = mn (rd q j) S.Full) := by
  intro d
  induction d with
  | zero =>
    intro n out i hi i0 hd lo hv
    obtain ⟨n, rfl⟩ : ∃ j, n = j + 1 := ⟨n - 1, by omega⟩
    rw [sensor_Bleed.l0, ifn (by omega)]
    exact ⟨out, rfl, lo, fun j j0 j1 => hv j j0 (by omega)⟩
  | succ d ih =>
    intro n out i hi i0 hd lo hv
    obtain ⟨n, rfl⟩ : ∃ j, n = j + 1 := ⟨n - 1, by omega⟩
    rw [sensor_Bleed.l0, ifp (by omega), ifp i0, ifp (by omega), wid (x := i + 1) (by omega) (by omega)]
    refine ih n _ (i + 1) (by omega) (by omega) (by omega) (by rw [List.length_set]; exact lo) ?_
    intro j j0 j1
    by_cases c : j = i
    · subst c
      rw [rd_set_eq _ _ _ i0 (by omega)]
    · rw [rd_set_ne _ _ _ _ i0 j0 (by omega) c]
      exact hv j j0 (by omega)
theorem bleed_l1 (k : Nat) (S : S_Sensor) (hS : Good S 32) (q1 q2 : List Int) (l1 : (q1.length : Int) = S.W * S.H) (l2 : (q2.length : Int) = S.W * S.H) (z : Int) (hq : ∀ j, 0 ≤ j → j < S.W * S.H → j % S.W = z → rd q1 j = rd q2 j) (hk : 1100 ≤ k) :
    ∀ (d n : Nat) (o1 o2 : List Int) (s1 s2 x : Int), x + d = S.W → 0 ≤ x → d < n → (o1.length : Int) = S.W * S.H → (o2.length : Int) = S.W * S.H → (∀ j, 0 ≤ j → j < S.W * S.H → j % S.W = z → rd o1 j = rd o2 j) →
    ∃ a b sa sb, sensor_Bleed.l1 k S q1 n o1 s1 x = some (a, sa) ∧ sensor_Bleed.l1 k S q2 n o2 s2 x = some (b, sb) ∧ (a.length : Int) = S.W * S.H ∧ (b.length : Int) = S.W * S.H ∧ (∀ j, 0 ≤ j → j < S.W * S.H → j % S.W = z → rd a j = rd b j) := by
  have hn := hS.n (by decide)
  have W1 := hS.W1
  have H0 := hS.H0
  have H1 := hS.H1
  intro d
  induction d with
  | zero =>
    intro n o1 o2 s1 s2 x hi x0 hd e1 e2 ho
    obtain ⟨n, rfl⟩ : ∃ j, n = j + 1 := ⟨n - 1, by omega⟩
    rw [sensor_Bleed.l1, sensor_Bleed.l1, ifn (by omega), ifn (by omega)]
    exact ⟨o1, o2, s1, s2, rfl, rfl, e1, e2, ho⟩
  | succ d ih =>
    intro n o1 o2 s1 s2 x hi x0 hd e1 e2 ho
    obtain ⟨n, rfl⟩ : ∃ j, n = j + 1 := ⟨n - 1, by omega⟩
    obtain ⟨c, hc, lc, mc⟩ := col_l2 k S hS x x0 (by omega) S.H.toNat k [] 0 (by omega) (by omega) (by omega) rfl (fun m h => by cases h)
    obtain ⟨r, hr, mr, lr⟩ := rev_ex k c (by omega) hk
    rw [sensor_Bleed.l1, sensor_Bleed.l1, ifp (by omega), ifp (by omega), bnd hc, bnd hc]
    obtain ⟨a, b, fa, fb, r1, r2, la, lb, g1, g2⟩ := pour_2 k S c q1 q2 o1 o2 (S.W * S.H) (by omega) (by omega) (fun m h => ⟨(mc m h).1, (mc m h).2.1⟩) l1 l2 e1 e2 hk
    rw [bnd r1, bnd r2]; dsimp only
    rw [bnd hr, bnd hr]
    have hab : ∀ j, 0 ≤ j → j < S.W * S.H → j % S.W = z → rd a j = rd b j := by
      intro j j0 j1 jz
      by_cases hj : j ∈ c
      · refine g2 ?_ j hj
        intro m hm
        obtain ⟨m0, m1, m2⟩ := mc m hm
        have m3 : m % S.W = z := by rw [m2, ← (mc j hj).2.2, jz]
        exact ⟨ho m m0 m1 m3, hq m m0 m1 m3⟩
      · obtain ⟨p1, p2⟩ := g1 j j0 j1 hj
        rw [p1, p2]; exact ho j j0 j1 jz
    obtain ⟨a2, b2, fa2, fb2, t1, t2, la2, lb2, k1, k2⟩ := pour_3 k S r q1 q2 a b (S.W * S.H) (by omega) (by omega) (fun m h => ⟨(mc m (mr m h)).1, (mc m (mr m h)).2.1⟩) l1 l2 la lb hk
    rw [bnd t1, bnd t2]; dsimp only
    rw [wid (x := x + 1) (by omega) (by omega)]
    refine ih n a2 b2 _ _ (x + 1) (by omega) (by omega) (by omega) la2 lb2 ?_
    intro j j0 j1 jz
    by_cases hj : j ∈ r
    · refine k2 ?_ j hj
      intro m hm
      obtain ⟨m0, m1, m2⟩ := mc m (mr m hm)
      have m3 : m % S.W = z := by rw [m2, ← (mc j (mr j hj)).2.2, jz]
      exact ⟨hab m m0 m1 m3, hq m m0 m1 m3⟩
    · obtain ⟨p1, p2⟩ := k1 j j0 j1 hj
      rw [p1, p2]; exact hab j j0 j1 jz
theorem bleed_two (k : Nat) (S : S_Sensor) (hS : Good S 32) (q1 q2 : List Int) (l1 : (q1.length : Int) = S.W * S.H) (l2 : (q2.length : Int) = S.W * S.H) (b1 : AllIn q1 0 4194304) (b2 : AllIn q2 0 4194304) (z : Int) (hq : ∀ j, 0 ≤ j → j < S.W * S.H → j % S.W = z → rd q1 j = rd q2 j) (hk : 1100 ≤ k) :
    ∃ a b sa sb, sensor_Bleed k S q1 = some (a, sa, 0) ∧ sensor_Bleed k S q2 = some (b, sb, 0) ∧ (a.length : Int) = S.W * S.H ∧ (b.length : Int) = S.W * S.H ∧ (∀ j, 0 ≤ j → j < S.W * S.H → j % S.W = z → rd a j = rd b j) := by
  have hn := hS.n (by decide)
  have W0 := hS.W0
  have W1 := hS.W1
  obtain ⟨p1, e1, lp1, hp1⟩ := bleed_l0 k S q1 (S.W * S.H) (by omega) l1 (S.W * S.H).toNat k (List.replicate ((q1.length : Int)).toNat (0 : Int)) 0 (by omega) (by omega) (by omega) (by simp; omega) (fun j j0 j1 => by omega)
  obtain ⟨p2, e2, lp2, hp2⟩ := bleed_l0 k S q2 (S.W * S.H) (by omega) l2 (S.W * S.H).toNat k (List.replicate ((q2.length : Int)).toNat (0 : Int)) 0 (by omega) (by omega) (by omega) (by simp; omega) (fun j j0 j1 => by omega)
  obtain ⟨a, b, sa, sb, r1, r2, la, lb, hab⟩ := bleed_l1 k S hS q1 q2 l1 l2 z hq hk S.W.toNat k p1 p2 0 0 0 (by omega) (by omega) (by omega) lp1 lp2 (fun j j0 j1 jz => by rw [hp1 j j0 j1, hp2 j j0 j1, hq j j0 j1 jz])
  refine ⟨a, b, sa, sb, ?_, ?_, la, lb, hab⟩
  · unfold sensor_Bleed
    rw [bnd (sized_ok k S _ hS l1 hk), ifn (by decide), bnd (outside_Quanta k q1 4294967296 (b1.mono (by decide) (by decide)) (by omega) (by omega)), ifn (by decide), ifp (by omega), ifp (by omega), bnd e1, bnd r1]
  · unfold sensor_Bleed
    rw [bnd (sized_ok k S _ hS l2 hk), ifn (by decide), bnd (outside_Quanta k q2 4294967296 (b2.mono (by decide) (by decide)) (by omega) (by omega)), ifn (by decide), ifp (by omega), ifp (by omega), bnd e2, bnd r2]
theorem AllIn.set {l : List Int} {lo hi x : Int} {i : Nat} (h : AllIn l lo hi) (h0 : lo ≤ x) (h1 : x ≤ hi) : AllIn (l.set i x) lo hi := by
  intro m hm
  rcases mem_set hm with hm | rfl
  · exact h m hm
  · exact ⟨h0, h1⟩
theorem ap_l0 (k : Nat) (S : S_Sensor) (hS : Good S 32) (q : List Int) (lq : (q.length : Int) = S.W * S.H) (bq : AllIn q 0 4194304) (z : Int) : ∀ (d n : Nat) (r : List Int) (i : Int), i + d = S.W * S.H → 0 ≤ i → d < n → (r.length : Int) = S.W * S.H → AllIn r 0 4194304 → (∀ j, 0 ≤ j → j < i → j % S.W = z → rd q j = rd r j) →
    ∃ r', spykeep3_SensorBleedsApart.l0 k q S z n r i = some r' ∧ (r'.length : Int) = S.W * S.H ∧ AllIn r' 0 4194304 ∧ (∀ j, 0 ≤ j → j < S.W * S.H → j % S.W = z → rd q j = rd r' j) := by
  have hn := hS.n (by decide)
  have W0 := hS.W0
  intro d
  induction d with
  | zero =>
    intro n r i hi i0 hd lr br hv
    obtain ⟨n, rfl⟩ : ∃ j, n = j + 1 := ⟨n - 1, by omega⟩
    rw [spykeep3_SensorBleedsApart.l0, ifn (by omega)]
    exact ⟨r, rfl, lr, br, fun j j0 j1 => hv j j0 (by omega)⟩
  | succ d ih =>
    intro n r i hi i0 hd lr br hv
    obtain ⟨n, rfl⟩ : ∃ j, n = j + 1 := ⟨n - 1, by omega⟩
    rw [spykeep3_SensorBleedsApart.l0, ifp (by omega), ifp (by omega), tmod_nn i0, wid (x := i + 1) (by omega) (by omega)]
    by_cases c : i % S.W = z
    · have hx := bq.rd i0 (show i < (q.length : Int) by omega)
      rw [ifp c, ifp i0, ifp (by omega)]
      refine ih n _ (i + 1) (by omega) (by omega) (by omega) (by rw [List.length_set]; exact lr) (br.set hx.1 hx.2) ?_
      intro j j0 j1 jz
      by_cases e : j = i
      · subst e
        rw [rd_set_eq _ _ _ i0 (by omega)]
      · rw [rd_set_ne _ _ _ _ i0 j0 (by omega) e]
        exact hv j j0 (by omega) jz
    · rw [ifn c]
      refine ih n r (i + 1) (by omega) (by omega) (by omega) lr br ?_
      intro j j0 j1 jz
      have e : j ≠ i := fun e => c (e ▸ jz)
      exact hv j j0 (by omega) jz
theorem ap_l1 (k : Nat) (L : List Int) (S : S_Sensor) (hS : Good S 32) (q a b : List Int) (lq : (q.length : Int) = S.W * S.H) (la : (a.length : Int) = S.W * S.H) (lb : (b.length : Int) = S.W * S.H) (z : Int) (hab : ∀ j, 0 ≤ j → j < S.W * S.H → j % S.W = z → rd a j = rd b j) :
    ∀ (d n : Nat) (i : Int), i + d = S.W * S.H → 0 ≤ i → d < n → spykeep3_SensorBleedsApart.l1 k q S z a b L n i = some (Sum.inr ()) := by
  have hn := hS.n (by decide)
  have W0 := hS.W0
  intro d
  induction d with
  | zero =>
    intro n i hi i0 hd
    obtain ⟨n, rfl⟩ : ∃ j, n = j + 1 := ⟨n - 1, by omega⟩
    rw [spykeep3_SensorBleedsApart.l1, ifn (by omega)]
  | succ d ih =>
    intro n i hi i0 hd
    obtain ⟨n, rfl⟩ : ∃ j, n = j + 1 := ⟨n - 1, by omega⟩
    rw [spykeep3_SensorBleedsApart.l1, ifp (by omega), ifp (by omega), tmod_nn i0, wid (x := i + 1) (by omega) (by omega)]
    by_cases c : i % S.W = z
    · rw [ifp c, ifp i0, ifp (by omega), ifp (by omega), ifn (fun h => h (hab i i0 (by omega) c))]
      exact ih n (i + 1) (by omega) (by omega) (by omega)
    · rw [ifn c]
      exact ih n (i + 1) (by omega) (by omega) (by omega)
theorem law (k : Nat) (L : List Int) (x : Int) (hk : 1100 ≤ k) : spykeep3_SensorBleedsApart k L x = some true := by
  unfold spykeep3_SensorBleedsApart
  obtain ⟨S, a0, h1, hS', a1, a2⟩ := sensor_ex k L 0 6 (by decide) (by decide) (by decide) (by decide) hk
  have hS : Good S 32 := hS'.wide (by decide)
  have hn := hS.n (by decide)
  have W0 := hS.W0
  have W1 := hS.W1
  rw [bnd h1]; dsimp only
  obtain ⟨q, a3, h2, lq, bq, _, _⟩ := filled_ex k L a0 S hS (by omega) (by omega) hk
  rw [bnd h2]; dsimp only
  obtain ⟨r, a4, h3, lr, br, _, _⟩ := filled_ex k L a3 S hS (by omega) (by omega) hk
  rw [bnd h3]; dsimp only
  obtain ⟨z, h4, z0, z1⟩ := below_ex k x S.W (by omega) (by omega)
  rw [bnd h4]
  obtain ⟨r', h5, lr', br', hr⟩ := ap_l0 k S hS q lq bq z (S.W * S.H).toNat k r 0 (by omega) (by omega) (by omega) lr br (fun j j0 j1 => by omega)
  rw [bnd h5]
  obtain ⟨a, b, sa, sb, h6, h7, la, lb, hab⟩ := bleed_two k S hS q r' lq lr' bq br' z hr hk
  rw [bnd h6]; dsimp only
  rw [bnd h7]; dsimp only
  rw [bnd (column_eq k (by omega)), ifn (by decide), ifn (by decide), ifn (by decide), ifn (by omega), ifn (by omega), bnd (ap_l1 k L S hS q a b lq la lb z hab (S.W * S.H).toNat k 0 (by omega) (by omega) (by omega))]
  rfl
theorem law_ex (L : List Int) (x : Int) (_ : (Lit.int .i64 x).wf = true) : ∃ k, spykeep3_SensorBleedsApart k L x = some true := ⟨1100, law 1100 L x (by decide)⟩

end Go.Sp.X6
