/- A text of this claim. -/
import Derived.Test.YtblgjdbiccjfdaaFS4
import Derived.KernelRfl
namespace Go.Sp.S4
open Go Go.Sp
set_option linter.unusedVariables false
theorem bnd {α β : Type} {x : Option α} {g : α → Option β} {v : α} (h : x = some v) : x.bind g = g v := by rw [h]; rfl
theorem ifp {α : Type} {c : Prop} [Decidable c] {x y : α} (h : c) : (if c then x else y) = x := if_pos h
theorem ifn {α : Type} {c : Prop} [Decidable c] {x y : α} (h : ¬ c) : (if c then x else y) = y := if_neg h
theorem rd_mem {α : Type} [Inhabited α] {l : List α} {i : Int} (h0 : 0 ≤ i) (h1 : i < (l.length : Int)) : rd l i ∈ l := by
  obtain ⟨h, e⟩ := rd_lt h0 h1
  rw [e]; exact List.getElem_mem h
theorem wid {x : Int} (h : -9223372036854775808 ≤ x) (h' : x ≤ 9223372036854775807) : w64 x = x := w64_of h h'
theorem mul_le {a b A B : Int} (h1 : 0 ≤ a) (h2 : a ≤ A) (h3 : 0 ≤ b) (h4 : b ≤ B) : 0 ≤ a * b ∧ a * b ≤ A * B :=
  ⟨Int.mul_nonneg h1 h3, Int.mul_le_mul h2 h4 h3 (by omega)⟩
theorem tdiv_nn {a b : Int} (h : 0 ≤ a) : Int.tdiv a b = a / b := Int.tdiv_eq_ediv_of_nonneg h
theorem tmod_nn {a b : Int} (h : 0 ≤ a) : Int.tmod a b = a % b := Int.tmod_eq_emod_of_nonneg h
def AllIn (l : List Int) (lo hi : Int) : Prop := ∀ x, x ∈ l → lo ≤ x ∧ x ≤ hi
theorem AllIn.nil {lo hi : Int} : AllIn [] lo hi := fun x h => by cases h
theorem AllIn.push {l : List Int} {lo hi x : Int} (h : AllIn l lo hi) (h0 : lo ≤ x) (h1 : x ≤ hi) : AllIn (l ++ [x]) lo hi := by
  intro y hy
  rcases List.mem_append.mp hy with hy | hy
  · exact h y hy
  · simp only [List.mem_singleton] at hy; subst hy; exact ⟨h0, h1⟩
theorem AllIn.rd {l : List Int} {lo hi i : Int} (h : AllIn l lo hi) (h0 : 0 ≤ i) (h1 : i < (l.length : Int)) : lo ≤ rd l i ∧ rd l i ≤ hi := h _ (rd_mem h0 h1)
theorem AllIn.mono {l : List Int} {lo hi lo' hi' : Int} (h : AllIn l lo hi) (h0 : lo' ≤ lo) (h1 : hi ≤ hi') : AllIn l lo' hi' := fun x hx => by have := h x hx; omega
theorem below_ex (k : Nat) (x n : Int) (h1 : 1 ≤ n) (h2 : n ≤ 4611686018427387904) : ∃ v, spymake_Below k x n = some v ∧ 0 ≤ v ∧ v < n := by
  have e1 := Int.tmod_lt_of_pos x (show 0 < n by omega)
  have e2 := Int.lt_tmod_of_pos x (show 0 < n by omega)
  unfold spymake_Below
  rw [ifn (by omega), ifp (by omega)]
  by_cases c : Int.tmod x n < 0
  · rw [ifp c]
    refine ⟨_, rfl, ?_, ?_⟩ <;> rw [wid (by omega) (by omega)] <;> omega
  · rw [ifn c]
    exact ⟨_, rfl, by omega, by omega⟩
theorem next_ex (k : Nat) (L : List Int) (a n : Int) (h1 : 1 ≤ n) (h2 : n ≤ 4611686018427387904) (a0 : 0 ≤ a) (a1 : a ≤ 4611686018427387904) :
    ∃ v, spymake_Stream_Next k ⟨L, a⟩ n = some (v, a + 1) ∧ 0 ≤ v ∧ v < n := by
  unfold spymake_Stream_Next
  dsimp only
  rw [wid (x := a + 1) (by omega) (by omega)]
  by_cases c : (L.length : Int) = 0
  · rw [ifp c]
    obtain ⟨v, hv, v0, v1⟩ := below_ex k (w64 ((a + 1) * 7919)) n h1 h2
    rw [bnd hv]
    exact ⟨v, rfl, v0, v1⟩
  · rw [ifn c, ifp c, show a + 1 - 1 = a by omega, wid (x := a) (by omega) (by omega)]
    have e1 := Int.tmod_lt_of_pos a (show 0 < (L.length : Int) by omega)
    have e2 : 0 ≤ Int.tmod a (L.length : Int) := Int.tmod_nonneg _ a0
    rw [ifp e2, ifp e1]
    obtain ⟨u, hu, _⟩ := below_ex k (rd L (Int.tmod a (L.length : Int))) 1073741824 (by decide) (by decide)
    rw [bnd hu]
    obtain ⟨v, hv, v0, v1⟩ := below_ex k (w64 (u + (w64 ((w64 (Int.tdiv a (L.length : Int))) * (w64 (7919 + (Int.tmod a (L.length : Int)))))))) n h1 h2
    rw [bnd hv]
    exact ⟨v, rfl, v0, v1⟩
theorem range_ex (k : Nat) (L : List Int) (a lo hi : Int) (h1 : lo ≤ hi) (h2 : hi - lo ≤ 1073741824) (h3 : -4611686018427387904 ≤ lo) (h4 : hi ≤ 4611686018427387904) (a0 : 0 ≤ a) (a1 : a ≤ 4611686018427387904) :
    ∃ v, spymake_Stream_Range k ⟨L, a⟩ lo hi = some (v, a + 1) ∧ lo ≤ v ∧ v ≤ hi := by
  unfold spymake_Stream_Range
  rw [ifn (by omega), wid (x := hi - lo) (by omega) (by omega), wid (x := hi - lo + 1) (by omega) (by omega)]
  obtain ⟨v, hv, v0, v1⟩ := next_ex k L a (hi - lo + 1) (by omega) (by omega) a0 a1
  rw [bnd hv]
  dsimp only
  rw [wid (by omega) (by omega)]
  exact ⟨_, rfl, by omega, by omega⟩
structure AxOk (a : S_Axis) : Prop where
  m0 : -17179869184 ≤ a.Min
  mm : a.Min ≤ a.Max
  m1 : a.Max ≤ 17179869184
  s0 : 16777216 ≤ a.Speed
  s1 : a.Speed ≤ 1073741824
  a0 : 1 ≤ a.Accel
  a1 : a.Accel ≤ a.Speed
  r : a.Speed ≤ a.Accel * 64
theorem ckaxis (k : Nat) {a : S_Axis} (h : AxOk a) : slew_CheckAxis k a = some 0 := by
  obtain ⟨h1, h2, h3, h4, h5, h6, h7, h8⟩ := h
  unfold slew_CheckAxis
  rw [ifn (by omega), bnd rfl, ifn (by simp; omega), ifn (by omega), ifn (by omega), ifn (by omega), ifn (by omega), ifn (by omega), bnd rfl, wid (by omega) (by omega), ifn (by simp; omega)]
theorem in_eq (k : Nat) (a : S_Axis) (p : Int) : slew_In k a p = some (decide (a.Min ≤ p ∧ p ≤ a.Max)) := by
  unfold slew_In
  by_cases h : a.Min ≤ p
  · rw [ifp h]; simp [h]
  · rw [ifn h]; simp [h]
theorem in_ok (k : Nat) {a : S_Axis} {p : Int} (h : a.Min ≤ p ∧ p ≤ a.Max) : slew_In k a p = some true := by rw [in_eq, decide_eq_true h]
def sd (A : Int) : Nat → Int → Int
  | 0, _ => 0
  | n + 1, v => if v - A > 0 then (v - A) + sd A n (v - A) else 0
theorem sd_succ (A : Int) (n : Nat) (v : Int) : sd A (n + 1) v = if v - A > 0 then (v - A) + sd A n (v - A) else 0 := rfl
theorem sd_nn {A : Int} : ∀ {n : Nat} {v : Int}, 0 ≤ sd A n v
  | 0, _ => Int.le_refl _
  | n + 1, v => by
    have := sd_nn (A := A) (n := n) (v := v - A)
    unfold sd; split <;> omega
theorem sd_low {A : Int} {n : Nat} {v : Int} (h : v ≤ A) : sd A n v = 0 := by
  cases n with
  | zero => rfl
  | succ n => unfold sd; rw [if_neg (by omega)]
theorem sd_fuel {A : Int} (hA : 1 ≤ A) : ∀ {n m : Nat} {v : Int}, v ≤ A * (n + 1) → v ≤ A * (m + 1) → sd A n v = sd A m v
  | 0, m, v, h, _ => by rw [sd_low (n := 0) (by simpa using h), sd_low (by simpa using h)]
  | n + 1, 0, v, _, h => by rw [sd_low (n := 0) (by simpa using h), sd_low (by simpa using h)]
  | n + 1, m + 1, v, h, g => by
    unfold sd
    have e1 : A * (((n + 1 : Nat) : Int) + 1) = A * ((n : Int) + 1) + A := by rw [Int.natCast_add, Int.mul_add, Int.mul_one]; simp
    have e2 : A * (((m + 1 : Nat) : Int) + 1) = A * ((m : Int) + 1) + A := by rw [Int.natCast_add, Int.mul_add, Int.mul_one]; simp
    rw [e1] at h; rw [e2] at g
    rw [sd_fuel hA (n := n) (m := m) (v := v - A) (by omega) (by omega)]
theorem sd_mono {A : Int} : ∀ {n : Nat} {u v : Int}, u ≤ v → sd A n u ≤ sd A n v
  | 0, _, _, _ => Int.le_refl _
  | n + 1, u, v, h => by
    have h1 := sd_mono (A := A) (n := n) (u := u - A) (v := v - A) (by omega)
    have h2 := sd_nn (A := A) (n := n) (v := v - A)
    unfold sd
    split
    · rw [if_pos (by omega)]; omega
    · split <;> omega
theorem sd_le {A : Int} (hA : 1 ≤ A) : ∀ {n : Nat} {v : Int}, 0 ≤ v → sd A n v ≤ n * v
  | 0, v, _ => by simp [sd]
  | n + 1, v, h => by
    unfold sd
    have e1 : (((n + 1 : Nat) : Int)) * v = n * v + v := by rw [Int.natCast_add, Int.add_mul]; simp
    have h3 : 0 ≤ (n : Int) * v := Int.mul_nonneg (by omega) h
    rw [e1]
    split
    · have h1 := sd_le hA (n := n) (v := v - A) (by omega)
      have h2 : (n : Int) * (v - A) ≤ n * v := Int.mul_le_mul_of_nonneg_left (by omega) (by omega)
      omega
    · omega
def S (A v : Int) : Int := sd A 64 v
theorem S_step {A v : Int} (hA : 1 ≤ A) (h : v ≤ A * 64) (g : A < v) : S A v = (v - A) + S A (v - A) := by
  unfold S
  show sd A (63 + 1) v = _
  unfold sd
  rw [if_pos (by omega), sd_fuel hA (n := 63) (m := 64) (v := v - A) (by omega) (by omega)]
  rfl
theorem S_low {A v : Int} (h : v ≤ A) : S A v = 0 := sd_low h
theorem S_nn {A v : Int} : 0 ≤ S A v := sd_nn
theorem S_mono {A u v : Int} (h : u ≤ v) : S A u ≤ S A v := sd_mono h
theorem S_le {A v : Int} (hA : 1 ≤ A) (h : 0 ≤ v) : S A v ≤ 64 * v := by have := sd_le hA (n := 64) h; exact this
theorem stop_l0 (k : Nat) {a : S_Axis} (h : AxOk a) : ∀ (e n : Nat) (v s : Int), v ≤ a.Accel * e → e < n → e ≤ 64 → -4294967296 ≤ v → v ≤ 1073741824 → 0 ≤ s → s + 1073741824 * e ≤ 68719476736 → axis_Stop.l0 k a n v s = some (s + (if v > 0 then v + sd a.Accel e v else 0)) := by
  have hA := h.a0
  intro e
  induction e with
  | zero =>
    intro n v s hv hn he v0 v1 s0 s1
    obtain ⟨n, rfl⟩ : ∃ q, n = q + 1 := ⟨n - 1, by omega⟩
    rw [axis_Stop.l0, ifn (by simp at hv; omega), if_neg (by simp at hv; omega), Int.add_zero]
  | succ e ih =>
    intro n v s hv hn he v0 v1 s0 s1
    obtain ⟨n, rfl⟩ : ∃ q, n = q + 1 := ⟨n - 1, by omega⟩
    have e1 : a.Accel * (((e + 1 : Nat) : Int)) = a.Accel * (e : Int) + a.Accel := by rw [Int.natCast_add, Int.mul_add]; simp
    rw [e1] at hv
    have h3 := h.a1; have h4 := h.s1
    rw [axis_Stop.l0]
    by_cases c : v > 0
    · rw [ifp c, if_pos c, wid (x := v - a.Accel) (by omega) (by omega), wid (x := s + v) (by omega) (by omega), ih n (v - a.Accel) (s + v) (by omega) (by omega) (by omega) (by omega) (by omega) (by omega) (by omega)]
      rw [sd_succ]
      split
      · congr 1; omega
      · congr 1; omega
    · rw [ifn c, if_neg c, Int.add_zero]
theorem stop_eq (k : Nat) {a : S_Axis} (h : AxOk a) {v : Int} (h0 : -a.Speed ≤ v) (h1 : v ≤ a.Speed) (hk : 100 ≤ k) : axis_Stop k a v = some (S a.Accel (max v (-v))) := by
  have hA := h.a0; have h3 := h.a1; have h4 := h.s1; have h5 := h.r; have h6 := h.s0
  unfold axis_Stop
  rw [bnd (ckaxis k h), ifn (by decide), wid (x := 0 - a.Speed) (by omega) (by omega), ifn (by omega), bnd rfl, ifn (by simp; omega), wid (x := 0 - v) (by omega) (by omega), mx_def, Int.zero_sub, wid (x := max v (-v) - a.Accel) (by omega) (by omega), bnd (stop_l0 k h 63 k (max v (-v) - a.Accel) 0 (by omega) (by omega) (by decide) (by omega) (by omega) (by decide) (by omega))]
  congr 1
  rw [Int.zero_add]
  by_cases c : a.Accel < max v (-v)
  · rw [if_pos (by omega), S_step hA (by omega) c, show S a.Accel (max v (-v) - a.Accel) = sd a.Accel 63 (max v (-v) - a.Accel) from sd_fuel hA (by omega) (by omega)]
  · rw [if_neg (by omega), S_low (by omega)]
structure AxS (a : S_Axis) (s : S_State) : Prop where
  p0 : a.Min ≤ s.At
  p1 : s.At ≤ a.Max
  g0 : a.Min ≤ s.Goal
  g1 : s.Goal ≤ a.Max
  v0 : -a.Speed ≤ s.Speed
  v1 : s.Speed ≤ a.Speed
  e0 : s.Speed < 0 → a.Min ≤ s.At - S a.Accel (-s.Speed)
  e1 : 0 ≤ s.Speed → s.At + S a.Accel s.Speed ≤ a.Max
theorem axcheck (k : Nat) {a : S_Axis} (h : AxOk a) {s : S_State} (g : AxS a s) (hk : 100 ≤ k) : axis_Check k a s = some 0 := by
  have hA := h.a0; have h3 := h.a1; have h4 := h.s1; have h6 := h.m0; have h7 := h.m1
  have g1 := g.p0; have g2 := g.p1; have g3 := g.v0; have g4 := g.v1
  have t := stop_eq k h g.v0 g.v1 hk
  have nn := S_nn (A := a.Accel) (v := max s.Speed (-s.Speed))
  have le := S_le (A := a.Accel) hA (v := max s.Speed (-s.Speed)) (by omega)
  unfold axis_Check
  rw [bnd (ckaxis k h), ifn (by decide), bnd (in_ok k ⟨g.p0, g.p1⟩), ifn (by decide), bnd (in_ok k ⟨g.g0, g.g1⟩), ifn (by decide), wid (x := 0 - a.Speed) (by omega) (by omega), ifn (by omega), bnd rfl, ifn (by simp; omega), bnd t]
  by_cases c : s.Speed < 0
  · have e := g.e0 c
    have ee : max s.Speed (-s.Speed) = -s.Speed := by omega
    rw [ifp c, bnd t, bnd rfl, ee]
    rw [ee] at nn le
    rw [wid (by omega) (by omega), bnd (in_ok k ⟨by omega, by omega⟩), ifn (by decide)]
  · have e := g.e1 (by omega)
    have ee : max s.Speed (-s.Speed) = s.Speed := by omega
    rw [ifn c, bnd rfl, ee]
    rw [ee] at nn le
    rw [wid (by omega) (by omega), bnd (in_ok k ⟨by omega, by omega⟩), ifn (by decide)]
def tri : Nat → Int
  | 0 => 0
  | n + 1 => tri n + (n + 1)
theorem tri_succ (n : Nat) : tri (n + 1) = tri n + ((n : Int) + 1) := rfl
theorem two_tri : ∀ n : Nat, 2 * tri n = (n : Int) * (n + 1)
  | 0 => rfl
  | n + 1 => by
    have h := two_tri n
    have e : (((n + 1 : Nat) : Int)) * (((n + 1 : Nat) : Int) + 1) = (n : Int) * (n + 1) + 2 * (n + 1) := by
      have : ((n + 1 : Nat) : Int) = (n : Int) + 1 := by simp
      rw [this]; grind
    rw [e, ← h, tri_succ]; omega
theorem tri_nn : ∀ n : Nat, 0 ≤ tri n
  | 0 => Int.le_refl _
  | n + 1 => by have := tri_nn n; rw [tri_succ]; omega
theorem tri_le : ∀ n : Nat, n ≤ 64 → tri n ≤ 2080 := by decide
theorem S_sum {A : Int} (hA : 1 ≤ A) : ∀ (q : Nat) (v : Int), q ≤ 63 → A * q ≤ v → v ≤ A * (q + 1) → v + S A v = (q + 1) * v - A * tri q
  | 0, v, _, _, h => by
    rw [S_low (by simpa using h)]; simp [tri]
  | q + 1, v, hq, h1, h2 => by
    have e1 : A * (((q + 1 : Nat) : Int)) = A * q + A := by rw [Int.natCast_add, Int.mul_add]; simp
    have e2 : A * (((q + 1 : Nat) : Int) + 1) = A * q + A + A := by rw [Int.mul_add, e1, Int.mul_one]
    rw [e1] at h1; rw [e2] at h2
    have g : A * (q : Int) ≤ A * 62 := Int.mul_le_mul_of_nonneg_left (by omega) (by omega)
    have g0 : 0 ≤ A * (q : Int) := Int.mul_nonneg (by omega) (by omega)
    have e3 : (((q + 1 : Nat) : Int) + 1) * v = (q + 1) * (v - A) + A * q + A + v := by
      have : ((q + 1 : Nat) : Int) = (q : Int) + 1 := by simp
      rw [this]; grind
    have e4 : A * tri (q + 1) = A * tri q + A * q + A := by rw [tri_succ]; grind
    have ih := S_sum hA q (v - A) (by omega) (by omega) (by rw [Int.mul_add]; omega)
    rw [e3, e4]
    by_cases c : A < v
    · rw [S_step hA (by omega) c]; omega
    · have v1 : v = A := by omega
      have z : A * (q : Int) = 0 := by omega
      rw [S_low (by omega)]
      rw [S_low (by omega)] at ih
      omega
theorem tdiv2 (t : Int) : Int.tdiv (2 * t) 2 = t := by rw [Int.mul_comm]; exact Int.mul_tdiv_cancel _ (by decide)
theorem fast_l0 (k : Nat) {a : S_Axis} (h : AxOk a) {d : Int} (d0 : 0 ≤ d) (d1 : d ≤ 68719476736) : ∀ (e n q : Nat) (kk : Int), q + e = 64 → kk = (q : Int) + 1 → e < n → (q = 0 ∨ a.Accel * tri q < d) →
    (∃ f, slew_fastest.l0 k d a n kk = some (Sum.inl f) ∧ 0 ≤ f ∧ f ≤ a.Speed ∧ f + S a.Accel f ≤ d) ∨ (slew_fastest.l0 k d a n kk = some (Sum.inr ()) ∧ a.Accel * tri 64 < d) := by
  have hA := h.a0; have h3 := h.a1; have h4 := h.s1; have h5 := h.r; have h6 := h.s0
  intro e
  induction e with
  | zero =>
    intro n q kk hq hk hn hd
    obtain ⟨n, rfl⟩ : ∃ q, n = q + 1 := ⟨n - 1, by omega⟩
    rw [slew_fastest.l0, ifn (by omega)]
    have : q = 64 := by omega
    subst this
    exact .inr ⟨rfl, by omega⟩
  | succ e ih =>
    intro n q kk hq hk hn hd
    obtain ⟨n, rfl⟩ : ∃ q, n = q + 1 := ⟨n - 1, by omega⟩
    have t1 := tri_le q (by omega)
    have t2 := tri_le (q + 1) (by omega)
    have n1 := tri_nn q
    have n2 := tri_nn (q + 1)
    have b1 : a.Accel * tri q ≤ 1073741824 * 2080 := Int.mul_le_mul (by omega) t1 n1 (by decide)
    have b2 : a.Accel * tri (q + 1) ≤ 1073741824 * 2080 := Int.mul_le_mul (by omega) t2 n2 (by decide)
    have c1 : 0 ≤ a.Accel * tri q := Int.mul_nonneg (by omega) n1
    have c2 : 0 ≤ a.Accel * tri (q + 1) := Int.mul_nonneg (by omega) n2
    have w1 := two_tri q
    have w2 := two_tri (q + 1)
    have x1 : kk * (kk + 1) = 2 * tri (q + 1) := by rw [w2, hk]; simp
    have x2 : kk * (kk - 1) = 2 * tri q := by rw [w1, hk, Int.mul_comm]; congr 1; omega
    rw [slew_fastest.l0, ifp (by omega), wid (x := kk + 1) (by omega) (by omega), wid (x := kk - 1) (by omega) (by omega), x1, x2, wid (x := 2 * tri (q + 1)) (by omega) (by omega), wid (x := 2 * tri q) (by omega) (by omega), tdiv2, tdiv2, wid (x := tri (q + 1)) (by omega) (by omega), wid (x := tri q) (by omega) (by omega), wid (x := a.Accel * tri (q + 1)) (by omega) (by omega), wid (x := a.Accel * tri q) (by omega) (by omega), wid (x := d + a.Accel * tri q) (by omega) (by omega)]
    by_cases c : d ≤ a.Accel * tri (q + 1)
    · rw [ifp c, ifp (by omega), tdiv_nn (by omega), mn_def]
      left
      obtain ⟨N, hN⟩ : ∃ N, N = d + a.Accel * tri q := ⟨_, rfl⟩
      rw [← hN]
      have p1 : kk * (N / kk) ≤ N := Int.mul_ediv_self_le (by omega)
      have p0 : 0 ≤ N / kk := Int.ediv_nonneg (by omega) (by omega)
      have f1 : N / kk ≤ N := Int.ediv_le_self _ (by omega)
      have e4 : a.Accel * tri (q + 1) = a.Accel * tri q + a.Accel * q + a.Accel := by rw [tri_succ]; grind
      have e5 : a.Accel * (q : Int) * kk = 2 * (a.Accel * tri q) := by rw [hk, Int.mul_assoc, ← w1]; grind
      have e6 : a.Accel * ((q : Int) + 1) * kk = 2 * (a.Accel * tri q) + a.Accel * q + a.Accel := by
        have : a.Accel * ((q : Int) + 1) * kk = a.Accel * (q : Int) * kk + a.Accel * kk := by grind
        rw [this, e5, hk]; grind
      have lo : a.Accel * (q : Int) ≤ N / kk := Int.le_ediv_of_mul_le (by omega) (by
        rw [e5]
        rcases hd with rfl | hd
        · simp [tri] at *; omega
        · omega)
      have hi : N / kk ≤ a.Accel * ((q : Int) + 1) := Int.ediv_le_of_le_mul (by omega) (by rw [e6]; omega)
      have sm := S_sum hA q (N / kk) (by omega) lo hi
      rw [wid (x := N / kk) (by omega) (by omega)]
      refine ⟨_, rfl, by omega, by omega, ?_⟩
      have mo : S a.Accel (min a.Speed (N / kk)) ≤ S a.Accel (N / kk) := S_mono (by omega)
      rw [← hk] at sm
      omega
    · rw [ifn c]
      exact ih n (q + 1) (kk + 1) (by omega) (by rw [hk]; simp) (by omega) (.inr (by omega))
theorem fastest_ex (k : Nat) {a : S_Axis} (h : AxOk a) {d : Int} (d0 : 0 ≤ d) (d1 : d ≤ 68719476736) (hk : 100 ≤ k) : ∃ f, slew_Fastest k a d = some f ∧ 0 ≤ f ∧ f ≤ a.Speed ∧ f + S a.Accel f ≤ d := by
  have hA := h.a0; have h3 := h.a1; have h4 := h.s1; have h5 := h.r; have h6 := h.s0
  unfold slew_Fastest slew_fastest
  rw [bnd (ckaxis k h), ifn (by decide), ifn (by omega)]
  rcases fast_l0 k h d0 d1 64 k 0 1 (by decide) rfl (by omega) (.inl rfl) with ⟨f, e, f0, f1, f2⟩ | ⟨e, f0⟩
  · exact ⟨f, by rw [bnd (by rw [bnd e]; rfl)], f0, f1, f2⟩
  · refine ⟨a.Speed, by rw [bnd (by rw [bnd e]; rfl)], by omega, Int.le_refl _, ?_⟩
    have sm := S_sum hA 63 (a.Accel * 64) (by decide) (by omega) (by omega)
    have mo : S a.Accel a.Speed ≤ S a.Accel (a.Accel * 64) := S_mono (by omega)
    have t : a.Accel * tri 63 = a.Accel * 2016 := by rw [show tri 63 = 2016 from by decide]
    have t2 : a.Accel * tri 64 = a.Accel * 2080 := by rw [show tri 64 = 2080 from by decide]
    rw [t] at sm
    rw [t2] at f0
    have e : (((63 : Nat) : Int) + 1) * (a.Accel * 64) = a.Accel * 4096 := by omega
    rw [e] at sm
    omega
theorem next_ex' (k : Nat) {a : S_Axis} (h : AxOk a) {d v : Int} (d0 : 0 ≤ d) (d1 : d ≤ 68719476736) (v0 : -a.Speed ≤ v) (v1 : v ≤ a.Speed) (hk : 100 ≤ k) :
    ∃ x, axis_next k a d v = some x ∧ (v < 0 → x = min (v + a.Accel) 0) ∧ (0 ≤ v → 0 ≤ x ∧ x ≤ a.Speed ∧ (x = max (v - a.Accel) 0 ∨ x + S a.Accel x ≤ d)) := by
  have hA := h.a0; have h3 := h.a1; have h4 := h.s1; have h5 := h.r; have h6 := h.s0
  unfold axis_next
  by_cases c : v < 0
  · rw [ifp c, wid (x := v + a.Accel) (by omega) (by omega), mn_def]
    exact ⟨_, rfl, fun _ => rfl, fun z => by omega⟩
  · obtain ⟨f, e, f0, f1, f2⟩ := fastest_ex k h d0 d1 hk
    rw [ifn c, bnd e, wid (x := v + a.Accel) (by omega) (by omega), wid (x := v - a.Accel) (by omega) (by omega), mx_def, mx_def, mn_def]
    refine ⟨_, rfl, fun z => by omega, fun _ => ⟨by omega, by omega, ?_⟩⟩
    by_cases g : max (max (v - a.Accel) 0) (min (v + a.Accel) f) = max (v - a.Accel) 0
    · exact .inl g
    · right
      have mo : S a.Accel (max (max (v - a.Accel) 0) (min (v + a.Accel) f)) ≤ S a.Accel f := S_mono (by omega)
      omega
def Rst (s : S_State) : Prop := s.Speed = 0 ∧ s.At = s.Goal ∧ s.Halt = false
theorem S_dec {A w : Int} (hA : 1 ≤ A) (h : w ≤ A * 64) : max (w - A) 0 + S A (max (w - A) 0) ≤ S A w := by
  have := S_nn (A := A) (v := w)
  by_cases c : A < w
  · rw [S_step hA h c, show max (w - A) 0 = w - A by omega]; omega
  · rw [show max (w - A) 0 = 0 by omega, S_low (by omega)]; omega
instance (s : S_State) : Decidable (Rst s) := by unfold Rst; infer_instance
theorem resting_eq (k : Nat) (s : S_State) : axis_Resting k s = some (decide (Rst s)) := by
  by_cases r : Rst s
  · obtain ⟨r1, r2, r3⟩ := id r
    unfold axis_Resting
    rw [ifp r1, ifp r2, r3, decide_eq_true r]; rfl
  · rw [decide_eq_false r]
    unfold axis_Resting
    by_cases c : s.Speed = 0
    · rw [ifp c]
      by_cases d : s.At = s.Goal
      · have e : s.Halt = true := by
          cases e : s.Halt with
          | false => exact absurd ⟨c, d, e⟩ r
          | true => rfl
        rw [ifp d, e]; rfl
      · rw [ifn d]
    · rw [ifn c]
theorem axstep (k : Nat) {a : S_Axis} (h : AxOk a) {s : S_State} (g : AxS a s) (hk : 100 ≤ k) :
    ∃ s', axis_Step k a s = some s' ∧ AxS a s' ∧ (s.Halt = true → (max s'.Speed (-s'.Speed) ≤ max (max s.Speed (-s.Speed) - a.Accel) 0) ∧ (s'.Halt = true ∨ Rst s')) ∧ (s.Halt = false → s'.Halt = false ∧ s'.Goal = s.Goal) ∧ (Rst s → s' = s) := by
  have hA := h.a0; have h3 := h.a1; have h4 := h.s1; have h5 := h.r; have h6 := h.s0; have h7 := h.m0; have h8 := h.m1
  have g1 := g.p0; have g2 := g.p1; have g3 := g.v0; have g4 := g.v1; have g5 := g.g0; have g6 := g.g1; have g7 := g.e0; have g8 := g.e1
  unfold axis_Step
  rw [bnd (axcheck k h g hk), ifn (by decide)]
  have fin : ∀ x : Int, -a.Speed ≤ x → x ≤ a.Speed → (x < 0 → a.Min ≤ s.At + x - S a.Accel (-x)) → (0 ≤ x → s.At + x + S a.Accel x ≤ a.Max) → a.Min ≤ s.At + x ∧ s.At + x ≤ a.Max := by
    intro x x0 x1 x2 x3
    have n1 := S_nn (A := a.Accel) (v := x)
    have n2 := S_nn (A := a.Accel) (v := -x)
    by_cases c : x < 0
    · have := x2 c; omega
    · have := x3 (by omega); omega
  have keep : ∀ x : Int, -a.Speed ≤ x → x ≤ a.Speed → (x < 0 → a.Min ≤ s.At + x - S a.Accel (-x)) → (0 ≤ x → s.At + x + S a.Accel x ≤ a.Max) → ∀ hb, AxS a ⟨s.At + x, x, s.Goal, hb⟩ := fun x x0 x1 x2 x3 hb => ⟨(fin x x0 x1 x2 x3).1, (fin x x0 x1 x2 x3).2, g5, g6, x0, x1, x2, x3⟩
  have slow : ∀ x : Int, (0 < s.Speed → x = max (s.Speed - a.Accel) 0) → (s.Speed ≤ 0 → x = min (s.Speed + a.Accel) 0) → -a.Speed ≤ x ∧ x ≤ a.Speed ∧ (x < 0 → a.Min ≤ s.At + x - S a.Accel (-x)) ∧ (0 ≤ x → s.At + x + S a.Accel x ≤ a.Max) := by
    intro x x0 x1
    by_cases c : 0 < s.Speed
    · have e := x0 c
      have d := S_dec (A := a.Accel) (w := s.Speed) hA (by omega)
      have := g8 (by omega)
      rw [← e] at d
      exact ⟨by omega, by omega, fun z => by omega, fun _ => by omega⟩
    · have e := x1 (by omega)
      have d := S_dec (A := a.Accel) (w := -s.Speed) hA (by omega)
      rw [show max (-s.Speed - a.Accel) 0 = -x by omega] at d
      by_cases c2 : s.Speed < 0
      · have := g7 c2
        refine ⟨by omega, by omega, fun z => by omega, fun z => ?_⟩
        have xz : x = 0 := by omega
        rw [xz, S_low (by omega)]; omega
      · refine ⟨by omega, by omega, fun z => by omega, fun z => ?_⟩
        have xz : x = 0 := by omega
        rw [xz, S_low (by omega)]; omega
  cases hh : s.Halt with
  | true =>
    rw [ifp rfl, bnd rfl]
    have halt : ∀ x : Int, (0 < s.Speed → x = max (s.Speed - a.Accel) 0) → (s.Speed ≤ 0 → x = min (s.Speed + a.Accel) 0) → ∃ s', (if true = true then (if x = 0 then (some (⟨w64 (s.At + x), x, w64 (s.At + x), false⟩ : S_State)) else (some (⟨w64 (s.At + x), x, s.Goal, true⟩ : S_State))) else (some (⟨w64 (s.At + x), x, s.Goal, true⟩ : S_State))) = some s' ∧ AxS a s' ∧ (true = true → (max s'.Speed (-s'.Speed) ≤ max (max s.Speed (-s.Speed) - a.Accel) 0) ∧ (s'.Halt = true ∨ Rst s')) ∧ (true = false → s'.Halt = false ∧ s'.Goal = s.Goal) ∧ (Rst s → s' = s) := by
      intro x x0 x1
      obtain ⟨y0, y1, y2, y3⟩ := slow x x0 x1
      have f := fin x y0 y1 y2 y3
      have nr : Rst s → False := fun r => by rw [r.2.2] at hh; cases hh
      rw [ifp rfl, wid (x := s.At + x) (by omega) (by omega)]
      have sp : max x (-x) ≤ max (max s.Speed (-s.Speed) - a.Accel) 0 := by
        by_cases c : 0 < s.Speed
        · have := x0 c; omega
        · have := x1 (by omega); omega
      by_cases c : x = 0
      · rw [ifp c]
        refine ⟨_, rfl, ⟨f.1, f.2, f.1, f.2, y0, y1, y2, y3⟩, fun _ => ⟨sp, .inr ⟨c, rfl, rfl⟩⟩, fun z => (by cases z), fun r => (nr r).elim⟩
      · rw [ifn c]
        exact ⟨_, rfl, keep x y0 y1 y2 y3 true, fun _ => ⟨sp, .inl rfl⟩, fun z => (by cases z), fun r => (nr r).elim⟩
    by_cases c : s.Speed > 0
    · rw [ifp (by simpa using c), wid (x := s.Speed - a.Accel) (by omega) (by omega), mx_def, bnd rfl]
      exact halt _ (fun _ => rfl) (fun z => by omega)
    · rw [ifn (by simpa using c), ifp rfl, wid (x := s.Speed + a.Accel) (by omega) (by omega), mn_def, bnd rfl, bnd rfl]
      exact halt _ (fun z => by omega) (fun _ => rfl)
  | false =>
    rw [ifn (by decide), bnd rfl, ifn (by decide), ifn (by decide)]
    have go : ∀ x : Int, (-a.Speed ≤ x ∧ x ≤ a.Speed ∧ (x < 0 → a.Min ≤ s.At + x - S a.Accel (-x)) ∧ (0 ≤ x → s.At + x + S a.Accel x ≤ a.Max)) → (Rst s → x = 0) → ∃ s', (if false = true then (if x = 0 then (some (⟨w64 (s.At + x), x, w64 (s.At + x), false⟩ : S_State)) else (some (⟨w64 (s.At + x), x, s.Goal, false⟩ : S_State))) else (some (⟨w64 (s.At + x), x, s.Goal, false⟩ : S_State))) = some s' ∧ AxS a s' ∧ (false = true → (max s'.Speed (-s'.Speed) ≤ max (max s.Speed (-s.Speed) - a.Accel) 0) ∧ (s'.Halt = true ∨ Rst s')) ∧ (false = false → s'.Halt = false ∧ s'.Goal = s.Goal) ∧ (Rst s → s' = s) := by
      intro x ⟨y0, y1, y2, y3⟩ yr
      have f := fin x y0 y1 y2 y3
      rw [ifn (by decide), wid (x := s.At + x) (by omega) (by omega)]
      refine ⟨_, rfl, keep x y0 y1 y2 y3 false, fun z => (by cases z), fun _ => ⟨rfl, rfl⟩, fun r => ?_⟩
      obtain ⟨r1, r2, r3⟩ := r
      have xz := yr ⟨r1, r2, r3⟩
      rw [xz, Int.add_zero]
      cases s
      simp only at r1 r3 hh ⊢
      rw [r1, hh]
    by_cases c : s.Goal ≥ s.At
    · rw [ifp c, wid (x := s.Goal - s.At) (by omega) (by omega)]
      obtain ⟨x, e, x0, x1⟩ := next_ex' k h (d := s.Goal - s.At) (v := s.Speed) (by omega) (by omega) g3 g4 hk
      rw [bnd (v := x) (by rw [bnd e]; rfl)]
      refine go x ?_ (fun r => ?_)
      · by_cases c2 : s.Speed < 0
        · exact slow x (fun z => by omega) (fun _ => x0 c2)
        · obtain ⟨z0, z1, z2⟩ := x1 (by omega)
          have g9 := g8 (by omega)
          refine ⟨by omega, z1, fun z => by omega, fun _ => ?_⟩
          rcases z2 with z2 | z2
          · have d := S_dec (A := a.Accel) (w := s.Speed) hA (by omega)
            rw [← z2] at d; omega
          · omega
      · obtain ⟨r1, r2, _⟩ := r
        obtain ⟨z0, z1, z2⟩ := x1 (by omega)
        have := S_nn (A := a.Accel) (v := x)
        rcases z2 with z2 | z2 <;> omega
    · rw [ifn c, wid (x := s.At - s.Goal) (by omega) (by omega), wid (x := 0 - s.Speed) (by omega) (by omega)]
      obtain ⟨y, e, x0, x1⟩ := next_ex' k h (d := s.At - s.Goal) (v := 0 - s.Speed) (by omega) (by omega) (by omega) (by omega) hk
      have yb : -a.Speed ≤ y ∧ y ≤ a.Speed := by
        by_cases c2 : 0 - s.Speed < 0
        · have := x0 c2; omega
        · have := x1 (by omega); omega
      rw [bnd (v := 0 - y) (by rw [bnd e, wid (x := 0 - y) (by omega) (by omega)]; rfl)]
      refine go (0 - y) ?_ (fun r => by have := r.2.1; omega)
      by_cases c2 : 0 - s.Speed < 0
      · have := x0 c2
        exact slow (0 - y) (fun _ => by omega) (fun z => by omega)
      · obtain ⟨z0, z1, z2⟩ := x1 (by omega)
        have nn := S_nn (A := a.Accel) (v := y)
        have lowb : a.Min ≤ s.At - (y + S a.Accel y) := by
          rcases z2 with z2 | z2
          · have d := S_dec (A := a.Accel) (w := 0 - s.Speed) hA (by omega)
            rw [← z2] at d
            by_cases c3 : s.Speed < 0
            · have := g7 c3
              rw [show -s.Speed = 0 - s.Speed by omega] at this; omega
            · have sz : 0 - s.Speed ≤ a.Accel := by omega
              rw [S_low sz] at d; omega
          · omega
        refine ⟨by omega, by omega, fun z => ?_, fun z => ?_⟩
        · rw [show -(0 - y) = y by omega]; omega
        · have yz : y = 0 := by omega
          rw [yz, show (0 : Int) - 0 = 0 from rfl, S_low (by omega)]; omega
structure MOk (m : S_Mount) : Prop where
  az : AxOk m.Az
  alt : AxOk m.Alt
  p : m.Az.Min ≤ m.Park.Az ∧ m.Park.Az ≤ m.Az.Max
  q : m.Alt.Min ≤ m.Park.Alt ∧ m.Park.Alt ≤ m.Alt.Max
def rest (p : Int) : S_State := ⟨p, 0, p, false⟩
def HR (s : S_State) : Prop := s.Halt = true ∨ Rst s
structure MS (m : S_Mount) (s : S_State2) : Prop where
  az : AxS m.Az s.Az
  alt : AxS m.Alt s.Alt
  md : (s.Mode = 0 ∧ s.Az = rest m.Park.Az ∧ s.Alt = rest m.Park.Alt) ∨ (s.Mode = 1 ∧ Rst s.Az ∧ Rst s.Alt) ∨ (s.Mode = 5 ∧ HR s.Az ∧ HR s.Alt) ∨
    ((s.Mode = 2 ∨ s.Mode = 3 ∨ s.Mode = 4) ∧ s.Az.Halt = false ∧ s.Alt.Halt = false ∧ (s.Mode = 4 → s.Az.Goal = m.Park.Az ∧ s.Alt.Goal = m.Park.Alt))
theorem HR.eq {s : S_State} (h : HR s) (hh : ¬ s.Halt = true) : Rst s := h.resolve_left hh
theorem ckmount (k : Nat) {m : S_Mount} (h : MOk m) : slew_CheckMount k m = some 0 := by
  unfold slew_CheckMount
  rw [bnd (ckaxis k h.az), ifn (by decide), bnd (ckaxis k h.alt), ifn (by decide), bnd (in_ok k h.p), ifn (by decide), bnd (in_ok k h.q), ifn (by decide)]
theorem mcheck (k : Nat) {m : S_Mount} (h : MOk m) {s : S_State2} (g : MS m s) (hk : 100 ≤ k) : mount_Check k m s = some 0 := by
  unfold mount_Check
  rw [bnd (ckmount k h), ifn (by decide), bnd (axcheck k h.az g.az hk), ifn (by decide), bnd (axcheck k h.alt g.alt hk), ifn (by decide)]
  rcases g.md with ⟨e, a1, a2⟩ | ⟨e, a1, a2⟩ | ⟨e, a1, a2⟩ | ⟨e, a1, a2, a3⟩
  · rw [ifn (by omega), bnd rfl, ifn (by simp; omega), ifp e, bnd (show mount_Rest k m = some ⟨rest m.Park.Az, rest m.Park.Alt, 0⟩ from rfl), ifn (by rw [a1, a2, e]; simp [rest])]
  · rw [ifn (by omega), bnd rfl, ifn (by simp; omega), ifn (by omega), ifp e, bnd (v := true) (by rw [bnd (resting_eq k _), decide_eq_true a1, ifp rfl, bnd (resting_eq k _), decide_eq_true a2]), ifn (by decide)]
  · rw [ifn (by omega), bnd rfl, ifn (by simp; omega), ifn (by omega), ifn (by omega), ifp e]
    by_cases c : s.Az.Halt = true
    · rw [ifp c]
      by_cases d : s.Alt.Halt = true
      · rw [ifp d]; rfl
      · rw [ifn d, bnd (resting_eq k _), decide_eq_true (a2.eq d)]; rfl
    · rw [ifn c, bnd (resting_eq k _), decide_eq_true (a1.eq c), ifp rfl]
      by_cases d : s.Alt.Halt = true
      · rw [ifp d]; rfl
      · rw [ifn d, bnd (resting_eq k _), decide_eq_true (a2.eq d)]; rfl
  · rw [ifn (by omega), bnd rfl, ifn (by simp; omega), ifn (by omega), ifn (by omega), ifn (by omega), ifp (by rw [a1]; decide), ifp (by rw [a2]; decide)]
    by_cases c : s.Mode ≠ 4
    · rw [ifp c]; rfl
    · obtain ⟨b1, b2⟩ := a3 (by omega)
      rw [ifn c, ifp b1, b2]; simp
def sp (s : S_State) : Int := max s.Speed (-s.Speed)
theorem hr_step (k : Nat) {a : S_Axis} (h : AxOk a) {s : S_State} (g : AxS a s) (hr : HR s) (hk : 100 ≤ k) : ∃ s', axis_Step k a s = some s' ∧ AxS a s' ∧ HR s' ∧ sp s' ≤ max (sp s - a.Accel) 0 := by
  obtain ⟨s', e, g', h1, h2, h3⟩ := axstep k h g hk
  have hA := h.a0
  rcases hr with hr | hr
  · obtain ⟨x, y⟩ := h1 hr
    exact ⟨s', e, g', y, x⟩
  · have := h3 hr
    subst this
    have z := hr.1
    exact ⟨s', e, g', .inr hr, by unfold sp; omega⟩
theorem rest_of {s : S_State} (h : Rst s) {p : Int} (e : s.Goal = p) : s = rest p := by
  obtain ⟨a, b, c⟩ := h
  cases s; simp only at a b c e; unfold rest; rw [a, b, c, e]
theorem mstep (k : Nat) {m : S_Mount} (h : MOk m) {s : S_State2} (g : MS m s) (hk : 100 ≤ k) :
    ∃ s', mount_Step k m s = some s' ∧ MS m s' ∧ (s.Mode = 3 → s'.Mode = 3) ∧ ((s.Mode = 0 ∨ s.Mode = 1 ∨ s.Mode = 5) → (s'.Mode = 0 ∨ s'.Mode = 1 ∨ s'.Mode = 5) ∧ sp s'.Az ≤ max (sp s.Az - m.Az.Accel) 0 ∧ sp s'.Alt ≤ max (sp s.Alt - m.Alt.Accel) 0) := by
  obtain ⟨a', e1, g1, h1, h2, h3⟩ := axstep k h.az g.az hk
  obtain ⟨b', e2, g2, i1, i2, i3⟩ := axstep k h.alt g.alt hk
  have hA := h.az.a0
  have hB := h.alt.a0
  have stp : mount_Step k m s = (if (if ¬ (decide (Rst a') = true) then true else !decide (Rst b')) = true then (some (⟨a', b', s.Mode⟩ : S_State2)) else (if s.Mode = 2 then (some (⟨a', b', 3⟩ : S_State2)) else (if s.Mode = 4 then (some (⟨a', b', 0⟩ : S_State2)) else (if s.Mode = 5 then (some (⟨a', b', 1⟩ : S_State2)) else (some (⟨a', b', s.Mode⟩ : S_State2)))))) := by
    unfold mount_Step
    rw [bnd (mcheck k h g hk), ifn (by decide), bnd e1, bnd e2]
    have e : ((axis_Resting k a').bind fun vt73 => (if ¬ (vt73 = true) then (some true) else ((axis_Resting k b').bind fun vt80 => (some (!vt80)))) : Option Bool) = some (if ¬ (decide (Rst a') = true) then true else !decide (Rst b')) := by
      rw [bnd (resting_eq k a')]
      split
      · rfl
      · rw [bnd (resting_eq k b')]
    rw [bnd e]
  rw [stp]
  rcases g.md with ⟨e, a1, a2⟩ | ⟨e, a1, a2⟩ | ⟨e, a1, a2⟩ | ⟨e, a1, a2, a3⟩
  · have r1 : Rst s.Az := by rw [a1]; exact ⟨rfl, rfl, rfl⟩
    have r2 : Rst s.Alt := by rw [a2]; exact ⟨rfl, rfl, rfl⟩
    have := h3 r1; have := i3 r2
    subst a' b'
    have z1 := r1.1; have z2 := r2.1
    rw [decide_eq_true r1, decide_eq_true r2, ifn (by decide), ifn (by omega), ifn (by omega), ifn (by omega)]
    exact ⟨_, rfl, ⟨g1, g2, .inl ⟨e, a1, a2⟩⟩, fun z => z, fun z => ⟨z, by unfold sp; dsimp only; omega, by unfold sp; dsimp only; omega⟩⟩
  · have := h3 a1; have := i3 a2
    subst a' b'
    have z1 := a1.1; have z2 := a2.1
    rw [decide_eq_true a1, decide_eq_true a2, ifn (by decide), ifn (by omega), ifn (by omega), ifn (by omega)]
    exact ⟨_, rfl, ⟨g1, g2, .inr (.inl ⟨e, a1, a2⟩)⟩, fun z => z, fun z => ⟨z, by unfold sp; dsimp only; omega, by unfold sp; dsimp only; omega⟩⟩
  · have ha : HR a' ∧ sp a' ≤ max (sp s.Az - m.Az.Accel) 0 := by
      obtain ⟨x, y, _, z, u⟩ := hr_step k h.az g.az a1 hk
      rw [e1] at y; injection y with y; subst y; exact ⟨z, u⟩
    have hb : HR b' ∧ sp b' ≤ max (sp s.Alt - m.Alt.Accel) 0 := by
      obtain ⟨x, y, _, z, u⟩ := hr_step k h.alt g.alt a2 hk
      rw [e2] at y; injection y with y; subst y; exact ⟨z, u⟩
    by_cases c1 : Rst a'
    · by_cases c2 : Rst b'
      · rw [decide_eq_true c1, decide_eq_true c2, ifn (by decide), ifn (by omega), ifn (by omega), ifp e]
        exact ⟨_, rfl, ⟨g1, g2, .inr (.inl ⟨rfl, c1, c2⟩)⟩, fun z => by omega, fun _ => ⟨.inr (.inl rfl), ha.2, hb.2⟩⟩
      · rw [decide_eq_true c1, decide_eq_false c2, ifp (by decide)]
        exact ⟨_, rfl, ⟨g1, g2, .inr (.inr (.inl ⟨e, ha.1, hb.1⟩))⟩, fun z => z, fun z => ⟨z, ha.2, hb.2⟩⟩
    · rw [decide_eq_false c1, ifp (by simp)]
      exact ⟨_, rfl, ⟨g1, g2, .inr (.inr (.inl ⟨e, ha.1, hb.1⟩))⟩, fun z => z, fun z => ⟨z, ha.2, hb.2⟩⟩
  · obtain ⟨p1, p2⟩ := h2 a1
    obtain ⟨q1, q2⟩ := i2 a2
    have no : ¬ (s.Mode = 0 ∨ s.Mode = 1 ∨ s.Mode = 5) := by omega
    have same : MS m ⟨a', b', s.Mode⟩ := ⟨g1, g2, .inr (.inr (.inr ⟨e, p1, q1, fun z => by obtain ⟨x, y⟩ := a3 z; exact ⟨p2.trans x, q2.trans y⟩⟩))⟩
    by_cases c : (if ¬ (decide (Rst a') = true) then true else !decide (Rst b')) = true
    · rw [ifp c]
      exact ⟨_, rfl, same, fun z => z, fun z => absurd z no⟩
    · rw [ifn c]
      have c1 : Rst a' := by
        by_cases x : Rst a'
        · exact x
        · rw [decide_eq_false x] at c; simp at c
      have c2 : Rst b' := by
        by_cases x : Rst b'
        · exact x
        · rw [decide_eq_true c1, decide_eq_false x] at c; simp at c
      by_cases d2 : s.Mode = 2
      · rw [ifp d2]
        exact ⟨_, rfl, ⟨g1, g2, .inr (.inr (.inr ⟨.inr (.inl rfl), p1, q1, fun z => by dsimp only at z; omega⟩))⟩, fun z => by omega, fun z => absurd z no⟩
      · rw [ifn d2]
        by_cases d4 : s.Mode = 4
        · rw [ifp d4]
          obtain ⟨x, y⟩ := a3 d4
          exact ⟨_, rfl, ⟨g1, g2, .inl ⟨rfl, rest_of c1 (p2.trans x), rest_of c2 (q2.trans y)⟩⟩, fun z => by omega, fun z => absurd z no⟩
        · rw [ifn d4, ifn (by omega)]
          exact ⟨_, rfl, same, fun z => z, fun z => absurd z no⟩
def hlt (s : S_State) : S_State := ⟨s.At, s.Speed, s.Goal, true⟩
def stM (s : S_State2) : S_State2 := if s.Mode = 0 then s else ⟨hlt s.Az, hlt s.Alt, 5⟩
theorem AxS.hlt {a : S_Axis} {s : S_State} (h : AxS a s) : AxS a (hlt s) := ⟨h.p0, h.p1, h.g0, h.g1, h.v0, h.v1, h.e0, h.e1⟩
theorem brake_eq (k : Nat) {a : S_Axis} (h : AxOk a) {s : S_State} (g : AxS a s) (hk : 100 ≤ k) : axis_Brake k a s = some (hlt s, 0) := by
  unfold axis_Brake
  rw [bnd (axcheck k h g hk), ifn (by decide)]; rfl
theorem mstop_eq (k : Nat) {m : S_Mount} (h : MOk m) {s : S_State2} (g : MS m s) (hk : 100 ≤ k) : mount_Stop k m s = some (stM s, 0) := by
  unfold mount_Stop stM
  rw [bnd (mcheck k h g hk), ifn (by decide)]
  by_cases c : s.Mode = 0
  · rw [ifp c, if_pos c]
  · rw [ifn c, if_neg c, bnd (brake_eq k h.az g.az hk)]; dsimp only
    rw [bnd (brake_eq k h.alt g.alt hk)]
theorem MS.st {m : S_Mount} {s : S_State2} (g : MS m s) : MS m (stM s) ∧ ((stM s).Mode = 0 ∨ (stM s).Mode = 1 ∨ (stM s).Mode = 5) ∧ sp (stM s).Az = sp s.Az ∧ sp (stM s).Alt = sp s.Alt := by
  unfold stM
  by_cases c : s.Mode = 0
  · rw [if_pos c]; exact ⟨g, .inl c, rfl, rfl⟩
  · rw [if_neg c]; exact ⟨⟨g.az.hlt, g.alt.hlt, .inr (.inr (.inl ⟨rfl, .inl rfl, .inl rfl⟩))⟩, .inr (.inr rfl), rfl, rfl⟩
theorem send_eq (k : Nat) {a : S_Axis} (h : AxOk a) {s : S_State} (g : AxS a s) (p : Int) (hk : 100 ≤ k) : axis_Send k a s p = if a.Min ≤ p ∧ p ≤ a.Max then some (⟨s.At, s.Speed, p, false⟩, 0) else some (⟨0, 0, 0, false⟩, 4) := by
  unfold axis_Send
  rw [bnd (axcheck k h g hk), ifn (by decide), bnd (in_eq k a p)]
  by_cases c : a.Min ≤ p ∧ p ≤ a.Max
  · rw [decide_eq_true c, ifn (by decide), if_pos c]
  · rw [decide_eq_false c, ifp (by decide), if_neg c]
theorem AxS.send {a : S_Axis} {s : S_State} (h : AxS a s) {p : Int} (c : a.Min ≤ p ∧ p ≤ a.Max) : AxS a ⟨s.At, s.Speed, p, false⟩ := ⟨h.p0, h.p1, c.1, c.2, h.v0, h.v1, h.e0, h.e1⟩
theorem msend (k : Nat) {m : S_Mount} (h : MOk m) {s : S_State2} (g : MS m s) (p : S_Pose) (md : Int) (hmd : md = 2 ∨ md = 3 ∨ md = 4) (hp : md = 4 → p.Az = m.Park.Az ∧ p.Alt = m.Park.Alt) (hk : 100 ≤ k) :
    ∃ s' e, mount_send k m s p md = some (s', e) ∧ (e = 0 → MS m s' ∧ s'.Mode = md) := by
  unfold mount_send
  rw [send_eq k h.az g.az _ hk]
  by_cases c : m.Az.Min ≤ p.Az ∧ p.Az ≤ m.Az.Max
  · rw [if_pos c, bnd rfl]; dsimp only
    rw [ifn (by decide), send_eq k h.alt g.alt _ hk]
    by_cases d : m.Alt.Min ≤ p.Alt ∧ p.Alt ≤ m.Alt.Max
    · rw [if_pos d, bnd rfl]; dsimp only
      rw [ifn (by decide)]
      exact ⟨_, _, rfl, fun _ => ⟨⟨g.az.send c, g.alt.send d, .inr (.inr (.inr ⟨hmd, rfl, rfl, hp⟩))⟩, rfl⟩⟩
    · rw [if_neg d, bnd rfl]; dsimp only
      rw [ifp (by decide)]
      exact ⟨_, _, rfl, fun z => by cases z⟩
  · rw [if_neg c, bnd rfl]; dsimp only
    rw [ifp (by decide)]
    exact ⟨_, _, rfl, fun z => by cases z⟩
theorem mgoto (k : Nat) {m : S_Mount} (h : MOk m) {s : S_State2} (g : MS m s) (p : S_Pose) (hk : 100 ≤ k) : ∃ s' e, mount_Goto k m s p = some (s', e) ∧ (e = 0 → MS m s') := by
  unfold mount_Goto
  rw [bnd (mcheck k h g hk), ifn (by decide)]
  by_cases c : s.Mode = 5
  · rw [ifp c]; exact ⟨_, _, rfl, fun z => by cases z⟩
  · obtain ⟨s', e, e1, e2⟩ := msend k h g p 2 (.inl rfl) (fun z => by cases z) hk
    rw [ifn c, bnd e1]
    exact ⟨s', e, rfl, fun z => (e2 z).1⟩
theorem mpark (k : Nat) {m : S_Mount} (h : MOk m) {s : S_State2} (g : MS m s) (hk : 100 ≤ k) : ∃ s' e, mount_Park k m s = some (s', e) ∧ (e = 0 → MS m s') := by
  unfold mount_Park
  rw [bnd (mcheck k h g hk), ifn (by decide)]
  by_cases c : s.Mode = 5
  · rw [ifp c]; exact ⟨_, _, rfl, fun z => by cases z⟩
  · obtain ⟨s', e, e1, e2⟩ := msend k h g ⟨m.Park.Az, m.Park.Alt⟩ 4 (.inr (.inr rfl)) (fun _ => ⟨rfl, rfl⟩) hk
    rw [ifn c, bnd e1]
    exact ⟨s', e, rfl, fun z => (e2 z).1⟩
theorem mfollow (k : Nat) {m : S_Mount} (h : MOk m) {s : S_State2} (g : MS m s) (p : S_Pose) (hk : 100 ≤ k) : ∃ s' e, mount_Follow k m s p = some (s', e) ∧ (e = 0 → MS m s' ∧ s'.Mode = 3) := by
  unfold mount_Follow
  rw [bnd (mcheck k h g hk), ifn (by decide)]
  by_cases c : s.Mode ≠ 3
  · rw [ifp c]; exact ⟨_, _, rfl, fun z => by cases z⟩
  · have far : ∀ a b : Int, ∃ t, mount_far k a b = some t := by
      intro a b; unfold mount_far; split
      · exact ⟨_, rfl⟩
      · exact ⟨_, rfl⟩
    obtain ⟨t1, f1⟩ := far p.Az s.Az.Goal
    obtain ⟨t2, f2⟩ := far p.Alt s.Alt.Goal
    rw [ifn c, bnd f1]
    by_cases d1 : t1 = true
    · rw [ifp d1]; exact ⟨_, _, rfl, fun z => by cases z⟩
    · rw [ifn d1, bnd f2]
      by_cases d2 : t2 = true
      · rw [ifp d2]; exact ⟨_, _, rfl, fun z => by cases z⟩
      · obtain ⟨s', e, e1, e2⟩ := msend k h g p 3 (.inr (.inl rfl)) (fun z => by cases z) hk
        rw [ifn d2, bnd e1]
        exact ⟨s', e, rfl, e2⟩
def dax : S_Axis := ⟨-8589934592, 8589934592, 33554432, 4194304⟩
theorem dax_ok : AxOk dax := ⟨by decide, by decide, by decide, by decide, by decide, by decide, by decide, by decide⟩
structure DS (d : S_State3) : Prop where
  s0 : 0 ≤ d.Shutter
  s1 : d.Shutter ≤ 100
  c0 : 0 ≤ d.Cover
  c1 : d.Cover ≤ 20
  cs : 0 < d.Cover → d.Shutter = 100
  t : AxS dax d.Turn
theorem dcheck (k : Nat) {d : S_State3} (h : DS d) (hk : 100 ≤ k) : dome_Check k d = some 0 := by
  have h1 := h.s0; have h2 := h.s1; have h3 := h.c0; have h4 := h.c1
  unfold dome_Check
  rw [ifn (by omega), ifn (by omega), ifn (by omega), bnd rfl, ifn (by simp; omega)]
  by_cases c : d.Cover > 0
  · have := h.cs c
    rw [ifp c, bnd rfl, ifn (by simp; omega), bnd (show dome_Axis k = some dax from rfl), bnd (axcheck k dax_ok h.t hk)]
  · rw [ifn c, bnd rfl, ifn (by decide), bnd (show dome_Axis k = some dax from rfl), bnd (axcheck k dax_ok h.t hk)]
def pot (d : S_State3) : Int := 5 * d.Cover + 2 * d.Shutter
theorem dstep (k : Nat) {d : S_State3} (h : DS d) (hk : 100 ≤ k) :
    ∃ d', dome_Step k d = some d' ∧ DS d' ∧ d'.Open = d.Open ∧ d'.Lift = d.Lift ∧ (d.Open = true → d.Lift = true → d.Shutter = 100 → d.Cover = 20 → d'.Shutter = 100 ∧ d'.Cover = 20) ∧ (d.Open = false → d.Lift = false → pot d' ≤ max (pot d - 5) 0) ∧ (HR d.Turn → HR d'.Turn ∧ sp d'.Turn ≤ max (sp d.Turn - 4194304) 0) := by
  have h1 := h.s0; have h2 := h.s1; have h3 := h.c0; have h4 := h.c1; have h5 := h.cs
  obtain ⟨t', e1, g1, i1, i2, i3⟩ := axstep k dax_ok h.t hk
  have htr : HR d.Turn → HR t' ∧ sp t' ≤ max (sp d.Turn - 4194304) 0 := fun r => by
    obtain ⟨x, y, _, z, u⟩ := hr_step k dax_ok h.t r hk
    rw [e1] at y; injection y with y; subst y; exact ⟨z, u⟩
  unfold dome_Step
  rw [bnd (dcheck k h hk), ifn (by decide)]
  have fin : ∀ (c s : Int), 0 ≤ s → s ≤ 100 → 0 ≤ c → c ≤ 20 → (0 < c → s = 100) → (d.Open = true → d.Lift = true → d.Shutter = 100 → d.Cover = 20 → s = 100 ∧ c = 20) → (d.Open = false → d.Lift = false → 5 * c + 2 * s ≤ max (pot d - 5) 0) →
      ∃ d', ((dome_Axis k).bind fun vt123 => ((axis_Step k vt123 d.Turn).bind fun vt130 => (some (⟨s, c, d.Open, d.Lift, vt130⟩ : S_State3)))) = some d' ∧ DS d' ∧ d'.Open = d.Open ∧ d'.Lift = d.Lift ∧ (d.Open = true → d.Lift = true → d.Shutter = 100 → d.Cover = 20 → d'.Shutter = 100 ∧ d'.Cover = 20) ∧ (d.Open = false → d.Lift = false → pot d' ≤ max (pot d - 5) 0) ∧ (HR d.Turn → HR d'.Turn ∧ sp d'.Turn ≤ max (sp d.Turn - 4194304) 0) := by
    intro c s a1 a2 a3 a4 a5 a6 a7
    rw [bnd (show dome_Axis k = some dax from rfl), bnd e1]
    exact ⟨_, rfl, ⟨a1, a2, a3, a4, a5, g1⟩, rfl, rfl, a6, a7, htr⟩
  cases ho : d.Open with
  | true =>
    cases hl : d.Lift with
    | true =>
      rw [ifp rfl, bnd rfl, ifp rfl]
      rw [ho, hl] at fin
      by_cases c : d.Shutter = 100
      · rw [ifp c, wid (x := d.Cover + 1) (by omega) (by omega), mn_def, bnd rfl, bnd rfl, ifp rfl, wid (x := d.Shutter + 4) (by omega) (by omega), mn_def, bnd rfl]
        exact fin _ _ (by omega) (by omega) (by omega) (by omega) (fun _ => by omega) (fun _ _ _ _ => by omega) (fun z => by cases z)
      · rw [ifn c, bnd rfl, bnd rfl, ifp rfl, wid (x := d.Shutter + 4) (by omega) (by omega), mn_def, bnd rfl]
        exact fin _ _ (by omega) (by omega) (by omega) (by omega) (fun _ => by omega) (fun _ _ _ _ => by omega) (fun z => by cases z)
    | false =>
      rw [ifn (by decide), bnd rfl, ifn (by decide), wid (x := d.Cover - 2) (by omega) (by omega), mx_def, bnd rfl, ifp rfl, wid (x := d.Shutter + 4) (by omega) (by omega), mn_def, bnd rfl]
      rw [ho, hl] at fin
      exact fin _ _ (by omega) (by omega) (by omega) (by omega) (fun _ => by omega) (fun _ z => by cases z) (fun z => by cases z)
  | false =>
    have x37 : (if d.Lift = true then (some false) else (some false) : Option Bool) = some false := by split <;> rfl
    rw [x37, bnd rfl, ifn (by decide), wid (x := d.Cover - 2) (by omega) (by omega), mx_def, bnd rfl, ifn (by decide)]
    rw [ho] at fin
    by_cases c : max (d.Cover - 2) 0 = 0
    · rw [ifp c, wid (x := d.Shutter - 5) (by omega) (by omega), mx_def, bnd rfl, bnd rfl]
      exact fin _ _ (by omega) (by omega) (by omega) (by omega) (fun _ => by omega) (fun z => by cases z) (fun _ _ => by unfold pot; omega)
    · rw [ifn c, bnd rfl, bnd rfl]
      exact fin _ _ (by omega) (by omega) (by omega) (by omega) (fun _ => by omega) (fun z => by cases z) (fun _ _ => by unfold pot; omega)
theorem dset_eq (k : Nat) {d : S_State3} (h : DS d) (o l : Bool) (hk : 100 ≤ k) : dome_Set k d o l = some (⟨d.Shutter, d.Cover, o, l, d.Turn⟩, 0) := by
  unfold dome_Set
  rw [bnd (dcheck k h hk), ifn (by decide)]
theorem DS.set {d : S_State3} (h : DS d) (o l : Bool) : DS ⟨d.Shutter, d.Cover, o, l, d.Turn⟩ := ⟨h.s0, h.s1, h.c0, h.c1, h.cs, h.t⟩
theorem dbrake_eq (k : Nat) {d : S_State3} (h : DS d) (hk : 100 ≤ k) : dome_Brake k d = some (⟨d.Shutter, d.Cover, d.Open, d.Lift, hlt d.Turn⟩, 0) := by
  unfold dome_Brake
  rw [bnd (dcheck k h hk), ifn (by decide), bnd (show dome_Axis k = some dax from rfl), bnd (brake_eq k dax_ok h.t hk)]
theorem DS.brk {d : S_State3} (h : DS d) : DS ⟨d.Shutter, d.Cover, d.Open, d.Lift, hlt d.Turn⟩ := ⟨h.s0, h.s1, h.c0, h.c1, h.cs, h.t.hlt⟩
theorem mod_ex (k : Nat) (x : Int) : ∃ v, slew_mod k x = some v ∧ 0 ≤ v ∧ v < 4294967296 := by
  have h1 := Int.tmod_lt_of_pos x (show (0 : Int) < 4294967296 by decide)
  have h2 := Int.lt_tmod_of_pos x (show (0 : Int) < 4294967296 by decide)
  unfold slew_mod
  by_cases c : Int.tmod x 4294967296 < 0
  · rw [ifp c, wid (by omega) (by omega)]; exact ⟨_, rfl, by omega, by omega⟩
  · rw [ifn c]; exact ⟨_, rfl, by omega, h1⟩
theorem target_l0 (k : Nat) (f : Int) : ∀ (e n : Nat) (p b : Int), 8589934592 < p + 4294967296 * e → e < n → -8589934592 ≤ p → p ≤ 17179869184 → (-8589934592 ≤ b ∧ b ≤ 8589934592) → ∃ r, slew_Target.l0 k dax f n p b = some r ∧ (-8589934592 ≤ r ∧ r ≤ 8589934592) := by
  intro e
  induction e with
  | zero =>
    intro n p b h hn p0 p1 hb
    obtain ⟨n, rfl⟩ : ∃ q, n = q + 1 := ⟨n - 1, by omega⟩
    rw [slew_Target.l0, ifn (show ¬ p ≤ dax.Max from show ¬ p ≤ (8589934592 : Int) by simp at h; omega)]
    exact ⟨b, rfl, hb⟩
  | succ e ih =>
    intro n p b h hn p0 p1 hb
    obtain ⟨n, rfl⟩ : ∃ q, n = q + 1 := ⟨n - 1, by omega⟩
    rw [slew_Target.l0]
    by_cases c : p ≤ (8589934592 : Int)
    · rw [ifp (show p ≤ dax.Max from c), wid (x := p + 4294967296) (by omega) (by omega)]
      unfold slew_abs
      rw [bnd rfl, bnd rfl]
      split
      · exact ih n _ _ (by omega) (by omega) (by omega) (by omega) ⟨p0, c⟩
      · exact ih n _ _ (by omega) (by omega) (by omega) (by omega) hb
    · rw [ifn (show ¬ p ≤ dax.Max from c)]
      exact ⟨b, rfl, hb⟩
theorem drotate (k : Nat) {d : S_State3} (h : DS d) (az : Int) (hk : 100 ≤ k) : ∃ d', dome_Rotate k d az = some (d', 0) ∧ DS d' := by
  obtain ⟨x, e1, x0, x1⟩ := mod_ex k az
  obtain ⟨y, e2, y0, y1⟩ := mod_ex k dax.Min
  obtain ⟨z, e3, z0, z1⟩ := mod_ex k (w64 (x - y))
  obtain ⟨r, e4, r0⟩ := target_l0 k d.Turn.At 5 k (-8589934592 + z) (-8589934592 + z) (by omega) (by omega) (by omega) (by omega) ⟨by omega, by omega⟩
  have tg : slew_Target k dax d.Turn.At az = some (r, 0) := by
    unfold slew_Target
    rw [bnd (ckaxis k dax_ok), ifn (by decide), bnd (in_ok k ⟨h.t.p0, h.t.p1⟩), ifn (by decide), bnd e1, bnd e2, bnd e3]
    rw [show dax.Min + z = -8589934592 + z from rfl, wid (x := -8589934592 + z) (by omega) (by omega), ifn (show ¬ (-8589934592 + z > dax.Max) from show ¬ (-8589934592 + z > (8589934592 : Int)) by omega), bnd e4]
  unfold dome_Rotate
  rw [bnd (dcheck k h hk), ifn (by decide), bnd (show dome_Axis k = some dax from rfl), bnd tg]; dsimp only
  rw [ifn (by decide), bnd (show dome_Axis k = some dax from rfl), send_eq k dax_ok h.t r hk, if_pos (show dax.Min ≤ r ∧ r ≤ dax.Max from r0), bnd rfl]; dsimp only
  rw [ifn (by decide)]
  exact ⟨_, rfl, h.s0, h.s1, h.c0, h.c1, h.cs, h.t.send r0⟩
structure CS (c : S_State4) : Prop where
  n0 : 0 ≤ c.Number
  n1 : c.Number ≤ 1073741824
  b0 : 0 ≤ c.Beats
  b1 : c.Beats ≤ 16
  md : (c.Mode = 0 ∧ c.Left = 0 ∧ c.Beats = 0) ∨ (c.Mode = 1 ∧ 1 ≤ c.Left ∧ c.Left ≤ c.Beats ∧ c.Number ≠ 0) ∨ (c.Mode = 2 ∧ 1 ≤ c.Left ∧ c.Left ≤ 3 ∧ c.Number ≠ 0) ∨ (c.Mode = 3 ∧ c.Left = 0 ∧ c.Number ≠ 0)
theorem ccheck (k : Nat) {c : S_State4} (h : CS c) : camera_Check k c = some 0 := by
  have h1 := h.n0; have h2 := h.n1; have h3 := h.b0; have h4 := h.b1; have h5 := h.md
  unfold camera_Check
  rw [ifn (by omega), ifn (by omega), ifn (by omega), ifn (by omega), ifn (by omega), bnd rfl, ifn (by simp; omega)]
  rcases h5 with ⟨a, b, e⟩ | ⟨a, b, e, f⟩ | ⟨a, b, e, f⟩ | ⟨a, b, f⟩
  · rw [ifp a, ifp b, bnd rfl, e, ifn (by decide), ifn (by omega), bnd rfl, ifn (by decide)]
  · rw [ifn (by omega), ifp a, ifp b, bnd rfl, bnd rfl, ifn (by simp; omega), ifp (by omega), bnd rfl, ifn (by simpa using f)]
  · rw [ifn (by omega), ifn (by omega), ifp a, ifp b, bnd rfl, bnd rfl, bnd rfl, ifn (by simp; omega), ifp (by omega), bnd rfl, ifn (by simpa using f)]
  · rw [ifn (by omega), ifn (by omega), ifn (by omega), ifp a, bnd rfl, bnd rfl, bnd rfl, ifn (by simp; omega), ifp (by omega), bnd rfl, ifn (by simpa using f)]
theorem cstep (k : Nat) {c : S_State4} (h : CS c) : ∃ c', camera_Step k c = some c' ∧ CS c' ∧ (c.Mode ≠ 1 → c'.Mode ≠ 1) := by
  have h1 := h.n0; have h2 := h.n1; have h3 := h.b0; have h4 := h.b1; have h5 := h.md
  unfold camera_Step
  rw [bnd (ccheck k h), ifn (by decide)]
  by_cases m1 : c.Mode = 1
  · rw [ifp m1, wid (x := c.Left - 1) (by omega) (by omega)]
    by_cases z : c.Left - 1 = 0
    · rw [ifp z]; exact ⟨_, rfl, ⟨h1, h2, h3, h4, .inr (.inr (.inl ⟨rfl, by dsimp only; omega, by dsimp only; omega, by dsimp only; omega⟩))⟩, fun x => absurd m1 x⟩
    · rw [ifn z]; exact ⟨_, rfl, ⟨h1, h2, h3, h4, .inr (.inl ⟨m1, by dsimp only; omega, by dsimp only; omega, by dsimp only; omega⟩)⟩, fun x => absurd m1 x⟩
  · rw [ifn m1]
    by_cases m2 : c.Mode = 2
    · rw [ifp m2, wid (x := c.Left - 1) (by omega) (by omega)]
      by_cases z : c.Left - 1 = 0
      · rw [ifp z]; exact ⟨_, rfl, ⟨h1, h2, h3, h4, .inr (.inr (.inr ⟨rfl, z, by dsimp only; omega⟩))⟩, fun _ => by dsimp only; omega⟩
      · rw [ifn z]; exact ⟨_, rfl, ⟨h1, h2, h3, h4, .inr (.inr (.inl ⟨m2, by dsimp only; omega, by dsimp only; omega, by dsimp only; omega⟩))⟩, fun _ => by dsimp only; omega⟩
    · rw [ifn m2]; exact ⟨_, rfl, h, fun z => z⟩
def ab (c : S_State4) : S_State4 := if c.Mode = 1 then ⟨0, 0, 0, c.Number⟩ else c
theorem CS.zero {c : S_State4} (h : CS c) : CS ⟨0, 0, 0, c.Number⟩ := ⟨h.n0, h.n1, Int.le_refl 0, (by decide : (0 : Int) ≤ 16), .inl ⟨rfl, rfl, rfl⟩⟩
theorem CS.ab {c : S_State4} (h : CS c) : CS (ab c) ∧ (ab c).Mode ≠ 1 := by
  unfold S4.ab
  by_cases m : c.Mode = 1
  · rw [if_pos m]; exact ⟨h.zero, fun z => (by cases z)⟩
  · rw [if_neg m]; exact ⟨h, m⟩
theorem cabort (k : Nat) {c : S_State4} (h : CS c) : camera_Abort k c = if c.Mode = 1 then some (⟨0, 0, 0, c.Number⟩, 0) else some (⟨0, 0, 0, 0⟩, 10) := by
  unfold camera_Abort
  rw [bnd (ccheck k h), ifn (by decide)]
  by_cases m : c.Mode = 1
  · rw [ifn (by omega), if_pos m]
  · rw [ifp m, if_neg m]
theorem cfetch (k : Nat) {c : S_State4} (h : CS c) : ∃ c' a b e, camera_Fetch k c = some (c', a, b, e) ∧ (e = 0 → CS c' ∧ c'.Mode ≠ 1) := by
  unfold camera_Fetch
  rw [bnd (ccheck k h), ifn (by decide)]
  by_cases m : c.Mode ≠ 3
  · rw [ifp m]; exact ⟨_, _, _, _, rfl, fun z => by cases z⟩
  · rw [ifn m]; exact ⟨_, _, _, _, rfl, fun _ => ⟨h.zero, fun z => (by cases z)⟩⟩
theorem cexpose (k : Nat) {c : S_State4} (h : CS c) {b : Int} (b0 : 1 ≤ b) (b1 : b ≤ 16) : ∃ c' e, camera_Expose k c b = some (c', e) ∧ (e = 0 → CS c') := by
  have h1 := h.n0; have h2 := h.n1
  unfold camera_Expose
  rw [bnd (ccheck k h), ifn (by decide)]
  by_cases m : c.Mode ≠ 0
  · rw [ifp m]; exact ⟨_, _, rfl, fun z => by cases z⟩
  · rw [ifn m, ifn (by omega), bnd rfl, ifn (by simp; omega)]
    by_cases n : c.Number = 1073741824
    · rw [ifp n]; exact ⟨_, _, rfl, fun z => by cases z⟩
    · rw [ifn n, ifn (by omega), wid (x := c.Number + 1) (by omega) (by omega)]
      exact ⟨_, _, rfl, fun _ => ⟨by dsimp only; omega, by dsimp only; omega, by dsimp only; omega, b1, .inr (.inl ⟨rfl, b0, Int.le_refl _, by dsimp only; omega⟩)⟩⟩
def hzb (s : S_Sensors) : Bool := if s.Rain = true then true else if s.Wind = true then true else if s.Day = true then true else s.Power
theorem haz_eq (k : Nat) (s : S_Sensors) : guard_Sensors_Hazard k s = some (hzb s) := by
  unfold guard_Sensors_Hazard hzb
  repeat' split
  all_goals rfl
def SW (w : S_World) : Prop := (w.Mount.Mode = 0 ∨ w.Mount.Mode = 1 ∨ w.Mount.Mode = 5) ∧ HR w.Dome.Turn ∧ w.Dome.Open = false ∧ w.Dome.Lift = false ∧ w.Camera.Mode ≠ 1
def AR (w : S_World) : Prop := w.Mount.Az.Speed = 0 ∧ w.Mount.Alt.Speed = 0 ∧ w.Dome.Turn.Speed = 0 ∧ w.Camera.Mode ≠ 1 ∧ w.Dome.Shutter = 0 ∧ w.Dome.Cover = 0
instance (w : S_World) : Decidable (AR w) := by unfold AR; infer_instance
theorem atrest_eq (k : Nat) (w : S_World) : guard_AtRest k w = some (decide (AR w)) := by
  by_cases r : AR w
  · obtain ⟨r1, r2, r3, r4, r5, r6⟩ := id r
    unfold guard_AtRest mount_Moving dome_Closed
    rw [ifn (by omega), bnd rfl, r2, ifp (by decide), ifp r3, ifp r4, ifp r5, r6, decide_eq_true r]; rfl
  · rw [decide_eq_false r]
    unfold guard_AtRest mount_Moving dome_Closed
    by_cases c1 : w.Mount.Az.Speed ≠ 0
    · rw [ifp c1, bnd rfl, ifn (by decide)]
    · rw [ifn c1, bnd rfl]
      by_cases c2 : w.Mount.Alt.Speed = 0
      · rw [c2, ifp (by decide)]
        by_cases c3 : w.Dome.Turn.Speed = 0
        · rw [ifp c3]
          by_cases c4 : w.Camera.Mode ≠ 1
          · rw [ifp c4]
            by_cases c5 : w.Dome.Shutter = 0
            · rw [ifp c5, bnd rfl]
              have c6 : ¬ w.Dome.Cover = 0 := fun c6 => r ⟨by omega, c2, c3, c4, c5, c6⟩
              simp [c6]
            · rw [ifn c5, bnd rfl]
          · rw [ifn c4]
        · rw [ifn c3]
      · rw [ifn (by simp [c2])]
theorem stops_ok (k : Nat) {w : S_World} (h : SW w) : guard_stops k w = some true := by
  obtain ⟨a, b, c, d, e⟩ := h
  unfold guard_stops
  have s1 : (if w.Mount.Mode = 0 then (some true) else (if w.Mount.Mode = 1 then (some true) else (some (w.Mount.Mode == 5))) : Option Bool) = some true := by
    rcases a with a | a | a
    · rw [ifp a]
    · rw [ifn (by omega), ifp a]
    · rw [ifn (by omega), ifn (by omega), a]; rfl
  rw [s1, bnd rfl, ifp rfl]
  by_cases t : w.Dome.Turn.Halt = true
  · rw [ifp t, ifp (by rw [c]; decide), ifp (by rw [d]; decide)]; simp [e]
  · rw [ifn t, bnd (resting_eq k _), decide_eq_true (b.eq t), ifp rfl, ifp (by rw [c]; decide), ifp (by rw [d]; decide)]; simp [e]
def EX (w : S_World) : Prop := w.Camera.Mode = 1 → w.Mount.Mode = 3 ∧ w.Dome.Shutter = 100 ∧ w.Dome.Cover = 20 ∧ w.Dome.Open = true ∧ w.Dome.Lift = true
theorem hard_ok (k : Nat) {w : S_World} (hd : DS w.Dome) (h : EX w) : guard_Hard k w = some 0 := by
  have e : (if w.Camera.Mode = 1 then (if w.Mount.Mode ≠ 3 then (some true) else (if w.Dome.Shutter ≠ 100 then (some true) else (some (w.Dome.Cover != 20)))) else (some false) : Option Bool) = some false := by
    by_cases c : w.Camera.Mode = 1
    · obtain ⟨h1, h2, h3, _⟩ := h c
      rw [ifp c, ifn (by omega), ifn (by omega), h3]; rfl
    · rw [ifn c]
  unfold guard_Hard
  rw [e]
  by_cases c : w.Dome.Cover > 0
  · have := hd.cs c
    rw [ifp c, ifn (by omega), bnd rfl, ifn (by decide)]
  · rw [ifn c, bnd rfl, ifn (by decide)]
structure WS (m : S_Mount) (w : S_World) : Prop where
  ms : MS m w.Mount
  ds : DS w.Dome
  cs : CS w.Camera
  m0 : 0 ≤ w.Mode
  m1 : w.Mode ≤ 2
  h0 : 0 ≤ w.Hazard
  h1 : w.Hazard ≤ 17592186044416
  k0 : 0 ≤ w.Key
  k1 : w.Key ≤ 17592186044416
  ex : EX w
  hs : decide (w.Hazard > 0) = hzb w.Sensors
  ks : decide (w.Key > 0) = w.Sensors.Key
  rn : w.Mode = 0 → w.Hazard = 0
  ar : w.Mode = 2 → AR w
  sw : w.Mode ≠ 0 → SW w
theorem wcheck (k : Nat) {m : S_Mount} (hm : MOk m) {w : S_World} (h : WS m w) (hk : 100 ≤ k) : guard_Check k m w = some 0 := by
  have a1 := h.m0; have a2 := h.m1; have a3 := h.h0; have a4 := h.h1; have a5 := h.k0; have a6 := h.k1
  unfold guard_Check
  rw [bnd (mcheck k hm h.ms hk), ifn (by decide), bnd (dcheck k h.ds hk), ifn (by decide), bnd (ccheck k h.cs), ifn (by decide), ifn (by omega), ifn (by omega), ifn (by omega), ifn (by omega), ifn (by omega), bnd rfl, ifn (by simp; omega), bnd (hard_ok k h.ds h.ex), ifn (by decide), bnd (haz_eq k _), h.hs, ifn (by simp), h.ks, ifn (by simp)]
  have s1 : (if w.Mode = 0 then (some (hzb w.Sensors)) else (some false) : Option Bool) = some false := by
    by_cases c : w.Mode = 0
    · rw [ifp c, ← h.hs, h.rn c]; rfl
    · rw [ifn c]
  rw [s1, bnd rfl, ifn (by decide)]
  by_cases c2 : w.Mode = 2
  · have sw := h.sw (by omega)
    rw [ifp c2, bnd (atrest_eq k w), decide_eq_true (h.ar c2), ifn (by decide), ifp (by omega), bnd (stops_ok k sw), ifn (by decide), ifn sw.2.2.2.2, bnd rfl, ifn (by decide)]
  · rw [ifn c2]
    by_cases c0 : w.Mode ≠ 0
    · have sw := h.sw c0
      rw [ifp c0, bnd (stops_ok k sw), ifn (by decide), ifn sw.2.2.2.2, bnd rfl, ifn (by decide)]
    · rw [ifn c0]
      by_cases c : w.Camera.Mode = 1
      · obtain ⟨_, _, _, o, l⟩ := h.ex c
        rw [ifp c, ifp o, l, bnd rfl, ifn (by decide)]
      · rw [ifn c, bnd rfl, ifn (by decide)]
def bg (w : S_World) : S_World := ⟨stM w.Mount, ⟨w.Dome.Shutter, w.Dome.Cover, false, false, hlt w.Dome.Turn⟩, ab w.Camera, w.Sensors, w.Aim, 1, w.Hazard, w.Key⟩
def lk (w : S_World) : S_World := ⟨stM w.Mount, ⟨w.Dome.Shutter, w.Dome.Cover, w.Dome.Open, w.Dome.Lift, hlt w.Dome.Turn⟩, ab w.Camera, w.Sensors, w.Aim, w.Mode, w.Hazard, w.Key⟩
theorem begin_eq (k : Nat) {m : S_Mount} (hm : MOk m) {w : S_World} (h1 : MS m w.Mount) (h2 : DS w.Dome) (h3 : CS w.Camera) (hk : 100 ≤ k) : guard_begin k m w = some (bg w) := by
  unfold guard_begin bg ab
  rw [cabort k h3]
  by_cases c : w.Camera.Mode = 1
  · rw [ifp c, if_pos c, bnd rfl]; dsimp only
    rw [bnd rfl]; dsimp only
    rw [bnd (mstop_eq k hm h1 hk)]; dsimp only
    rw [bnd (dset_eq k h2 _ _ hk)]; dsimp only
    rw [bnd (dbrake_eq k (h2.set _ _) hk), if_pos c]
  · rw [ifn c, bnd rfl]; dsimp only
    rw [bnd (mstop_eq k hm h1 hk)]; dsimp only
    rw [bnd (dset_eq k h2 _ _ hk)]; dsimp only
    rw [bnd (dbrake_eq k (h2.set _ _) hk), if_neg c]
theorem lock_eq (k : Nat) {m : S_Mount} (hm : MOk m) {w : S_World} (h1 : MS m w.Mount) (h2 : DS w.Dome) (h3 : CS w.Camera) (hk : 100 ≤ k) : guard_lock k m w = some (lk w) := by
  unfold guard_lock lk ab
  rw [cabort k h3]
  by_cases c : w.Camera.Mode = 1
  · rw [ifp c, if_pos c, bnd rfl]; dsimp only
    rw [bnd rfl]; dsimp only
    rw [bnd (mstop_eq k hm h1 hk)]; dsimp only
    rw [bnd (dbrake_eq k h2 hk), if_pos c]
  · rw [ifn c, bnd rfl]
    rw [bnd (mstop_eq k hm h1 hk)]; dsimp only
    rw [bnd (dbrake_eq k h2 hk), if_neg c]
structure IW (m : S_Mount) (w : S_World) : Prop where
  ms : MS m w.Mount
  ds : DS w.Dome
  cs : CS w.Camera
  ex : EX w
  sw : w.Mode ≠ 0 → SW w
theorem IW.bg {m : S_Mount} {w : S_World} (h : IW m w) : IW m (bg w) ∧ SW (bg w) := by
  have s := h.ms.st
  have c := h.cs.ab
  have sw : SW (S4.bg w) := ⟨s.2.1, .inl rfl, rfl, rfl, c.2⟩
  exact ⟨⟨s.1, (h.ds.set false false).brk, c.1, fun z => absurd z c.2, fun _ => sw⟩, sw⟩
theorem IW.lk {m : S_Mount} {w : S_World} (h : IW m w) : IW m (lk w) := by
  have s := h.ms.st
  have c := h.cs.ab
  refine ⟨s.1, h.ds.brk, c.1, fun z => absurd z c.2, fun z => ?_⟩
  obtain ⟨_, _, o, l, _⟩ := h.sw z
  exact ⟨s.2.1, .inl rfl, o, l, c.2⟩
structure PW (m : S_Mount) (r : Int) (w : S_World) : Prop where
  az : sp w.Mount.Az ≤ r * m.Az.Accel
  alt : sp w.Mount.Alt ≤ r * m.Alt.Accel
  t : sp w.Dome.Turn ≤ r * 4194304
  d : pot w.Dome ≤ 5 * r
theorem PW.bg {m : S_Mount} {r : Int} {w : S_World} (h : PW m r w) (g : MS m w.Mount) : PW m r (bg w) := by
  have s := g.st
  exact ⟨by have := s.2.2.1; have := h.az; show sp (stM w.Mount).Az ≤ _; omega, by have := s.2.2.2; have := h.alt; show sp (stM w.Mount).Alt ≤ _; omega, h.t, h.d⟩
theorem PW.lk {m : S_Mount} {r : Int} {w : S_World} (h : PW m r w) (g : MS m w.Mount) : PW m r (lk w) := by
  have s := g.st
  exact ⟨by have := s.2.2.1; have := h.az; show sp (stM w.Mount).Az ≤ _; omega, by have := s.2.2.2; have := h.alt; show sp (stM w.Mount).Alt ≤ _; omega, h.t, h.d⟩
theorem PW.rest {m : S_Mount} {w : S_World} (h : PW m 0 w) (hd : DS w.Dome) (c : w.Camera.Mode ≠ 1) : AR w := by
  have h1 := h.az; have h2 := h.alt; have h3 := h.t; have h4 := h.d
  have d1 := hd.s0; have d2 := hd.c0
  unfold sp at h1 h2 h3
  unfold pot at h4
  refine ⟨by omega, by omega, by omega, c, by omega, by omega⟩
theorem AR.pw {m : S_Mount} {w : S_World} (h : AR w) : PW m 0 w := by
  obtain ⟨h1, h2, h3, _, h5, h6⟩ := h
  exact ⟨by unfold sp; omega, by unfold sp; omega, by unfold sp; omega, by unfold pot; omega⟩
theorem devices (k : Nat) {m : S_Mount} (hm : MOk m) {w : S_World} (h : IW m w) (hk : 100 ≤ k) :
    ∃ a b c, mount_Step k m w.Mount = some a ∧ dome_Step k w.Dome = some b ∧ camera_Step k w.Camera = some c ∧ MS m a ∧ DS b ∧ CS c ∧
      (∀ se ai md hz ky, EX ⟨a, b, c, se, ai, md, hz, ky⟩) ∧ (SW w → ∀ se ai md hz ky, SW ⟨a, b, c, se, ai, md, hz, ky⟩) ∧
      (SW w → ∀ r : Int, PW m r w → 0 ≤ r → ∀ se ai md hz ky, PW m (max (r - 1) 0) ⟨a, b, c, se, ai, md, hz, ky⟩) := by
  obtain ⟨a, e1, a1, a2, a3⟩ := mstep k hm h.ms hk
  obtain ⟨b, e2, b1, b2, b3, b4, b5, b6⟩ := dstep k h.ds hk
  obtain ⟨c, e3, c1, c2⟩ := cstep k h.cs
  have hA := hm.az.a0; have hB := hm.alt.a0
  refine ⟨a, b, c, e1, e2, e3, a1, b1, c1, fun se ai md hz ky z => ?_, fun s se ai md hz ky => ?_, fun s r p r0 se ai md hz ky => ?_⟩
  · have z0 : w.Camera.Mode = 1 := by
      by_cases x : w.Camera.Mode = 1
      · exact x
      · exact absurd z (c2 x)
    obtain ⟨x1, x2, x3, x4, x5⟩ := h.ex z0
    obtain ⟨y1, y2⟩ := b4 x4 x5 x2 x3
    exact ⟨a2 x1, y1, y2, b2.trans x4, b3.trans x5⟩
  · obtain ⟨s1, s2, s3, s4, s5⟩ := s
    exact ⟨(a3 s1).1, (b6 s2).1, b2.trans s3, b3.trans s4, c2 s5⟩
  · obtain ⟨s1, s2, s3, s4, s5⟩ := s
    obtain ⟨_, q1, q2⟩ := a3 s1
    have q3 := (b6 s2).2
    have q4 := b5 s3 s4
    have p1 := p.az; have p2 := p.alt; have p3 := p.t; have p4 := p.d
    have mul : ∀ A : Int, 1 ≤ A → max (r * A - A) 0 ≤ max (r - 1) 0 * A := by
      intro A hA
      by_cases z : 1 ≤ r
      · rw [show max (r - 1) 0 = r - 1 by omega, Int.sub_mul]
        have : 1 * A ≤ r * A := Int.mul_le_mul_of_nonneg_right z (by omega)
        omega
      · rw [show r = 0 by omega, show max ((0 : Int) - 1) 0 = 0 by decide, Int.zero_mul]; omega
    have m1 := mul m.Az.Accel hA
    have m2 := mul m.Alt.Accel hB
    have m3 := mul 4194304 (by decide)
    exact ⟨by show sp a.Az ≤ _; omega, by show sp a.Alt ≤ _; omega, by show sp b.Turn ≤ _; omega, by show pot b ≤ _; omega⟩
def cnt (n : Int) (on : Bool) : Int := if on = true then min (n + 1) 17592186044416 else 0
theorem count_eq (k : Nat) (n : Int) (on : Bool) (n0 : 0 ≤ n) (n1 : n ≤ 17592186044416) : guard_count k n on = some (cnt n on) := by
  unfold guard_count cnt
  cases on with
  | true => rw [ifn (by decide), wid (by omega) (by omega), mn_def, if_pos rfl]
  | false => rw [ifp (by decide), if_neg (by decide)]
theorem cnt_ok (n : Int) (on : Bool) (n0 : 0 ≤ n) : 0 ≤ cnt n on ∧ cnt n on ≤ 17592186044416 ∧ decide (cnt n on > 0) = on := by
  unfold cnt
  cases on with
  | true => rw [if_pos rfl]; exact ⟨by omega, by omega, by simp; omega⟩
  | false => rw [if_neg (by decide)]; exact ⟨by decide, by decide, rfl⟩
theorem step_ex (k : Nat) {m : S_Mount} (hm : MOk m) {w : S_World} (h : WS m w) (s : S_Sensors) (hk : 100 ≤ k) :
    ∃ w', guard_Step k m w s = some w' ∧ WS m w' ∧ (w.Mode ≠ 0 → w'.Mode ≠ 0 ∧ (AR w' → w'.Mode = 2) ∧ ∀ r : Int, PW m r w → 0 ≤ r → PW m (max (r - 1) 0) w') := by
  have a1 := h.m0; have a2 := h.m1
  obtain ⟨u1, u2, u3⟩ := cnt_ok w.Hazard (hzb s) h.h0
  obtain ⟨v1, v2, v3⟩ := cnt_ok w.Key s.Key h.k0
  unfold guard_Step
  rw [bnd (wcheck k hm h hk), ifn (by decide), bnd (haz_eq k s), bnd (count_eq k _ _ h.h0 h.h1), bnd (count_eq k _ _ h.k0 h.k1)]
  have e102 : (if w.Mode = 0 then ((guard_Sensors_Hazard k s).bind fun vt91 => (some vt91)) else (some false) : Option Bool) = some (if w.Mode = 0 then hzb s else false) := by
    by_cases c : w.Mode = 0
    · rw [ifp c, if_pos c, bnd (haz_eq k s)]
    · rw [ifn c, if_neg c]
  rw [e102, bnd rfl]
  obtain ⟨w0, hw0⟩ : ∃ w0 : S_World, w0 = ⟨w.Mount, w.Dome, w.Camera, s, w.Aim, w.Mode, cnt w.Hazard (hzb s), cnt w.Key s.Key⟩ := ⟨_, rfl⟩
  have i0 : IW m w0 := by rw [hw0]; exact ⟨h.ms, h.ds, h.cs, h.ex, h.sw⟩
  have p0 : ∀ r, PW m r w → PW m r w0 := fun r p => by rw [hw0]; exact ⟨p.az, p.alt, p.t, p.d⟩
  rw [show (⟨w.Mount, w.Dome, w.Camera, s, (⟨w.Aim.Az, w.Aim.Alt⟩ : S_Pose), w.Mode, cnt w.Hazard (hzb s), cnt w.Key s.Key⟩ : S_World) = w0 from hw0.symm]
  obtain ⟨w1, hw1, i1, m1, q1, p1, f1⟩ : ∃ w1, (if (if w.Mode = 0 then hzb s else false) = true then ((guard_begin k m w0).bind fun vt108 => (some vt108)) else (some w0) : Option S_World) = some w1 ∧ IW m w1 ∧ (w1.Mode = 0 → w.Mode = 0 ∧ hzb s = false) ∧ (w.Mode ≠ 0 → w1.Mode = w.Mode ∧ SW w1 ∧ w1 = w0) ∧ (∀ r, PW m r w → PW m r w1) ∧ (w1.Sensors = s ∧ w1.Hazard = cnt w.Hazard (hzb s) ∧ w1.Key = cnt w.Key s.Key ∧ (w1.Mode = w.Mode ∨ w1.Mode = 1)) := by
    by_cases c : (if w.Mode = 0 then hzb s else false) = true
    · have b := i0.bg
      have wm : w.Mode = 0 := by
        by_cases z : w.Mode = 0
        · exact z
        · rw [if_neg z] at c; cases c
      rw [ifp c, begin_eq k hm i0.ms i0.ds i0.cs hk]
      exact ⟨_, rfl, b.1, fun z => (by cases z), fun z => absurd wm z, fun r p => (p0 r p).bg i0.ms, by rw [hw0]; rfl, by rw [hw0]; rfl, by rw [hw0]; rfl, .inr rfl⟩
    · rw [ifn c]
      refine ⟨_, rfl, i0, fun z => ?_, fun z => ?_, p0, by rw [hw0], by rw [hw0], by rw [hw0], .inl (by rw [hw0])⟩
      · have z : w.Mode = 0 := by rw [hw0] at z; exact z
        rw [if_pos z] at c
        exact ⟨z, by simpa using c⟩
      · exact ⟨by rw [hw0], i0.sw (by rw [hw0]; exact z), rfl⟩
  rw [hw1, bnd rfl]
  obtain ⟨w2, hw2, i2, p2, f2⟩ : ∃ w2, (if s.Key = true then ((guard_lock k m w1).bind fun vt131 => (some vt131)) else (some w1) : Option S_World) = some w2 ∧ IW m w2 ∧ (∀ r, PW m r w1 → PW m r w2) ∧ (w2.Sensors = w1.Sensors ∧ w2.Hazard = w1.Hazard ∧ w2.Key = w1.Key ∧ w2.Mode = w1.Mode) := by
    by_cases c : s.Key = true
    · rw [ifp c, lock_eq k hm i1.ms i1.ds i1.cs hk]
      exact ⟨_, rfl, i1.lk, fun r p => p.lk i1.ms, rfl, rfl, rfl, rfl⟩
    · rw [ifn c]; exact ⟨_, rfl, i1, fun r p => p, rfl, rfl, rfl, rfl⟩
  rw [hw2, bnd rfl]
  obtain ⟨a, b, c, e1, e2, e3, d1, d2, d3, d4, d5, d6⟩ := devices k hm i2 hk
  rw [bnd e1, bnd e2, bnd e3]
  obtain ⟨x1, x2, x3, x4⟩ := f2
  obtain ⟨y1, y2, y3, y4⟩ := f1
  have fin : ∀ md : Int, (md = w2.Mode ∨ (md = 2 ∧ w2.Mode = 1)) → (md = 2 → w2.Mode = 1 → AR ⟨a, b, c, w2.Sensors, ⟨w2.Aim.Az, w2.Aim.Alt⟩, md, w2.Hazard, w2.Key⟩) → (AR ⟨a, b, c, w2.Sensors, ⟨w2.Aim.Az, w2.Aim.Alt⟩, md, w2.Hazard, w2.Key⟩ → md = 1 → False) →
      WS m ⟨a, b, c, w2.Sensors, ⟨w2.Aim.Az, w2.Aim.Alt⟩, md, w2.Hazard, w2.Key⟩ ∧ (w.Mode ≠ 0 → md ≠ 0 ∧ (AR ⟨a, b, c, w2.Sensors, ⟨w2.Aim.Az, w2.Aim.Alt⟩, md, w2.Hazard, w2.Key⟩ → md = 2) ∧ ∀ r : Int, PW m r w → 0 ≤ r → PW m (max (r - 1) 0) ⟨a, b, c, w2.Sensors, ⟨w2.Aim.Az, w2.Aim.Alt⟩, md, w2.Hazard, w2.Key⟩) := by
    intro md h1 h2 h3
    have sw2 : w2.Mode ≠ 0 → SW w2 := i2.sw
    refine ⟨⟨d1, d2, d3, by dsimp only; omega, by dsimp only; omega, by dsimp only; omega, by dsimp only; omega, by dsimp only; omega, by dsimp only; omega, d4 _ _ _ _ _, ?_, ?_, fun z => ?_, fun z => ?_, fun z => ?_⟩, fun z => ⟨?_, fun r => ?_, fun r p r0 => ?_⟩⟩
    · dsimp only; rw [x2, y2, u3, x1, y1]
    · dsimp only; rw [x3, y3, v3, x1, y1]
    · have z : md = 0 := z
      have q := (m1 (by omega)).2
      dsimp only; rw [x2, y2]; unfold cnt; rw [if_neg (by rw [q]; decide)]
    · have z : md = 2 := z
      rcases h1 with h1 | ⟨_, h1⟩
      ·
        have wm : w.Mode = 2 := by omega
        obtain ⟨_, _, _⟩ := q1 (by omega)
        have pr := p2 0 (p1 0 (h.ar wm).pw)
        have := d6 (sw2 (by omega)) 0 pr (by decide) w2.Sensors ⟨w2.Aim.Az, w2.Aim.Alt⟩ md w2.Hazard w2.Key
        rw [show max ((0 : Int) - 1) 0 = 0 by decide] at this
        exact PW.rest (m := m) this d2 (d5 (sw2 (by omega)) w2.Sensors ⟨w2.Aim.Az, w2.Aim.Alt⟩ md w2.Hazard w2.Key).2.2.2.2
      · exact h2 z h1
    · have z : md ≠ 0 := z
      exact d5 (sw2 (by omega)) _ _ _ _ _
    · obtain ⟨q, _, _⟩ := q1 z
      omega
    · by_cases md2 : md = 2
      · exact md2
      · obtain ⟨q, _, _⟩ := q1 z
        exact (h3 r (by omega)).elim
    · obtain ⟨q, _, _⟩ := q1 z
      exact d6 (sw2 (by omega)) r (p2 r (p1 r p)) r0 _ _ _ _ _
  by_cases c1 : w2.Mode = 1
  · rw [ifp c1, bnd (atrest_eq k _)]
    by_cases ar : AR ⟨a, b, c, w2.Sensors, ⟨w2.Aim.Az, w2.Aim.Alt⟩, w2.Mode, w2.Hazard, w2.Key⟩
    · rw [decide_eq_true ar, ifp rfl]
      obtain ⟨r1, r2⟩ := fin 2 (.inr ⟨rfl, c1⟩) (fun _ _ => ar) (fun _ z => by cases z)
      exact ⟨_, rfl, r1, r2⟩
    · rw [decide_eq_false ar, ifn (by decide)]
      obtain ⟨r1, r2⟩ := fin w2.Mode (.inl rfl) (fun z z' => by omega) (fun r _ => ar r)
      exact ⟨_, rfl, r1, r2⟩
  · rw [ifn c1]
    obtain ⟨r1, r2⟩ := fin w2.Mode (.inl rfl) (fun z z' => absurd z' c1) (fun _ z => c1 z)
    exact ⟨_, rfl, r1, r2⟩
theorem WS.mnt {m : S_Mount} {w : S_World} (h : WS m w) (h0 : w.Mode = 0) {a : S_State2} (ha : MS m a) (hx : w.Camera.Mode = 1 → a.Mode = 3) : WS m ⟨a, w.Dome, w.Camera, w.Sensors, w.Aim, w.Mode, w.Hazard, w.Key⟩ :=
  ⟨ha, h.ds, h.cs, h.m0, h.m1, h.h0, h.h1, h.k0, h.k1, fun z => ⟨hx z, (h.ex z).2⟩, h.hs, h.ks, h.rn, fun z => absurd (show w.Mode = 2 from z) (by omega), fun z => absurd h0 z⟩
theorem WS.dom {m : S_Mount} {w : S_World} (h : WS m w) (h0 : w.Mode = 0) {d : S_State3} (hd : DS d) (hx : w.Camera.Mode = 1 → d.Shutter = 100 ∧ d.Cover = 20 ∧ d.Open = true ∧ d.Lift = true) : WS m ⟨w.Mount, d, w.Camera, w.Sensors, w.Aim, w.Mode, w.Hazard, w.Key⟩ :=
  ⟨h.ms, hd, h.cs, h.m0, h.m1, h.h0, h.h1, h.k0, h.k1, fun z => ⟨(h.ex z).1, hx z⟩, h.hs, h.ks, h.rn, fun z => absurd (show w.Mode = 2 from z) (by omega), fun z => absurd h0 z⟩
theorem WS.cam {m : S_Mount} {w : S_World} (h : WS m w) {c : S_State4} (hc : CS c) (h1 : c.Mode ≠ 1) : WS m ⟨w.Mount, w.Dome, c, w.Sensors, w.Aim, w.Mode, w.Hazard, w.Key⟩ :=
  ⟨h.ms, h.ds, hc, h.m0, h.m1, h.h0, h.h1, h.k0, h.k1, fun z => absurd z h1, h.hs, h.ks, h.rn, fun z => by obtain ⟨a, b, c, _, d, e⟩ := h.ar z; exact ⟨a, b, c, h1, d, e⟩, fun z => by obtain ⟨a, b, c, d, _⟩ := h.sw z; exact ⟨a, b, c, d, h1⟩⟩
theorem WS.aim {m : S_Mount} {w : S_World} (h : WS m w) (p : S_Pose) : WS m ⟨w.Mount, w.Dome, w.Camera, w.Sensors, p, w.Mode, w.Hazard, w.Key⟩ :=
  ⟨h.ms, h.ds, h.cs, h.m0, h.m1, h.h0, h.h1, h.k0, h.k1, h.ex, h.hs, h.ks, h.rn, h.ar, h.sw⟩
theorem WS.close {m : S_Mount} {w : S_World} (h : WS m w) (h1 : w.Camera.Mode ≠ 1) : WS m ⟨w.Mount, ⟨w.Dome.Shutter, w.Dome.Cover, false, false, w.Dome.Turn⟩, w.Camera, w.Sensors, w.Aim, w.Mode, w.Hazard, w.Key⟩ :=
  ⟨h.ms, h.ds.set false false, h.cs, h.m0, h.m1, h.h0, h.h1, h.k0, h.k1, fun z => absurd z h1, h.hs, h.ks, h.rn, h.ar, fun z => by obtain ⟨a, b, _, _, e⟩ := h.sw z; exact ⟨a, b, rfl, rfl, e⟩⟩
theorem stM_speed (s : S_State2) : (stM s).Az.Speed = s.Az.Speed ∧ (stM s).Alt.Speed = s.Alt.Speed := by
  unfold stM
  by_cases c : s.Mode = 0
  · rw [if_pos c]; exact ⟨rfl, rfl⟩
  · rw [if_neg c]; exact ⟨rfl, rfl⟩
theorem WS.halt {m : S_Mount} {w : S_World} (h : WS m w) (h1 : w.Camera.Mode ≠ 1) : WS m ⟨stM w.Mount, ⟨w.Dome.Shutter, w.Dome.Cover, w.Dome.Open, w.Dome.Lift, hlt w.Dome.Turn⟩, w.Camera, w.Sensors, w.Aim, w.Mode, w.Hazard, w.Key⟩ := by
  have s := h.ms.st
  have t := stM_speed w.Mount
  exact ⟨s.1, h.ds.brk, h.cs, h.m0, h.m1, h.h0, h.h1, h.k0, h.k1, fun z => absurd z h1, h.hs, h.ks, h.rn, fun z => by obtain ⟨a, b, c, _, d, e⟩ := h.ar z; exact ⟨t.1.trans a, t.2.trans b, c, h1, d, e⟩, fun z => by obtain ⟨_, _, o, l, e⟩ := h.sw z; exact ⟨s.2.1, .inl rfl, o, l, e⟩⟩
theorem WS.bg {m : S_Mount} {w : S_World} (h : WS m w) : WS m (bg w) := by
  have b := (IW.mk h.ms h.ds h.cs h.ex h.sw).bg
  exact ⟨b.1.ms, b.1.ds, b.1.cs, (by decide : (0 : Int) ≤ 1), (by decide : (1 : Int) ≤ 2), h.h0, h.h1, h.k0, h.k1, b.1.ex, h.hs, h.ks, fun z => (by cases z), fun z => (by cases z), fun _ => b.2⟩
def PF (w : S_World) (kd : Int) : Prop := ((kd = 2 ∨ kd = 3 ∨ kd = 4 ∨ kd = 6 ∨ kd = 8 ∨ kd = 9) → w.Mode = 0) ∧ (kd = 13 → w.Mode = 2 ∧ w.Hazard = 0)
theorem kinds {kd : Int} (h0 : 0 ≤ kd) (h1 : kd < 14) : kd = 0 ∨ kd = 1 ∨ kd = 2 ∨ kd = 3 ∨ kd = 4 ∨ kd = 5 ∨ kd = 6 ∨ kd = 7 ∨ kd = 8 ∨ kd = 9 ∨ kd = 10 ∨ kd = 11 ∨ kd = 12 ∨ kd = 13 := by omega
theorem perm_ex (k : Nat) (w : S_World) {kd : Int} (h0 : 0 ≤ kd) (h1 : kd < 14) : ∃ b, guard_permitted k w kd = some b ∧ (b = true → PF w kd) ∧ (kd = 12 → b = true) := by
  have run : ∀ kk : Int, kk ≠ 13 → kk ≠ 12 → guard_permitted k w kk = (if w.Mode = 0 then (some (w.Key == 0)) else (some false)) → ∃ b, guard_permitted k w kk = some b ∧ (b = true → PF w kk) ∧ (kk = 12 → b = true) := by
    intro kk k1 k2 e
    rw [e]
    by_cases c : w.Mode = 0
    · rw [ifp c]; exact ⟨_, rfl, fun _ => ⟨fun _ => c, fun z => absurd z k1⟩, fun z => absurd z k2⟩
    · rw [ifn c]; exact ⟨_, rfl, fun z => (by cases z), fun z => absurd z k2⟩
  rcases kinds h0 h1 with rfl | rfl | rfl | rfl | rfl | rfl | rfl | rfl | rfl | rfl | rfl | rfl | rfl | rfl
  · exact ⟨true, rfl, fun _ => ⟨fun z => by omega, fun z => by omega⟩, fun _ => rfl⟩
  · exact ⟨true, rfl, fun _ => ⟨fun z => by omega, fun z => by omega⟩, fun _ => rfl⟩
  · exact run 2 (by decide) (by decide) rfl
  · exact run 3 (by decide) (by decide) rfl
  · exact run 4 (by decide) (by decide) rfl
  · exact ⟨true, rfl, fun _ => ⟨fun z => by omega, fun z => by omega⟩, fun _ => rfl⟩
  · refine ⟨w.Mode == 0, rfl, fun z => ⟨fun _ => by simpa using z, fun z => by omega⟩, fun z => by omega⟩
  · exact ⟨true, rfl, fun _ => ⟨fun z => by omega, fun z => by omega⟩, fun _ => rfl⟩
  · exact run 8 (by decide) (by decide) rfl
  · exact run 9 (by decide) (by decide) rfl
  · exact ⟨true, rfl, fun _ => ⟨fun z => by omega, fun z => by omega⟩, fun _ => rfl⟩
  · exact ⟨true, rfl, fun _ => ⟨fun z => by omega, fun z => by omega⟩, fun _ => rfl⟩
  · exact ⟨true, rfl, fun _ => ⟨fun z => by omega, fun z => by omega⟩, fun _ => rfl⟩
  · have e : guard_permitted k w 13 = (if w.Mode = 2 then (some (w.Hazard == 0)) else (some false)) := rfl
    rw [e]
    by_cases c : w.Mode = 2
    · rw [ifp c]; exact ⟨_, rfl, fun z => ⟨fun z => by omega, fun _ => ⟨c, by simpa using z⟩⟩, fun z => by omega⟩
    · rw [ifn c]; exact ⟨_, rfl, fun z => (by cases z), fun z => by omega⟩
def OK (m : S_Mount) (w : S_World) (kd : Int) (w' : S_World) (e : Int) : Prop :=
  (e = 0 → WS m w' ∧ (w.Mode ≠ 0 → kd ≠ 13 → w'.Mode ≠ 0 ∧ ∀ r, PW m r w → PW m r w')) ∧ (kd = 12 → e = 0 ∧ w'.Mode ≠ 0 ∧ ∀ r, PW m r w → PW m r w')
theorem expose_ex (k : Nat) {m : S_Mount} {w : S_World} (h : WS m w) (h0 : w.Mode = 0) (b : Int) : ∃ w' e, guard_expose k w b = some (w', e) ∧ (e = 0 → WS m w') := by
  unfold guard_expose
  have t24 : ∃ t, (if b < 1 then (some true) else (some (decide (b > 16))) : Option Bool) = some t ∧ (t = false → 1 ≤ b ∧ b ≤ 16) := by
    by_cases c : b < 1
    · rw [ifp c]; exact ⟨_, rfl, fun z => by cases z⟩
    · rw [ifn c]; exact ⟨_, rfl, fun z => by simp at z; omega⟩
  obtain ⟨t, e1, ht⟩ := t24
  rw [e1, bnd rfl]
  cases t with
  | true => rw [ifp rfl]; exact ⟨_, _, rfl, fun z => by cases z⟩
  | false =>
    obtain ⟨b0, b1⟩ := ht rfl
    rw [ifn (by decide)]
    have cov : ∃ v, dome_Covers k w.Dome w.Mount.Az.At = some v := by
      unfold dome_Covers
      repeat' split
      all_goals exact ⟨_, rfl⟩
    have clr : ∃ v, dome_Clear k w.Dome = some v ∧ (v = true → w.Dome.Shutter = 100 ∧ w.Dome.Cover = 20 ∧ w.Dome.Open = true ∧ w.Dome.Lift = true) := by
      unfold dome_Clear
      by_cases a1 : w.Dome.Shutter = 100
      · rw [ifp a1]
        by_cases a2 : w.Dome.Cover = 20
        · rw [ifp a2]
          by_cases a3 : w.Dome.Open = true
          · rw [ifp a3]; exact ⟨_, rfl, fun z => ⟨a1, a2, a3, z⟩⟩
          · rw [ifn a3]; exact ⟨_, rfl, fun z => by cases z⟩
        · rw [ifn a2]; exact ⟨_, rfl, fun z => by cases z⟩
      · rw [ifn a1]; exact ⟨_, rfl, fun z => by cases z⟩
    obtain ⟨v1, e2⟩ := cov
    obtain ⟨v2, e3, hv⟩ := clr
    have t58 : ∃ t, (if w.Mount.Mode ≠ 3 then (some true) else ((dome_Clear k w.Dome).bind fun vt40 => (if ¬ (vt40 = true) then (some true) else ((dome_Covers k w.Dome w.Mount.Az.At).bind fun vt47 => (some (!vt47))))) : Option Bool) = some t ∧ (t = false → w.Mount.Mode = 3 ∧ v2 = true) := by
      by_cases c : w.Mount.Mode ≠ 3
      · rw [ifp c]; exact ⟨_, rfl, fun z => by cases z⟩
      · rw [ifn c, bnd e3]
        cases v2 with
        | true => rw [ifn (by decide), bnd e2]; exact ⟨_, rfl, fun _ => ⟨by omega, rfl⟩⟩
        | false => rw [ifp (by decide)]; exact ⟨_, rfl, fun z => by cases z⟩
    obtain ⟨t, e4, ht⟩ := t58
    rw [e4, bnd rfl]
    cases t with
    | true => rw [ifp rfl]; exact ⟨_, _, rfl, fun z => by cases z⟩
    | false =>
      obtain ⟨md, hv2⟩ := ht rfl
      obtain ⟨x1, x2, x3, x4⟩ := hv hv2
      obtain ⟨c', e, e5, e6⟩ := cexpose k h.cs b0 b1
      rw [ifn (by decide), bnd e5]
      exact ⟨_, _, rfl, fun z => ⟨h.ms, h.ds, e6 z, h.m0, h.m1, h.h0, h.h1, h.k0, h.k1, fun _ => ⟨md, x1, x2, x3, x4⟩, h.hs, h.ks, h.rn, fun q => absurd (show w.Mode = 2 from q) (by omega), fun q => absurd h0 q⟩⟩
theorem carry_ex (k : Nat) {m : S_Mount} (hm : MOk m) {w : S_World} (h : WS m w) (o : S_Order) (h0 : 0 ≤ o.Kind) (h1 : o.Kind < 14) (pf : PF w o.Kind) (bz : w.Camera.Mode = 1 → ¬ (o.Kind = 2 ∨ o.Kind = 4 ∨ o.Kind = 5 ∨ o.Kind = 7 ∨ o.Kind = 8)) (hk : 100 ≤ k) :
    ∃ w' e, guard_carry k m w o = some (w', e) ∧ OK m w o.Kind w' e := by
  obtain ⟨kd, arg⟩ := o
  dsimp only at h0 h1 pf bz ⊢
  have m0 : ∀ {kk : Int} {w' : S_World} {e : Int}, kk ≠ 12 → w.Mode = 0 → (e = 0 → WS m w') → OK m w kk w' e := fun n z q => ⟨fun x => ⟨q x, fun y => absurd z y⟩, fun x => absurd x n⟩
  unfold guard_carry
  dsimp only
  rcases kinds h0 h1 with rfl | rfl | rfl | rfl | rfl | rfl | rfl | rfl | rfl | rfl | rfl | rfl | rfl | rfl
  · rw [bnd (v := true) (by rfl), ifp rfl]
    by_cases c1 : arg < -17179869184
    · rw [ifp c1]; exact ⟨_, _, rfl, fun z => (by cases z), fun z => by omega⟩
    · rw [ifn c1]
      by_cases c2 : arg > 17179869184
      · rw [ifp c2]; exact ⟨_, _, rfl, fun z => (by cases z), fun z => by omega⟩
      · rw [ifn c2]
        exact ⟨_, _, rfl, fun _ => ⟨h.aim _, fun z _ => ⟨z, fun r p => ⟨p.az, p.alt, p.t, p.d⟩⟩⟩, fun z => by omega⟩
  · rw [bnd (v := true) (by rfl), ifp rfl]
    by_cases c1 : arg < -17179869184
    · rw [ifp c1]; exact ⟨_, _, rfl, fun z => (by cases z), fun z => by omega⟩
    · rw [ifn c1]
      by_cases c2 : arg > 17179869184
      · rw [ifp c2]; exact ⟨_, _, rfl, fun z => (by cases z), fun z => by omega⟩
      · rw [ifn c2]
        exact ⟨_, _, rfl, fun _ => ⟨h.aim _, fun z _ => ⟨z, fun r p => ⟨p.az, p.alt, p.t, p.d⟩⟩⟩, fun z => by omega⟩
  · have md := pf.1 (.inl rfl)
    obtain ⟨s', e, e1, e2⟩ := mgoto k hm h.ms ⟨w.Aim.Az, w.Aim.Alt⟩ hk
    rw [bnd (v := false) (by rfl), ifn (by decide), ifp rfl, bnd e1]
    exact ⟨_, _, rfl, m0 (by decide) md fun z => h.mnt md (e2 z) fun x => absurd (.inl rfl) (bz x)⟩
  · have md := pf.1 (.inr (.inl rfl))
    obtain ⟨s', e, e1, e2⟩ := mfollow k hm h.ms ⟨w.Aim.Az, w.Aim.Alt⟩ hk
    rw [bnd (v := false) (by rfl), ifn (by decide), ifn (by decide), ifp rfl, bnd e1]
    exact ⟨_, _, rfl, m0 (by decide) md fun z => h.mnt md (e2 z).1 fun _ => (e2 z).2⟩
  · have md := pf.1 (.inr (.inr (.inl rfl)))
    obtain ⟨s', e, e1, e2⟩ := mpark k hm h.ms hk
    rw [bnd (v := false) (by rfl), ifn (by decide), ifn (by decide), ifn (by decide), ifp rfl, bnd e1]
    exact ⟨_, _, rfl, m0 (by decide) md fun z => h.mnt md (e2 z) fun x => absurd (.inr (.inl rfl)) (bz x)⟩
  · have nc : w.Camera.Mode ≠ 1 := fun x => bz x (.inr (.inr (.inl rfl)))
    rw [bnd (v := false) (by rfl), ifn (by decide), ifn (by decide), ifn (by decide), ifn (by decide), ifp rfl, bnd (mstop_eq k hm h.ms hk)]; dsimp only
    rw [bnd (dbrake_eq k h.ds hk)]
    have st := h.ms.st
    exact ⟨_, _, rfl, fun _ => ⟨h.halt nc, fun z _ => ⟨z, fun r p => ⟨by have := st.2.2.1; have := p.az; show sp (stM w.Mount).Az ≤ _; omega, by have := st.2.2.2; have := p.alt; show sp (stM w.Mount).Alt ≤ _; omega, p.t, p.d⟩⟩⟩, fun z => by omega⟩
  · have md := pf.1 (.inr (.inr (.inr (.inl rfl))))
    rw [bnd (v := false) (by rfl), ifn (by decide), ifn (by decide), ifn (by decide), ifn (by decide), ifn (by decide), bnd (v := true) (by rfl), ifp rfl, bnd (dset_eq k h.ds _ _ hk)]
    exact ⟨_, _, rfl, m0 (by decide) md fun _ => h.dom md (h.ds.set _ _) fun x => ⟨(h.ex x).2.1, (h.ex x).2.2.1, rfl, rfl⟩⟩
  · have nc : w.Camera.Mode ≠ 1 := fun x => bz x (.inr (.inr (.inr (.inl rfl))))
    rw [bnd (v := false) (by rfl), ifn (by decide), ifn (by decide), ifn (by decide), ifn (by decide), ifn (by decide), bnd (v := true) (by rfl), ifp rfl, bnd (dset_eq k h.ds _ _ hk)]
    exact ⟨_, _, rfl, fun _ => ⟨h.close nc, fun z _ => ⟨z, fun r p => ⟨p.az, p.alt, p.t, p.d⟩⟩⟩, fun z => by omega⟩
  · have md := pf.1 (.inr (.inr (.inr (.inr (.inl rfl)))))
    obtain ⟨d', e1, e2⟩ := drotate k h.ds arg hk
    rw [bnd (v := false) (by rfl), ifn (by decide), ifn (by decide), ifn (by decide), ifn (by decide), ifn (by decide), bnd (v := false) (by rfl), ifn (by decide), ifp rfl, bnd e1]
    exact ⟨_, _, rfl, m0 (by decide) md fun _ => h.dom md e2 fun x => absurd (.inr (.inr (.inr (.inr rfl)))) (bz x)⟩
  · have md := pf.1 (.inr (.inr (.inr (.inr (.inr rfl)))))
    obtain ⟨w', e, e1, e2⟩ := expose_ex k h md arg
    rw [bnd (v := false) (by rfl), ifn (by decide), ifn (by decide), ifn (by decide), ifn (by decide), ifn (by decide), bnd (v := false) (by rfl), ifn (by decide), ifn (by decide), ifp rfl, bnd e1]
    exact ⟨_, _, rfl, m0 (by decide) md e2⟩
  · rw [bnd (v := false) (by rfl), ifn (by decide), ifn (by decide), ifn (by decide), ifn (by decide), ifn (by decide), bnd (v := false) (by rfl), ifn (by decide), ifn (by decide), ifn (by decide), ifp rfl, cabort k h.cs]
    by_cases c : w.Camera.Mode = 1
    · rw [if_pos c]
      exact ⟨_, _, rfl, fun _ => ⟨h.cam h.cs.zero (fun z => by cases z), fun z _ => ⟨z, fun r p => ⟨p.az, p.alt, p.t, p.d⟩⟩⟩, fun z => by omega⟩
    · rw [if_neg c]
      exact ⟨_, _, rfl, fun z => (by cases z), fun z => by omega⟩
  · obtain ⟨c', a, b, e, e1, e2⟩ := cfetch k h.cs
    rw [bnd (v := false) (by rfl), ifn (by decide), ifn (by decide), ifn (by decide), ifn (by decide), ifn (by decide), bnd (v := false) (by rfl), ifn (by decide), ifn (by decide), ifn (by decide), ifn (by decide), ifp rfl, bnd e1]
    exact ⟨_, _, rfl, fun x => ⟨h.cam (e2 x).1 (e2 x).2, fun z _ => ⟨z, fun r p => ⟨p.az, p.alt, p.t, p.d⟩⟩⟩, fun z => by omega⟩
  · rw [bnd (v := false) (by rfl), ifn (by decide), ifn (by decide), ifn (by decide), ifn (by decide), ifn (by decide), bnd (v := false) (by rfl), ifn (by decide), ifn (by decide), ifn (by decide), ifn (by decide), ifn (by decide), ifp rfl]
    by_cases c : w.Mode = 0
    · rw [ifp c, begin_eq k hm h.ms h.ds h.cs hk]
      exact ⟨_, _, rfl, fun _ => ⟨h.bg, fun z => absurd c z⟩, fun _ => ⟨rfl, fun z => (by cases z), fun r p => p.bg h.ms⟩⟩
    · rw [ifn c]
      exact ⟨_, _, rfl, fun _ => ⟨h, fun z _ => ⟨z, fun r p => p⟩⟩, fun _ => ⟨rfl, c, fun r p => p⟩⟩
  · obtain ⟨a, b⟩ := pf.2 rfl
    obtain ⟨_, _, _, nc, _⟩ := h.ar a
    rw [bnd (v := false) (by rfl), ifn (by decide), ifn (by decide), ifn (by decide), ifn (by decide), ifn (by decide), bnd (v := false) (by rfl), ifn (by decide), ifn (by decide), ifn (by decide), ifn (by decide), ifn (by decide), ifn (by decide), ifp rfl]
    exact ⟨_, _, rfl, fun _ => ⟨⟨h.ms, h.ds, h.cs, Int.le_refl 0, (by decide : (0 : Int) ≤ 2), h.h0, h.h1, h.k0, h.k1, fun z => absurd z nc, h.hs, h.ks, fun _ => b, fun z => (by cases z), fun z => absurd rfl z⟩, fun _ z => absurd rfl z⟩, fun z => by omega⟩
theorem give_ex (k : Nat) {m : S_Mount} (hm : MOk m) {w : S_World} (h : WS m w) (o : S_Order) (hk : 100 ≤ k) :
    ∃ w' e, guard_Give k m w o = some (w', e) ∧ (e = 0 → WS m w' ∧ (w.Mode ≠ 0 → o.Kind ≠ 13 → w'.Mode ≠ 0 ∧ ∀ r, PW m r w → PW m r w')) ∧ (o.Kind = 12 → o.Arg = 0 → e = 0 ∧ w'.Mode ≠ 0 ∧ ∀ r, PW m r w → PW m r w') := by
  unfold guard_Give
  rw [bnd (wcheck k hm h hk), ifn (by decide)]
  have uses : ∃ u, guard_uses k o.Kind = some u ∧ (o.Kind = 12 → u = false) := by
    unfold guard_uses
    by_cases c0 : o.Kind = 0
    · rw [ifp c0]; exact ⟨_, rfl, fun z => by omega⟩
    · rw [ifn c0]
      by_cases c1 : o.Kind = 1
      · rw [ifp c1]; exact ⟨_, rfl, fun z => by omega⟩
      · rw [ifn c1]
        by_cases c8 : o.Kind = 8
        · rw [ifp c8]; exact ⟨_, rfl, fun z => by omega⟩
        · rw [ifn c8]; exact ⟨_, rfl, fun z => by rw [z]; rfl⟩
  obtain ⟨u, e1, hu⟩ := uses
  have t57 : ∃ t, (if o.Kind < 0 then (some true) else (if o.Kind ≥ 14 then (some true) else ((guard_uses k o.Kind).bind fun vt45 => (if ¬ (vt45 = true) then (some (o.Arg != 0)) else (some false)))) : Option Bool) = some t ∧ (t = false → 0 ≤ o.Kind ∧ o.Kind < 14) ∧ (o.Kind = 12 → o.Arg = 0 → t = false) := by
    by_cases c : o.Kind < 0
    · rw [ifp c]; exact ⟨_, rfl, fun z => (by cases z), fun z => by omega⟩
    · rw [ifn c]
      by_cases d : o.Kind ≥ 14
      · rw [ifp d]; exact ⟨_, rfl, fun z => (by cases z), fun z => by omega⟩
      · rw [ifn d, bnd e1]
        cases u with
        | true => rw [ifn (by decide)]; exact ⟨_, rfl, fun _ => ⟨by omega, by omega⟩, fun z => (by have := hu z; cases this)⟩
        | false => rw [ifp (by decide)]; exact ⟨_, rfl, fun _ => ⟨by omega, by omega⟩, fun _ z => by rw [z]; rfl⟩
  obtain ⟨t, e2, ht, ht2⟩ := t57
  rw [e2, bnd rfl]
  cases t with
  | true => rw [ifp rfl]; exact ⟨_, _, rfl, fun z => (by cases z), fun z z' => (by have := ht2 z z'; cases this)⟩
  | false =>
    obtain ⟨h0, h1⟩ := ht rfl
    obtain ⟨b, e3, hb, hb2⟩ := perm_ex k w h0 h1
    rw [ifn (by decide), bnd e3]
    cases b with
    | false => rw [ifp (by decide)]; exact ⟨_, _, rfl, fun z => (by cases z), fun z => (by have := hb2 z; cases this)⟩
    | true =>
      rw [ifn (by decide)]
      have t100 : ∃ t, (if w.Camera.Mode = 1 then (if o.Kind = 2 then (some true) else (if o.Kind = 4 then (some true) else (if o.Kind = 5 then (some true) else (if o.Kind = 7 then (some true) else (some (o.Kind == 8)))))) else (some false) : Option Bool) = some t ∧ (t = false → w.Camera.Mode = 1 → ¬ (o.Kind = 2 ∨ o.Kind = 4 ∨ o.Kind = 5 ∨ o.Kind = 7 ∨ o.Kind = 8)) ∧ (o.Kind = 12 → t = false) := by
        by_cases c : w.Camera.Mode = 1
        · rw [ifp c]
          by_cases c2 : o.Kind = 2
          · rw [ifp c2]; exact ⟨_, rfl, fun z => (by cases z), fun z => by omega⟩
          · rw [ifn c2]
            by_cases c4 : o.Kind = 4
            · rw [ifp c4]; exact ⟨_, rfl, fun z => (by cases z), fun z => by omega⟩
            · rw [ifn c4]
              by_cases c5 : o.Kind = 5
              · rw [ifp c5]; exact ⟨_, rfl, fun z => (by cases z), fun z => by omega⟩
              · rw [ifn c5]
                by_cases c7 : o.Kind = 7
                · rw [ifp c7]; exact ⟨_, rfl, fun z => (by cases z), fun z => by omega⟩
                · rw [ifn c7]; exact ⟨_, rfl, fun z _ => by simp at z; omega, fun z => by rw [z]; rfl⟩
        · rw [ifn c]; exact ⟨_, rfl, fun _ z => absurd z c, fun _ => rfl⟩
      obtain ⟨t, e4, ht3, ht4⟩ := t100
      rw [e4, bnd rfl]
      cases t with
      | true => rw [ifp rfl]; exact ⟨_, _, rfl, fun z => (by cases z), fun z => (by have := ht4 z; cases this)⟩
      | false =>
        obtain ⟨w', e, e5, ok1, ok2⟩ := carry_ex k hm h o h0 h1 (hb rfl) (ht3 rfl) hk
        rw [ifn (by decide), bnd e5]; dsimp only
        by_cases c : e ≠ 0
        · rw [ifp c]; exact ⟨_, _, rfl, fun z => absurd z c, fun z => absurd (ok2 z).1 c⟩
        · rw [ifn c]
          have c : e = 0 := by omega
          exact ⟨_, _, rfl, fun _ => ok1 c, fun z _ => ⟨rfl, (ok2 z).2⟩⟩
theorem rd_at' {α : Type} [Inhabited α] {pre post : List α} {x : α} {i : Int} (hi : i = (pre.length : Int)) : rd (pre ++ x :: post) i = x := by
  obtain ⟨g, e⟩ := rd_lt (xs := pre ++ x :: post) (i := i) (by omega) (by simp; omega)
  rw [e, List.getElem_append_right (by omega)]
  simp [hi]
theorem rest_ok {a : S_Axis} (h : AxOk a) {p : Int} (hp : a.Min ≤ p ∧ p ≤ a.Max) : AxS a (rest p) := by
  have h6 := h.s0
  exact ⟨hp.1, hp.2, hp.1, hp.2, by show -a.Speed ≤ 0; omega, by show (0 : Int) ≤ a.Speed; omega, fun z => absurd (show (0 : Int) < 0 from z) (by decide), fun _ => by
    have hA := h.a0
    show p + S a.Accel 0 ≤ a.Max
    rw [S_low (by omega)]; omega⟩
def st0 (m : S_Mount) : S_World := ⟨⟨rest m.Park.Az, rest m.Park.Alt, 0⟩, ⟨0, 0, false, false, rest 0⟩, ⟨0, 0, 0, 0⟩, ⟨false, false, false, false, false⟩, ⟨0, 0⟩, 2, 0, 0⟩
theorem start_eq (k : Nat) (m : S_Mount) : guard_Start k m = some (st0 m) := rfl
theorem start_ok {m : S_Mount} (h : MOk m) : WS m (st0 m) where
  ms := ⟨rest_ok h.az h.p, rest_ok h.alt h.q, .inl ⟨rfl, rfl, rfl⟩⟩
  ds := ⟨Int.le_refl 0, (by decide : (0 : Int) ≤ 100), Int.le_refl 0, (by decide : (0 : Int) ≤ 20), fun z => absurd (show (0 : Int) < 0 from z) (by decide), rest_ok dax_ok (by decide)⟩
  cs := ⟨Int.le_refl 0, (by decide : (0 : Int) ≤ 1073741824), Int.le_refl 0, (by decide : (0 : Int) ≤ 16), .inl ⟨rfl, rfl, rfl⟩⟩
  m0 := (by decide : (0 : Int) ≤ 2)
  m1 := Int.le_refl 2
  h0 := Int.le_refl 0
  h1 := (by decide : (0 : Int) ≤ 17592186044416)
  k0 := Int.le_refl 0
  k1 := (by decide : (0 : Int) ≤ 17592186044416)
  ex := fun z => by cases z
  hs := rfl
  ks := rfl
  rn := fun _ => rfl
  ar := fun _ => ⟨rfl, rfl, rfl, fun z => (by cases z), rfl, rfl⟩
  sw := fun _ => ⟨.inl rfl, .inr ⟨rfl, rfl, rfl⟩, rfl, rfl, fun z => (by cases z)⟩
theorem grun_l1 (k : Nat) {m : S_Mount} (hm : MOk m) (l : List S_Input) (x : Int) (O : List S_Order) (hO : (rd l x).Orders = O) (hk : 100 ≤ k) (hB : O.length ≤ 1000000000000) : ∀ (Q P : List S_Order) (n : Nat) (es : List Int) (i : Int) (w : S_World), i = (P.length : Int) → O = P ++ Q → Q.length < n → es.length + Q.length ≤ 10000000000000 → WS m w →
    ∃ es' w', guard_Run.l1 k l x m n es i w = some (es', w') ∧ WS m w' ∧ es'.length ≤ es.length + Q.length := by
  intro Q
  induction Q with
  | nil =>
    intro P n es i w hi hP hn hl hw
    obtain ⟨n, rfl⟩ : ∃ q, n = q + 1 := ⟨n - 1, by omega⟩
    rw [List.append_nil] at hP
    rw [guard_Run.l1, hO, ifn (by rw [hP]; omega)]
    exact ⟨es, w, rfl, hw, by simp⟩
  | cons o Q ih =>
    intro P n es i w hi hP hn hl hw
    obtain ⟨n, rfl⟩ : ∃ q, n = q + 1 := ⟨n - 1, by omega⟩
    rw [List.length_cons] at hn hl
    have lR : (O.length : Int) = P.length + (Q.length + 1) := by rw [hP]; simp
    have et : rd O i = o := by rw [hP]; exact rd_at' hi
    obtain ⟨w', e, e1, e2, _⟩ := give_ex k hm hw o hk
    have go : ∀ w'' : S_World, WS m w'' → ∃ es' w', guard_Run.l1 k l x m n (es ++ [e]) (i + 1) w'' = some (es', w') ∧ WS m w' ∧ es'.length ≤ es.length + (Q.length + 1) := by
      intro w'' hw''
      obtain ⟨es', w3, e3, h3, h4⟩ := ih (P ++ [o]) n (es ++ [e]) (i + 1) w'' (by simp; omega) (by rw [hP]; simp) (by omega) (by simp; omega) hw''
      exact ⟨es', w3, e3, h3, by simp at h4; omega⟩
    rw [guard_Run.l1, hO, ifp (by omega), ifp (by omega), et, bnd e1]; dsimp only
    rw [wid (x := i + 1) (by omega) (by omega), List.length_cons]
    by_cases c : e = 0
    · rw [ifp c, ifp (by omega)]; exact go w' (e2 c).1
    · rw [ifn c, ifp (by omega)]; exact go w hw
theorem grun_l0 (k : Nat) {m : S_Mount} (hm : MOk m) (l : List S_Input) (N : Nat) (hN : N ≤ 1000000000) (hl : l.length ≤ 2000) (hO : ∀ x, x ∈ l → x.Orders.length ≤ N) (hk : 1000000010 ≤ k) : ∀ (Q P : List S_Input) (n : Nat) (out : List S_World) (es : List Int) (i : Int) (w : S_World), i = (P.length : Int) → l = P ++ Q → Q.length < n → out.length ≤ P.length → es.length ≤ N * P.length → WS m w → (∀ x, x ∈ out → WS m x) →
    ∃ out' es' w', guard_Run.l0 k l m n out es i w = some (out', es', w') ∧ out'.length = out.length + Q.length ∧ ∀ x, x ∈ out' → WS m x := by
  intro Q
  induction Q with
  | nil =>
    intro P n out es i w hi hP hn ho he hw hx
    obtain ⟨n, rfl⟩ : ∃ q, n = q + 1 := ⟨n - 1, by omega⟩
    rw [List.append_nil] at hP
    rw [guard_Run.l0, ifn (by rw [hP]; omega)]
    exact ⟨out, es, w, rfl, by simp, hx⟩
  | cons y Q ih =>
    intro P n out es i w hi hP hn ho he hw hx
    obtain ⟨n, rfl⟩ : ∃ q, n = q + 1 := ⟨n - 1, by omega⟩
    rw [List.length_cons] at hn
    have lR : (l.length : Int) = P.length + (Q.length + 1) := by rw [hP]; simp
    have et : rd l i = y := by rw [hP]; exact rd_at' hi
    have hy := hO y (by rw [hP]; simp)
    have big : N * P.length ≤ 1000000000 * 2000 := Nat.mul_le_mul hN (by omega)
    obtain ⟨es', w1, e1, h1, h2⟩ := grun_l1 k hm l i y.Orders (by rw [et]) (by omega) (by omega) y.Orders [] k es 0 w rfl rfl (by omega) (by omega) hw
    obtain ⟨w2, e2, h3, _⟩ := step_ex k hm h1 y.Sensors (by omega)
    rw [guard_Run.l0, ifp (by omega), ifp (by omega), bnd e1]; dsimp only
    rw [et, bnd e2, ifp (by omega), wid (x := i + 1) (by omega) (by omega)]
    obtain ⟨out', es2, w3, e3, h4, h5⟩ := ih (P ++ [y]) n (out ++ [w2]) es' (i + 1) w2 (by simp; omega) (by rw [hP]; simp) (by omega) (by simp; omega) (by
        rw [List.length_append, List.length_singleton, Nat.mul_add]; omega) h3 (fun x hx' => by
        rcases List.mem_append.mp hx' with q | q
        · exact hx x q
        · rw [List.mem_singleton.mp q]; exact h3)
    exact ⟨out', es2, w3, e3, by rw [h4, List.length_append, List.length_singleton, List.length_cons]; omega, h5⟩
theorem grun_ex (k : Nat) {m : S_Mount} (hm : MOk m) (l : List S_Input) (N : Nat) (hN : N ≤ 1000000000) (hl : l.length ≤ 2000) (hO : ∀ x, x ∈ l → x.Orders.length ≤ N) (hk : 1000000010 ≤ k) :
    ∃ out es, guard_Run k m (st0 m) l = some (out, es, 0) ∧ out.length = l.length ∧ ∀ x, x ∈ out → WS m x := by
  have s := start_ok hm
  obtain ⟨out, es, w, e, h1, h2⟩ := grun_l0 k hm l N hN hl hO hk l [] k [] [] 0 (st0 m) rfl rfl (by omega) (by simp) (by simp) s (fun x hx => by cases hx)
  unfold guard_Run
  rw [bnd (wcheck k hm s (by omega)), ifn (by decide), ifn (by omega), bnd e]
  exact ⟨out, es, rfl, by simpa using h1, h2⟩
theorem fin_l1 (k : Nat) {m : S_Mount} (hm : MOk m) (L : List Int) (hk : 100 ≤ k) : ∀ (Q P : List Int) (n : Nat) (i : Int) (w : S_World), i = (P.length : Int) → [6, 2, 4, 7, 5] = P ++ Q → Q.length < n → WS m w → w.Mode ≠ 0 →
    ∃ w', spytop_TopSafe.l1 k m L n i w = some w' ∧ WS m w' ∧ w'.Mode ≠ 0 ∧ ∀ r, PW m r w → PW m r w' := by
  intro Q
  induction Q with
  | nil =>
    intro P n i w hi hP hn hw h0
    obtain ⟨n, rfl⟩ : ∃ q, n = q + 1 := ⟨n - 1, by omega⟩
    rw [List.append_nil] at hP
    rw [spytop_TopSafe.l1, ifn (by rw [hP]; omega)]
    exact ⟨w, rfl, hw, h0, fun r p => p⟩
  | cons o Q ih =>
    intro P n i w hi hP hn hw h0
    obtain ⟨n, rfl⟩ : ∃ q, n = q + 1 := ⟨n - 1, by omega⟩
    rw [List.length_cons] at hn
    have lR : ((([6, 2, 4, 7, 5] : List Int)).length : Int) = P.length + (Q.length + 1) := by rw [hP]; simp
    have l5 : ((([6, 2, 4, 7, 5] : List Int)).length : Int) = 5 := rfl
    have et : rd ([6, 2, 4, 7, 5] : List Int) i = o := by rw [hP]; exact rd_at' hi
    have ho : o ≠ 13 := by
      have : o ∈ ([6, 2, 4, 7, 5] : List Int) := by rw [hP]; simp
      simp only [List.mem_cons, List.not_mem_nil, or_false] at this; omega
    obtain ⟨w', e, e1, e2, _⟩ := give_ex k hm hw ⟨o, 0⟩ hk
    rw [spytop_TopSafe.l1, ifp (by omega), ifp (by omega), et, bnd e1]; dsimp only
    rw [wid (x := i + 1) (by omega) (by omega)]
    by_cases c : e = 0
    · obtain ⟨a, b⟩ := e2 c
      obtain ⟨b1, b2⟩ := b h0 ho
      obtain ⟨w3, e3, h3, h4, h5⟩ := ih (P ++ [o]) n (i + 1) w' (by simp; omega) (by rw [hP]; simp) (by omega) a b1
      rw [ifp c]; exact ⟨w3, e3, h3, h4, fun r p => h5 r (b2 r p)⟩
    · obtain ⟨w3, e3, h3, h4, h5⟩ := ih (P ++ [o]) n (i + 1) w (by simp; omega) (by rw [hP]; simp) (by omega) hw h0
      rw [ifn c]; exact ⟨w3, e3, h3, h4, h5⟩
theorem fin_l0 (k : Nat) {m : S_Mount} (hm : MOk m) (L : List Int) (hk : 1000 ≤ k) : ∀ (e n : Nat) (t a : Int) (w : S_World), t + e = 102 → 0 ≤ t → e < n → 0 ≤ a → a + 2 * e ≤ 4000000 → WS m w → w.Mode ≠ 0 → PW m (max (64 - t) 0) w → ∃ r, spytop_TopSafe.l0 k L m n t w a = some r := by
  intro e
  induction e with
  | zero =>
    intro n t a w ht t0 hn a0 a1 hw h0 hp
    obtain ⟨n, rfl⟩ : ∃ q, n = q + 1 := ⟨n - 1, by omega⟩
    rw [spytop_TopSafe.l0, ifn (by omega)]
    exact ⟨_, rfl⟩
  | succ e ih =>
    intro n t a w ht t0 hn a0 a1 hw h0 hp
    obtain ⟨n, rfl⟩ : ∃ q, n = q + 1 := ⟨n - 1, by omega⟩
    obtain ⟨w1, e1, h1, h2, h3⟩ := fin_l1 k hm L (by omega) [6, 2, 4, 7, 5] [] k 0 w rfl rfl (by simp; omega) hw h0
    obtain ⟨x, e2, _, _⟩ := next_ex k L a 9 (by decide) (by decide) a0 (by omega)
    obtain ⟨y, e3, _, _⟩ := next_ex k L (a + 1) 9 (by decide) (by decide) (by omega) (by omega)
    obtain ⟨w2, e4, h4, h5⟩ := step_ex k hm h1 ⟨(x == 0), false, false, false, (y == 0)⟩ (by omega)
    obtain ⟨h6, h7, h8⟩ := h5 h2
    have p2 := h8 _ (h3 _ hp) (by omega)
    rw [show max (max (64 - t) 0 - 1) 0 = max (64 - (t + 1)) 0 by omega] at p2
    have t47 : (if t ≥ 96 then (if w2.Mode ≠ 2 then (some true) else ((guard_AtRest k w2).bind fun vt1029 => (if ¬ (vt1029 = true) then (some true) else ((dome_Closed k w2.Dome).bind fun vt1036 => (some (!vt1036)))))) else (some false) : Option Bool) = some false := by
      by_cases c : t ≥ 96
      · rw [show max (64 - (t + 1)) 0 = 0 by omega] at p2
        have ar := p2.rest h4.ds (h4.sw h6).2.2.2.2
        rw [ifp c, ifn (by have := h7 ar; omega), bnd (atrest_eq k w2), decide_eq_true ar, ifn (by decide)]
        obtain ⟨_, _, _, _, a5, a6⟩ := ar
        unfold dome_Closed
        rw [ifp a5, a6]; rfl
      · rw [ifn c]
    rw [spytop_TopSafe.l0, ifp (by omega), bnd e1, bnd e2]; dsimp only
    rw [bnd e3]; dsimp only
    rw [bnd e4, t47, bnd rfl, ifn (by decide), wid (x := t + 1) (by omega) (by omega)]
    exact ih n (t + 1) (a + 1 + 1) w2 (by omega) (by omega) (by omega) (by omega) (by omega) h4 h6 p2
theorem WS.pw {m : S_Mount} (hm : MOk m) {w : S_World} (h : WS m w) : PW m 64 w := by
  have a := h.ms.az; have b := h.ms.alt; have c := h.ds.t
  have a0 := a.v0; have a1 := a.v1; have b0 := b.v0; have b1 := b.v1
  have c0 : -33554432 ≤ w.Dome.Turn.Speed := c.v0
  have c1 : w.Dome.Turn.Speed ≤ 33554432 := c.v1
  have r1 := hm.az.r; have r2 := hm.alt.r
  have d1 := h.ds.s1; have d2 := h.ds.c1
  exact ⟨by unfold sp; omega, by unfold sp; omega, by unfold sp; omega, by unfold pot; omega⟩
theorem upow {u : Int} (h : 24 ≤ u ∧ u ≤ 30) : ∃ U : Int, (2 : Int) ^ (min (u).toNat 64) = U ∧ (U = 16777216 ∨ 33554432 ≤ U) ∧ U ≤ 1073741824 ∧ U % 8 = 0 := by
  have c : u = 24 ∨ u = 25 ∨ u = 26 ∨ u = 27 ∨ u = 28 ∨ u = 29 ∨ u = 30 := by omega
  rcases c with rfl | rfl | rfl | rfl | rfl | rfl | rfl <;> exact ⟨_, rfl, by decide, by decide, by decide⟩
theorem speed_ok {U v : Int} (hU : U = 16777216 ∨ 33554432 ≤ U) (h1 : U ≤ 1073741824) (v0 : 0 ≤ v) (v1 : v < 1000) :
    ∃ s : Int, w64 (U - (w64 (v * (mn 1 (shr (w64 (U - 16777216)) 10))))) = s ∧ 16777216 ≤ s ∧ s ≤ U := by
  rw [wid (x := U - 16777216) (by omega) (by omega), shr_def, mn_def]
  have e : (2 : Int) ^ 10 = 1024 := by decide
  rw [e]
  rcases hU with rfl | hU
  · refine ⟨_, rfl, ?_⟩
    have e1 : min (1 : Int) ((16777216 - 16777216) / 1024) = 0 := by decide
    rw [e1, Int.mul_zero]; decide
  · have e1 : min (1 : Int) ((U - 16777216) / 1024) = 1 := by omega
    rw [e1, Int.mul_one, wid (x := v) (by omega) (by omega), wid (by omega) (by omega)]
    exact ⟨_, rfl, by omega, by omega⟩
theorem div_ok {U d : Int} (hU : 16777216 ≤ U) (h1 : U ≤ 1073741824) (h8 : U % 8 = 0) (d0 : 1 ≤ d) (d1 : d ≤ 8) :
    ∃ q : Int, w64 (Int.tdiv U d) = q ∧ U ≤ q * 8 ∧ q ≤ U := by
  rw [tdiv_nn (by omega)]
  have e1 : U / 8 ≤ U / d := Int.le_ediv_of_mul_le (by omega) (by
    have : U / 8 * d ≤ U / 8 * 8 := Int.mul_le_mul_of_nonneg_left d1 (by omega)
    omega)
  have e2 : U / d ≤ U := Int.ediv_le_self _ (by omega)
  rw [wid (by omega) (by omega)]
  exact ⟨_, rfl, by omega, e2⟩
theorem axis_ex (k : Nat) (L : List Int) (a : Int) (a0 : 0 ≤ a) (a1 : a ≤ 1000000) :
    ∃ x b, spymake_Stream_Axis k ⟨L, a⟩ = some (x, b) ∧ AxOk x ∧ a ≤ b ∧ b ≤ a + 20 := by
  obtain ⟨u, e1, u1⟩ := range_ex k L a 24 30 (by decide) (by decide) (by decide) (by decide) a0 (by omega)
  obtain ⟨d, e2, d1⟩ := range_ex k L (a + 1) 1 8 (by decide) (by decide) (by decide) (by decide) (by omega) (by omega)
  obtain ⟨z, e3, z1⟩ := next_ex k L (a + 1 + 1) 3 (by decide) (by decide) (by omega) (by omega)
  obtain ⟨U, eU, hU, U1, U8⟩ := upow u1
  obtain ⟨q, eq, q1, q2⟩ := div_ok (by omega) U1 U8 d1.1 d1.2
  have eU1 : w64 (1 * U) = U := by rw [Int.one_mul, wid (by omega) (by omega)]
  have mid : ∃ s c b, (if z = 0 then ((spymake_Stream_Next k (⟨L, a + 1 + 1 + 1⟩ : S_Stream) 1000).bind fun (vt49, vt50) => ((spymake_Stream_Next k (⟨L, vt50⟩ : S_Stream) 1000).bind fun (vt56, vt57) => (some ((w64 (U - (w64 (vt49 * (mn 1 (shr (w64 (U - 16777216)) 10)))))), (mn (w64 (q + vt56)) (w64 (U - (w64 (vt49 * (mn 1 (shr (w64 (U - 16777216)) 10))))))), vt57)))) else (some (U, q, a + 1 + 1 + 1)) : Option (Int × Int × Int)) = some (s, c, b) ∧ (16777216 ≤ s ∧ s ≤ 1073741824 ∧ 1 ≤ c ∧ c ≤ s ∧ s ≤ c * 64) ∧ a + 3 ≤ b ∧ b ≤ a + 5 := by
    by_cases c : z = 0
    · obtain ⟨x, e4, x1⟩ := next_ex k L (a + 1 + 1 + 1) 1000 (by decide) (by decide) (by omega) (by omega)
      obtain ⟨y, e5, y1⟩ := next_ex k L (a + 1 + 1 + 1 + 1) 1000 (by decide) (by decide) (by omega) (by omega)
      obtain ⟨s, es, s1, s2⟩ := speed_ok hU U1 x1.1 x1.2
      rw [ifp c, bnd e4]; dsimp only
      rw [bnd e5]; dsimp only
      rw [es, wid (x := q + y) (by omega) (by omega), mn_def]
      exact ⟨_, _, _, rfl, by omega, by omega, by omega⟩
    · rw [ifn c]
      exact ⟨_, _, _, rfl, by omega, by omega, by omega⟩
  obtain ⟨s, c, b, e6, h1, b0, b1⟩ := mid
  obtain ⟨x, e7, x1⟩ := range_ex k L b 0 6 (by decide) (by decide) (by decide) (by decide) (by omega) (by omega)
  obtain ⟨y, e8, y1⟩ := range_ex k L (b + 1) 1 6 (by decide) (by decide) (by decide) (by decide) (by omega) (by omega)
  obtain ⟨v, e9, v1⟩ := next_ex k L (b + 1 + 1) 4 (by decide) (by decide) (by omega) (by omega)
  unfold spymake_Stream_Axis
  rw [bnd e1]; dsimp only
  rw [ifp (by omega), bnd e2]; dsimp only
  rw [ifp (by omega), bnd e3]; dsimp only
  rw [eU, eU1, eq, bnd e6]; dsimp only
  rw [bnd e7]; dsimp only
  rw [bnd e8]; dsimp only
  rw [bnd e9]; dsimp only
  rw [wid (x := 0 - x) (by omega) (by omega), wid (x := (0 - x) * 1073741824) (by omega) (by omega), wid (x := y * 1073741824) (by omega) (by omega)]
  by_cases c2 : v = 0
  · obtain ⟨p, ep, p1⟩ := next_ex k L (b + 1 + 1 + 1) 1048576 (by decide) (by decide) (by omega) (by omega)
    obtain ⟨r, er, r1⟩ := next_ex k L (b + 1 + 1 + 1 + 1) 1048576 (by decide) (by decide) (by omega) (by omega)
    rw [ifp c2, bnd ep]; dsimp only
    rw [bnd er]; dsimp only
    rw [wid (x := (0 - x) * 1073741824 + p) (by omega) (by omega), wid (x := y * 1073741824 - r) (by omega) (by omega)]
    exact ⟨_, _, rfl, ⟨by dsimp only; omega, by dsimp only; omega, by dsimp only; omega, h1.1, h1.2.1, h1.2.2.1, h1.2.2.2.1, h1.2.2.2.2⟩, by omega, by omega⟩
  · rw [ifn c2]
    exact ⟨_, _, rfl, ⟨by dsimp only; omega, by dsimp only; omega, by dsimp only; omega, h1.1, h1.2.1, h1.2.2.1, h1.2.2.2.1, h1.2.2.2.2⟩, by omega, by omega⟩
theorem inside_ex (k : Nat) (L : List Int) (a : Int) {x : S_Axis} (m0 : -17179869184 ≤ x.Min) (mm : x.Min ≤ x.Max) (m1 : x.Max ≤ 17179869184) (a0 : 0 ≤ a) (a1 : a ≤ 1000000) :
    ∃ p b, spymake_Stream_Inside k ⟨L, a⟩ x = some (p, b) ∧ (x.Min ≤ p ∧ p ≤ x.Max) ∧ a ≤ b ∧ b ≤ a + 3 := by
  obtain ⟨u, e1, u1⟩ := next_ex k L a 6 (by decide) (by decide) a0 (by omega)
  unfold spymake_Stream_Inside
  rw [bnd e1]; dsimp only
  by_cases c : u = 0
  · rw [ifp c]; exact ⟨_, _, rfl, ⟨Int.le_refl _, mm⟩, by omega, by omega⟩
  · rw [ifn c]
    by_cases c1 : u = 1
    · rw [ifp c1]; exact ⟨_, _, rfl, ⟨mm, Int.le_refl _⟩, by omega, by omega⟩
    · obtain ⟨v, e2, v1⟩ := next_ex k L (a + 1) 1000 (by decide) (by decide) (by omega) (by omega)
      rw [ifn c1, bnd e2]; dsimp only
      rw [wid (x := x.Max - x.Min) (by omega) (by omega), tdiv_nn (by omega)]
      obtain ⟨D, hD⟩ : ∃ D, D = (x.Max - x.Min) / 1000 := ⟨_, rfl⟩
      rw [← hD, wid (x := D) (by omega) (by omega), wid (x := D + 1) (by omega) (by omega)]
      obtain ⟨y, e3, y1⟩ := next_ex k L (a + 1 + 1) (D + 1) (by omega) (by omega) (by omega) (by omega)
      have h := mul_le (show 0 ≤ D by omega) (Int.le_refl D) (show 0 ≤ v by omega) (show v ≤ 999 by omega)
      rw [bnd e3]; dsimp only
      rw [wid (x := D * v) (by omega) (by omega), wid (x := x.Min + D * v) (by omega) (by omega), wid (x := x.Min + D * v + y) (by omega) (by omega)]
      exact ⟨_, _, rfl, ⟨by omega, by omega⟩, by omega, by omega⟩
theorem mount_ex (k : Nat) (L : List Int) : ∃ m b, spymake_Stream_Mount k ⟨L, 0⟩ = some (m, b) ∧ MOk m ∧ 0 ≤ b ∧ b ≤ 100 := by
  obtain ⟨x, b, e1, h1, b0, b1⟩ := axis_ex k L 0 (by decide) (by decide)
  obtain ⟨y, c, e2, h2, c0, c1⟩ := axis_ex k L b (by omega) (by omega)
  obtain ⟨u, e3, u1⟩ := next_ex k L c 3 (by decide) (by decide) (by omega) (by omega)
  obtain ⟨v, e4, v1⟩ := next_ex k L (c + 1) 3 (by decide) (by decide) (by omega) (by omega)
  have t1 : ∃ p q, (if u > 0 then (some ((-6442450944), 6442450944)) else (some (x.Min, x.Max)) : Option (Int × Int)) = some (p, q) ∧ -17179869184 ≤ p ∧ p ≤ q ∧ q ≤ 17179869184 := by
    by_cases c : u > 0
    · rw [ifp c]; exact ⟨_, _, rfl, by decide⟩
    · rw [ifn c]; exact ⟨_, _, rfl, h1.m0, h1.mm, h1.m1⟩
  have t2 : ∃ p q, (if v > 0 then (some ((-1073741824), 1073741824)) else (some (y.Min, y.Max)) : Option (Int × Int)) = some (p, q) ∧ -17179869184 ≤ p ∧ p ≤ q ∧ q ≤ 17179869184 := by
    by_cases c : v > 0
    · rw [ifp c]; exact ⟨_, _, rfl, by decide⟩
    · rw [ifn c]; exact ⟨_, _, rfl, h2.m0, h2.mm, h2.m1⟩
  obtain ⟨p, q, e5, h3⟩ := t1
  obtain ⟨r, s, e6, h4⟩ := t2
  have hx : AxOk ⟨p, q, x.Speed, x.Accel⟩ := ⟨h3.1, h3.2.1, h3.2.2, h1.s0, h1.s1, h1.a0, h1.a1, h1.r⟩
  have hy : AxOk ⟨r, s, y.Speed, y.Accel⟩ := ⟨h4.1, h4.2.1, h4.2.2, h2.s0, h2.s1, h2.a0, h2.a1, h2.r⟩
  obtain ⟨f, d, e7, h5, d0, d1⟩ := inside_ex k L (c + 1 + 1) hx.m0 hx.mm hx.m1 (by omega) (by omega)
  obtain ⟨g, e, e8, h6, g0, g1⟩ := inside_ex k L d hy.m0 hy.mm hy.m1 (by omega) (by omega)
  unfold spymake_Stream_Mount
  rw [bnd e1]; dsimp only
  rw [bnd e2]; dsimp only
  rw [bnd e3]; dsimp only
  rw [bnd e5]; dsimp only
  rw [bnd e4]; dsimp only
  rw [bnd e6]; dsimp only
  rw [bnd e7]; dsimp only
  rw [bnd e8]
  exact ⟨_, _, rfl, ⟨hx, hy, h5, h6⟩, by omega, by omega⟩
theorem i64_or_sum (a b : Int) (i : Nat) (ha : 0 ≤ a) (hb0 : 0 ≤ b) (hb : b < 2 ^ i) (h : a * 2 ^ i + b < 4611686018427387904) : Go.bits .or .i64 (a * 2 ^ i) b = a * 2 ^ i + b := by
  obtain ⟨A, rfl⟩ := Int.eq_ofNat_of_zero_le ha
  obtain ⟨B, rfl⟩ := Int.eq_ofNat_of_zero_le hb0
  have e0 : ((A : Int) * 2 ^ i) = ((A * 2 ^ i : Nat) : Int) := by simp
  rw [e0] at h ⊢
  have hB : B < 2 ^ i := by
    have : ((B : Nat) : Int) < ((2 ^ i : Nat) : Int) := by simpa using hb
    omega
  have e1 : A * 2 ^ i ||| B = A * 2 ^ i + B := by
    rw [← Nat.shiftLeft_eq, Nat.shiftLeft_add_eq_or_of_lt hB]
  have hm1 : A * 2 ^ i % 2 ^ IntKind.i64.bits = A * 2 ^ i := Nat.mod_eq_of_lt (by show _ < 2 ^ 64; omega)
  have hm2 : B % 2 ^ IntKind.i64.bits = B := Nat.mod_eq_of_lt (by show _ < 2 ^ 64; omega)
  simp only [Go.bits, BitVec.ofInt_natCast, BitVec.toNat_or, BitVec.toNat_ofNat, hm1, hm2, e1]
  rw [IntKind.wrap_i64]
  omega
theorem xor8 (x y : Int) : 0 ≤ Go.bits .xor .u8 x y ∧ Go.bits .xor .u8 x y ≤ 255 := by
  unfold Go.bits
  simp only [IntKind.wrap_u8]
  omega
theorem u8in (x : Int) : 0 ≤ u8 x ∧ u8 x ≤ 255 := by rw [u8_def]; omega
theorem AllIn.app {a b : List Int} {lo hi : Int} (h : AllIn a lo hi) (h' : AllIn b lo hi) : AllIn (a ++ b) lo hi := fun x hx => by
  rcases List.mem_append.mp hx with q | q
  · exact h x q
  · exact h' x q
theorem AllIn.two {x y : Int} {lo hi : Int} (h : lo ≤ x ∧ x ≤ hi) (g : lo ≤ y ∧ y ≤ hi) : AllIn [x, y] lo hi := fun z hz => by
  simp only [List.mem_cons, List.not_mem_nil, or_false] at hz
  rcases hz with rfl | rfl
  · exact h
  · exact g
theorem AllIn.set' {l : List Int} {lo hi : Int} (h : AllIn l lo hi) (i : Nat) {x : Int} (hx : lo ≤ x ∧ x ≤ hi) : AllIn (l.set i x) lo hi := fun y hy => by
  rcases List.mem_or_eq_of_mem_set hy with q | q
  · exact h y q
  · rw [q]; exact hx
theorem sum_l1 (k : Nat) : ∀ (e n : Nat) (c i : Int), i + e = 8 → 0 ≤ i → e < n → ∃ r, bus_Sum.l1 k n c i = some r := by
  intro e
  induction e with
  | zero =>
    intro n c i hi i0 hn
    obtain ⟨n, rfl⟩ : ∃ q, n = q + 1 := ⟨n - 1, by omega⟩
    rw [bus_Sum.l1, ifn (by omega)]; exact ⟨c, rfl⟩
  | succ e ih =>
    intro n c i hi i0 hn
    obtain ⟨n, rfl⟩ : ∃ q, n = q + 1 := ⟨n - 1, by omega⟩
    rw [bus_Sum.l1, ifp (by omega), wid (x := i + 1) (by omega) (by omega)]
    split
    · exact ih n _ (i + 1) (by omega) (by omega) (by omega)
    · exact ih n _ (i + 1) (by omega) (by omega) (by omega)
theorem sum_l0 (k : Nat) (hk : 10 ≤ k) (b : List Int) (hb : b.length ≤ 1000) : ∀ (e n : Nat) (c i : Int), i + e = (b.length : Int) → 0 ≤ i → e < n → ∃ r, bus_Sum.l0 k b n c i = some r := by
  intro e
  induction e with
  | zero =>
    intro n c i hi i0 hn
    obtain ⟨n, rfl⟩ : ∃ q, n = q + 1 := ⟨n - 1, by omega⟩
    rw [bus_Sum.l0, ifn (by omega)]; exact ⟨c, rfl⟩
  | succ e ih =>
    intro n c i hi i0 hn
    obtain ⟨n, rfl⟩ : ∃ q, n = q + 1 := ⟨n - 1, by omega⟩
    obtain ⟨r, er⟩ := sum_l1 k 8 k (Go.bits .xor .u16 c (IntKind.u16.wrap ((IntKind.u16.wrap ((rd b i))) * 2 ^ 8))) 0 (by decide) (by decide) (by omega)
    rw [bus_Sum.l0, ifp (by omega), ifp i0, bnd er, wid (x := i + 1) (by omega) (by omega)]
    exact ih n r (i + 1) (by omega) (by omega) (by omega)
theorem sum_ex (k : Nat) (b : List Int) (hb : b.length ≤ 1000) (hk : 1010 ≤ k) : ∃ r, bus_Sum k b = some r := by
  obtain ⟨r, e⟩ := sum_l0 k (by omega) b hb b.length k 65535 0 (by omega) (by decide) (by omega)
  unfold bus_Sum
  rw [bnd e]; exact ⟨r, rfl⟩
def PK (p : S_Packet) : Prop := 0 ≤ p.Seq ∧ p.Seq ≤ 65535
theorem PK.zero : PK ⟨0, 0, 0, []⟩ := ⟨Int.le_refl 0, (by decide : (0 : Int) ≤ 65535)⟩
theorem parse_ex (k : Nat) (b : List Int) (hb : b.length ≤ 21) (hi : AllIn b 0 255) (hk : 1010 ≤ k) : ∃ p e, bus_Parse k b = some (p, e) ∧ PK p := by
  unfold bus_Parse
  by_cases c : (b.length : Int) < 5
  · rw [ifp c]; exact ⟨_, _, rfl, PK.zero⟩
  · rw [ifn c, ifn (by omega), wid (x := (b.length : Int) - 2) (by omega) (by omega), wid (x := (b.length : Int) - 2 + 1) (by omega) (by omega), ifp (by omega), ifp (by omega)]
    obtain ⟨r, e⟩ := sum_ex k (b.take ((b.length : Int) - 2).toNat) (by rw [List.length_take]; omega) hk
    rw [bnd e, ifp (by omega)]
    by_cases c1 : rd b ((b.length : Int) - 2) ≠ u8 (shr r 8)
    · rw [ifp c1]; exact ⟨_, _, rfl, PK.zero⟩
    · rw [ifn c1, ifp (by omega), ifp (by omega)]
      by_cases c2 : rd b ((b.length : Int) - 2 + 1) ≠ u8 r
      · rw [ifp c2]; exact ⟨_, _, rfl, PK.zero⟩
      · have h1 := hi.rd (i := 1) (by decide) (by omega)
        have h2 := hi.rd (i := 2) (by decide) (by omega)
        rw [ifn c2, ifp (by omega), ifp (by omega), ifp (by omega), ifp (by omega), ifp (by simp; omega)]
        refine ⟨_, _, rfl, ?_⟩
        have e2 : (2 : Int) ^ 8 = 256 := by decide
        have hor : Go.bits .or .i64 (w64 (w64 (rd b 1) * 2 ^ 8)) (w64 (rd b 2)) = rd b 1 * 256 + rd b 2 := by
          rw [wid (x := rd b 1) (by omega) (by omega), wid (x := rd b 2) (by omega) (by omega), e2, wid (x := rd b 1 * 256) (by omega) (by omega)]
          have := i64_or_sum (rd b 1) (rd b 2) 8 (by omega) (by omega) (by rw [e2]; omega) (by rw [e2]; omega)
          rw [e2] at this; exact this
        unfold PK
        dsimp only
        rw [hor]; omega
def BD (b : List Int) : Prop := b.length ≤ 21 ∧ AllIn b 0 255
theorem BD.nil : BD [] := ⟨by simp, AllIn.nil⟩
theorem flag_ex (k : Nat) (r : S_Reader) (h : BD r.body) (hk : 1010 ≤ k) : ∃ p t b e s o B, bus_Reader_flag k r = some (p, t, b, e, s, o, B) ∧ BD b ∧ PK p := by
  obtain ⟨p, e, e1, hp⟩ := parse_ex k r.body h.1 h.2 hk
  have go : ∀ bad : Bool, ∃ p t b e s o B, ((((if ((r.body.length : Int) == 0) = true then (some (!bad)) else (some false) : Option (Bool))).bind fun x64 => (if x64 = true then (some ((⟨0, 0, 0, ([] : List Int)⟩ : S_Packet), false, ([] : List Int), false, false, true, r.Bad)) else ((bus_Parse k r.body).bind fun (vt83, vt84) => (if bad = true then (some ((⟨0, 0, 0, ([] : List Int)⟩ : S_Packet), false, ([] : List Int), false, false, true, w64 (r.Bad + 1))) else (if vt84 ≠ 0 then (some ((⟨0, 0, 0, ([] : List Int)⟩ : S_Packet), false, ([] : List Int), false, false, true, w64 (r.Bad + 1))) else (some (vt83, true, ([] : List Int), false, false, true, r.Bad))))))) : Option (S_Packet × Bool × (List Int) × Bool × Bool × Bool × Int)) = some (p, t, b, e, s, o, B) ∧ BD b ∧ PK p := by
    intro bad
    obtain ⟨x, hx⟩ : ∃ x, (if ((r.body.length : Int) == 0) = true then (some (!bad)) else (some false) : Option (Bool)) = some x := by split <;> exact ⟨_, rfl⟩
    rw [hx, bnd rfl]
    by_cases c : x = true
    · rw [ifp c]; exact ⟨_, _, _, _, _, _, _, rfl, BD.nil, PK.zero⟩
    · rw [ifn c, bnd e1]; dsimp only
      by_cases c2 : bad = true
      · rw [ifp c2]; exact ⟨_, _, _, _, _, _, _, rfl, BD.nil, PK.zero⟩
      · rw [ifn c2]
        by_cases c3 : e ≠ 0
        · rw [ifp c3]; exact ⟨_, _, _, _, _, _, _, rfl, BD.nil, PK.zero⟩
        · rw [ifn c3]; exact ⟨_, _, _, _, _, _, _, rfl, BD.nil, hp⟩
  unfold bus_Reader_flag
  by_cases c : r.skip = true
  · rw [ifp c, bnd rfl]; exact go true
  · rw [ifn c, bnd rfl]; exact go r.escape
theorem put_ex (k : Nat) (r : S_Reader) (h : BD r.body) {x : Int} (hx : 0 ≤ x ∧ x ≤ 255) : ∃ b s, bus_Reader_put k r x = some (b, s) ∧ BD b := by
  have h1 := h.1
  unfold bus_Reader_put
  by_cases c : (r.body.length : Int) = 21
  · rw [ifp c]; exact ⟨_, _, rfl, h⟩
  · rw [ifn c, ifp (by omega)]
    exact ⟨_, _, rfl, by rw [List.length_append, List.length_singleton]; omega, h.2.push hx.1 hx.2⟩
theorem feed_ex (k : Nat) (r : S_Reader) (h : BD r.body) {x : Int} (hx : 0 ≤ x ∧ x ≤ 255) (hk : 1010 ≤ k) : ∃ p t b e s o B, bus_Reader_Feed k r x = some (p, t, b, e, s, o, B) ∧ BD b ∧ PK p := by
  unfold bus_Reader_Feed
  by_cases c : x = 126
  · obtain ⟨p, t, b, e, s, o, B, e1, e2⟩ := flag_ex k r h hk
    rw [ifp c, bnd e1]; exact ⟨p, t, b, e, s, o, B, rfl, e2⟩
  · rw [ifn c]
    obtain ⟨y, hy⟩ : ∃ y, (if r.skip = true then (some true) else (some (!r.vopen)) : Option (Bool)) = some y := by split <;> exact ⟨_, rfl⟩
    rw [hy, bnd rfl]
    by_cases c1 : y = true
    · rw [ifp c1]; exact ⟨_, _, _, _, _, _, _, rfl, h, PK.zero⟩
    · rw [ifn c1]
      by_cases c2 : r.escape = true
      · rw [ifp c2]
        obtain ⟨z, hz⟩ : ∃ z, (if (Go.bits .xor .u8 x 32) = 126 then (some true) else (some ((Go.bits .xor .u8 x 32) == 125)) : Option (Bool)) = some z := by split <;> exact ⟨_, rfl⟩
        rw [hz, bnd rfl]
        by_cases c3 : z = true
        · obtain ⟨b, s, e1, e2⟩ := put_ex k (⟨r.body, false, r.skip, r.vopen, r.Bad⟩ : S_Reader) h (xor8 x 32)
          rw [ifp c3, bnd e1]; exact ⟨_, _, _, _, _, _, _, rfl, e2, PK.zero⟩
        · rw [ifn c3]; exact ⟨_, _, _, _, _, _, _, rfl, h, PK.zero⟩
      · rw [ifn c2]
        by_cases c3 : x = 125
        · rw [ifp c3]; exact ⟨_, _, _, _, _, _, _, rfl, h, PK.zero⟩
        · obtain ⟨b, s, e1, e2⟩ := put_ex k r h hx
          rw [ifn c3, bnd e1]; exact ⟨_, _, _, _, _, _, _, rfl, e2, PK.zero⟩
theorem decode_l0 (k : Nat) (S : List Int) (hS : AllIn S 0 255) (hl : S.length ≤ 1000000000) (hk : 1010 ≤ k) : ∀ (d n : Nat) (out : List S_Packet) (i : Int) (b : List Int) (e s o : Bool) (B : Int), i + d = (S.length : Int) → 0 ≤ i → d < n → (out.length : Int) ≤ i → BD b → (∀ p, p ∈ out → PK p) →
    ∃ out' b' e' s' o' B', bus_Decode.l0 k S n out i b e s o B = some (out', b', e', s', o', B') ∧ out'.length ≤ S.length ∧ ∀ p, p ∈ out' → PK p := by
  intro d
  induction d with
  | zero =>
    intro n out i b e s o B hi i0 hn ho hb hp
    obtain ⟨n, rfl⟩ : ∃ q, n = q + 1 := ⟨n - 1, by omega⟩
    rw [bus_Decode.l0, ifn (by omega)]
    exact ⟨_, _, _, _, _, _, rfl, by omega, hp⟩
  | succ d ih =>
    intro n out i b e s o B hi i0 hn ho hb hp
    obtain ⟨n, rfl⟩ : ∃ q, n = q + 1 := ⟨n - 1, by omega⟩
    obtain ⟨p, t, b', e', s', o', B', e1, e2, e3⟩ := feed_ex k ⟨b, e, s, o, B⟩ hb (hS.rd i0 (by omega)) hk
    rw [bus_Decode.l0, ifp (by omega), ifp i0, bnd e1]; dsimp only
    rw [wid (x := i + 1) (by omega) (by omega)]
    by_cases c : t = true
    · rw [ifp c, ifp (by omega)]
      exact ih n _ (i + 1) _ _ _ _ _ (by omega) (by omega) (by omega) (by rw [List.length_append, List.length_singleton]; omega) e2 (fun q hq => by
        rcases List.mem_append.mp hq with q1 | q1
        · exact hp q q1
        · rw [List.mem_singleton.mp q1]; exact e3)
    · rw [ifn c]
      exact ih n _ (i + 1) _ _ _ _ _ (by omega) (by omega) (by omega) (by omega) e2 hp
theorem decode_ex (k : Nat) (S : List Int) (hS : AllIn S 0 255) (hl : S.length ≤ 1000000000) (hk : 1000000010 ≤ k) : ∃ out B, bus_Decode k S = some (out, B) ∧ out.length ≤ S.length ∧ ∀ p, p ∈ out → PK p := by
  obtain ⟨out, b, e, s, o, B, e1, e2, e3⟩ := decode_l0 k S hS hl (by omega) S.length k [] 0 [] false false false 0 (by omega) (by decide) (by omega) (by simp) BD.nil (fun p hp => by cases hp)
  unfold bus_Decode
  rw [bnd e1]; exact ⟨out, B, rfl, e2, e3⟩
def PV (p : S_Packet) : Prop := (0 ≤ p.Addr ∧ p.Addr ≤ 15) ∧ (0 ≤ p.Kind ∧ p.Kind ≤ 15) ∧ (0 ≤ p.Seq ∧ p.Seq ≤ 65535) ∧ p.Data.length ≤ 16 ∧ AllIn p.Data 0 255
theorem body_ex (k : Nat) (p : S_Packet) (h : PV p) (hk : 1010 ≤ k) : ∃ b, bus_Body k p = some (b, 0) ∧ BD b := by
  obtain ⟨⟨a0, a1⟩, ⟨b0, b1⟩, ⟨c0, c1⟩, d0, d1⟩ := h
  have hl : (([u8 (Go.bits .or .i64 (w64 (p.Addr * 2 ^ 4)) p.Kind), u8 (shr p.Seq 8), u8 (p.Seq)] : List Int) ++ p.Data).length = 3 + p.Data.length := by simp; omega
  have ck : bus_Check k p = some 0 := by
    unfold bus_Check
    rw [ifn (by omega), ifn (by omega), ifn (by omega), ifn (by omega), ifn (by omega), bnd rfl, ifn (by simp; omega), ifn (by omega)]
  obtain ⟨r, e⟩ := sum_ex k (([u8 (Go.bits .or .i64 (w64 (p.Addr * 2 ^ 4)) p.Kind), u8 (shr p.Seq 8), u8 (p.Seq)] : List Int) ++ p.Data) (by rw [hl]; omega) hk
  unfold bus_Body
  rw [bnd ck, ifn (by decide), ifp (by rw [← List.length_append, hl]; omega), bnd e, ifp (by rw [hl]; omega)]
  refine ⟨_, rfl, by rw [List.length_append, hl]; simp; omega, ?_⟩
  refine AllIn.app (AllIn.app ?_ d1) (AllIn.two (u8in _) (u8in _))
  intro x hx
  simp only [List.mem_cons, List.not_mem_nil, or_false] at hx
  rcases hx with rfl | rfl | rfl <;> exact u8in _
theorem stuff_l0 (k : Nat) (b : List Int) (hb : BD b) : ∀ (d n : Nat) (out : List Int) (i : Int), i + d = (b.length : Int) → 0 ≤ i → d < n → (out.length : Int) ≤ 1 + 2 * i → AllIn out 0 255 → ∃ out', bus_Stuff.l0 k b n out i = some out' ∧ out'.length ≤ 43 ∧ AllIn out' 0 255 := by
  have h1 := hb.1
  intro d
  induction d with
  | zero =>
    intro n out i hi i0 hn ho ha
    obtain ⟨n, rfl⟩ : ∃ q, n = q + 1 := ⟨n - 1, by omega⟩
    rw [bus_Stuff.l0, ifn (by omega)]; exact ⟨out, rfl, by omega, ha⟩
  | succ d ih =>
    intro n out i hi i0 hn ho ha
    obtain ⟨n, rfl⟩ : ∃ q, n = q + 1 := ⟨n - 1, by omega⟩
    have hv := hb.2.rd i0 (show i < (b.length : Int) by omega)
    have two : AllIn (out ++ ([125, Go.bits .xor .u8 (rd b i) 32] : List Int)) 0 255 := ha.app (AllIn.two (by decide) (xor8 _ _))
    rw [bus_Stuff.l0, ifp (by omega), ifp i0, wid (x := i + 1) (by omega) (by omega)]
    by_cases c1 : rd b i = 126
    · rw [ifp c1, ifp (by omega)]; exact ih n _ (i + 1) (by omega) (by omega) (by omega) (by simp; omega) (by rw [c1] at two; rw [c1]; exact two)
    · rw [ifn c1]
      by_cases c2 : rd b i = 125
      · rw [ifp c2, ifp (by omega)]; exact ih n _ (i + 1) (by omega) (by omega) (by omega) (by simp; omega) (by rw [c2] at two; rw [c2]; exact two)
      · rw [ifn c2, ifp (by omega)]; exact ih n _ (i + 1) (by omega) (by omega) (by omega) (by simp; omega) (ha.push hv.1 hv.2)
theorem stuff_ex (k : Nat) (b : List Int) (hb : BD b) (hk : 1010 ≤ k) : ∃ out, bus_Stuff k b = some out ∧ out.length ≤ 60 ∧ AllIn out 0 255 := by
  have h1 := hb.1
  obtain ⟨out, e, e1, e2⟩ := stuff_l0 k b hb b.length k [126] 0 (by omega) (by decide) (by omega) (by decide) (by intro x hx; rw [List.mem_singleton.mp hx]; decide)
  unfold bus_Stuff
  rw [bnd e, ifp (by omega)]
  exact ⟨_, rfl, by rw [List.length_append, List.length_singleton]; omega, e2.push (by decide) (by decide)⟩
theorem noise_l0 (k : Nat) (B : List Int) (hB : B.length ≤ 3) (hB0 : AllIn B 0 1000) : ∀ (d n : Nat) (b : List Int) (i : Int), i + d = (B.length : Int) → 0 ≤ i → d < n → BD b → ∃ b', bus_Noise.l0 k B n b i = some b' ∧ BD b' := by
  intro d
  induction d with
  | zero =>
    intro n b i hi i0 hn hb
    obtain ⟨n, rfl⟩ : ∃ q, n = q + 1 := ⟨n - 1, by omega⟩
    rw [bus_Noise.l0, ifn (by omega)]; exact ⟨b, rfl, hb⟩
  | succ d ih =>
    intro n b i hi i0 hn hb
    obtain ⟨n, rfl⟩ : ∃ q, n = q + 1 := ⟨n - 1, by omega⟩
    have hv := hB0.rd i0 (show i < (B.length : Int) by omega)
    have h1 := hb.1
    rw [bus_Noise.l0, ifp (by omega), ifp i0, ifp hv.1, wid (x := i + 1) (by omega) (by omega), wid (x := 8 * (b.length : Int)) (by omega) (by omega)]
    by_cases c : rd B i < 8 * (b.length : Int)
    · rw [ifp c, tdiv_nn hv.1, tmod_nn hv.1, wid (x := rd B i / 8) (by omega) (by omega), ifp (by omega), ifp (by omega), ifp (by omega)]
      exact ih n _ (i + 1) (by omega) (by omega) (by omega) ⟨by rw [List.length_set]; exact h1, hb.2.set' _ (xor8 _ _)⟩
    · rw [ifn c]; exact ih n b (i + 1) (by omega) (by omega) (by omega) hb
theorem noise_ex (k : Nat) (p : S_Packet) (h : PV p) (B : List Int) (hB : B.length ≤ 3) (hB0 : AllIn B 0 1000) (hk : 1010 ≤ k) : ∃ b, bus_Noise k p B = some (b, 0) ∧ b.length ≤ 60 ∧ AllIn b 0 255 := by
  obtain ⟨b, e1, h1⟩ := body_ex k p h hk
  obtain ⟨b', e2, h2⟩ := noise_l0 k B hB hB0 B.length k b 0 (by omega) (by decide) (by omega) h1
  obtain ⟨c, e3, h3⟩ := stuff_ex k b' h2 hk
  unfold bus_Noise
  rw [bnd e1]; dsimp only
  rw [ifn (by decide), bnd e2, bnd e3]
  exact ⟨c, rfl, h3⟩
def PC (p : S_parcel) : Prop := p.bytes.length ≤ 60 ∧ AllIn p.bytes 0 255
def FK (f : S_Fate) : Prop := f.Bits.length ≤ 3 ∧ AllIn f.Bits 0 1000
theorem take_l0 (k : Nat) (l : S_line) (t : Int) (hw : ∀ p, p ∈ l.way → PC p) (hl : l.way.length ≤ 10000000) : ∀ (d n : Nat) (S : List Int) (R : List S_parcel) (i : Int), i + d = (l.way.length : Int) → 0 ≤ i → d < n → (S.length : Int) ≤ 60 * i → AllIn S 0 255 → (R.length : Int) ≤ i → (∀ p, p ∈ R → PC p) →
    ∃ S' R', link_line_take.l0 k l t n S R i = some (S', R') ∧ S'.length ≤ 60 * l.way.length ∧ AllIn S' 0 255 ∧ R'.length ≤ l.way.length ∧ ∀ p, p ∈ R' → PC p := by
  intro d
  induction d with
  | zero =>
    intro n S R i hi i0 hn hS hA hR hP
    obtain ⟨n, rfl⟩ : ∃ q, n = q + 1 := ⟨n - 1, by omega⟩
    rw [link_line_take.l0, ifn (by omega)]
    exact ⟨S, R, rfl, by omega, hA, by omega, hP⟩
  | succ d ih =>
    intro n S R i hi i0 hn hS hA hR hP
    obtain ⟨n, rfl⟩ : ∃ q, n = q + 1 := ⟨n - 1, by omega⟩
    have hv := hw _ (rd_mem i0 (show i < (l.way.length : Int) by omega))
    have hv1 := hv.1
    rw [link_line_take.l0, ifp (by omega), ifp i0, wid (x := i + 1) (by omega) (by omega)]
    by_cases c : (rd l.way i).vat = t
    · rw [ifp c, ifp (by omega)]
      exact ih n _ R (i + 1) (by omega) (by omega) (by omega) (by rw [List.length_append]; omega) (hA.app hv.2) (by omega) hP
    · rw [ifn c, ifp (by omega)]
      exact ih n S _ (i + 1) (by omega) (by omega) (by omega) (by omega) hA (by rw [List.length_append, List.length_singleton]; omega) (fun p hp => by
        rcases List.mem_append.mp hp with q | q
        · exact hP p q
        · rw [List.mem_singleton.mp q]; exact hv)
theorem take_ex (k : Nat) (l : S_line) (t : Int) (hw : ∀ p, p ∈ l.way → PC p) (hl : l.way.length ≤ 10000000) (hk : 1000000010 ≤ k) :
    ∃ ps R, link_line_take k l t = some (ps, R) ∧ ps.length ≤ 60 * l.way.length ∧ (∀ p, p ∈ ps → PK p) ∧ R.length ≤ l.way.length ∧ ∀ p, p ∈ R → PC p := by
  obtain ⟨S, R, e1, h1, h2, h3, h4⟩ := take_l0 k l t hw hl l.way.length k [] [] 0 (by omega) (by decide) (by omega) (by simp) AllIn.nil (by simp) (fun p hp => by cases hp)
  obtain ⟨ps, B, e2, h5, h6⟩ := decode_ex k S h2 (by omega) hk
  unfold link_line_take
  rw [bnd e1]; dsimp only
  rw [bnd e2]; exact ⟨ps, R, rfl, by omega, h6, h3, h4⟩
theorem send_ex (k : Nat) (l : S_line) (p : S_Packet) (t : Int) (hp : PV p) (hf : ∀ f, f ∈ l.fates → FK f) (hw : ∀ q, q ∈ l.way → PC q) (hl : l.way.length ≤ 100000000) (c0 : 0 ≤ l.count) (c1 : l.count ≤ 1000000000) (hk : 1010 ≤ k) :
    ∃ W, link_line_send k l p t = some (W, l.count + 1) ∧ W.length ≤ l.way.length + 2 ∧ ∀ q, q ∈ W → PC q := by
  have t1 : ∃ x : Bool × Int × Int × List Int, (if l.count < (l.fates.length : Int) then (if 0 ≤ l.count then (some (((rd l.fates l.count).Lost), ((rd l.fates l.count).Delay), ((rd l.fates l.count).Twice), ((rd l.fates l.count).Bits))) else none) else (some (false, 1, 0, ([] : List Int))) : Option (Bool × Int × Int × (List Int))) = some x ∧ x.2.2.2.length ≤ 3 ∧ AllIn x.2.2.2 0 1000 := by
    by_cases c : l.count < (l.fates.length : Int)
    · rw [ifp c, ifp c0]
      exact ⟨_, rfl, hf _ (rd_mem c0 c)⟩
    · rw [ifn c]; exact ⟨_, rfl, by simp, AllIn.nil⟩
  obtain ⟨⟨x1, x2, x3, x4⟩, e1, h1, h2⟩ := t1
  unfold link_line_send
  rw [bnd e1]; dsimp only
  rw [wid (x := l.count + 1) (by omega) (by omega)]
  by_cases c : x1 = true
  · rw [ifp c]; exact ⟨_, rfl, by omega, hw⟩
  · obtain ⟨b, e2, h3, h4⟩ := noise_ex k p hp x4 h1 h2 hk
    have one : ∀ (W : List S_parcel) (v : Int), (∀ q, q ∈ W → PC q) → ∀ q, q ∈ W ++ [(⟨v, b⟩ : S_parcel)] → PC q := fun W v hW q hq => by
      rcases List.mem_append.mp hq with z | z
      · exact hW q z
      · rw [List.mem_singleton.mp z]; exact ⟨h3, h4⟩
    rw [ifn c, bnd e2]; dsimp only
    rw [ifp (by omega)]
    by_cases c3 : x3 > 0
    · rw [ifp c3, ifp (by rw [List.length_append, List.length_singleton]; omega)]
      exact ⟨_, rfl, by rw [List.length_append, List.length_append, List.length_singleton, List.length_singleton]; omega, one _ _ (one _ _ hw)⟩
    · rw [ifn c3]; exact ⟨_, rfl, by simp, one _ _ hw⟩
theorem dhear_ex (k : Nat) (d : S_device) (p : S_Packet) (t : Int) (hp : PK p) (h0 : 0 ≤ d.last) (hl : d.log.length ≤ 1000000000) (hg : ∀ e, e ∈ d.log → 0 ≤ e.Cmd) :
    ∃ r ok la di lg, link_device_hear k d p t = some (r, ok, la, di, lg) ∧ (ok = true → PV r) ∧ 0 ≤ la ∧ lg.length ≤ d.log.length + 1 ∧ ∀ e, e ∈ lg → 0 ≤ e.Cmd := by
  obtain ⟨p0, p1⟩ := hp
  have t1 : ∃ x, (if p.Kind ≠ 1 then (if p.Kind ≠ 2 then (some true) else (some (decide (p.Seq < d.last)))) else (some (decide (p.Seq < d.last))) : Option (Bool)) = some x := by
    split
    · split <;> exact ⟨_, rfl⟩
    · exact ⟨_, rfl⟩
  obtain ⟨x, e1⟩ := t1
  unfold link_device_hear
  rw [bnd e1]
  by_cases c : x = true
  · rw [ifp c]; exact ⟨_, _, _, _, _, rfl, fun z => (by cases z), h0, by omega, hg⟩
  · rw [ifn c]
    have due : ∃ v, link_due k p = some v := by
      unfold link_due
      by_cases c3 : (p.Data.length : Int) < 3
      · rw [ifp c3]; exact ⟨_, rfl⟩
      · rw [ifn c3, ifp (by omega), ifp (by omega)]; exact ⟨_, rfl⟩
    obtain ⟨v, e2⟩ := due
    have t2 : ∃ y : Int × Bool × List S_Exec, (if p.Seq > d.last then (((if p.Kind = 1 then ((link_due k p).bind fun vt89 => (some (decide (t ≤ vt89)))) else (some false) : Option (Bool))).bind fun x100 => (((if x100 = true then (if (d.log.length + 1) * 16 ≤ 140737488355328 then (some (true, (d.log ++ ([(⟨w64 (p.Seq - 1), t⟩ : S_Exec)] : List S_Exec)))) else none) else (some (false, d.log)) : Option (Bool × (List S_Exec)))).bind fun (x148, x149) => (some (p.Seq, x148, x149)))) else (some (d.last, d.did, d.log)) : Option (Int × Bool × (List S_Exec))) = some y ∧ 0 ≤ y.1 ∧ y.2.2.length ≤ d.log.length + 1 ∧ ∀ e, e ∈ y.2.2 → 0 ≤ e.Cmd := by
      by_cases c2 : p.Seq > d.last
      · rw [ifp c2]
        have t3 : ∃ z, (if p.Kind = 1 then ((link_due k p).bind fun vt89 => (some (decide (t ≤ vt89)))) else (some false) : Option (Bool)) = some z := by
          by_cases c4 : p.Kind = 1
          · rw [ifp c4, bnd e2]; exact ⟨_, rfl⟩
          · rw [ifn c4]; exact ⟨_, rfl⟩
        obtain ⟨z, e3⟩ := t3
        rw [e3, bnd rfl]
        by_cases c5 : z = true
        · rw [ifp c5, ifp (by omega), wid (x := p.Seq - 1) (by omega) (by omega)]
          refine ⟨_, rfl, p0, by simp, fun e he => ?_⟩
          rcases List.mem_append.mp he with q | q
          · exact hg e q
          · rw [List.mem_singleton.mp q]; dsimp only; omega
        · rw [ifn c5]; exact ⟨_, rfl, p0, by dsimp only; omega, hg⟩
      · rw [ifn c2]; exact ⟨_, rfl, h0, by dsimp only; omega, hg⟩
    obtain ⟨⟨y1, y2, y3⟩, e4, h1, h2, h3⟩ := t2
    rw [e4, bnd rfl]; dsimp only
    by_cases c6 : y2 = true
    · rw [ifp c6]; exact ⟨_, _, _, _, _, rfl, fun _ => ⟨by dsimp only; omega, by dsimp only; omega, ⟨p0, p1⟩, by simp, AllIn.nil⟩, h1, h2, h3⟩
    · rw [ifn c6]; exact ⟨_, _, _, _, _, rfl, fun _ => ⟨by dsimp only; omega, by dsimp only; omega, ⟨p0, p1⟩, by simp, AllIn.nil⟩, h1, h2, h3⟩
structure CO (l : List S_Cmd) (now : Int) (R A : List Int) : Prop where
  n0 : 0 ≤ now
  n1 : now ≤ (l.length : Int)
  r : R.length = l.length
  a : A.length = l.length
theorem chear_ex (k : Nat) (l : List S_Cmd) (now first : Int) (R A : List Int) (h : CO l now R A) (hl : l.length ≤ 16) (p : S_Packet) (t : Int) :
    ∃ now' R' A', link_controller_hear k ⟨l, now, first, ()⟩ ⟨[], R, A, 0, 0⟩ p t = some (now', R', A') ∧ CO l now' R' A' := by
  obtain ⟨n0, n1, r, a⟩ := h
  unfold link_controller_hear
  dsimp only
  rw [wid (x := now + 1) (by omega) (by omega)]
  by_cases c : now ≥ (l.length : Int)
  · rw [ifp c, bnd rfl, ifp rfl]; exact ⟨_, _, _, rfl, n0, n1, r, a⟩
  · rw [ifn c]
    have t1 : ∃ x, (if p.Seq ≠ now + 1 then (some true) else (if 0 ≤ now then (if now < (R.length : Int) then (some ((rd R now) != 1)) else none) else none) : Option Bool) = some x := by
      by_cases c1 : p.Seq ≠ now + 1
      · rw [ifp c1]; exact ⟨_, rfl⟩
      · rw [ifn c1, ifp n0, ifp (by omega)]; exact ⟨_, rfl⟩
    obtain ⟨x, e1⟩ := t1
    rw [e1, bnd rfl]
    by_cases c2 : x = true
    · rw [ifp c2]; exact ⟨_, _, _, rfl, n0, n1, r, a⟩
    · rw [ifn c2]
      by_cases c3 : p.Kind = 3
      · rw [ifp c3, ifp n0, ifp (by omega), ifp (by omega)]; exact ⟨_, _, _, rfl, by omega, by omega, by simp [r], by simp [a]⟩
      · rw [ifn c3]
        by_cases c4 : p.Kind = 4
        · rw [ifp c4, ifp n0, ifp (by omega), ifp (by omega)]; exact ⟨_, _, _, rfl, by omega, by omega, by simp [r], by simp [a]⟩
        · rw [ifn c4]; exact ⟨_, _, _, rfl, n0, n1, r, a⟩
theorem data_l0 (k : Nat) (c : S_Cmd) : ∀ (d n : Nat) (b : List Int) (i : Int), i + 8 = 8 * (d : Int) → d ≤ 8 → d < n → b.length + d ≤ 16 → AllIn b 0 255 → ∃ b', link_data.l0 k c n b i = some b' ∧ b'.length ≤ 16 ∧ AllIn b' 0 255 := by
  intro d
  induction d with
  | zero =>
    intro n b i hi hd hn hb ha
    obtain ⟨n, rfl⟩ : ∃ q, n = q + 1 := ⟨n - 1, by omega⟩
    rw [link_data.l0, ifn (by omega)]; exact ⟨b, rfl, by omega, ha⟩
  | succ d ih =>
    intro n b i hi hd hn hb ha
    obtain ⟨n, rfl⟩ : ∃ q, n = q + 1 := ⟨n - 1, by omega⟩
    rw [link_data.l0, ifp (by omega), ifp (by omega), ifp (by omega), wid (x := i - 8) (by omega) (by omega)]
    exact ih n _ (i - 8) (by omega) (by omega) (by omega) (by simp; omega) (ha.push (u8in _).1 (u8in _).2)
theorem data_ex (k : Nat) (c : S_Cmd) (hk : 20 ≤ k) : ∃ b, link_data k c = some b ∧ b.length ≤ 16 ∧ AllIn b 0 255 := by
  obtain ⟨b, e, h⟩ := data_l0 k c 8 k [u8 (c.Op), u8 (shr c.Due 8), u8 (c.Due)] 56 (by decide) (by decide) (by omega) (by simp) (by
    intro x hx
    simp only [List.mem_cons, List.not_mem_nil, or_false] at hx
    rcases hx with rfl | rfl | rfl <;> exact u8in _)
  unfold link_data
  rw [bnd e]; exact ⟨b, rfl, h⟩
theorem act_ex (k : Nat) (l : List S_Cmd) (now first : Int) (R A : List Int) (h : CO l now R A) (hl : l.length ≤ 16) (t : Int) (hk : 20 ≤ k) :
    ∃ p ok fi R' A', link_controller_act k ⟨l, now, first, ()⟩ ⟨[], R, A, 0, 0⟩ t = some (p, ok, fi, R', A') ∧ (ok = true → PV p) ∧ CO l now R' A' := by
  obtain ⟨n0, n1, r, a⟩ := h
  unfold link_controller_act
  dsimp only
  by_cases c : now ≥ (l.length : Int)
  · rw [ifp c]; exact ⟨_, _, _, _, _, rfl, fun z => (by cases z), n0, n1, r, a⟩
  · rw [ifn c, ifp n0, ifp (by omega), wid (x := now + 1) (by omega) (by omega)]
    have t1 : ∃ y : Int × List Int, (if (rd R now) = 0 then (some (t, (R.set (now).toNat 1))) else (some (first, R)) : Option (Int × (List Int))) = some y ∧ y.2.length = l.length := by
      split
      · exact ⟨_, rfl, by simp [r]⟩
      · exact ⟨_, rfl, r⟩
    obtain ⟨⟨y1, y2⟩, e1, h1⟩ := t1
    rw [e1, bnd rfl]; dsimp only
    by_cases c2 : Int.tmod (w64 (t - y1)) 4 ≠ 0
    · rw [ifp c2]; exact ⟨_, _, _, _, _, rfl, fun z => (by cases z), n0, n1, h1, a⟩
    · rw [ifn c2, ifp (by omega)]
      by_cases c3 : t > (rd l now).Due
      · rw [ifp c3]; exact ⟨_, _, _, _, _, rfl, fun _ => ⟨by dsimp only; omega, by dsimp only; omega, ⟨by dsimp only; omega, by dsimp only; omega⟩, by simp, AllIn.nil⟩, n0, n1, h1, a⟩
      · obtain ⟨b, e2, h2, h3⟩ := data_ex k (rd l now) hk
        rw [ifn c3, bnd e2]; exact ⟨_, _, _, _, _, rfl, fun _ => ⟨by dsimp only; omega, by dsimp only; omega, ⟨by dsimp only; omega, by dsimp only; omega⟩, h2, h3⟩, n0, n1, h1, a⟩
theorem run_l1 (k : Nat) (ps : List S_Packet) (t : Int) (back : List S_Fate) (l : List S_Cmd) (hps : ∀ p, p ∈ ps → PK p) (hf : ∀ f, f ∈ back → FK f) (hk : 1010 ≤ k) (hl : ps.length ≤ 100000) : ∀ (Q P : List S_Packet) (n : Nat) (i : Int) (W : List S_parcel) (c la : Int) (di : Bool) (lg : List S_Exec), i = (P.length : Int) → ps = P ++ Q → Q.length < n → W.length + 2 * Q.length ≤ 20000000 → (∀ q, q ∈ W → PC q) → 0 ≤ c → c + Q.length ≤ 100000000 → 0 ≤ la → lg.length + Q.length ≤ 100000000 → (∀ e, e ∈ lg → 0 ≤ e.Cmd) →
    ∃ W' c' la' di' lg', link_Run.l1 k ps t back l n i W c la di lg = some (W', c', la', di', lg') ∧ W'.length ≤ W.length + 2 * Q.length ∧ (∀ q, q ∈ W' → PC q) ∧ 0 ≤ c' ∧ c' ≤ c + Q.length ∧ 0 ≤ la' ∧ lg'.length ≤ lg.length + Q.length ∧ ∀ e, e ∈ lg' → 0 ≤ e.Cmd := by
  intro Q
  induction Q with
  | nil =>
    intro P n i W c la di lg hi hP hn hW hq c0 c1 l0 hlg hg
    obtain ⟨n, rfl⟩ : ∃ q, n = q + 1 := ⟨n - 1, by omega⟩
    rw [List.append_nil] at hP
    rw [link_Run.l1, ifn (by rw [hP]; omega)]
    exact ⟨W, c, la, di, lg, rfl, by simp, hq, c0, by simp, l0, by simp, hg⟩
  | cons p Q ih =>
    intro P n i W c la di lg hi hP hn hW hq c0 c1 l0 hlg hg
    obtain ⟨n, rfl⟩ : ∃ q, n = q + 1 := ⟨n - 1, by omega⟩
    rw [List.length_cons] at hn hW c1 hlg
    have lR : (ps.length : Int) = P.length + (Q.length + 1) := by rw [hP]; simp
    have et : rd ps i = p := by rw [hP]; exact rd_at' hi
    obtain ⟨r, ok, la1, di1, lg1, e1, h1, h2, h3, h4⟩ := dhear_ex k ⟨la, di, lg⟩ p t (hps p (by rw [hP]; simp)) l0 (by dsimp only; omega) hg
    have h3 : lg1.length ≤ lg.length + 1 := h3
    rw [link_Run.l1, ifp (by omega), ifp (by omega), et, bnd e1]; dsimp only
    rw [wid (x := i + 1) (by omega) (by omega), List.length_cons]
    by_cases c2 : ok = true
    · obtain ⟨W1, e2, h5, h6⟩ := send_ex k ⟨back, W, c⟩ r t (h1 c2) hf hq (by dsimp only; omega) c0 (by dsimp only; omega) hk
      have h5 : W1.length ≤ W.length + 2 := h5
      rw [ifp c2, bnd e2]; dsimp only
      obtain ⟨W2, c3, la2, di2, lg2, e3, a1, a2, a3, a4, a5, a6, a7⟩ := ih (P ++ [p]) n (i + 1) W1 (c + 1) la1 di1 lg1 (by simp; omega) (by rw [hP]; simp) (by omega) (by omega) h6 (by omega) (by omega) h2 (by omega) h4
      exact ⟨W2, c3, la2, di2, lg2, e3, by omega, a2, a3, by omega, a5, by omega, a7⟩
    · rw [ifn c2]
      obtain ⟨W2, c3, la2, di2, lg2, e3, a1, a2, a3, a4, a5, a6, a7⟩ := ih (P ++ [p]) n (i + 1) W c la1 di1 lg1 (by simp; omega) (by rw [hP]; simp) (by omega) (by omega) hq c0 (by omega) h2 (by omega) h4
      exact ⟨W2, c3, la2, di2, lg2, e3, by omega, a2, a3, by omega, a5, by omega, a7⟩
theorem run_l2 (k : Nat) (ps : List S_Packet) (l : List S_Cmd) (first t : Int) (hL : l.length ≤ 16) (hl : ps.length ≤ 1000000000) : ∀ (d n : Nat) (i now : Int) (R A : List Int), i + d = (ps.length : Int) → 0 ≤ i → d < n → CO l now R A → ∃ now' R' A', link_Run.l2 k ps l first t n i now R A = some (now', R', A') ∧ CO l now' R' A' := by
  intro d
  induction d with
  | zero =>
    intro n i now R A hi i0 hn hc
    obtain ⟨n, rfl⟩ : ∃ q, n = q + 1 := ⟨n - 1, by omega⟩
    rw [link_Run.l2, ifn (by omega)]
    exact ⟨now, R, A, rfl, hc⟩
  | succ d ih =>
    intro n i now R A hi i0 hn hc
    obtain ⟨n, rfl⟩ : ∃ q, n = q + 1 := ⟨n - 1, by omega⟩
    obtain ⟨now1, R1, A1, e1, h1⟩ := chear_ex k l now first R A hc hL (rd ps i) t
    rw [link_Run.l2, ifp (by omega), ifp i0, bnd e1]; dsimp only
    rw [wid (x := i + 1) (by omega) (by omega)]
    exact ih n (i + 1) now1 R1 A1 (by omega) (by omega) (by omega) h1
theorem run_l0 (k : Nat) (steps : Int) (there back : List S_Fate) (l : List S_Cmd) (hs0 : steps ≤ 200) (ht : ∀ f, f ∈ there → FK f) (hb : ∀ f, f ∈ back → FK f) (hL : l.length ≤ 16) (hk : 1000000010 ≤ k) : ∀ (d n : Nat) (t : Int) (WF : List S_parcel) (cf : Int) (WT : List S_parcel) (ct now first la : Int) (di : Bool) (lg : List S_Exec) (R A : List Int), t + d = steps → 0 ≤ t → d < n →
      (WF.length : Int) ≤ 48000 * t → (∀ q, q ∈ WF → PC q) → 0 ≤ cf → cf ≤ 24000 * t → (WT.length : Int) ≤ 2 * t → (∀ q, q ∈ WT → PC q) → 0 ≤ ct → ct ≤ t → CO l now R A → 0 ≤ la → (lg.length : Int) ≤ 24000 * t → (∀ e, e ∈ lg → 0 ≤ e.Cmd) →
    ∃ a b c d' e f g h lg' r q, link_Run.l0 k steps there l back n t WF cf WT ct now first la di lg R A = some (a, b, c, d', e, f, g, h, lg', r, q) ∧ lg'.length ≤ 24000 * 200 ∧ ∀ e, e ∈ lg' → 0 ≤ e.Cmd := by
  intro d
  induction d with
  | zero =>
    intro n t WF cf WT ct now first la di lg R A h1 h2 hn h3 h4 h5 h6 h7 h8 h9 h10 h11 h12 h13 h14
    obtain ⟨n, rfl⟩ : ∃ q, n = q + 1 := ⟨n - 1, by omega⟩
    rw [link_Run.l0, ifn (by omega)]
    exact ⟨_, _, _, _, _, _, _, _, lg, _, _, rfl, by omega, h14⟩
  | succ d ih =>
    intro n t WF cf WT ct now first la di lg R A h1 h2 hn h3 h4 h5 h6 h7 h8 h9 h10 h11 h12 h13 h14
    obtain ⟨n, rfl⟩ : ∃ q, n = q + 1 := ⟨n - 1, by omega⟩
    obtain ⟨ps, WT1, e1, a1, a2, a3, a4⟩ := take_ex k ⟨there, WT, ct⟩ t h8 (by dsimp only; omega) hk
    have a1 : ps.length ≤ 60 * WT.length := a1
    have a3 : WT1.length ≤ WT.length := a3
    obtain ⟨WF1, cf1, la1, di1, lg1, e2, b1, b2, b3, b4, b5, b6, b7⟩ := run_l1 k ps t back l a2 hb (by omega) (by omega) ps [] k 0 WF cf la di lg rfl rfl (by omega) (by omega) h4 h5 (by omega) h12 (by omega) h14
    obtain ⟨qs, WF2, e3, c1, c2, c3, c4⟩ := take_ex k ⟨back, WF1, cf1⟩ t b2 (by dsimp only; omega) hk
    have c1 : qs.length ≤ 60 * WF1.length := c1
    have c3 : WF2.length ≤ WF1.length := c3
    obtain ⟨now1, R1, A1, e4, d1⟩ := run_l2 k qs l first t hL (by omega) qs.length k 0 now R A (by omega) (by decide) (by omega) h11
    obtain ⟨p, ok, fi, R2, A2, e5, f1, f2⟩ := act_ex k l now1 first R1 A1 d1 hL t (by omega)
    rw [link_Run.l0, ifp (by omega), bnd e1]; dsimp only
    rw [bnd e2]; dsimp only
    rw [bnd e3]; dsimp only
    rw [bnd e4]; dsimp only
    rw [bnd e5]; dsimp only
    rw [wid (x := t + 1) (by omega) (by omega)]
    by_cases c : ok = true
    · obtain ⟨WT2, e6, g1, g2⟩ := send_ex k ⟨there, WT1, ct⟩ p t (f1 c) ht a4 (by dsimp only; omega) h9 (by dsimp only; omega) (by omega)
      have g1 : WT2.length ≤ WT1.length + 2 := g1
      rw [ifp c, bnd e6]; dsimp only
      exact ih n (t + 1) WF2 cf1 WT2 (ct + 1) now1 fi la1 di1 lg1 R2 A2 (by omega) (by omega) (by omega) (by omega) c4 b3 (by omega) (by omega) g2 (by omega) (by omega) f2 b5 (by omega) b7
    · rw [ifn c]
      exact ih n (t + 1) WF2 cf1 WT1 ct now1 fi la1 di1 lg1 R2 A2 (by omega) (by omega) (by omega) (by omega) c4 b3 (by omega) (by omega) a4 h9 (by omega) f2 b5 (by omega) b7
def CK (c : S_Cmd) : Prop := (0 ≤ c.Op ∧ c.Op ≤ 255) ∧ 0 ≤ c.Due ∧ c.Due ≤ 2000
def FV (f : S_Fate) : Prop := (f.Lost = true ∧ f.Delay = 0 ∧ f.Twice = 0 ∧ f.Bits = []) ∨ (f.Lost = false ∧ (1 ≤ f.Delay ∧ f.Delay ≤ 8) ∧ (0 ≤ f.Twice ∧ f.Twice ≤ 8) ∧ (f.Bits = [] ∨ ∃ a b c : Int, f.Bits = [a, b, c] ∧ (0 ≤ a ∧ a < 40) ∧ (40 ≤ b ∧ b < 120) ∧ 120 ≤ c ∧ c < 129))
theorem FV.fk {f : S_Fate} (h : FV f) : FK f := by
  unfold FK
  rcases h with ⟨_, _, _, e⟩ | ⟨_, _, _, e | ⟨a, b, c, e, h1, h2, h3⟩⟩
  · rw [e]; exact ⟨by simp, AllIn.nil⟩
  · rw [e]; exact ⟨by simp, AllIn.nil⟩
  · rw [e]
    refine ⟨by simp, fun x hx => ?_⟩
    simp only [List.mem_cons, List.not_mem_nil, or_false] at hx
    rcases hx with rfl | rfl | rfl <;> omega
theorem cf_l1 (k : Nat) (f : S_Fate) (x : Int) (x3 : x ≤ 3) (hd : ∀ i : Int, 0 ≤ i → i < ((f.Bits.take x.toNat).length : Int) → rd f.Bits x ≠ rd (f.Bits.take x.toNat) i) (hl : f.Bits.length ≤ 3) : ∀ (d n : Nat) (i : Int), i + d = ((f.Bits.take x.toNat).length : Int) → 0 ≤ i → d < n → link_CheckFate.l1 k f x n i = some () := by
  intro d
  induction d with
  | zero =>
    intro n i hi i0 hn
    obtain ⟨n, rfl⟩ : ∃ q, n = q + 1 := ⟨n - 1, by omega⟩
    rw [link_CheckFate.l1, ifn (by omega)]
  | succ d ih =>
    intro n i hi i0 hn
    obtain ⟨n, rfl⟩ : ∃ q, n = q + 1 := ⟨n - 1, by omega⟩
    have ht : (f.Bits.take x.toNat).length ≤ 3 := by rw [List.length_take]; omega
    rw [link_CheckFate.l1, ifp (by omega), ifp i0, ifn (hd i i0 (by omega)), wid (x := i + 1) (by omega) (by omega)]
    exact ih n (i + 1) (by omega) (by omega) (by omega)
theorem cfate (k : Nat) (f : S_Fate) (h : FV f) (hk : 20 ≤ k) : link_CheckFate k f = some 0 := by
  unfold link_CheckFate
  rcases h with ⟨a, b, c, e⟩ | ⟨a, b, c, e⟩
  · rw [ifp a, ifn (by omega), ifn (by omega), e, bnd rfl, ifn (by decide)]
  · rw [ifn (by rw [a]; decide), ifn (by omega), ifn (by omega), ifn (by omega), bnd rfl, ifn (by simp; omega)]
    obtain ⟨j, rfl⟩ : ∃ j, k = j + 4 := ⟨k - 4, by omega⟩
    rcases e with e | ⟨x, y, z, e, h1, h2, h3⟩
    · have e0 : ∀ m, m = j + 4 → link_CheckFate.l0 (j + 4) f m 0 = some () := by
        rintro _ rfl; rw [link_CheckFate.l0, e, ifn (by decide)]
      rw [e, ifn (by decide), bnd (e0 _ rfl)]
    · have q0 : rd f.Bits 0 = x := by rw [e]; rfl
      have q1 : rd f.Bits 1 = y := by rw [e]; rfl
      have q2 : rd f.Bits 2 = z := by rw [e]; rfl
      have l3 : f.Bits.length = 3 := by rw [e]; rfl
      have i0 := cf_l1 (j + 4) f 0 (by decide) (fun i a b => by simp at b; omega) (by omega) 0 (j + 4) 0 (by simp) (by decide) (by omega)
      have i1 := cf_l1 (j + 4) f 1 (by decide) (fun i a b => by
        have b : i < 1 := by rw [e] at b; exact b
        have : i = 0 := by omega
        subst this
        rw [q1, e]; show y ≠ x; omega) (by omega) 1 (j + 4) 0 (by rw [e]; rfl) (by decide) (by omega)
      have i2 := cf_l1 (j + 4) f 2 (by decide) (fun i a b => by
        have b : i < 2 := by rw [e] at b; exact b
        have : i = 0 ∨ i = 1 := by omega
        rcases this with rfl | rfl
        · rw [q2, e]; show z ≠ x; omega
        · rw [q2, e]; show z ≠ y; omega) (by omega) 2 (j + 4) 0 (by rw [e]; rfl) (by decide) (by omega)
      have w1 : w64 (0 + 1) = 1 := by decide
      have w2 : w64 (1 + 1) = 2 := by decide
      have w3 : w64 (2 + 1) = 3 := by decide
      have e0 : ∀ m, m = j + 4 → link_CheckFate.l0 (j + 4) f m 0 = some () := by
        rintro _ rfl
        rw [link_CheckFate.l0, l3, ifp (by decide), ifp (by decide), q0, ifn (by omega), ifp (by decide), bnd i0, w1]
        rw [link_CheckFate.l0, l3, ifp (by decide), ifp (by decide), q1, ifn (by omega), ifp (by decide), bnd i1, w2]
        rw [link_CheckFate.l0, l3, ifp (by decide), ifp (by decide), q2, ifn (by omega), ifp (by decide), bnd i2, w3]
        rw [link_CheckFate.l0, l3, ifn (by decide)]
      rw [l3, ifn (by decide), bnd (e0 _ rfl)]
theorem ck_l0 (k : Nat) (l : List S_Cmd) (h : ∀ c, c ∈ l → CK c) (hl : l.length ≤ 16) : ∀ (d n : Nat) (i : Int), i + d = (l.length : Int) → 0 ≤ i → d < n → link_Check.l0 k l n i = some () := by
  intro d
  induction d with
  | zero =>
    intro n i hi i0 hn
    obtain ⟨n, rfl⟩ : ∃ q, n = q + 1 := ⟨n - 1, by omega⟩
    rw [link_Check.l0, ifn (by omega)]
  | succ d ih =>
    intro n i hi i0 hn
    obtain ⟨n, rfl⟩ : ∃ q, n = q + 1 := ⟨n - 1, by omega⟩
    obtain ⟨⟨h1, h2⟩, h3, h4⟩ := h _ (rd_mem i0 (show i < (l.length : Int) by omega))
    rw [link_Check.l0, ifp (by omega), ifp i0, ifn (by omega), ifn (by omega), ifn (by omega), bnd rfl, ifn (by simp; omega), wid (x := i + 1) (by omega) (by omega)]
    exact ih n (i + 1) (by omega) (by omega) (by omega)
theorem ck_l2 (k : Nat) (a b F : List S_Fate) (x : Int) (hx : rd ([a, b] : List (List S_Fate)) x = F) (h : ∀ f, f ∈ F → FV f) (hl : F.length ≤ 200) (hk : 20 ≤ k) : ∀ (d n : Nat) (i : Int), i + d = (F.length : Int) → 0 ≤ i → d < n → link_Check.l2 k a b x n i = some () := by
  intro d
  induction d with
  | zero =>
    intro n i hi i0 hn
    obtain ⟨n, rfl⟩ : ∃ q, n = q + 1 := ⟨n - 1, by omega⟩
    rw [link_Check.l2, hx, ifn (by omega)]
  | succ d ih =>
    intro n i hi i0 hn
    obtain ⟨n, rfl⟩ : ∃ q, n = q + 1 := ⟨n - 1, by omega⟩
    rw [link_Check.l2, hx, ifp (by omega), ifp i0, bnd (cfate k _ (h _ (rd_mem i0 (by omega))) hk), ifn (by decide), wid (x := i + 1) (by omega) (by omega)]
    exact ih n (i + 1) (by omega) (by omega) (by omega)
theorem lcheck (k : Nat) (l : List S_Cmd) (a b : List S_Fate) (h : ∀ c, c ∈ l → CK c) (hl : l.length ≤ 16) (ha : ∀ f, f ∈ a → FV f) (hb : ∀ f, f ∈ b → FV f) (la : a.length ≤ 200) (lb : b.length ≤ 200) (hk : 300 ≤ k) : link_Check k l a b = some 0 := by
  unfold link_Check
  rw [ifn (by omega), ifn (by omega), bnd rfl, ifn (by simp; omega), bnd (ck_l0 k l h hl l.length k 0 (by omega) (by decide) (by omega))]
  obtain ⟨j, rfl⟩ : ∃ j, k = j + 3 := ⟨k - 3, by omega⟩
  have e0 : ∀ m, m = j + 3 → link_Check.l1 (j + 3) a b l m 0 = some () := by
    rintro _ rfl
    have w1 : w64 (0 + 1) = 1 := by decide
    have w2 : w64 (1 + 1) = 2 := by decide
    have l2 : (([a, b] : List (List S_Fate)).length : Int) = 2 := rfl
    rw [link_Check.l1, l2, ifp (by decide), ifp (by decide), bnd (ck_l2 (j + 3) a b a 0 rfl ha la (by omega) a.length (j + 3) 0 (by omega) (by decide) (by omega)), w1]
    rw [link_Check.l1, l2, ifp (by decide), ifp (by decide), bnd (ck_l2 (j + 3) a b b 1 rfl hb lb (by omega) b.length (j + 3) 0 (by omega) (by decide) (by omega)), w2]
    rw [link_Check.l1, l2, ifn (by decide)]
  rw [bnd (e0 _ rfl)]
theorem lrun_ex (k : Nat) (l : List S_Cmd) (a b : List S_Fate) (steps : Int) (h : ∀ c, c ∈ l → CK c) (hl : l.length ≤ 16) (ha : ∀ f, f ∈ a → FV f) (hb : ∀ f, f ∈ b → FV f) (la : a.length ≤ 200) (lb : b.length ≤ 200) (s0 : 0 ≤ steps) (s1 : steps ≤ 200) (hk : 1000000010 ≤ k) :
    ∃ x, link_Run k l a b steps = some (x, 0) ∧ x.Execs.length ≤ 4800000 ∧ ∀ e, e ∈ x.Execs → 0 ≤ e.Cmd := by
  obtain ⟨x1, x2, x3, x4, x5, x6, x7, x8, lg, x9, x10, e1, h1, h2⟩ := run_l0 k steps a b l s1 (fun f hf => (ha f hf).fk) (fun f hf => (hb f hf).fk) hl hk steps.toNat k 0 [] 0 [] 0 0 0 0 false [] (List.replicate ((l.length : Int)).toNat (0 : Int)) (List.replicate ((l.length : Int)).toNat (0 : Int)) (by omega) (by decide) (by omega) (by simp) (fun q hq => by cases hq) (by decide) (by simp) (by simp) (fun q hq => by cases hq) (by decide) (by decide) ⟨by decide, by omega, by simp, by simp⟩ (by decide) (by simp) (fun e he => by cases he)
  unfold link_Run
  rw [bnd (lcheck k l a b h hl ha hb la lb (by omega)), ifn (by decide), ifn (by omega), bnd rfl, ifn (by simp; omega), ifp (by omega), ifp (by omega), bnd e1]
  exact ⟨_, rfl, by dsimp only; omega, h2⟩
theorem getset {α : Type} {P : α → Prop} {l : List α} (h : ∀ x, x ∈ l → P x) (i : Nat) {v : α} (hv : P v) : ∀ x, x ∈ l.set i v → P x := fun y hy => by
  rcases List.mem_or_eq_of_mem_set hy with q | q
  · exact h y q
  · rw [q]; exact hv
theorem allpush {α : Type} {P : α → Prop} {l : List α} (h : ∀ x, x ∈ l → P x) {v : α} (hv : P v) : ∀ x, x ∈ l ++ [v] → P x := fun y hy => by
  rcases List.mem_append.mp hy with q | q
  · exact h y q
  · rw [List.mem_singleton.mp q]; exact hv
def C0 (c : S_Cmd) : Prop := (0 ≤ c.Op ∧ c.Op ≤ 255) ∧ c.Due = 0
theorem ord_l0 (k : Nat) (L : List Int) (p : Int) (a : Int) {m : S_Mount} (hm : MOk m) (N : Int) : ∀ (e n : Nat) (l : List S_Cmd) (i b : Int), i + e = N → 0 ≤ i → N ≤ 1000 → e < n → 0 ≤ b → b + 4 * e ≤ 100000 → (∀ c, c ∈ l → C0 c) → l.length + e ≤ 10000 →
    ∃ l' b', spytop_h1orders.l0 k N ⟨L, p⟩ m n l i b = some (l', b') ∧ (l'.length = l.length + e) ∧ (∀ c, c ∈ l' → C0 c) ∧ 0 ≤ b' ∧ b' ≤ b + 4 * e := by
  intro e
  induction e with
  | zero =>
    intro n l i b hi i0 hN hn b0 b1 hl hL
    obtain ⟨n, rfl⟩ : ∃ q, n = q + 1 := ⟨n - 1, by omega⟩
    rw [spytop_h1orders.l0, ifn (by omega)]
    exact ⟨l, b, rfl, rfl, hl, b0, by omega⟩
  | succ e ih =>
    intro n l i b hi i0 hN hn b0 b1 hl hL
    obtain ⟨n, rfl⟩ : ∃ q, n = q + 1 := ⟨n - 1, by omega⟩
    obtain ⟨o, e1, o1⟩ := next_ex k L b 14 (by decide) (by decide) b0 (by omega)
    have step : ∀ (x c : Int), b ≤ c → c ≤ b + 4 → ∃ l' b', (if (l.length + 1) * 24 ≤ 140737488355328 then (spytop_h1orders.l0 k N ⟨L, p⟩ m n (l ++ ([(⟨o, x, 0⟩ : S_Cmd)] : List S_Cmd)) (w64 (i + 1)) c) else none) = some (l', b') ∧ (l'.length = l.length + (e + 1)) ∧ (∀ c, c ∈ l' → C0 c) ∧ 0 ≤ b' ∧ b' ≤ b + 4 * ((e + 1 : Nat) : Int) := by
      intro x c hc hc'
      obtain ⟨l', b', e2, h1, h2, h3, h4⟩ := ih n (l ++ [(⟨o, x, 0⟩ : S_Cmd)]) (i + 1) c (by omega) (by omega) hN (by omega) (by omega) (by omega) (allpush hl ⟨⟨o1.1, by dsimp only; omega⟩, rfl⟩) (by simp; omega)
      rw [ifp (by omega), wid (x := i + 1) (by omega) (by omega), e2]
      refine ⟨l', b', rfl, ?_, h2, h3, by omega⟩
      rw [h1]; simp only [List.length_append, List.length_cons, List.length_nil]; omega
    rw [spytop_h1orders.l0, ifp (by omega), bnd e1]; dsimp only
    have t : (if o = 0 then (some (o == 0)) else (some (o == 8)) : Option Bool) = some (decide (o = 0 ∨ o = 8)) := by
      by_cases c : o = 0
      · rw [ifp c]; simp [c]
      · rw [ifn c]; simp [c]; rfl
    rw [t]; dsimp only [Option.bind]
    by_cases c1 : o = 0 ∨ o = 8
    · obtain ⟨x, c, e3, _, c0, c1'⟩ := inside_ex k L (b + 1) hm.az.m0 hm.az.mm hm.az.m1 (by omega) (by omega)
      rw [ifp (by simpa using c1), e3]; dsimp only
      exact step x c (by omega) (by omega)
    · rw [ifn (by simpa using c1)]
      by_cases c2 : o = 1
      · obtain ⟨x, c, e3, _, c0, c1'⟩ := inside_ex k L (b + 1) hm.alt.m0 hm.alt.mm hm.alt.m1 (by omega) (by omega)
        rw [ifp c2, e3]; dsimp only
        exact step x c (by omega) (by omega)
      · rw [ifn c2]
        by_cases c3 : o = 9
        · obtain ⟨x, e3, _⟩ := range_ex k L (b + 1) 1 9 (by decide) (by decide) (by decide) (by decide) (by omega) (by omega)
          rw [ifp c3, e3]; dsimp only
          exact step x (b + 1 + 1) (by omega) (by omega)
        · rw [ifn c3]
          exact step 0 (b + 1) (by omega) (by omega)
theorem ord_l1 (k : Nat) (L : List Int) (p : Int) (l0 : List S_Cmd) (h16 : l0.length ≤ 16) : ∀ (e n : Nat) (l : List S_Cmd) (d i b : Int), i + e = (l0.length : Int) → 0 ≤ i → e < n → 0 ≤ b → b + e ≤ 100000 → l.length = l0.length → (0 ≤ d ∧ d ≤ 23 * i) → (∀ c, c ∈ l → CK c) →
    ∃ l' b', spytop_h1orders.l1 k l0 ⟨L, p⟩ n l d i b = some (l', b') ∧ l'.length = l0.length ∧ (∀ c, c ∈ l' → CK c) ∧ 0 ≤ b' ∧ b' ≤ b + e := by
  intro e
  induction e with
  | zero =>
    intro n l d i b hi i0 hn b0 b1 hL hd hl
    obtain ⟨n, rfl⟩ : ∃ q, n = q + 1 := ⟨n - 1, by omega⟩
    rw [spytop_h1orders.l1, ifn (by omega)]
    exact ⟨l, b, rfl, hL, hl, b0, by omega⟩
  | succ e ih =>
    intro n l d i b hi i0 hn b0 b1 hL hd hl
    obtain ⟨n, rfl⟩ : ∃ q, n = q + 1 := ⟨n - 1, by omega⟩
    obtain ⟨v, e1, v1⟩ := next_ex k L b 24 (by decide) (by decide) b0 (by omega)
    rw [spytop_h1orders.l1, ifp (by omega), bnd e1]; dsimp only
    rw [ifp i0, ifp (by omega), wid (x := d + v) (by omega) (by omega), wid (x := i + 1) (by omega) (by omega)]
    obtain ⟨l', b', e2, h1, h2, h3, h4⟩ := ih n (l.set i.toNat ⟨(rd l i).Op, (rd l i).Arg, d + v⟩) (d + v) (i + 1) (b + 1) (by omega) (by omega) (by omega) (by omega) (by omega) (by rw [List.length_set]; exact hL) (by omega) (getset hl _ ⟨(hl _ (rd_mem i0 (by omega))).1, by dsimp only; omega, by dsimp only; omega⟩)
    exact ⟨l', b', e2, h1, h2, h3, by omega⟩
theorem orders_ex (k : Nat) (L : List Int) (a : Int) {m : S_Mount} (hm : MOk m) (a0 : 0 ≤ a) (a1 : a ≤ 1000) (hk : 1000 ≤ k) :
    ∃ l b, spytop_h1orders k ⟨L, a⟩ m = some (l, b) ∧ l.length ≤ 16 ∧ (∀ c, c ∈ l → CK c) ∧ 0 ≤ b ∧ b ≤ a + 100 := by
  obtain ⟨x, c, e1, _, c0, c1⟩ := inside_ex k L a hm.az.m0 hm.az.mm hm.az.m1 a0 (by omega)
  obtain ⟨N, e2, N0, N1⟩ := next_ex k L c 10 (by decide) (by decide) (by omega) (by omega)
  obtain ⟨l, b, e3, h1, h2, h3, h4⟩ := ord_l0 k L a 0 hm N N.toNat k [(⟨13, 0, 0⟩ : S_Cmd), (⟨6, 0, 0⟩ : S_Cmd), (⟨0, x, 0⟩ : S_Cmd), (⟨2, 0, 0⟩ : S_Cmd)] 0 (c + 1) (by omega) (by decide) (by omega) (by omega) (by omega) (by omega) (by
      intro y hy
      simp only [List.mem_cons, List.not_mem_nil, or_false] at hy
      rcases hy with rfl | rfl | rfl | rfl <;> exact ⟨by constructor <;> (dsimp only; omega), rfl⟩) (by simp; omega)
  have h1 : l.length = 4 + N.toNat := by rw [h1]; rfl
  obtain ⟨l', b', e4, h5, h6, h7, h8⟩ := ord_l1 k L a l (by omega) l.length k l 0 0 b (by omega) (by decide) (by omega) h3 (by omega) rfl (by decide) (fun y hy => ⟨(h2 y hy).1, by have := (h2 y hy).2; omega, by have := (h2 y hy).2; omega⟩)
  unfold spytop_h1orders
  rw [bnd e1]; dsimp only
  rw [bnd e2]; dsimp only
  rw [bnd e3]; dsimp only
  rw [bnd e4]
  exact ⟨l', b', rfl, by omega, h6, h7, by omega⟩
theorem fat_l0 (k : Nat) (L : List Int) (p : Int) (N : Int) : ∀ (e n : Nat) (l : List S_Fate) (i b : Int), i + e = N → 0 ≤ i → N ≤ 1000 → e < n → 0 ≤ b → b + 5 * e ≤ 100000 → (∀ c, c ∈ l → FV c) → l.length + e ≤ 10000 →
    ∃ l' b', spytop_h1fates.l0 k N ⟨L, p⟩ n l i b = some (l', b') ∧ (l'.length = l.length + e) ∧ (∀ c, c ∈ l' → FV c) ∧ 0 ≤ b' ∧ b' ≤ b + 5 * e := by
  intro e
  induction e with
  | zero =>
    intro n l i b hi i0 hN hn b0 b1 hl hL
    obtain ⟨n, rfl⟩ : ∃ q, n = q + 1 := ⟨n - 1, by omega⟩
    rw [spytop_h1fates.l0, ifn (by omega)]
    exact ⟨l, b, rfl, rfl, hl, b0, by omega⟩
  | succ e ih =>
    intro n l i b hi i0 hN hn b0 b1 hl hL
    obtain ⟨n, rfl⟩ : ∃ q, n = q + 1 := ⟨n - 1, by omega⟩
    have step : ∀ (f : S_Fate) (c : Int), FV f → b ≤ c → c ≤ b + 5 → ∃ l' b', (if (l.length + 1) * 48 ≤ 140737488355328 then (spytop_h1fates.l0 k N ⟨L, p⟩ n (l ++ ([f] : List S_Fate)) (w64 (i + 1)) c) else none) = some (l', b') ∧ (l'.length = l.length + (e + 1)) ∧ (∀ c, c ∈ l' → FV c) ∧ 0 ≤ b' ∧ b' ≤ b + 5 * ((e + 1 : Nat) : Int) := by
      intro f c hf hc hc'
      obtain ⟨l', b', e2, h1, h2, h3, h4⟩ := ih n (l ++ [f]) (i + 1) c (by omega) (by omega) hN (by omega) (by omega) (by omega) (allpush hl hf) (by simp; omega)
      rw [ifp (by omega), wid (x := i + 1) (by omega) (by omega), e2]
      refine ⟨l', b', rfl, ?_, h2, h3, by omega⟩
      rw [h1]; simp only [List.length_append, List.length_cons, List.length_nil]; omega
    obtain ⟨d, e1, d1⟩ := range_ex k L b 1 8 (by decide) (by decide) (by decide) (by decide) b0 (by omega)
    obtain ⟨o, e2, o1⟩ := next_ex k L (b + 1) 4 (by decide) (by decide) (by omega) (by omega)
    rw [spytop_h1fates.l0, ifp (by omega), bnd e1]; dsimp only
    rw [bnd e2]; dsimp only
    by_cases c1 : o = 0
    · rw [ifp c1]
      exact step _ _ (.inl ⟨rfl, rfl, rfl, rfl⟩) (by omega) (by omega)
    · rw [ifn c1]
      by_cases c2 : o = 1
      · obtain ⟨x, e3, x1⟩ := range_ex k L (b + 1 + 1) 1 8 (by decide) (by decide) (by decide) (by decide) (by omega) (by omega)
        rw [ifp c2, bnd e3]; dsimp only
        exact step _ _ (.inr ⟨rfl, d1, ⟨by dsimp only; omega, x1.2⟩, .inl rfl⟩) (by omega) (by omega)
      · rw [ifn c2]
        by_cases c3 : o = 2
        · obtain ⟨x, e3, x1⟩ := next_ex k L (b + 1 + 1) 40 (by decide) (by decide) (by omega) (by omega)
          obtain ⟨y, e4, y1⟩ := next_ex k L (b + 1 + 1 + 1) 80 (by decide) (by decide) (by omega) (by omega)
          obtain ⟨z, e5, z1⟩ := next_ex k L (b + 1 + 1 + 1 + 1) 9 (by decide) (by decide) (by omega) (by omega)
          rw [ifp c3, bnd e3]; dsimp only
          rw [bnd e4]; dsimp only
          rw [bnd e5]; dsimp only
          rw [wid (x := 40 + y) (by omega) (by omega), wid (x := 120 + z) (by omega) (by omega)]
          exact step _ _ (.inr ⟨rfl, d1, ⟨Int.le_refl 0, (by decide : (0 : Int) ≤ 8)⟩, .inr ⟨x, _, _, rfl, x1, by omega, by omega, by omega⟩⟩) (by omega) (by omega)
        · rw [ifn c3]
          exact step _ _ (.inr ⟨rfl, d1, ⟨Int.le_refl 0, (by decide : (0 : Int) ≤ 8)⟩, .inl rfl⟩) (by omega) (by omega)
theorem fates_ex (k : Nat) (L : List Int) (a : Int) (a0 : 0 ≤ a) (a1 : a ≤ 1000) (hk : 1000 ≤ k) :
    ∃ l b, spytop_h1fates k ⟨L, a⟩ = some (l, b) ∧ l.length ≤ 200 ∧ (∀ c, c ∈ l → FV c) ∧ 0 ≤ b ∧ b ≤ a + 200 := by
  obtain ⟨N, e2, N0, N1⟩ := next_ex k L a 30 (by decide) (by decide) a0 (by omega)
  obtain ⟨l, b, e3, h1, h2, h3, h4⟩ := fat_l0 k L a N N.toNat k [] 0 (a + 1) (by omega) (by decide) (by omega) (by omega) (by omega) (by omega) (fun y hy => by cases hy) (by simp; omega)
  have h1 : l.length = 0 + N.toNat := by rw [h1]; rfl
  unfold spytop_h1fates
  rw [bnd e2]; dsimp only
  rw [bnd e3]
  exact ⟨l, b, rfl, by omega, h2, h3, by omega⟩
theorem scr_l1 (k : Nat) (x : S_Log) (t : Int) (l : List S_Cmd) (hx : x.Execs.length ≤ 4800000) (h0 : ∀ e, e ∈ x.Execs → 0 ≤ e.Cmd) : ∀ (d n : Nat) (i : Int) (O : List S_Order), i + d = (x.Execs.length : Int) → 0 ≤ i → d < n → O.length + d ≤ 4800000 →
    ∃ O', spytop_h1script.l1 k x t l n i O = some O' ∧ O'.length ≤ O.length + d := by
  intro d
  induction d with
  | zero =>
    intro n i O hi i0 hn hO
    obtain ⟨n, rfl⟩ : ∃ q, n = q + 1 := ⟨n - 1, by omega⟩
    rw [spytop_h1script.l1, ifn (by omega)]
    exact ⟨O, rfl, Nat.le_refl _⟩
  | succ d ih =>
    intro n i O hi i0 hn hO
    obtain ⟨n, rfl⟩ : ∃ q, n = q + 1 := ⟨n - 1, by omega⟩
    rw [spytop_h1script.l1, ifp (by omega), ifp i0, wid (x := i + 1) (by omega) (by omega)]
    have skip : ∃ O', spytop_h1script.l1 k x t l n (i + 1) O = some O' ∧ O'.length ≤ O.length + (d + 1) := by
      obtain ⟨O', e, h⟩ := ih n (i + 1) O (by omega) (by omega) (by omega) (by omega)
      exact ⟨O', e, by omega⟩
    by_cases c : (rd x.Execs i).At = t
    · rw [ifp c]
      by_cases c1 : (rd x.Execs i).Cmd < (l.length : Int)
      · rw [ifp c1, ifp (h0 _ (rd_mem i0 (by omega))), ifp (by omega)]
        obtain ⟨O', e, h⟩ := ih n (i + 1) (O ++ [(⟨(rd l ((rd x.Execs i).Cmd)).Op, (rd l ((rd x.Execs i).Cmd)).Arg⟩ : S_Order)]) (by omega) (by omega) (by omega) (by simp; omega)
        refine ⟨O', e, ?_⟩
        simp only [List.length_append, List.length_cons, List.length_nil] at h; omega
      · rw [ifn c1]; exact skip
    · rw [ifn c]; exact skip
theorem scr_l0 (k : Nat) (x : S_Log) (l : List S_Cmd) (L : List Int) (p : Int) (N : Int) (hN : N ≤ 200) (hx : x.Execs.length ≤ 4800000) (h0 : ∀ e, e ∈ x.Execs → 0 ≤ e.Cmd) (hk : 4800010 ≤ k) : ∀ (d n : Nat) (out : List S_Input) (i b : Int), i + d = N → 0 ≤ i → d < n → 0 ≤ b → b + 4 * d ≤ 100000 → out.length + d ≤ 200 → (∀ y, y ∈ out → y.Orders.length ≤ 4800000) →
    ∃ o b', spytop_h1script.l0 k N x l ⟨L, p⟩ n out i b = some (o, b') ∧ o.length = out.length + d ∧ (∀ y, y ∈ o → y.Orders.length ≤ 4800000) ∧ 0 ≤ b' ∧ b' ≤ b + 4 * d := by
  intro d
  induction d with
  | zero =>
    intro n out i b hi i0 hn b0 b1 hL hl
    obtain ⟨n, rfl⟩ : ∃ q, n = q + 1 := ⟨n - 1, by omega⟩
    rw [spytop_h1script.l0, ifn (by omega)]
    exact ⟨out, b, rfl, rfl, hl, b0, by omega⟩
  | succ d ih =>
    intro n out i b hi i0 hn b0 b1 hL hl
    obtain ⟨n, rfl⟩ : ∃ q, n = q + 1 := ⟨n - 1, by omega⟩
    obtain ⟨O, e1, hO⟩ := scr_l1 k x i l hx h0 x.Execs.length k 0 [] (by omega) (by decide) (by omega) (by simp; omega)
    have hO : O.length ≤ 0 + x.Execs.length := hO
    have step : ∀ (f : S_Sensors) (c : Int), b ≤ c → c ≤ b + 4 → ∃ l' b', (if (out.length + 1) * 32 ≤ 140737488355328 then (spytop_h1script.l0 k N x l ⟨L, p⟩ n (out ++ ([(⟨O, f⟩ : S_Input)] : List S_Input)) (w64 (i + 1)) c) else none) = some (l', b') ∧ (l'.length = out.length + (d + 1)) ∧ (∀ y, y ∈ l' → y.Orders.length ≤ 4800000) ∧ 0 ≤ b' ∧ b' ≤ b + 4 * ((d + 1 : Nat) : Int) := by
      intro f c hc hc'
      obtain ⟨l', b', e2, h1, h2, h3, h4⟩ := ih n (out ++ [⟨O, f⟩]) (i + 1) c (by omega) (by omega) (by omega) (by omega) (by omega) (by simp; omega) (allpush hl (show O.length ≤ 4800000 by omega))
      rw [ifp (by omega), wid (x := i + 1) (by omega) (by omega), e2]
      refine ⟨l', b', rfl, ?_, h2, h3, by omega⟩
      rw [h1]; simp only [List.length_append, List.length_cons, List.length_nil]; omega
    obtain ⟨v, e2, v1⟩ := next_ex k L b 40 (by decide) (by decide) b0 (by omega)
    rw [spytop_h1script.l0, ifp (by omega), bnd e1, bnd e2]; dsimp only
    by_cases c : v = 0
    · obtain ⟨u1, e3, _⟩ := next_ex k L (b + 1) 2 (by decide) (by decide) (by omega) (by omega)
      obtain ⟨u2, e4, _⟩ := next_ex k L (b + 1 + 1) 2 (by decide) (by decide) (by omega) (by omega)
      obtain ⟨u3, e5, _⟩ := next_ex k L (b + 1 + 1 + 1) 2 (by decide) (by decide) (by omega) (by omega)
      rw [ifp c, bnd e3]; dsimp only
      rw [bnd e4]; dsimp only
      rw [bnd e5]; dsimp only
      exact step _ _ (by omega) (by omega)
    · rw [ifn c]
      exact step _ _ (by omega) (by omega)
theorem script_ex (k : Nat) (x : S_Log) (l : List S_Cmd) (L : List Int) (p : Int) (N : Int) (N0 : 0 ≤ N) (hN : N ≤ 200) (hx : x.Execs.length ≤ 4800000) (h0 : ∀ e, e ∈ x.Execs → 0 ≤ e.Cmd) (hk : 4800010 ≤ k) (p0 : 0 ≤ p) (p1 : p ≤ 10000) :
    ∃ o b', spytop_h1script k ⟨L, p⟩ l x N = some (o, b') ∧ (o.length : Int) = N ∧ (∀ y, y ∈ o → y.Orders.length ≤ 4800000) ∧ 0 ≤ b' ∧ b' ≤ 100000 := by
  obtain ⟨o, b, e, h1, h2, h3, h4⟩ := scr_l0 k x l L p N hN hx h0 hk N.toNat k [] 0 p (by omega) (by decide) (by omega) p0 (by omega) (by simp; omega) (fun y hy => by cases hy)
  have h1 : o.length = 0 + N.toNat := by rw [h1]; rfl
  unfold spytop_h1script
  rw [bnd e]
  exact ⟨o, b, rfl, by omega, h2, h3, by omega⟩
theorem sends (j : Nat) : spytop_h1sends (j + 100) = some true := by kernel_rfl
theorem law_ex (l : List Int) (vk : Int) (_ : (Lit.int .i64 vk).wf = true) : ∃ k, spytop_TopSafe k l vk = some true := by
  obtain ⟨k, hk⟩ : ∃ k, k = 2000000000 := ⟨_, rfl⟩
  refine ⟨k, ?_⟩
  obtain ⟨m, b1, e1, hm, b10, b11⟩ := mount_ex k l
  obtain ⟨os, b2, e2, hos, ho, b20, b21⟩ := orders_ex k l b1 hm b10 (by omega) (by omega)
  obtain ⟨f1, b3, e3, hf1, h1, b30, b31⟩ := fates_ex k l b2 b20 (by omega) (by omega)
  obtain ⟨f2, b4, e4, hf2, h2, b40, b41⟩ := fates_ex k l b3 b30 (by omega) (by omega)
  obtain ⟨v, e5, v0, v1⟩ := below_ex k vk 200 (by decide) (by decide)
  obtain ⟨x, e6, hx, hx0⟩ := lrun_ex k os f1 f2 (v + 1) ho hos h1 h2 hf1 hf2 (by omega) (by omega) (by omega)
  obtain ⟨o, b5, e7, hl, hO, b50, b51⟩ := script_ex k x os l b4 (v + 1) (by omega) (by omega) hx hx0 (by omega) b40 (by omega)
  obtain ⟨out, es, e8, hout, hW⟩ := grun_ex k hm o 4800000 (by omega) (by omega) hO (by omega)
  have es1 : spytop_h1sends k = some true := by
    have := sends (k - 100)
    rwa [show k - 100 + 100 = k by omega] at this
  have hw := hW _ (rd_mem (i := v) v0 (by omega))
  obtain ⟨w, e, e9, h3, h4⟩ := give_ex k hm hw ⟨12, 0⟩ (by omega)
  obtain ⟨a, b, c⟩ := h4 rfl rfl
  obtain ⟨ws, _⟩ := h3 a
  obtain ⟨⟨r1, r2⟩, e10⟩ := fin_l0 k hm l (by omega) 102 k 0 b5 w (by decide) (by decide) (by omega) b50 (by omega) ws b (c _ (hw.pw hm))
  unfold spytop_TopSafe
  rw [bnd e1]; dsimp only
  rw [bnd e2]; dsimp only
  rw [bnd e3]; dsimp only
  rw [bnd e4]; dsimp only
  rw [bnd e5, wid (x := v + 1) (by omega) (by omega), wid (x := v + 1 - 1) (by omega) (by omega), show v + 1 - 1 = v by omega, bnd e6]; dsimp only
  rw [bnd (start_eq k m), bnd e7]; dsimp only
  rw [bnd e8]; dsimp only
  rw [bnd es1, ifn (by simp), ifn (by decide), ifn (by decide)]
  have e11 : ((out.length : Int) != v + 1) = false := by simp; omega
  rw [e11, bnd rfl, ifn (by decide), ifp v0, ifp (by omega), bnd e9]; dsimp only
  rw [bnd e10, a]; rfl
end Go.Sp.S4
