import Derived.Test.YtcnhbfdkediodaaFX3
import Derived.KernelRfl
namespace Go.Sp.X3
open Go Go.Sp
set_option linter.unusedVariables false
theorem bnd {α β : Type} {x : Option α} {g : α → Option β} {v : α} (h : x = some v) : x.bind g = g v := by rw [h]; rfl
theorem ifp {α : Type} {c : Prop} [Decidable c] {x y : α} (h : c) : (if c then x else y) = x := if_pos h
theorem ifn {α : Type} {c : Prop} [Decidable c] {x y : α} (h : ¬ c) : (if c then x else y) = y := if_neg h
theorem rd_mem {α : Type} [Inhabited α] {l : List α} {i : Int} (h0 : 0 ≤ i) (h1 : i < (l.length : Int)) : rd l i ∈ l := by
  obtain ⟨h, e⟩ := rd_lt h0 h1
  rw [e]; exact List.getElem_mem h
theorem wid {x : Int} (h : -9223372036854775808 ≤ x) (h' : x ≤ 9223372036854775807) : w64 x = x := w64_of h h'
theorem wuid {x : Int} (h : 0 ≤ x) (h' : x ≤ 18446744073709551615) : u64 x = x := u64_of h h'
theorem mul_le {a b A B : Int} (h1 : 0 ≤ a) (h2 : a ≤ A) (h3 : 0 ≤ b) (h4 : b ≤ B) : 0 ≤ a * b ∧ a * b ≤ A * B :=
  ⟨Int.mul_nonneg h1 h3, Int.mul_le_mul h2 h4 h3 (by omega)⟩
theorem tdiv_nn {a b : Int} (h : 0 ≤ a) : Int.tdiv a b = a / b := Int.tdiv_eq_ediv_of_nonneg h
theorem tmod_nn {a b : Int} (h : 0 ≤ a) : Int.tmod a b = a % b := Int.tmod_eq_emod_of_nonneg h
def AllIn (l : List Int) (lo hi : Int) : Prop := ∀ x, x ∈ l → lo ≤ x ∧ x ≤ hi
theorem AllIn.nil {lo hi : Int} : AllIn [] lo hi := fun x h => by cases h
theorem AllIn.push {l : List Int} {lo hi x : Int} (h : AllIn l lo hi) (h0 : lo ≤ x) (h1 : x ≤ hi) : AllIn (l ++ [x]) lo hi := by
  intro y hy
  rcases List.mem_append.mp hy with hy | hy
  · exact h y hy
  · simp only [List.mem_singleton] at hy; subst hy; exact ⟨h0, h1⟩
theorem AllIn.rd {l : List Int} {lo hi i : Int} (h : AllIn l lo hi) (h0 : 0 ≤ i) (h1 : i < (l.length : Int)) : lo ≤ rd l i ∧ rd l i ≤ hi := h _ (rd_mem h0 h1)
theorem AllIn.mono {l : List Int} {lo hi lo' hi' : Int} (h : AllIn l lo hi) (h0 : lo' ≤ lo) (h1 : hi ≤ hi') : AllIn l lo' hi' := fun x hx => by have := h x hx; omega
theorem rd_set_eq (l : List Int) (i x : Int) (h0 : 0 ≤ i) (h1 : i < (l.length : Int)) : rd (l.set i.toNat x) i = x := by
  obtain ⟨h, e⟩ := rd_lt (xs := l.set i.toNat x) h0 (by simp; omega)
  rw [e]; simp
theorem rd_set_ne (l : List Int) (i j x : Int) (h0 : 0 ≤ i) (hj : 0 ≤ j) (h1 : j < (l.length : Int)) (hne : j ≠ i) : rd (l.set i.toNat x) j = rd l j := by
  obtain ⟨h, e⟩ := rd_lt (xs := l.set i.toNat x) hj (by simp; omega)
  obtain ⟨h', e'⟩ := rd_lt (xs := l) hj h1
  rw [e, e', List.getElem_set, if_neg (by omega)]
theorem rd_push_old (l : List Int) (x i : Int) (h0 : 0 ≤ i) (h1 : i < (l.length : Int)) : rd (l ++ [x]) i = rd l i := by
  obtain ⟨h, e⟩ := rd_lt (xs := l ++ [x]) h0 (by simp; omega)
  obtain ⟨h', e'⟩ := rd_lt (xs := l) h0 h1
  rw [e, e', List.getElem_append_left h']
theorem rd_push_new (l : List Int) (x i : Int) (h1 : i = (l.length : Int)) : rd (l ++ [x]) i = x := by
  obtain ⟨h, e⟩ := rd_lt (xs := l ++ [x]) (i := i) (by omega) (by simp; omega)
  rw [e, List.getElem_append_right (by omega)]
  simp
theorem below_ex (k : Nat) (x n : Int) (h1 : 1 ≤ n) (h2 : n ≤ 4611686018427387904) : ∃ v, spymake_Below k x n = some v ∧ 0 ≤ v ∧ v < n := by
  have e1 := Int.tmod_lt_of_pos x (show 0 < n by omega)
  have e2 := Int.lt_tmod_of_pos x (show 0 < n by omega)
  unfold spymake_Below
  rw [ifn (by omega), ifp (by omega)]
  by_cases c : Int.tmod x n < 0
  · rw [ifp c]
    refine ⟨_, rfl, ?_, ?_⟩ <;> rw [wid (by omega) (by omega)] <;> omega
  · rw [ifn c]
    exact ⟨_, rfl, by omega, by omega⟩
theorem half_ex (k : Nat) (n : Int) : ∃ h, spykeep3_half k n = some h ∧ (h = 1 ∨ h = 2 ∨ h = 4) := by
  unfold spykeep3_half
  obtain ⟨v, e, v0, v1⟩ := below_ex k n 3 (by decide) (by decide)
  rw [bnd e, ifp (by omega)]
  have : v = 0 ∨ v = 1 ∨ v = 2 := by omega
  rcases this with rfl | rfl | rfl
  · exact ⟨1, by kernel_rfl, .inl rfl⟩
  · exact ⟨2, by kernel_rfl, .inr (.inl rfl)⟩
  · exact ⟨4, by kernel_rfl, .inr (.inr rfl)⟩
/-- The weight of all grid points before a point. -/
def bf (d n : Int) : Int := (optics_before 0 d n).getD 0
theorem before_eq (k : Nat) (d n : Int) : optics_before k d n = some (bf d n) := by
  unfold bf optics_before
  by_cases c1 : d ≤ w64 (0 - n)
  · rw [ifp c1]; rfl
  rw [ifn c1]
  by_cases c2 : d ≤ 0
  · rw [ifp c2]; rfl
  rw [ifn c2]
  by_cases c3 : d < n
  · rw [ifp c3]; rfl
  rw [ifn c3]; rfl
/-- The weight of the cell j of a footprint whose position has r grid points before it in its cell. -/
def wt (r h j : Int) : Int := w64 (bf (16 * j - r + 16) (w64 (16 * h)) - bf (16 * j - r) (w64 (16 * h)))
def tabL (r h : Int) : Nat → Int → List (Int × Int)
  | 0, _ => []
  | d + 1, j => if wt r h j > 0 then (j, w64 (w64 (Int.tdiv 16 (w64 (h * h))) * wt r h j)) :: tabL r h d (j + 1) else tabL r h d (j + 1)
def tab (r h : Int) : List (Int × Int) := tabL r h (2 * h.toNat + 3) (-h - 1)
def part (home : Int) (p : Int × Int) : S_Part := ⟨home + p.1, p.2⟩
theorem axis_l0 (k : Nat) (home h g r : Int) (hg : g = 16 * home + r) (hh : 1 ≤ h ∧ h ≤ 4) (r0 : 0 ≤ r) (r1 : r < 16) (H0 : -100000 ≤ home) (H1 : home ≤ 100000) : ∀ (d n : Nat) (out : List S_Part) (j : Int), j + d = h + 2 → d < n → -10 ≤ j → d ≤ 20 → out.length + d ≤ 100 →
    optics_Axis.l0 k home h g n out (home + j) = some (out ++ (tabL r h d j).map (part home)) := by
  intro d
  induction d with
  | zero =>
    intro n out j hj hn j0 hd hl
    obtain ⟨n, rfl⟩ : ∃ m, n = m + 1 := ⟨n - 1, by omega⟩
    rw [optics_Axis.l0, wid (x := home + h) (by omega) (by omega), wid (x := home + h + 1) (by omega) (by omega), ifn (by omega), tabL, List.map_nil, List.append_nil]
  | succ d ih =>
    intro n out j hj hn j0 hd hl
    obtain ⟨n, rfl⟩ : ∃ m, n = m + 1 := ⟨n - 1, by omega⟩
    rw [optics_Axis.l0, wid (x := home + h) (by omega) (by omega), wid (x := home + h + 1) (by omega) (by omega), ifp (by omega), wid (x := 16 * (home + j)) (by omega) (by omega), wid (x := 16 * (home + j) - g) (by omega) (by omega), wid (x := 16 * (home + j) - g + 16) (by omega) (by omega), bnd (before_eq k _ _), bnd (before_eq k _ _)]
    rw [show 16 * (home + j) - g = 16 * j - r by omega, tabL, wid (x := home + j + 1) (by omega) (by omega), show home + j + 1 = home + (j + 1) by omega]
    have e : w64 (bf (16 * j - r + 16) (w64 (16 * h)) - bf (16 * j - r) (w64 (16 * h))) = wt r h j := rfl
    rw [e]
    by_cases c : wt r h j > 0
    · rw [ifp c, if_pos c, ifp (by omega), ih n _ (j + 1) (by omega) (by omega) (by omega) (by omega) (by rw [List.length_append, List.length_cons, List.length_nil]; omega), List.map_cons, List.append_assoc]
      rfl
    · rw [ifn c, if_neg c, ih n _ (j + 1) (by omega) (by omega) (by omega) (by omega) (by omega)]
theorem floor16 (k : Nat) (a : Int) (h0 : -4611686018427387904 ≤ a) (h1 : a ≤ 4611686018427387904) : num_FloorDiv k a 16 = some (a / 16) := by
  have t1 := Int.mul_tdiv_add_tmod a 16
  have t2 := Int.tmod_lt_of_pos a (show (0 : Int) < 16 by decide)
  have t3 := Int.lt_tmod_of_pos a (show (0 : Int) < 16 by decide)
  unfold num_FloorDiv
  rw [ifn (by decide), ifp (by decide)]
  by_cases c : Int.tmod a 16 < 0
  · rw [ifp c, wid (x := Int.tdiv a 16) (by omega) (by omega), wid (by omega) (by omega)]
    congr 1; omega
  · rw [ifn c, wid (by omega) (by omega)]
    congr 1; omega
theorem reach_eq (k : Nat) (h : Int) (hh : h = 1 ∨ h = 2 ∨ h = 4) : optics_Reach k h = some h := by
  rcases hh with rfl | rfl | rfl <;> kernel_rfl
theorem axis_eq (k : Nat) (at_ h : Int) (a0 : -65536 ≤ at_) (a1 : at_ ≤ 65536) (hh : h = 1 ∨ h = 2 ∨ h = 4) (hk : 30 ≤ k) : optics_Axis k at_ h = some ((tab (at_ / 16 % 16) h).map (part (at_ / 16 / 16)), 0) := by
  have h2 : h * h = 1 ∨ h * h = 4 ∨ h * h = 16 := by rcases hh with rfl | rfl | rfl <;> decide
  unfold optics_Axis
  rw [ifn (by omega), ifn (by omega), bnd (reach_eq k h hh), ifn (by omega), bnd (floor16 k at_ (by omega) (by omega)), bnd (floor16 k (at_ / 16) (by omega) (by omega)), ifp (by rw [wid (by omega) (by omega)]; omega), wid (x := at_ / 16 / 16 - h) (by omega) (by omega), wid (x := at_ / 16 / 16 - h - 1) (by omega) (by omega), show at_ / 16 / 16 - h - 1 = at_ / 16 / 16 + (-h - 1) by omega]
  rw [bnd (axis_l0 k (at_ / 16 / 16) h (at_ / 16) (at_ / 16 % 16) (by omega) (by omega) (by omega) (by omega) (by omega) (by omega) (2 * h.toNat + 3) k [] (-h - 1) (by omega) (by omega) (by omega) (by omega) (by simp; omega))]
  rfl
/-- A sum over a list. -/
def sm {α : Type} (f : α → Int) : List α → Int
  | [] => 0
  | x :: xs => f x + sm f xs
theorem sm_append {α : Type} (f : α → Int) (a b : List α) : sm f (a ++ b) = sm f a + sm f b := by
  induction a with
  | nil => simp [sm]
  | cons x a ih => rw [List.cons_append, sm, sm, ih]; omega
theorem sm_map {α β : Type} (f : β → Int) (g : α → β) (l : List α) : sm f (l.map g) = sm (fun x => f (g x)) l := by
  induction l with
  | nil => rfl
  | cons x l ih => rw [List.map_cons, sm, sm, ih]
theorem sm_mul {α : Type} (f : α → Int) (c : Int) (l : List α) : sm (fun x => f x * c) l = sm f l * c := by
  induction l with
  | nil => simp [sm]
  | cons x l ih => rw [sm, sm, ih, Int.add_mul]
theorem sm_add {α : Type} (f g : α → Int) (l : List α) : sm (fun x => f x + g x) l = sm f l + sm g l := by
  induction l with
  | nil => rfl
  | cons x l ih => rw [sm, sm, sm, ih]; omega
theorem sm_congr {α : Type} {f g : α → Int} {l : List α} (h : ∀ x, x ∈ l → f x = g x) : sm f l = sm g l := by
  induction l with
  | nil => rfl
  | cons x l ih => rw [sm, sm, h x (by simp), ih (fun y hy => h y (by simp [hy]))]
theorem sm_flatMap {α β : Type} (f : β → Int) (g : α → List β) (l : List α) : sm f (l.flatMap g) = sm (fun x => sm f (g x)) l := by
  induction l with
  | nil => rfl
  | cons x l ih => rw [List.flatMap_cons, sm_append, sm, ih]
def good (r h : Int) : Bool := (tab r h).all (fun p => decide (-5 ≤ p.1 ∧ p.1 ≤ 5 ∧ 1 ≤ p.2 ∧ p.2 ≤ 4096)) && decide ((tab r h).length ≤ 11) && decide (sm (·.2) (tab r h) = 4096) && decide (sm (fun p => p.2 * (2 * p.1 + 1)) (tab r h) = 512 * r + 256)
theorem good_all : ∀ r : Fin 16, ∀ h ∈ [1, 2, 4], good (r.val : Int) h = true := by decide +kernel
theorem tab_good (r h : Int) (r0 : 0 ≤ r) (r1 : r < 16) (hh : h = 1 ∨ h = 2 ∨ h = 4) : (∀ p, p ∈ tab r h → -5 ≤ p.1 ∧ p.1 ≤ 5 ∧ 1 ≤ p.2 ∧ p.2 ≤ 4096) ∧ (tab r h).length ≤ 11 ∧ sm (·.2) (tab r h) = 4096 ∧ sm (fun p => p.2 * (2 * p.1 + 1)) (tab r h) = 512 * r + 256 := by
  have g := good_all ⟨r.toNat, by omega⟩ h (by rcases hh with rfl | rfl | rfl <;> simp)
  dsimp only at g
  rw [show ((r.toNat : Nat) : Int) = r by omega] at g
  unfold good at g
  simp only [Bool.and_eq_true, decide_eq_true_eq, List.all_eq_true] at g
  exact ⟨fun p hp => g.1.1.1 p hp, g.1.1.2, g.1.2, g.2⟩
/-- The spots of a footprint, about its home cell. -/
def foot (rx ry wide high : Int) : List S_Spot := (tab ry high).flatMap fun r => (tab rx wide).map fun c => ⟨c.1, r.1, c.2 * r.2⟩
def move (hx hy : Int) (p : S_Spot) : S_Spot := ⟨hx + p.X, hy + p.Y, p.Light⟩
theorem rd_map {α β : Type} [Inhabited α] [Inhabited β] (f : α → β) (l : List α) (i : Int) (h0 : 0 ≤ i) (h1 : i < (l.length : Int)) : rd (l.map f) i = f (rd l i) := by
  obtain ⟨h, e⟩ := rd_lt (xs := l.map f) h0 (by rw [List.length_map]; exact h1)
  obtain ⟨h', e'⟩ := rd_lt (xs := l) h0 h1
  rw [e, e', List.getElem_map]
theorem rd_drop {α : Type} [Inhabited α] (l : List α) (i : Int) (h0 : 0 ≤ i) (h1 : i < (l.length : Int)) : l.drop i.toNat = rd l i :: l.drop (i + 1).toNat := by
  obtain ⟨h, e⟩ := rd_lt (xs := l) h0 h1
  rw [e, show (i + 1).toNat = i.toNat + 1 by omega]
  exact List.drop_eq_getElem_cons h
theorem point_l1 (k : Nat) (hx hy : Int) (X : List (Int × Int)) (Y : List S_Part) (y : Int) (r : Int × Int) (hr : rd Y y = part hy r) (hr2 : 0 ≤ r.2 ∧ r.2 ≤ 4096) (hX : ∀ p, p ∈ X → 0 ≤ p.2 ∧ p.2 ≤ 4096) (hXl : X.length ≤ 100) : ∀ (d n : Nat) (out : List S_Spot) (i : Int), i + d = X.length → 0 ≤ i → d < n → out.length + d ≤ 100000 →
    optics_Point.l1 k (X.map (part hx)) Y y n out i = some (out ++ ((X.drop i.toNat).map fun c => move hx hy ⟨c.1, r.1, c.2 * r.2⟩)) := by
  intro d
  induction d with
  | zero =>
    intro n out i hi i0 hn hl
    obtain ⟨n, rfl⟩ : ∃ m, n = m + 1 := ⟨n - 1, by omega⟩
    rw [optics_Point.l1, ifn (by rw [List.length_map]; omega), List.drop_of_length_le (by omega), List.map_nil, List.append_nil]
  | succ d ih =>
    intro n out i hi i0 hn hl
    obtain ⟨n, rfl⟩ : ∃ m, n = m + 1 := ⟨n - 1, by omega⟩
    have hp := hX _ (rd_mem i0 (show i < (X.length : Int) by omega))
    have hm := mul_le hp.1 hp.2 hr2.1 hr2.2
    rw [optics_Point.l1, ifp (by rw [List.length_map]; omega), ifp i0, ifp (by omega), wid (x := i + 1) (by omega) (by omega), rd_map (part hx) X i i0 (by omega), hr]
    unfold part
    dsimp only
    rw [wid (x := (rd X i).2 * r.2) (by omega) (by omega), ← show part hx = fun p => (⟨hx + p.1, p.2⟩ : S_Part) from rfl]
    rw [ih n _ (i + 1) (by omega) (by omega) (by omega) (by rw [List.length_append, List.length_cons, List.length_nil]; omega), rd_drop X i i0 (by omega), List.map_cons, List.append_assoc]
    rfl
theorem point_l0 (k : Nat) (hx hy : Int) (X Y : List (Int × Int)) (hX : ∀ p, p ∈ X → 0 ≤ p.2 ∧ p.2 ≤ 4096) (hY : ∀ p, p ∈ Y → 0 ≤ p.2 ∧ p.2 ≤ 4096) (hXl : X.length ≤ 11) (hYl : Y.length ≤ 11) (hk : 30 ≤ k) : ∀ (d n : Nat) (out : List S_Spot) (i : Int), i + d = Y.length → 0 ≤ i → d < n → out.length + 11 * d ≤ 1000 →
    optics_Point.l0 k (Y.map (part hy)) (X.map (part hx)) n out i = some (out ++ (((Y.drop i.toNat).flatMap fun r => X.map fun c => (⟨c.1, r.1, c.2 * r.2⟩ : S_Spot)).map (move hx hy))) := by
  intro d
  induction d with
  | zero =>
    intro n out i hi i0 hn hl
    obtain ⟨n, rfl⟩ : ∃ m, n = m + 1 := ⟨n - 1, by omega⟩
    rw [optics_Point.l0, ifn (by rw [List.length_map]; omega), List.drop_of_length_le (by omega), List.flatMap_nil, List.map_nil, List.append_nil]
  | succ d ih =>
    intro n out i hi i0 hn hl
    obtain ⟨n, rfl⟩ : ∃ m, n = m + 1 := ⟨n - 1, by omega⟩
    have hp := hY _ (rd_mem i0 (show i < (Y.length : Int) by omega))
    rw [optics_Point.l0, ifp (by rw [List.length_map]; omega), ifp i0, bnd (point_l1 k hx hy X _ i (rd Y i) (rd_map (part hy) Y i i0 (by omega)) hp hX (by omega) X.length k out 0 (by simp) (by decide) (by omega) (by omega)), wid (x := i + 1) (by omega) (by omega)]
    rw [ih n _ (i + 1) (by omega) (by omega) (by omega) (by rw [List.length_append, List.length_map, List.length_drop]; omega), rd_drop Y i i0 (by omega), List.flatMap_cons, List.map_append, List.append_assoc, List.map_map]
    rfl
theorem or00 (k : Nat) (hk : 10 ≤ k) : cmp_Or_Errno k [0, 0] = some 0 := by
  obtain ⟨k, rfl⟩ : ∃ j, k = j + 10 := ⟨k - 10, by omega⟩
  kernel_rfl
theorem point_eq (k : Nat) (px py wide high : Int) (x0 : -65536 ≤ px) (x1 : px ≤ 65536) (y0 : -65536 ≤ py) (y1 : py ≤ 65536) (hw : wide = 1 ∨ wide = 2 ∨ wide = 4) (hh : high = 1 ∨ high = 2 ∨ high = 4) (hk : 30 ≤ k) :
    optics_Point k ⟨px, py⟩ wide high = some ((foot (px / 16 % 16) (py / 16 % 16) wide high).map (move (px / 16 / 16) (py / 16 / 16)), 0) := by
  obtain ⟨a1, a2, _⟩ := tab_good (px / 16 % 16) wide (by omega) (by omega) hw
  obtain ⟨b1, b2, _⟩ := tab_good (py / 16 % 16) high (by omega) (by omega) hh
  unfold optics_Point
  dsimp only
  rw [bnd (axis_eq k px wide x0 x1 hw hk)]
  dsimp only
  rw [bnd (axis_eq k py high y0 y1 hh hk)]
  dsimp only
  rw [bnd (or00 k (by omega)), ifn (by decide)]
  rw [bnd (point_l0 k _ _ _ _ (fun p hp => by have := a1 p hp; omega) (fun p hp => by have := b1 p hp; omega) a2 b2 hk _ k [] 0 (by rw [Int.zero_add]) (by decide) (by omega) (by simp; omega))]
  rfl
/-- What is known of a footprint. -/
theorem foot_good (rx ry wide high : Int) (x0 : 0 ≤ rx) (x1 : rx < 16) (y0 : 0 ≤ ry) (y1 : ry < 16) (hw : wide = 1 ∨ wide = 2 ∨ wide = 4) (hh : high = 1 ∨ high = 2 ∨ high = 4) :
    (∀ p, p ∈ foot rx ry wide high → -5 ≤ p.X ∧ p.X ≤ 5 ∧ -5 ≤ p.Y ∧ p.Y ≤ 5 ∧ 0 ≤ p.Light ∧ p.Light ≤ 16777216) ∧ (foot rx ry wide high).length ≤ 121 ∧ sm (·.Light) (foot rx ry wide high) = 16777216 ∧
    sm (fun p => p.Light * (2 * p.X + 1)) (foot rx ry wide high) = 1048576 * (2 * rx + 1) ∧ sm (fun p => p.Light * (2 * p.Y + 1)) (foot rx ry wide high) = 1048576 * (2 * ry + 1) := by
  obtain ⟨a1, a2, a3, a4⟩ := tab_good rx wide x0 x1 hw
  obtain ⟨b1, b2, b3, b4⟩ := tab_good ry high y0 y1 hh
  unfold foot
  refine ⟨?_, ?_, ?_, ?_, ?_⟩
  · intro p hp
    obtain ⟨r, hr, hp⟩ := List.mem_flatMap.mp hp
    obtain ⟨c, hc, rfl⟩ := List.mem_map.mp hp
    have h1 := a1 c hc
    have h2 := b1 r hr
    have := mul_le (a := c.2) (b := r.2) (A := 4096) (B := 4096) (by omega) (by omega) (by omega) (by omega)
    dsimp only
    omega
  · have : ∀ (Y X : List (Int × Int)), (Y.flatMap fun r => X.map fun c => (⟨c.1, r.1, c.2 * r.2⟩ : S_Spot)).length = Y.length * X.length := by
      intro Y X
      induction Y with
      | nil => simp
      | cons y Y ih => rw [List.flatMap_cons, List.length_append, ih, List.length_map, List.length_cons, Nat.add_mul]; omega
    rw [this]
    exact Nat.mul_le_mul b2 a2
  · rw [sm_flatMap]
    have : sm (fun r : Int × Int => sm (·.Light) ((tab rx wide).map fun c => (⟨c.1, r.1, c.2 * r.2⟩ : S_Spot))) (tab ry high) = sm (fun r => r.2 * 4096) (tab ry high) := by
      refine sm_congr fun r _ => ?_
      rw [sm_map, sm_mul (fun c : Int × Int => c.2), a3, Int.mul_comm]
    rw [this, sm_mul (fun r : Int × Int => r.2), b3]; rfl
  · rw [sm_flatMap]
    have : sm (fun r : Int × Int => sm (fun p : S_Spot => p.Light * (2 * p.X + 1)) ((tab rx wide).map fun c => (⟨c.1, r.1, c.2 * r.2⟩ : S_Spot))) (tab ry high) = sm (fun r => r.2 * (512 * rx + 256)) (tab ry high) := by
      refine sm_congr fun r _ => ?_
      rw [sm_map]
      dsimp only
      rw [sm_congr (g := fun c : Int × Int => c.2 * (2 * c.1 + 1) * r.2) (fun c _ => by rw [Int.mul_right_comm]), sm_mul (fun c : Int × Int => c.2 * (2 * c.1 + 1)), a4, Int.mul_comm]
    rw [this, sm_mul (fun r : Int × Int => r.2), b3]; omega
  · rw [sm_flatMap]
    have : sm (fun r : Int × Int => sm (fun p : S_Spot => p.Light * (2 * p.Y + 1)) ((tab rx wide).map fun c => (⟨c.1, r.1, c.2 * r.2⟩ : S_Spot))) (tab ry high) = sm (fun r => r.2 * (2 * r.1 + 1) * 4096) (tab ry high) := by
      refine sm_congr fun r _ => ?_
      rw [sm_map]
      dsimp only
      rw [sm_congr (g := fun c : Int × Int => c.2 * (r.2 * (2 * r.1 + 1))) (fun c _ => by rw [Int.mul_assoc]), sm_mul (fun c : Int × Int => c.2), a3, Int.mul_comm]
    rw [this, sm_mul (fun r : Int × Int => r.2 * (2 * r.1 + 1)), b4]; omega
theorem spreads_eq (k : Nat) (h : 60 ≤ k) : spykeep3_spreads k = some true := by
  obtain ⟨k, rfl⟩ : ∃ j, k = j + 60 := ⟨k - 60, by omega⟩
  kernel_rfl
theorem next_ex (k : Nat) (L : List Int) (a n : Int) (h1 : 1 ≤ n) (h2 : n ≤ 4611686018427387904) (a0 : 0 ≤ a) (a1 : a ≤ 4611686018427387904) :
    ∃ v, spymake_Stream_Next k ⟨L, a⟩ n = some (v, a + 1) ∧ 0 ≤ v ∧ v < n := by
  unfold spymake_Stream_Next
  dsimp only
  rw [wid (x := a + 1) (by omega) (by omega)]
  by_cases c : (L.length : Int) = 0
  · rw [ifp c]
    obtain ⟨v, hv, v0, v1⟩ := below_ex k (w64 ((a + 1) * 7919)) n h1 h2
    rw [bnd hv]
    exact ⟨v, rfl, v0, v1⟩
  · rw [ifn c, ifp c, show a + 1 - 1 = a by omega, wid (x := a) (by omega) (by omega)]
    have e1 := Int.tmod_lt_of_pos a (show 0 < (L.length : Int) by omega)
    have e2 : 0 ≤ Int.tmod a (L.length : Int) := Int.tmod_nonneg _ a0
    rw [ifp e2, ifp e1]
    obtain ⟨u, hu, _⟩ := below_ex k (rd L (Int.tmod a (L.length : Int))) 1073741824 (by decide) (by decide)
    rw [bnd hu]
    obtain ⟨v, hv, v0, v1⟩ := below_ex k (w64 (u + (w64 ((w64 (Int.tdiv a (L.length : Int))) * (w64 (7919 + (Int.tmod a (L.length : Int)))))))) n h1 h2
    rw [bnd hv]
    exact ⟨v, rfl, v0, v1⟩
theorem rd_at {α : Type} [Inhabited α] {l pre post : List α} {x : α} {i : Int} (hl : l = pre ++ x :: post) (hi : i = (pre.length : Int)) : rd l i = x := by
  subst hl hi
  obtain ⟨h, e⟩ := rd_lt (xs := pre ++ x :: post) (i := (pre.length : Int)) (by omega) (by simp; omega)
  rw [e]
  simp
/-! Sums over spots and over maps of light. -/
def sg (g : Int → Int → Int) (l : List S_Spot) : Int := sm (fun s => s.Light * g s.X s.Y) l
def sgm (g : Int → Int → Int) (m : List ((Int × Int) × Int)) : Int := sm (fun p => p.2 * g p.1.2 p.1.1) m
def one (_ _ : Int) : Int := 1
theorem sg_append (g : Int → Int → Int) (a b : List S_Spot) : sg g (a ++ b) = sg g a + sg g b := sm_append _ a b
theorem sg_cons (g : Int → Int → Int) (s : S_Spot) (l : List S_Spot) : sg g (s :: l) = s.Light * g s.X s.Y + sg g l := rfl
theorem agetP {p : (Int × Int) × Int} {m : List ((Int × Int) × Int)} {k : Int × Int} (h : p.1 = k) : aget 0 (p :: m) k = p.2 := by simp [aget, afind, h]
theorem agetN {p : (Int × Int) × Int} {m : List ((Int × Int) × Int)} {k : Int × Int} (h : ¬ p.1 = k) : aget 0 (p :: m) k = aget 0 m k := by simp [aget, afind, h]
theorem sgm_put (g : Int → Int → Int) (v : Int) (k : Int × Int) : ∀ m : List ((Int × Int) × Int), sgm g (aput m k (aget 0 m k + v)) = sgm g m + v * g k.2 k.1
  | [] => by
    show ((0 : Int) + v) * g k.2 k.1 + 0 = 0 + v * g k.2 k.1
    rw [Int.zero_add, Int.add_zero, Int.zero_add]
  | p :: m => by
    by_cases c : p.1 = k
    · rw [agetP c, aput, if_pos c]
      show (p.2 + v) * g k.2 k.1 + sgm g m = p.2 * g p.1.2 p.1.1 + sgm g m + v * g k.2 k.1
      rw [c, Int.add_mul]; omega
    · rw [agetN c, aput, if_neg c]
      have ih := sgm_put g v k m
      show p.2 * g p.1.2 p.1.1 + sgm g (aput m k (aget 0 m k + v)) = p.2 * g p.1.2 p.1.1 + sgm g m + v * g k.2 k.1
      rw [ih]; omega
theorem aput_keys (k : Int × Int) (v : Int) : ∀ m : List ((Int × Int) × Int), ((aput m k v).map (·.1) = m.map (·.1) ∧ k ∈ m.map (·.1)) ∨ ((aput m k v).map (·.1) = m.map (·.1) ++ [k] ∧ k ∉ m.map (·.1))
  | [] => .inr ⟨rfl, by simp⟩
  | p :: m => by
    by_cases c : p.1 = k
    · refine .inl ⟨?_, ?_⟩
      · rw [aput, if_pos c, List.map_cons, List.map_cons, c]
      · rw [List.map_cons, c]; exact List.mem_cons_self ..
    · rw [aput, if_neg c]
      rcases aput_keys k v m with ⟨h1, h2⟩ | ⟨h1, h2⟩
      · exact .inl ⟨by rw [List.map_cons, List.map_cons, h1], by rw [List.map_cons]; exact List.mem_cons_of_mem _ h2⟩
      · refine .inr ⟨by rw [List.map_cons, List.map_cons, h1]; rfl, ?_⟩
        rw [List.map_cons, List.mem_cons]
        rintro (h | h)
        · exact c h.symm
        · exact h2 h
theorem aput_mem {k : Int × Int} {v : Int} : ∀ {m : List ((Int × Int) × Int)} {p : (Int × Int) × Int}, p ∈ aput m k v → p = (k, v) ∨ p ∈ m
  | [], p, h => by rw [aput] at h; exact .inl (List.mem_singleton.mp h)
  | q :: m, p, h => by
    rw [aput] at h
    by_cases c : q.1 = k
    · rw [if_pos c] at h
      rcases List.mem_cons.mp h with h | h
      · exact .inl h
      · exact .inr (List.mem_cons_of_mem _ h)
    · rw [if_neg c] at h
      rcases List.mem_cons.mp h with h | h
      · exact .inr (by rw [h]; exact List.mem_cons_self ..)
      · rcases aput_mem h with h | h
        · exact .inl h
        · exact .inr (List.mem_cons_of_mem _ h)
/-- A map of light: no key twice, keys that are cells, nothing below 0. -/
structure MG (m : List ((Int × Int) × Int)) : Prop where
  nd : (m.map (·.1)).Nodup
  nn : ∀ p ∈ m, 0 ≤ p.2
  kb : ∀ p ∈ m, -500 ≤ p.1.1 ∧ p.1.1 ≤ 500 ∧ -500 ≤ p.1.2 ∧ p.1.2 ≤ 500
theorem sgm_one_nn {m : List ((Int × Int) × Int)} (h : ∀ p ∈ m, 0 ≤ p.2) : 0 ≤ sgm one m := by
  induction m with
  | nil => exact Int.le_refl 0
  | cons p m ih =>
    have h1 := h p (List.mem_cons_self ..)
    have h2 := ih (fun q hq => h q (List.mem_cons_of_mem _ hq))
    show 0 ≤ p.2 * 1 + sgm one m
    omega
theorem aget_in {m : List ((Int × Int) × Int)} (h : ∀ p ∈ m, 0 ≤ p.2) (k : Int × Int) : 0 ≤ aget 0 m k ∧ aget 0 m k ≤ sgm one m := by
  induction m with
  | nil => exact ⟨Int.le_refl 0, Int.le_refl 0⟩
  | cons p m ih =>
    have h1 := h p (List.mem_cons_self ..)
    have h3 := fun q hq => h q (List.mem_cons_of_mem p hq)
    have h2 := ih h3
    have h4 := sgm_one_nn h3
    have e : sgm one (p :: m) = p.2 * 1 + sgm one m := rfl
    by_cases c : p.1 = k
    · rw [agetP c, e]; omega
    · rw [agetN c, e]; omega
theorem MG.put {m : List ((Int × Int) × Int)} (h : MG m) {k : Int × Int} {v : Int} (hv : 0 ≤ v) (hk : -500 ≤ k.1 ∧ k.1 ≤ 500 ∧ -500 ≤ k.2 ∧ k.2 ≤ 500) : MG (aput m k v) where
  nd := by
    rcases aput_keys k v m with ⟨h1, _⟩ | ⟨h1, h2⟩
    · rw [h1]; exact h.nd
    · rw [h1]; exact List.nodup_append.mpr ⟨h.nd, by simp, fun a ha b hb e => by simp at hb; subst hb; subst e; exact h2 ha⟩
  nn := fun p hp => by
    rcases aput_mem hp with rfl | hp
    · exact hv
    · exact h.nn p hp
  kb := fun p hp => by
    rcases aput_mem hp with rfl | hp
    · exact hk
    · exact h.kb p hp
theorem aput_l (k : Int × Int) (v : Int) (m : List ((Int × Int) × Int)) : (aput m k v).length ≤ m.length + 1 := aput_len m k v
/-- Spots with light in cells that are near. -/
structure SG (l : List S_Spot) (N : Nat) (T : Int) : Prop where
  s : ∀ s ∈ l, 0 ≤ s.Light ∧ -500 ≤ s.X ∧ s.X ≤ 500 ∧ -500 ≤ s.Y ∧ s.Y ≤ 500
  n : l.length ≤ N
  t : sg one l ≤ T
theorem sg_one_nn {l : List S_Spot} (h : ∀ s ∈ l, 0 ≤ s.Light) : 0 ≤ sg one l := by
  induction l with
  | nil => exact Int.le_refl 0
  | cons s l ih =>
    have h1 := h s (List.mem_cons_self ..)
    have h2 := ih (fun q hq => h q (List.mem_cons_of_mem _ hq))
    show 0 ≤ s.Light * 1 + sg one l
    omega
theorem add_l1 (k : Nat) (a b : List S_Spot) (x : Int) (L : List S_Spot) (hx : rd ([a, b] : List (List S_Spot)) x = L) (hs : ∀ s ∈ L, 0 ≤ s.Light ∧ -500 ≤ s.X ∧ s.X ≤ 500 ∧ -500 ≤ s.Y ∧ s.Y ≤ 500) (hl : L.length ≤ 1000000) : ∀ (d n : Nat) (i : Int) (m : List ((Int × Int) × Int)), i + d = (L.length : Int) → 0 ≤ i → d < n → MG m →
    sgm one m + sg one (L.drop i.toNat) ≤ 4611686018427387904 → ∃ m', optics_add.l1 k a b x n i m = some m' ∧ MG m' ∧ (∀ g, sgm g m' = sgm g m + sg g (L.drop i.toNat)) ∧ m'.length ≤ m.length + d := by
  intro d
  induction d with
  | zero =>
    intro n i m hi i0 hn hm ht
    obtain ⟨n, rfl⟩ : ∃ q, n = q + 1 := ⟨n - 1, by omega⟩
    refine ⟨m, ?_, hm, fun g => ?_, by omega⟩
    · rw [optics_add.l1, hx, ifn (by omega)]
    · rw [List.drop_of_length_le (by omega)]; exact (Int.add_zero _).symm
  | succ d ih =>
    intro n i m hi i0 hn hm ht
    obtain ⟨n, rfl⟩ : ∃ q, n = q + 1 := ⟨n - 1, by omega⟩
    have hd := rd_drop L i i0 (by omega)
    obtain ⟨s1, s2, s3, s4, s5⟩ := hs _ (rd_mem i0 (show i < (L.length : Int) by omega))
    have hds : ∀ s ∈ L.drop (i + 1).toNat, 0 ≤ s.Light := fun s h => (hs s (List.mem_of_mem_drop h)).1
    have h5 := sg_one_nn hds
    rw [hd, sg_cons, show one (rd L i).X (rd L i).Y = 1 from rfl, Int.mul_one] at ht
    obtain ⟨a1, a2⟩ := aget_in hm.nn ((rd L i).Y, (rd L i).X)
    have h6 := sgm_put one (rd L i).Light ((rd L i).Y, (rd L i).X) m
    rw [show one ((rd L i).Y, (rd L i).X).2 ((rd L i).Y, (rd L i).X).1 = 1 from rfl, Int.mul_one] at h6
    obtain ⟨m', e1, e2, e3, e4⟩ := ih n (i + 1) (aput m ((rd L i).Y, (rd L i).X) (aget 0 m ((rd L i).Y, (rd L i).X) + (rd L i).Light)) (by omega) (by omega) (by omega) (hm.put (by omega) ⟨s4, s5, s2, s3⟩) (by rw [h6]; omega)
    refine ⟨m', ?_, e2, fun g => ?_, ?_⟩
    · rw [optics_add.l1, hx, ifp (by omega), ifp i0, wid (x := aget 0 m ((rd L i).Y, (rd L i).X) + (rd L i).Light) (by omega) (by omega), wid (x := i + 1) (by omega) (by omega)]
      exact e1
    · rw [e3 g, sgm_put, hd, sg_cons]; dsimp only; omega
    · have := aput_l ((rd L i).Y, (rd L i).X) (aget 0 m ((rd L i).Y, (rd L i).X) + (rd L i).Light) m
      omega
theorem sm_perm {α : Type} (f : α → Int) {l l' : List α} (h : l.Perm l') : sm f l = sm f l' := by
  induction h with
  | nil => rfl
  | cons x _ ih => show f x + sm f _ = f x + sm f _; rw [ih]
  | swap x y l => show f y + (f x + sm f l) = f x + (f y + sm f l); omega
  | trans _ _ h1 h2 => exact h1.trans h2
theorem sm_keys (g : Int → Int → Int) : ∀ (m : List ((Int × Int) × Int)), (m.map (·.1)).Nodup → sm (fun k : Int × Int => aget 0 m k * g k.2 k.1) (m.map (·.1)) = sgm g m
  | [], _ => rfl
  | p :: m, h => by
    rw [List.map_cons, List.nodup_cons] at h
    have ih := sm_keys g m h.2
    show aget 0 (p :: m) p.1 * g p.1.2 p.1.1 + sm (fun k : Int × Int => aget 0 (p :: m) k * g k.2 k.1) (m.map (·.1)) = p.2 * g p.1.2 p.1.1 + sgm g m
    rw [agetP rfl, ← ih]
    congr 1
    refine sm_congr fun k hk => ?_
    rw [agetN (fun e => h.1 (e ▸ hk))]
theorem wf64 {x : Int} (h0 : -500 ≤ x) (h1 : x ≤ 500) : (Lit.int .i64 x).wf = true := by
  simp [Lit.wf, IntKind.min, IntKind.max, IntKind.bits, IntKind.signed]
  omega
theorem add_l2 (k : Nat) (m : List ((Int × Int) × Int)) (hm : MG m) (ks : List (Int × Int)) (hk : ∀ q ∈ ks, -500 ≤ q.1 ∧ q.1 ≤ 500 ∧ -500 ≤ q.2 ∧ q.2 ≤ 500) (hl : ks.length ≤ 1000000) : ∀ (d n : Nat) (i : Int) (out : List S_Spot), i + d = (ks.length : Int) → 0 ≤ i → d < n → out.length + d ≤ 1000000 →
    (∀ s ∈ out, 0 ≤ s.Light ∧ -500 ≤ s.X ∧ s.X ≤ 500 ∧ -500 ≤ s.Y ∧ s.Y ≤ 500) → ∃ out', optics_add.l2 k (ks.map fun x => [x.1, x.2]) m n out i = some out' ∧ (∀ s ∈ out', 0 ≤ s.Light ∧ -500 ≤ s.X ∧ s.X ≤ 500 ∧ -500 ≤ s.Y ∧ s.Y ≤ 500) ∧
      (∀ g, sg g out' = sg g out + sm (fun q : Int × Int => aget 0 m q * g q.2 q.1) (ks.drop i.toNat)) ∧ out'.length ≤ out.length + d := by
  intro d
  induction d with
  | zero =>
    intro n i out hi i0 hn ho hs
    obtain ⟨n, rfl⟩ : ∃ q, n = q + 1 := ⟨n - 1, by omega⟩
    refine ⟨out, ?_, hs, fun g => ?_, by omega⟩
    · rw [optics_add.l2, ifn (by rw [List.length_map]; omega)]
    · rw [List.drop_of_length_le (by omega)]; exact (Int.add_zero _).symm
  | succ d ih =>
    intro n i out hi i0 hn ho hs
    obtain ⟨n, rfl⟩ : ∃ q, n = q + 1 := ⟨n - 1, by omega⟩
    have hd := rd_drop ks i i0 (by omega)
    have hq := hk _ (rd_mem i0 (show i < (ks.length : Int) by omega))
    have hr : rd (ks.map fun x => [x.1, x.2]) i = [(rd ks i).1, (rd ks i).2] := rd_map _ ks i i0 (by omega)
    have g0 : ([(rd ks i).1, (rd ks i).2] : List Int).getD 0 default = (rd ks i).1 := rfl
    have g1 : ([(rd ks i).1, (rd ks i).2] : List Int).getD 1 default = (rd ks i).2 := rfl
    have ga := aget_in hm.nn (rd ks i)
    by_cases c : aget 0 m (rd ks i) = 0
    · obtain ⟨out', e1, e2, e3, e4⟩ := ih n (i + 1) out (by omega) (by omega) (by omega) (by omega) hs
      refine ⟨out', ?_, e2, fun g => ?_, by omega⟩
      · rw [optics_add.l2, ifp (by rw [List.length_map]; omega), ifp i0, hr, g0, g1, ifn (by rw [show ((rd ks i).1, (rd ks i).2) = rd ks i from rfl]; omega), wid (x := i + 1) (by omega) (by omega)]
        exact e1
      · rw [e3 g, hd]
        show _ = sg g out + (aget 0 m (rd ks i) * g (rd ks i).2 (rd ks i).1 + _)
        rw [c, Int.zero_mul, Int.zero_add]
    · obtain ⟨out', e1, e2, e3, e4⟩ := ih n (i + 1) (out ++ [⟨(rd ks i).2, (rd ks i).1, aget 0 m (rd ks i)⟩]) (by omega) (by omega) (by omega) (by rw [List.length_append, List.length_singleton]; omega) (fun s h => by
        rcases List.mem_append.mp h with h | h
        · exact hs s h
        · rw [List.mem_singleton] at h; subst h; exact ⟨ga.1, hq.2.2.1, hq.2.2.2, hq.1, hq.2.1⟩)
      refine ⟨out', ?_, e2, fun g => ?_, by rw [List.length_append, List.length_singleton] at e4; omega⟩
      · rw [optics_add.l2, ifp (by rw [List.length_map]; omega), ifp i0, hr, g0, g1, ifp (by rw [show ((rd ks i).1, (rd ks i).2) = rd ks i from rfl]; omega), ifp (by omega), wid (x := i + 1) (by omega) (by omega)]
        exact e1
      · rw [e3 g, sg_append, hd, Int.add_assoc]
        congr 1
        show aget 0 m (rd ks i) * g (rd ks i).2 (rd ks i).1 + 0 + _ = aget 0 m (rd ks i) * g (rd ks i).2 (rd ks i).1 + _
        rw [Int.add_zero]
theorem add_ex (k : Nat) (a b : List S_Spot) (N M : Nat) (T U : Int) (ha : SG a N T) (hb : SG b M U) (hN : N ≤ 100000) (hM : M ≤ 100000) (hT : T + U ≤ 4611686018427387904) (hk : N + M + 10 < k) : ∃ c, optics_add k a b = some c ∧ (∀ g, sg g c = sg g a + sg g b) ∧ SG c (N + M) (T + U) := by
  have na := ha.n
  have nb := hb.n
  have ta := ha.t
  have tb := hb.t
  obtain ⟨m1, e1, h1, s1, l1⟩ := add_l1 k a b 0 a rfl ha.s (by omega) a.length k 0 [] (by omega) (by decide) (by omega) ⟨List.nodup_nil, by simp, by simp⟩ (by rw [show (0 : Int).toNat = 0 from rfl, List.drop_zero]; have e : sgm one [] = 0 := rfl; rw [e]; have := sg_one_nn (fun s h => (hb.s s h).1); omega)
  rw [show (0 : Int).toNat = 0 from rfl, List.drop_zero] at s1
  have s1' := s1 one
  have e0 : sgm one [] = 0 := rfl
  rw [e0, Int.zero_add] at s1'
  obtain ⟨m2, e2, h2, s2, l2⟩ := add_l1 k a b 1 b rfl hb.s (by omega) b.length k 0 m1 (by omega) (by decide) (by omega) h1 (by rw [show (0 : Int).toNat = 0 from rfl, List.drop_zero]; omega)
  rw [show (0 : Int).toNat = 0 from rfl, List.drop_zero] at s2
  have el : optics_add.l0 k a b k 0 [] = some m2 := by
    obtain ⟨j, hj⟩ : ∃ j, k = j + 1 + 1 + 1 := ⟨k - 3, by omega⟩
    have : ∀ q, q = j + 1 + 1 + 1 → optics_add.l0 k a b q 0 [] = some m2 := by
      rintro q rfl
      rw [optics_add.l0, ifp (by decide), ifp (by decide), bnd e1, wid (x := (0 : Int) + 1) (by decide) (by decide), Int.zero_add, optics_add.l0, ifp (by decide), ifp (by decide), bnd e2, wid (x := (1 : Int) + 1) (by decide) (by decide), show (1 : Int) + 1 = 2 from rfl, optics_add.l0, ifn (by decide)]
    exact this k hj
  rw [List.length_nil] at l1
  have hp := List.mergeSort_perm (m2.map (·.1)) leA
  have hks : ∀ q ∈ (m2.map (·.1)).mergeSort leA, -500 ≤ q.1 ∧ q.1 ≤ 500 ∧ -500 ≤ q.2 ∧ q.2 ≤ 500 := fun q hq => by
    obtain ⟨p, hp', rfl⟩ := List.mem_map.mp (hp.mem_iff.mp hq)
    exact h2.kb p hp'
  have hlen : ((m2.map (·.1)).mergeSort leA).length = m2.length := by rw [List.length_mergeSort, List.length_map]
  have hsk : sortedKeysA m2 = some (((m2.map (·.1)).mergeSort leA).map fun x => [x.1, x.2]) := by
    unfold sortedKeysA
    rw [ifp (List.all_eq_true.mpr fun p hp' => by
      obtain ⟨k1, k2, k3, k4⟩ := h2.kb p hp'
      rw [wf64 k1 k2, wf64 k3 k4]; rfl), ifp h2.nd, ifp (by omega)]
  obtain ⟨c, e3, h3, s3, l3⟩ := add_l2 k m2 h2 _ hks (by omega) m2.length k 0 [] (by omega) (by decide) (by omega) (by rw [List.length_nil]; omega) (by simp)
  have hs : ∀ g, sg g c = sg g a + sg g b := fun g => by
    rw [s3 g, show (0 : Int).toNat = 0 from rfl, List.drop_zero, sm_perm _ hp, sm_keys g m2 h2.nd, s2 g, s1 g, show sgm g [] = 0 from rfl, show sg g [] = 0 from rfl]; omega
  refine ⟨c, ?_, hs, ⟨h3, by rw [List.length_nil] at l3; omega, ?_⟩⟩
  · unfold optics_add
    rw [bnd el, bnd hsk, bnd e3]
  · rw [hs one]; omega
def sc (q : Int) (s : S_Spot) : S_Spot := ⟨s.X, s.Y, s.Light * q⟩
theorem sg_sc (g : Int → Int → Int) (q : Int) (l : List S_Spot) : sg g (l.map (sc q)) = sg g l * q := by
  unfold sg
  rw [sm_map, ← sm_mul]
  refine sm_congr fun s _ => ?_
  show s.Light * q * g s.X s.Y = s.Light * g s.X s.Y * q
  rw [Int.mul_right_comm]
theorem scale_l1 (k : Nat) (P : List S_Spot) (rates : List Int) (x q : Int) (hq : rd rates x = q) (q0 : 0 ≤ q) (q1 : q ≤ 1048576) (hP : ∀ s ∈ P, 0 ≤ s.Light ∧ s.Light ≤ 16777216) (hl : P.length ≤ 1000) : ∀ (d n : Nat) (i : Int) (l : List S_Spot), i + d = (P.length : Int) → 0 ≤ i → d < n → l = (P.map (sc q)).take i.toNat ++ P.drop i.toNat →
    optics_Trail.l1 k P rates x n l i = some (P.map (sc q)) := by
  intro d
  induction d with
  | zero =>
    intro n i l hi i0 hn e
    obtain ⟨n, rfl⟩ : ∃ z, n = z + 1 := ⟨n - 1, by omega⟩
    rw [List.drop_of_length_le (by omega), List.append_nil, List.take_of_length_le (by rw [List.length_map]; omega)] at e
    rw [optics_Trail.l1, ifn (by omega), e]
  | succ d ih =>
    intro n i l hi i0 hn e
    obtain ⟨n, rfl⟩ : ∃ z, n = z + 1 := ⟨n - 1, by omega⟩
    have hd := rd_drop P i i0 (by omega)
    rw [hd] at e
    have hA : ((P.map (sc q)).take i.toNat).length = i.toNat := by rw [List.length_take, List.length_map]; omega
    have hr : rd l i = rd P i := rd_at e (by rw [hA]; omega)
    obtain ⟨s0, s1⟩ := hP _ (rd_mem i0 (show i < (P.length : Int) by omega))
    have m0 : 0 ≤ (rd P i).Light * q := Int.mul_nonneg s0 q0
    have m1 : (rd P i).Light * q ≤ 16777216 * 1048576 := Int.mul_le_mul s1 q1 q0 (by decide)
    have hll : l.length = P.length := by rw [e, List.length_append, hA, List.length_cons, List.length_drop]; omega
    have hset : l.set i.toNat (sc q (rd P i)) = (P.map (sc q)).take (i + 1).toNat ++ P.drop (i + 1).toNat := by
      rw [e, List.set_append_right _ _ (by omega), hA, Nat.sub_self, List.set_cons_zero]
      have e2 : (P.map (sc q)).take (i + 1).toNat = (P.map (sc q)).take i.toNat ++ [sc q (rd P i)] := by
        rw [show (i + 1).toNat = i.toNat + 1 by omega, List.take_add_one]
        congr 1
        have hlt : i.toNat < P.length := by omega
        rw [List.getElem?_map, List.getElem?_eq_getElem hlt, (rd_lt i0 (by omega)).2]
        rfl
      rw [e2, List.append_assoc]; rfl
    rw [optics_Trail.l1, ifp (by omega), ifp i0, ifp (by omega), hr, hq, wid (x := (rd P i).Light * q) (by omega) (by omega), wid (x := i + 1) (by omega) (by omega)]
    exact ih n (i + 1) _ (by omega) (by omega) (by omega) hset
theorem nocont (k : Nat) (s : List Int) (hs : AllIn s 0 1048576) (hl : s.length ≤ 100000) (hk : s.length < k) : slices_ContainsFunc_Quanta__optics_Trail_1 k s = some false := by
  have h : ∀ (d n : Nat) (i : Int), i + d = (s.length : Int) → 0 ≤ i → d < n → slices_IndexFunc_Quanta__optics_Trail_1.l0 k s n i = some (Sum.inr ()) := by
    intro d
    induction d with
    | zero =>
      intro n i hi i0 hn
      obtain ⟨n, rfl⟩ : ∃ z, n = z + 1 := ⟨n - 1, by omega⟩
      rw [slices_IndexFunc_Quanta__optics_Trail_1.l0, ifn (by omega)]
    | succ d ih =>
      intro n i hi i0 hn
      obtain ⟨n, rfl⟩ : ∃ z, n = z + 1 := ⟨n - 1, by omega⟩
      have hr := hs.rd i0 (show i < (s.length : Int) by omega)
      have h1 : optics_Trail_1 k (rd s i) = some false := by
        unfold optics_Trail_1
        rw [ifn (by omega), decide_eq_false (by omega)]
      rw [slices_IndexFunc_Quanta__optics_Trail_1.l0, ifp (by omega), ifp i0, bnd h1, ifn (by decide), wid (x := i + 1) (by omega) (by omega)]
      exact ih n (i + 1) (by omega) (by omega) (by omega)
  unfold slices_ContainsFunc_Quanta__optics_Trail_1 slices_IndexFunc_Quanta__optics_Trail_1
  rw [h s.length k 0 (by omega) (by decide) hk]
  rfl
def PL (p : S_Point) (dx dy w h i : Int) : List S_Spot := (foot ((p.X + i * dx) / 16 % 16) ((p.Y + i * dy) / 16 % 16) w h).map (move ((p.X + i * dx) / 16 / 16) ((p.Y + i * dy) / 16 / 16))
def trS (p : S_Point) (dx dy w h : Int) (g : Int → Int → Int) : Int → List Int → Int
  | _, [] => 0
  | i, q :: qs => sg g (PL p dx dy w h i) * q + trS p dx dy w h g (i + 1) qs
theorem drift {i d : Int} (i0 : 0 ≤ i) (i1 : i ≤ 16) (d0 : -64 ≤ d) (d1 : d ≤ 64) : -1024 ≤ i * d ∧ i * d ≤ 1024 := by
  have h1 : i * d ≤ i * 64 := Int.mul_le_mul_of_nonneg_left d1 i0
  have h2 : i * (-64) ≤ i * d := Int.mul_le_mul_of_nonneg_left d0 i0
  omega
/-- What is told of the trail. -/
structure TH (p : S_Point) (dx dy w h : Int) : Prop where
  x0 : -20000 ≤ p.X
  x1 : p.X ≤ 20000
  y0 : -20000 ≤ p.Y
  y1 : p.Y ≤ 20000
  dx0 : -64 ≤ dx
  dx1 : dx ≤ 64
  dy0 : -64 ≤ dy
  dy1 : dy ≤ 64
  w : w = 1 ∨ w = 2 ∨ w = 4
  h : h = 1 ∨ h = 2 ∨ h = 4
theorem PL_good {p : S_Point} {dx dy w h : Int} (H : TH p dx dy w h) {i : Int} (i0 : 0 ≤ i) (i1 : i ≤ 16) : (∀ s ∈ PL p dx dy w h i, 0 ≤ s.Light ∧ s.Light ≤ 16777216 ∧ -100 ≤ s.X ∧ s.X ≤ 100 ∧ -100 ≤ s.Y ∧ s.Y ≤ 100) ∧ (PL p dx dy w h i).length ≤ 121 ∧ sg one (PL p dx dy w h i) = 16777216 := by
  obtain ⟨a1, a2⟩ := drift i0 i1 H.dx0 H.dx1
  obtain ⟨b1, b2⟩ := drift i0 i1 H.dy0 H.dy1
  have := H.x0; have := H.x1; have := H.y0; have := H.y1
  obtain ⟨f1, f2, f3, _, _⟩ := foot_good ((p.X + i * dx) / 16 % 16) ((p.Y + i * dy) / 16 % 16) w h (by omega) (by omega) (by omega) (by omega) H.w H.h
  refine ⟨fun s hs => ?_, ?_, ?_⟩
  · obtain ⟨q, hq, rfl⟩ := List.mem_map.mp hs
    obtain ⟨c1, c2, c3, c4, c5, c6⟩ := f1 q hq
    unfold move
    dsimp only
    omega
  · unfold PL; rw [List.length_map]; exact f2
  · unfold PL sg
    rw [sm_map, ← f3]
    refine sm_congr fun s _ => ?_
    show s.Light * 1 = s.Light
    omega
theorem point_at (k : Nat) {p : S_Point} {dx dy w h : Int} (H : TH p dx dy w h) {i : Int} (i0 : 0 ≤ i) (i1 : i ≤ 16) (hk : 30 ≤ k) : optics_Point k (⟨w64 (p.X + (w64 (i * dx))), w64 (p.Y + (w64 (i * dy)))⟩ : S_Point) w h = some (PL p dx dy w h i, 0) := by
  obtain ⟨a1, a2⟩ := drift i0 i1 H.dx0 H.dx1
  obtain ⟨b1, b2⟩ := drift i0 i1 H.dy0 H.dy1
  have := H.x0; have := H.x1; have := H.y0; have := H.y1
  rw [wid (x := i * dx) (by omega) (by omega), wid (x := i * dy) (by omega) (by omega), wid (x := p.X + i * dx) (by omega) (by omega), wid (x := p.Y + i * dy) (by omega) (by omega)]
  exact point_eq k _ _ w h (by omega) (by omega) (by omega) (by omega) H.w H.h hk
theorem trail_l0 (k : Nat) (rates : List Int) {p : S_Point} {dx dy w h : Int} (H : TH p dx dy w h) (hr : AllIn rates 0 1048576) (hl : rates.length ≤ 16) (hk : 3000 ≤ k) : ∀ (d n : Nat) (i : Nat) (out : List S_Spot), i + d = rates.length → d < n → SG out (121 * i) (17592186044416 * i) →
    ∃ c, optics_Trail.l0 k rates p dx dy w h n out (i : Int) = some (Sum.inr c) ∧ (∀ g, sg g c = sg g out + trS p dx dy w h g (i : Int) (rates.drop i)) ∧ SG c (121 * rates.length) (17592186044416 * rates.length) := by
  intro d
  induction d with
  | zero =>
    intro n i out hi hn ho
    obtain ⟨n, rfl⟩ : ∃ z, n = z + 1 := ⟨n - 1, by omega⟩
    obtain rfl : i = rates.length := by omega
    refine ⟨out, ?_, fun g => ?_, ho⟩
    · rw [optics_Trail.l0, ifn (by omega)]
    · rw [List.drop_length]; exact (Int.add_zero _).symm
  | succ d ih =>
    intro n i out hi hn ho
    obtain ⟨n, rfl⟩ : ∃ z, n = z + 1 := ⟨n - 1, by omega⟩
    have hd := rd_drop rates (i : Int) (by omega) (by omega)
    rw [Int.toNat_natCast, show ((i : Int) + 1).toNat = i + 1 by omega] at hd
    obtain ⟨q0, q1⟩ := hr.rd (show (0 : Int) ≤ (i : Int) by omega) (by omega)
    obtain ⟨p1, p2, p3⟩ := PL_good H (i := (i : Int)) (by omega) (by omega)
    have hsc := scale_l1 k (PL p dx dy w h i) rates (i : Int) (rd rates i) rfl q0 q1 (fun s hs => ⟨(p1 s hs).1, (p1 s hs).2.1⟩) (by omega) (PL p dx dy w h i).length k 0 (PL p dx dy w h i) (by omega) (by decide) (by omega) rfl
    have hsg : sg one ((PL p dx dy w h i).map (sc (rd rates i))) ≤ 17592186044416 := by rw [sg_sc, p3]; omega
    have hgood : SG ((PL p dx dy w h i).map (sc (rd rates i))) 121 17592186044416 := ⟨fun s hs => by
      obtain ⟨z, hz, rfl⟩ := List.mem_map.mp hs
      obtain ⟨c1, c2, c3, c4, c5, c6⟩ := p1 z hz
      have m0 : 0 ≤ z.Light * rd rates i := Int.mul_nonneg c1 q0
      exact ⟨m0, by show -500 ≤ z.X; omega, by show z.X ≤ 500; omega, by show -500 ≤ z.Y; omega, by show z.Y ≤ 500; omega⟩, by rw [List.length_map]; exact p2, hsg⟩
    obtain ⟨c, e1, e2, e3⟩ := add_ex k out _ (121 * i) 121 _ _ ho hgood (by omega) (by omega) (by omega) (by omega)
    obtain ⟨c', e4, e5, e6⟩ := ih n (i + 1) c (by omega) (by omega) (by
      have h1 : 121 * (i + 1) = 121 * i + 121 := by omega
      have h2 : (17592186044416 : Int) * ((i + 1 : Nat) : Int) = 17592186044416 * (i : Int) + 17592186044416 := by omega
      rw [h1, h2]; exact e3)
    refine ⟨c', ?_, fun g => ?_, e6⟩
    · rw [optics_Trail.l0, ifp (by omega), ifp (by omega), bnd (point_at k H (by omega) (by omega) (by omega))]; dsimp only
      rw [ifn (by simp), bnd hsc, bnd e1, wid (x := (i : Int) + 1) (by omega) (by omega)]
      exact e4
    · rw [e5 g, e2 g, hd, sg_sc, show ((i + 1 : Nat) : Int) = (i : Int) + 1 by omega]
      show _ = _ + (sg g (PL p dx dy w h i) * rd rates i + trS p dx dy w h g ((i : Int) + 1) _)
      omega
theorem trail_ex (k : Nat) (rates : List Int) {p : S_Point} {dx dy w h : Int} (H : TH p dx dy w h) (hr : AllIn rates 0 1048576) (hl : rates.length ≤ 16) (hk : 3000 ≤ k) :
    ∃ c, optics_Trail k p dx dy rates w h = some (c, 0) ∧ (∀ g, sg g c = trS p dx dy w h g 0 rates) ∧ SG c (121 * rates.length) (17592186044416 * rates.length) := by
  obtain ⟨c, e1, e2, e3⟩ := trail_l0 k rates H hr hl hk rates.length k 0 [] (by omega) (by omega) ⟨by simp, by simp, by show (0 : Int) ≤ _; omega⟩
  have := H.dx0; have := H.dx1; have := H.dy0; have := H.dy1
  have := H.x0; have := H.x1; have := H.y0; have := H.y1
  refine ⟨c, ?_, fun g => ?_, e3⟩
  · unfold optics_Trail
    rw [ifn (by omega), mx_def, ifn (by omega), mn_def, ifn (by omega), bnd (nocont k rates hr (by omega) (by omega)), ifn (by decide)]
    have hp := point_eq k p.X p.Y w h (by omega) (by omega) (by omega) (by omega) H.w H.h (by omega)
    rw [bnd (show optics_Point k p w h = _ from hp)]; dsimp only
    rw [ifn (by simp), show (0 : Int) = ((0 : Nat) : Int) from rfl, bnd e1]
    rfl
  · rw [e2 g, List.drop_zero]
    show 0 + _ = _
    rw [Int.zero_add]; rfl
theorem trS_add (p : S_Point) (dx dy w h : Int) (g : Int → Int → Int) : ∀ (a b : List Int) (i : Int), a.length = b.length → trS p dx dy w h g i (List.zipWith (· + ·) a b) = trS p dx dy w h g i a + trS p dx dy w h g i b
  | [], [], _, _ => rfl
  | x :: a, y :: b, i, e => by
    have ih := trS_add p dx dy w h g a b (i + 1) (by simpa using e)
    show sg g (PL p dx dy w h i) * (x + y) + trS p dx dy w h g (i + 1) (List.zipWith (· + ·) a b) = (sg g (PL p dx dy w h i) * x + trS p dx dy w h g (i + 1) a) + (sg g (PL p dx dy w h i) * y + trS p dx dy w h g (i + 1) b)
    rw [ih, Int.mul_add]; omega
theorem trS_one {p : S_Point} {dx dy w h : Int} (H : TH p dx dy w h) : ∀ (a : List Int) (i : Int), 0 ≤ i → i + a.length ≤ 16 → trS p dx dy w h one i a = 16777216 * sm (fun x => x) a
  | [], _, _, _ => rfl
  | x :: a, i, h0, h1 => by
    rw [List.length_cons] at h1
    have ih := trS_one H a (i + 1) (by omega) (by omega)
    have e := (PL_good H (i := i) h0 (by omega)).2.2
    show sg one (PL p dx dy w h i) * x + trS p dx dy w h one (i + 1) a = 16777216 * (x + sm (fun x => x) a)
    rw [ih, e]; omega
def ind (X Y : Int) (x y : Int) : Int := if x = X ∧ y = Y then 1 else 0
theorem light_l0 (k : Nat) (l : List S_Spot) (X Y : Int) (hs : ∀ s ∈ l, 0 ≤ s.Light) (hl : l.length ≤ 1000000) : ∀ (d n : Nat) (i acc : Int), i + d = (l.length : Int) → 0 ≤ i → d < n → 0 ≤ acc → acc + sg one (l.drop i.toNat) ≤ 4611686018427387904 → spykeep3_light.l0 k l X Y n acc i = some (acc + sg (ind X Y) (l.drop i.toNat)) := by
  intro d
  induction d with
  | zero =>
    intro n i acc hi i0 hn h0 h1
    obtain ⟨n, rfl⟩ : ∃ z, n = z + 1 := ⟨n - 1, by omega⟩
    rw [spykeep3_light.l0, ifn (by omega), List.drop_of_length_le (by omega), show sg (ind X Y) [] = 0 from rfl, Int.add_zero]
  | succ d ih =>
    intro n i acc hi i0 hn h0 h1
    obtain ⟨n, rfl⟩ : ∃ z, n = z + 1 := ⟨n - 1, by omega⟩
    have hd := rd_drop l i i0 (by omega)
    have s0 := hs _ (rd_mem i0 (show i < (l.length : Int) by omega))
    have h5 := sg_one_nn (l := l.drop (i + 1).toNat) (fun s h => hs s (List.mem_of_mem_drop h))
    rw [hd, sg_cons, show one (rd l i).X (rd l i).Y = 1 from rfl, Int.mul_one] at h1
    rw [spykeep3_light.l0, ifp (by omega), ifp i0, wid (x := i + 1) (by omega) (by omega), hd, sg_cons]
    by_cases c1 : (rd l i).X = X
    · by_cases c2 : (rd l i).Y = Y
      · rw [ifp c1, ifp c2, wid (x := acc + (rd l i).Light) (by omega) (by omega), ih n (i + 1) _ (by omega) (by omega) (by omega) (by omega) (by omega), show ind X Y (rd l i).X (rd l i).Y = 1 from if_pos ⟨c1, c2⟩, Int.mul_one, Int.add_assoc]
      · rw [ifp c1, ifn c2, ih n (i + 1) _ (by omega) (by omega) (by omega) (by omega) (by omega), show ind X Y (rd l i).X (rd l i).Y = 0 from if_neg (fun h => c2 h.2), Int.mul_zero, Int.zero_add]
    · rw [ifn c1, ih n (i + 1) _ (by omega) (by omega) (by omega) (by omega) (by omega), show ind X Y (rd l i).X (rd l i).Y = 0 from if_neg (fun h => c1 h.1), Int.mul_zero, Int.zero_add]
theorem light_ex (k : Nat) (l : List S_Spot) (X Y : Int) {N : Nat} {T : Int} (h : SG l N T) (hN : N ≤ 100000) (hT : T ≤ 4611686018427387904) (hk : N < k) : spykeep3_light k l X Y = some (sg (ind X Y) l) := by
  have hn := h.n
  have ht := h.t
  unfold spykeep3_light
  rw [bnd (light_l0 k l X Y (fun s hs => (h.s s hs).1) (by omega) l.length k 0 0 (by omega) (by decide) (by omega) (by decide) (by rw [show (0 : Int).toNat = 0 from rfl, List.drop_zero]; omega)), show (0 : Int).toNat = 0 from rfl, List.drop_zero, Int.zero_add]
theorem total_l0 (k : Nat) (l : List S_Spot) (hs : ∀ s ∈ l, 0 ≤ s.Light) (hl : l.length ≤ 1000000) : ∀ (d n : Nat) (i acc : Int), i + d = (l.length : Int) → 0 ≤ i → d < n → 0 ≤ acc → acc + sg one (l.drop i.toNat) ≤ 4611686018427387904 → spykeep3_total.l0 k l n acc i = some (acc + sg one (l.drop i.toNat)) := by
  intro d
  induction d with
  | zero =>
    intro n i acc hi i0 hn h0 h1
    obtain ⟨n, rfl⟩ : ∃ z, n = z + 1 := ⟨n - 1, by omega⟩
    rw [spykeep3_total.l0, ifn (by omega), List.drop_of_length_le (by omega), show sg one [] = 0 from rfl, Int.add_zero]
  | succ d ih =>
    intro n i acc hi i0 hn h0 h1
    obtain ⟨n, rfl⟩ : ∃ z, n = z + 1 := ⟨n - 1, by omega⟩
    have hd := rd_drop l i i0 (by omega)
    have s0 := hs _ (rd_mem i0 (show i < (l.length : Int) by omega))
    have h5 := sg_one_nn (l := l.drop (i + 1).toNat) (fun s h => hs s (List.mem_of_mem_drop h))
    rw [hd, sg_cons, show one (rd l i).X (rd l i).Y = 1 from rfl, Int.mul_one] at h1
    rw [spykeep3_total.l0, ifp (by omega), ifp i0, wid (x := i + 1) (by omega) (by omega), hd, sg_cons, wid (x := acc + (rd l i).Light) (by omega) (by omega), ih n (i + 1) _ (by omega) (by omega) (by omega) (by omega) (by omega), show one (rd l i).X (rd l i).Y = 1 from rfl, Int.mul_one, Int.add_assoc]
theorem total_ex (k : Nat) (l : List S_Spot) {N : Nat} {T : Int} (h : SG l N T) (hN : N ≤ 100000) (hT : T ≤ 4611686018427387904) (hk : N < k) : spykeep3_total k l = some (sg one l) := by
  have hn := h.n
  have ht := h.t
  unfold spykeep3_total
  rw [bnd (total_l0 k l (fun s hs => (h.s s hs).1) (by omega) l.length k 0 0 (by omega) (by decide) (by omega) (by decide) (by rw [show (0 : Int).toNat = 0 from rfl, List.drop_zero]; omega)), show (0 : Int).toNat = 0 from rfl, List.drop_zero, Int.zero_add]
theorem grow_eq (k : Nat) (n : Int) (h0 : 0 ≤ n) (h1 : n ≤ 1000000) : slices_Grow_Spot k n = some [] := by
  have w0 : w64 ((0 : Int) - 0) = 0 := wid (x := (0 : Int) - 0) (by decide) (by decide)
  unfold slices_Grow_Spot
  rw [ifn (by omega), w0, Int.sub_zero, wid (x := n) (by omega) (by omega)]
  by_cases c : n > 0
  · rw [ifp c, ifp (by omega), ifp (by omega), ifp (by omega)]
    show some (List.take 0 _) = _
    rw [List.take_zero]
  · rw [ifn c]
theorem concat_eq (k : Nat) (a b c : List S_Spot) (hl : a.length + b.length + c.length ≤ 1000000) (hk : 10 ≤ k) : slices_Concat_Spot k ([a, b, c] : List (List S_Spot)) = some (a ++ (b ++ c)) := by
  obtain ⟨j, rfl⟩ : ∃ j, k = j + 1 + 1 + 1 + 1 := ⟨k - 4, by omega⟩
  have l3 : ((([a, b, c] : List (List S_Spot)).length : Nat) : Int) = 3 := rfl
  have r0 : rd ([a, b, c] : List (List S_Spot)) 0 = a := rfl
  have r1 : rd ([a, b, c] : List (List S_Spot)) 1 = b := rfl
  have r2 : rd ([a, b, c] : List (List S_Spot)) 2 = c := rfl
  have w1 : w64 ((0 : Int) + 1) = 1 := wid (x := (0 : Int) + 1) (by decide) (by decide)
  have w2 : w64 ((1 : Int) + 1) = 2 := wid (x := (1 : Int) + 1) (by decide) (by decide)
  have w3 : w64 ((2 : Int) + 1) = 3 := wid (x := (2 : Int) + 1) (by decide) (by decide)
  have s1 : w64 ((0 : Int) + (a.length : Int)) = (a.length : Int) := by rw [wid (by omega) (by omega)]; omega
  have s2 : w64 ((a.length : Int) + (b.length : Int)) = ((a.length + b.length : Nat) : Int) := by rw [wid (by omega) (by omega)]; omega
  have s3 : w64 (((a.length + b.length : Nat) : Int) + (c.length : Int)) = ((a.length + b.length + c.length : Nat) : Int) := by rw [wid (by omega) (by omega)]; omega
  have e0 : slices_Concat_Spot.l0 (j + 1 + 1 + 1 + 1) ([a, b, c] : List (List S_Spot)) (j + 1 + 1 + 1 + 1) 0 0 = some ((a.length + b.length + c.length : Nat) : Int) := by
    rw [slices_Concat_Spot.l0, l3, ifp (by decide), ifp (by decide), r0, s1, ifn (by omega), w1, slices_Concat_Spot.l0, l3, ifp (by decide), ifp (by decide), r1, s2, ifn (by omega), w2, slices_Concat_Spot.l0, l3, ifp (by decide), ifp (by decide), r2, s3, ifn (by omega), w3, slices_Concat_Spot.l0, l3, ifn (by decide)]
  have e1 : slices_Concat_Spot.l1 (j + 1 + 1 + 1 + 1) ([a, b, c] : List (List S_Spot)) (j + 1 + 1 + 1 + 1) [] 0 = some (a ++ (b ++ c)) := by
    rw [slices_Concat_Spot.l1, l3, ifp (by decide), ifp (by decide), r0, ifp (by rw [List.length_nil]; omega), w1, List.nil_append, slices_Concat_Spot.l1, l3, ifp (by decide), ifp (by decide), r1, ifp (by omega), w2, slices_Concat_Spot.l1, l3, ifp (by decide), ifp (by decide), r2,
      ifp (by rw [List.length_append]; omega), w3, slices_Concat_Spot.l1, l3, ifn (by decide), List.append_assoc]
  unfold slices_Concat_Spot
  rw [bnd e0, bnd (grow_eq _ _ (by omega) (by omega)), bnd e1]
theorem rates_l0 (k : Nat) (L : List Int) (m a0_ : Int) (hm : m ≤ 1000) : ∀ (d n : Nat) (out : List Int) (i pos : Int), i + d = m → 0 ≤ i → d < n → 0 ≤ pos → pos + d ≤ 1000000 → out.length + d ≤ 1000 → AllIn out 0 4999 → ∃ out' pos', spykeep3_rates.l0 k m ⟨L, a0_⟩ n out i pos = some (out', pos') ∧ out'.length = out.length + d ∧ AllIn out' 0 4999 ∧ pos' = pos + d := by
  intro d
  induction d with
  | zero =>
    intro n out i pos hi i0 hn p0 p1 ho ha
    obtain ⟨n, rfl⟩ : ∃ z, n = z + 1 := ⟨n - 1, by omega⟩
    exact ⟨out, pos, by rw [spykeep3_rates.l0, ifn (by omega)], by omega, ha, by omega⟩
  | succ d ih =>
    intro n out i pos hi i0 hn p0 p1 ho ha
    obtain ⟨n, rfl⟩ : ∃ z, n = z + 1 := ⟨n - 1, by omega⟩
    obtain ⟨v, hv, v0, v1⟩ := next_ex k L pos 5000 (by decide) (by decide) p0 (by omega)
    obtain ⟨out', pos', e1, e2, e3, e4⟩ := ih n (out ++ [v]) (i + 1) (pos + 1) (by omega) (by omega) (by omega) (by omega) (by omega) (by rw [List.length_append, List.length_singleton]; omega) (ha.push v0 (by omega))
    refine ⟨out', pos', ?_, by rw [List.length_append, List.length_singleton] at e2; omega, e3, by omega⟩
    rw [spykeep3_rates.l0, ifp (by omega), bnd hv]; dsimp only
    rw [ifp (by omega), wid (x := i + 1) (by omega) (by omega)]
    exact e1
theorem rates_ex (k : Nat) (L : List Int) (hk : 100 ≤ k) : ∃ a pos, spykeep3_rates k ⟨L, 0⟩ = some (a, pos) ∧ a.length ≤ 16 ∧ AllIn a 0 4999 ∧ 0 ≤ pos ∧ pos ≤ 100 := by
  obtain ⟨v, hv, v0, v1⟩ := next_ex k L 0 17 (by decide) (by decide) (by decide) (by decide)
  obtain ⟨a, pos, e1, e2, e3, e4⟩ := rates_l0 k L v 0 (by omega) v.toNat k [] 0 1 (by omega) (by decide) (by omega) (by decide) (by omega) (by rw [List.length_nil]; omega) AllIn.nil
  rw [List.length_nil] at e2
  refine ⟨a, pos, ?_, by omega, e3, by omega, by omega⟩
  unfold spykeep3_rates
  rw [bnd hv]; dsimp only
  rw [show (0 : Int) + 1 = 1 from rfl, bnd e1]
theorem zip_push {a b : List Int} {x y : Int} (h : a.length = b.length) : List.zipWith (· + ·) (a ++ [x]) (b ++ [y]) = List.zipWith (· + ·) a b ++ [x + y] := by
  rw [List.zipWith_append h]; rfl
theorem law_l0 (k : Nat) (a L : List Int) (ha : AllIn a 0 4999) (hl : a.length ≤ 16) : ∀ (d n i : Nat) (b both : List Int) (sum pos : Int), i + d = a.length → d < n → b.length = i → both = List.zipWith (· + ·) (a.take i) b → sum = sm (fun x => x) both → 0 ≤ sum → sum ≤ 10000 * i → AllIn b 0 4999 → 0 ≤ pos → pos + d ≤ 1000000 →
    ∃ b' sum' pos', spykeep3_OpticsTrailsAdd.l0 k a L n b both sum (i : Int) pos = some (b', List.zipWith (· + ·) a b', sum', pos') ∧ b'.length = a.length ∧ AllIn b' 0 4999 ∧ sum' = sm (fun x => x) (List.zipWith (· + ·) a b') ∧ 0 ≤ sum' ∧ sum' ≤ 160000 := by
  intro d
  induction d with
  | zero =>
    intro n i b both sum pos hi hn hb he hs s0 s1 hB p0 p1
    obtain ⟨n, rfl⟩ : ∃ z, n = z + 1 := ⟨n - 1, by omega⟩
    rw [List.take_of_length_le (by omega)] at he
    subst he
    exact ⟨b, sum, pos, by rw [spykeep3_OpticsTrailsAdd.l0, ifn (by omega)], by omega, hB, hs, s0, by omega⟩
  | succ d ih =>
    intro n i b both sum pos hi hn hb he hs s0 s1 hB p0 p1
    obtain ⟨n, rfl⟩ : ∃ z, n = z + 1 := ⟨n - 1, by omega⟩
    obtain ⟨v, hv, v0, v1⟩ := next_ex k L pos 5000 (by decide) (by decide) p0 (by omega)
    obtain ⟨a0, a1⟩ := ha.rd (show (0 : Int) ≤ (i : Int) by omega) (show (i : Int) < (a.length : Int) by omega)
    have hbl : both.length = i := by rw [he, List.length_zipWith, List.length_take]; omega
    have lb : ((b ++ ([v] : List Int)).length : Int) = (i : Int) + 1 := by rw [List.length_append, List.length_singleton]; omega
    have wb : w64 (((b ++ ([v] : List Int)).length : Int) - 1) = (i : Int) := by rw [lb, wid (by omega) (by omega)]; omega
    have rb : rd (b ++ ([v] : List Int)) (i : Int) = v := rd_push_new b v _ (by omega)
    have wv : w64 (rd a (i : Int) + v) = rd a (i : Int) + v := wid (by omega) (by omega)
    have lB : ((both ++ ([rd a (i : Int) + v] : List Int)).length : Int) = (i : Int) + 1 := by rw [List.length_append, List.length_singleton]; omega
    have wB : w64 (((both ++ ([rd a (i : Int) + v] : List Int)).length : Int) - 1) = (i : Int) := by rw [lB, wid (by omega) (by omega)]; omega
    have rB : rd (both ++ ([rd a (i : Int) + v] : List Int)) (i : Int) = rd a (i : Int) + v := rd_push_new both _ _ (by omega)
    have ws : w64 (sum + (rd a (i : Int) + v)) = sum + (rd a (i : Int) + v) := wid (by omega) (by omega)
    have htk : a.take (i + 1) = a.take i ++ [rd a (i : Int)] := by
      obtain ⟨h1, e⟩ := rd_lt (xs := a) (i := (i : Int)) (by omega) (by omega)
      rw [e, List.take_succ_eq_append_getElem (by omega)]
      simp
    obtain ⟨b', sum', pos', e1, e2, e3, e4, e5, e6⟩ := ih n (i + 1) (b ++ [v]) (both ++ [rd a (i : Int) + v]) (sum + (rd a (i : Int) + v)) (pos + 1) (by omega) (by omega) (by rw [List.length_append, List.length_singleton]; omega) (by rw [htk, zip_push (by rw [List.length_take]; omega), he]) (by rw [sm_append, hs]; show _ = _ + (rd a (i : Int) + v + 0); omega) (by omega) (by omega) (hB.push v0 (by omega)) (by omega) (by omega)
    refine ⟨b', sum', pos', ?_, e2, e3, e4, e5, e6⟩
    rw [spykeep3_OpticsTrailsAdd.l0, ifp (by omega), ifp (by omega), bnd hv]; dsimp only
    rw [ifp (by omega), wb, ifp (by omega), ifp (by omega), rb, wv, ifp (by omega), wB, ifp (by omega), ifp (by omega), rB, ws, wid (x := (i : Int) + 1) (by omega) (by omega)]
    exact e1
theorem law_l1 (k : Nat) (x y z : List S_Spot) {N : Nat} {T : Int} (hx : SG x N T) (hy : SG y N T) (hz : SG z N T) (hN : N ≤ 100000) (hT : T ≤ 1152921504606846976) (hk : N < k) (he : ∀ g, sg g z = sg g x + sg g y) (all : List S_Spot) (hl : all.length ≤ 1000000) : ∀ (d n : Nat) (i : Int), i + d = (all.length : Int) → 0 ≤ i → d < n → spykeep3_OpticsTrailsAdd.l1 k all x y z n i = some (Sum.inr ()) := by
  intro d
  induction d with
  | zero =>
    intro n i hi i0 hn
    obtain ⟨n, rfl⟩ : ∃ z, n = z + 1 := ⟨n - 1, by omega⟩
    rw [spykeep3_OpticsTrailsAdd.l1, ifn (by omega)]
  | succ d ih =>
    intro n i hi i0 hn
    obtain ⟨n, rfl⟩ : ∃ z, n = z + 1 := ⟨n - 1, by omega⟩
    have bound : ∀ (l : List S_Spot) (X Y : Int), (∀ s ∈ l, 0 ≤ s.Light) → 0 ≤ sg (ind X Y) l ∧ sg (ind X Y) l ≤ sg one l := by
      intro l X Y h
      induction l with
      | nil => exact ⟨Int.le_refl 0, Int.le_refl 0⟩
      | cons s l ihl =>
        have h1 := h s (List.mem_cons_self ..)
        have h2 := ihl (fun q hq => h q (List.mem_cons_of_mem _ hq))
        rw [sg_cons, sg_cons, show one s.X s.Y = 1 from rfl, Int.mul_one]
        unfold ind at h2 ⊢
        by_cases c : s.X = X ∧ s.Y = Y
        · rw [if_pos c, Int.mul_one]; omega
        · rw [if_neg c, Int.mul_zero]; omega
    have b1 := bound x (rd all i).X (rd all i).Y (fun s h => (hx.s s h).1)
    have b2 := bound y (rd all i).X (rd all i).Y (fun s h => (hy.s s h).1)
    have t1 := hx.t
    have t2 := hy.t
    rw [spykeep3_OpticsTrailsAdd.l1, ifp (by omega), ifp i0, bnd (light_ex k x _ _ hx hN (by omega) hk), bnd (light_ex k y _ _ hy hN (by omega) hk), bnd (light_ex k z _ _ hz hN (by omega) hk), wid (x := sg (ind (rd all i).X (rd all i).Y) x + sg (ind (rd all i).X (rd all i).Y) y) (by omega) (by omega), ifn (by rw [he]; omega), wid (x := i + 1) (by omega) (by omega)]
    exact ih n (i + 1) (by omega) (by omega) (by omega)
theorem law (k : Nat) (p : S_Point) (dx dy : Int) (L : List Int) (n : Int) (hk : 10000 ≤ k) : spykeep3_OpticsTrailsAdd k p dx dy L n = some true := by
  obtain ⟨a, pos, e1, a1, a2, a3, a4⟩ := rates_ex k L (by omega)
  obtain ⟨b, sum, pos', e2, b1, b2, b3, b4, b5⟩ := law_l0 k a L a2 a1 a.length k 0 [] [] 0 pos (by omega) (by omega) rfl (by rw [List.take_zero]; rfl) rfl (by decide) (by decide) AllIn.nil a3 (by omega)
  obtain ⟨w, hw, w1⟩ := half_ex k n
  obtain ⟨h, hh, h1⟩ := half_ex k (w64 (Int.tdiv n 3))
  have px0 := Int.lt_tmod_of_pos p.X (show (0 : Int) < 20000 by decide)
  have px1 := Int.tmod_lt_of_pos p.X (show (0 : Int) < 20000 by decide)
  have py0 := Int.lt_tmod_of_pos p.Y (show (0 : Int) < 20000 by decide)
  have py1 := Int.tmod_lt_of_pos p.Y (show (0 : Int) < 20000 by decide)
  have dx0 := Int.lt_tmod_of_pos dx (show (0 : Int) < 65 by decide)
  have dx1 := Int.tmod_lt_of_pos dx (show (0 : Int) < 65 by decide)
  have dy0 := Int.lt_tmod_of_pos dy (show (0 : Int) < 65 by decide)
  have dy1 := Int.tmod_lt_of_pos dy (show (0 : Int) < 65 by decide)
  have H : TH ⟨Int.tmod p.X 20000, Int.tmod p.Y 20000⟩ (Int.tmod dx 65) (Int.tmod dy 65) w h := ⟨by show -20000 ≤ Int.tmod p.X 20000; omega, by show Int.tmod p.X 20000 ≤ 20000; omega, by show -20000 ≤ Int.tmod p.Y 20000; omega, by show Int.tmod p.Y 20000 ≤ 20000; omega, by omega, by omega, by omega, by omega, w1, h1⟩
  have zl : (List.zipWith (· + ·) a b).length = a.length := by rw [List.length_zipWith]; omega
  have z2 : AllIn (List.zipWith (· + ·) a b) 0 1048576 := by
    have : ∀ (a b : List Int), AllIn a 0 4999 → AllIn b 0 4999 → AllIn (List.zipWith (· + ·) a b) 0 1048576 := by
      intro a
      induction a with
      | nil => intro b _ _ x hx; simp at hx
      | cons u a iha =>
        intro b hu hb x hx
        cases b with
        | nil => simp at hx
        | cons v b =>
          rw [List.zipWith_cons_cons] at hx
          rcases List.mem_cons.mp hx with rfl | hx
          · have q1 := hu u (List.mem_cons_self ..)
            have q2 := hb v (List.mem_cons_self ..)
            show 0 ≤ u + v ∧ u + v ≤ 1048576
            omega
          · exact iha b (fun q hq => hu q (List.mem_cons_of_mem _ hq)) (fun q hq => hb q (List.mem_cons_of_mem _ hq)) x hx
    exact this a b a2 b2
  obtain ⟨x, f1, f2, f3⟩ := trail_ex k a H (a2.mono (by decide) (by decide)) a1 (by omega)
  obtain ⟨y, g1, g2, g3⟩ := trail_ex k b H (b2.mono (by decide) (by decide)) (by omega) (by omega)
  obtain ⟨z, i1, i2, i3⟩ := trail_ex k (List.zipWith (· + ·) a b) H z2 (by omega) (by omega)
  rw [b1] at g3
  rw [zl] at i3
  have he : ∀ g, sg g z = sg g x + sg g y := fun g => by rw [i2, f2, g2, trS_add _ _ _ _ _ g a b 0 b1.symm]
  have ht : sg one z = 16777216 * sum := by rw [i2, trS_one H _ 0 (by decide) (by omega), b3]
  unfold spykeep3_OpticsTrailsAdd
  rw [bnd e1]; dsimp only
  have e2' : spykeep3_OpticsTrailsAdd.l0 k a L k [] [] 0 0 pos = some (b, List.zipWith (· + ·) a b, sum, pos') := e2
  rw [bnd e2']; dsimp only
  rw [bnd hw, bnd hh, bnd f1]; dsimp only
  rw [bnd hw, bnd hh, bnd g1]; dsimp only
  rw [bnd hw, bnd hh, bnd i1]; dsimp only
  have nx := f3.n
  have ny := g3.n
  have nz := i3.n
  rw [bnd (spreads_eq k (by omega)), ifn (by simp), ifn (by simp), ifn (by simp), ifn (by simp), bnd (total_ex k z i3 (by omega) (by omega) (by omega)), wid (x := sum * 16777216) (by omega) (by omega), ifn (by omega), bnd (concat_eq k x y z (by omega) (by omega))]
  rw [bnd (law_l1 k x y z f3 g3 i3 (by omega) (by omega) (by omega) he (x ++ (y ++ z)) (by rw [List.length_append, List.length_append]; omega) (x ++ (y ++ z)).length k 0 (by omega) (by decide) (by rw [List.length_append, List.length_append]; omega))]
  rfl
theorem law_ex (p : S_Point) (dx dy : Int) (L : List Int) (n : Int) (_ : (Lit.int .i64 p.X).wf = true) (_ : (Lit.int .i64 p.Y).wf = true) (_ : (Lit.int .i64 dx).wf = true) (_ : (Lit.int .i64 dy).wf = true) (_ : (Lit.int .i64 n).wf = true) : ∃ k, spykeep3_OpticsTrailsAdd k p dx dy L n = some true := ⟨10000, law 10000 p dx dy L n (Nat.le_refl _)⟩

end Go.Sp.X3
