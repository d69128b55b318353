import Derived.Test.YtcnhbfdkediodaaFX4
import Derived.KernelRfl
import Derived.Laws.BitsLemmas
import Derived.Laws.Bits64
import Derived.Laws.BitsAllLaws
import Derived.Laws.BitsLemmas
import Derived.Laws.Bits64
import Derived.Laws.BitsAllLaws
namespace Go.Sp.X4
open Go Go.Sp
set_option linter.unusedVariables false
theorem bnd {α β : Type} {x : Option α} {g : α → Option β} {v : α} (h : x = some v) : x.bind g = g v := by rw [h]; rfl
theorem ifp {α : Type} {c : Prop} [Decidable c] {x y : α} (h : c) : (if c then x else y) = x := if_pos h
theorem ifn {α : Type} {c : Prop} [Decidable c] {x y : α} (h : ¬ c) : (if c then x else y) = y := if_neg h
theorem rd_mem {α : Type} [Inhabited α] {l : List α} {i : Int} (h0 : 0 ≤ i) (h1 : i < (l.length : Int)) : rd l i ∈ l := by
  obtain ⟨h, e⟩ := rd_lt h0 h1
  rw [e]; exact List.getElem_mem h
theorem wid {x : Int} (h : -9223372036854775808 ≤ x) (h' : x ≤ 9223372036854775807) : w64 x = x := w64_of h h'
theorem wuid {x : Int} (h : 0 ≤ x) (h' : x ≤ 18446744073709551615) : u64 x = x := u64_of h h'
theorem mul_le {a b A B : Int} (h1 : 0 ≤ a) (h2 : a ≤ A) (h3 : 0 ≤ b) (h4 : b ≤ B) : 0 ≤ a * b ∧ a * b ≤ A * B :=
  ⟨Int.mul_nonneg h1 h3, Int.mul_le_mul h2 h4 h3 (by omega)⟩
theorem tdiv_nn {a b : Int} (h : 0 ≤ a) : Int.tdiv a b = a / b := Int.tdiv_eq_ediv_of_nonneg h
theorem tmod_nn {a b : Int} (h : 0 ≤ a) : Int.tmod a b = a % b := Int.tmod_eq_emod_of_nonneg h
def AllIn (l : List Int) (lo hi : Int) : Prop := ∀ x, x ∈ l → lo ≤ x ∧ x ≤ hi
theorem AllIn.nil {lo hi : Int} : AllIn [] lo hi := fun x h => by cases h
theorem AllIn.push {l : List Int} {lo hi x : Int} (h : AllIn l lo hi) (h0 : lo ≤ x) (h1 : x ≤ hi) : AllIn (l ++ [x]) lo hi := by
  intro y hy
  rcases List.mem_append.mp hy with hy | hy
  · exact h y hy
  · simp only [List.mem_singleton] at hy; subst hy; exact ⟨h0, h1⟩
theorem AllIn.rd {l : List Int} {lo hi i : Int} (h : AllIn l lo hi) (h0 : 0 ≤ i) (h1 : i < (l.length : Int)) : lo ≤ rd l i ∧ rd l i ≤ hi := h _ (rd_mem h0 h1)
theorem AllIn.mono {l : List Int} {lo hi lo' hi' : Int} (h : AllIn l lo hi) (h0 : lo' ≤ lo) (h1 : hi ≤ hi') : AllIn l lo' hi' := fun x hx => by have := h x hx; omega
theorem rd_set_eq (l : List Int) (i x : Int) (h0 : 0 ≤ i) (h1 : i < (l.length : Int)) : rd (l.set i.toNat x) i = x := by
  obtain ⟨h, e⟩ := rd_lt (xs := l.set i.toNat x) h0 (by simp; omega)
  rw [e]; simp
theorem rd_set_ne (l : List Int) (i j x : Int) (h0 : 0 ≤ i) (hj : 0 ≤ j) (h1 : j < (l.length : Int)) (hne : j ≠ i) : rd (l.set i.toNat x) j = rd l j := by
  obtain ⟨h, e⟩ := rd_lt (xs := l.set i.toNat x) hj (by simp; omega)
  obtain ⟨h', e'⟩ := rd_lt (xs := l) hj h1
  rw [e, e', List.getElem_set, if_neg (by omega)]
theorem rd_push_old (l : List Int) (x i : Int) (h0 : 0 ≤ i) (h1 : i < (l.length : Int)) : rd (l ++ [x]) i = rd l i := by
  obtain ⟨h, e⟩ := rd_lt (xs := l ++ [x]) h0 (by simp; omega)
  obtain ⟨h', e'⟩ := rd_lt (xs := l) h0 h1
  rw [e, e', List.getElem_append_left h']
theorem rd_push_new (l : List Int) (x i : Int) (h1 : i = (l.length : Int)) : rd (l ++ [x]) i = x := by
  obtain ⟨h, e⟩ := rd_lt (xs := l ++ [x]) (i := i) (by omega) (by simp; omega)
  rw [e, List.getElem_append_right (by omega)]
  simp
theorem below_ex (k : Nat) (x n : Int) (h1 : 1 ≤ n) (h2 : n ≤ 4611686018427387904) : ∃ v, spymake_Below k x n = some v ∧ 0 ≤ v ∧ v < n := by
  have e1 := Int.tmod_lt_of_pos x (show 0 < n by omega)
  have e2 := Int.lt_tmod_of_pos x (show 0 < n by omega)
  unfold spymake_Below
  rw [ifn (by omega), ifp (by omega)]
  by_cases c : Int.tmod x n < 0
  · rw [ifp c]
    refine ⟨_, rfl, ?_, ?_⟩ <;> rw [wid (by omega) (by omega)] <;> omega
  · rw [ifn c]
    exact ⟨_, rfl, by omega, by omega⟩
theorem half_ex (k : Nat) (n : Int) : ∃ h, spykeep3_half k n = some h ∧ (h = 1 ∨ h = 2 ∨ h = 4) := by
  unfold spykeep3_half
  obtain ⟨v, e, v0, v1⟩ := below_ex k n 3 (by decide) (by decide)
  rw [bnd e, ifp (by omega)]
  have : v = 0 ∨ v = 1 ∨ v = 2 := by omega
  rcases this with rfl | rfl | rfl
  · exact ⟨1, by kernel_rfl, .inl rfl⟩
  · exact ⟨2, by kernel_rfl, .inr (.inl rfl)⟩
  · exact ⟨4, by kernel_rfl, .inr (.inr rfl)⟩
/-- The weight of all grid points before a point. -/
def bf (d n : Int) : Int := (optics_before 0 d n).getD 0
theorem before_eq (k : Nat) (d n : Int) : optics_before k d n = some (bf d n) := by
  unfold bf optics_before
  by_cases c1 : d ≤ w64 (0 - n)
  · rw [ifp c1]; rfl
  rw [ifn c1]
  by_cases c2 : d ≤ 0
  · rw [ifp c2]; rfl
  rw [ifn c2]
  by_cases c3 : d < n
  · rw [ifp c3]; rfl
  rw [ifn c3]; rfl
/-- The weight of the cell j of a footprint whose position has r grid points before it in its cell. -/
def wt (r h j : Int) : Int := w64 (bf (16 * j - r + 16) (w64 (16 * h)) - bf (16 * j - r) (w64 (16 * h)))
def tabL (r h : Int) : Nat → Int → List (Int × Int)
  | 0, _ => []
  | d + 1, j => if wt r h j > 0 then (j, w64 (w64 (Int.tdiv 16 (w64 (h * h))) * wt r h j)) :: tabL r h d (j + 1) else tabL r h d (j + 1)
def tab (r h : Int) : List (Int × Int) := tabL r h (2 * h.toNat + 3) (-h - 1)
def part (home : Int) (p : Int × Int) : S_Part := ⟨home + p.1, p.2⟩
theorem axis_l0 (k : Nat) (home h g r : Int) (hg : g = 16 * home + r) (hh : 1 ≤ h ∧ h ≤ 4) (r0 : 0 ≤ r) (r1 : r < 16) (H0 : -100000 ≤ home) (H1 : home ≤ 100000) : ∀ (d n : Nat) (out : List S_Part) (j : Int), j + d = h + 2 → d < n → -10 ≤ j → d ≤ 20 → out.length + d ≤ 100 →
    optics_Axis.l0 k home h g n out (home + j) = some (out ++ (tabL r h d j).map (part home)) := by
  intro d
  induction d with
  | zero =>
    intro n out j hj hn j0 hd hl
    obtain ⟨n, rfl⟩ : ∃ m, n = m + 1 := ⟨n - 1, by omega⟩
    rw [optics_Axis.l0, wid (x := home + h) (by omega) (by omega), wid (x := home + h + 1) (by omega) (by omega), ifn (by omega), tabL, List.map_nil, List.append_nil]
  | succ d ih =>
    intro n out j hj hn j0 hd hl
    obtain ⟨n, rfl⟩ : ∃ m, n = m + 1 := ⟨n - 1, by omega⟩
    rw [optics_Axis.l0, wid (x := home + h) (by omega) (by omega), wid (x := home + h + 1) (by omega) (by omega), ifp (by omega), wid (x := 16 * (home + j)) (by omega) (by omega), wid (x := 16 * (home + j) - g) (by omega) (by omega), wid (x := 16 * (home + j) - g + 16) (by omega) (by omega), bnd (before_eq k _ _), bnd (before_eq k _ _)]
    rw [show 16 * (home + j) - g = 16 * j - r by omega, tabL, wid (x := home + j + 1) (by omega) (by omega), show home + j + 1 = home + (j + 1) by omega]
    have e : w64 (bf (16 * j - r + 16) (w64 (16 * h)) - bf (16 * j - r) (w64 (16 * h))) = wt r h j := rfl
    rw [e]
    by_cases c : wt r h j > 0
    · rw [ifp c, if_pos c, ifp (by omega), ih n _ (j + 1) (by omega) (by omega) (by omega) (by omega) (by rw [List.length_append, List.length_cons, List.length_nil]; omega), List.map_cons, List.append_assoc]
      rfl
    · rw [ifn c, if_neg c, ih n _ (j + 1) (by omega) (by omega) (by omega) (by omega) (by omega)]
theorem floor16 (k : Nat) (a : Int) (h0 : -4611686018427387904 ≤ a) (h1 : a ≤ 4611686018427387904) : num_FloorDiv k a 16 = some (a / 16) := by
  have t1 := Int.mul_tdiv_add_tmod a 16
  have t2 := Int.tmod_lt_of_pos a (show (0 : Int) < 16 by decide)
  have t3 := Int.lt_tmod_of_pos a (show (0 : Int) < 16 by decide)
  unfold num_FloorDiv
  rw [ifn (by decide), ifp (by decide)]
  by_cases c : Int.tmod a 16 < 0
  · rw [ifp c, wid (x := Int.tdiv a 16) (by omega) (by omega), wid (by omega) (by omega)]
    congr 1; omega
  · rw [ifn c, wid (by omega) (by omega)]
    congr 1; omega
theorem reach_eq (k : Nat) (h : Int) (hh : h = 1 ∨ h = 2 ∨ h = 4) : optics_Reach k h = some h := by
  rcases hh with rfl | rfl | rfl <;> kernel_rfl
theorem axis_eq (k : Nat) (at_ h : Int) (a0 : -65536 ≤ at_) (a1 : at_ ≤ 65536) (hh : h = 1 ∨ h = 2 ∨ h = 4) (hk : 30 ≤ k) : optics_Axis k at_ h = some ((tab (at_ / 16 % 16) h).map (part (at_ / 16 / 16)), 0) := by
  have h2 : h * h = 1 ∨ h * h = 4 ∨ h * h = 16 := by rcases hh with rfl | rfl | rfl <;> decide
  unfold optics_Axis
  rw [ifn (by omega), ifn (by omega), bnd (reach_eq k h hh), ifn (by omega), bnd (floor16 k at_ (by omega) (by omega)), bnd (floor16 k (at_ / 16) (by omega) (by omega)), ifp (by rw [wid (by omega) (by omega)]; omega), wid (x := at_ / 16 / 16 - h) (by omega) (by omega), wid (x := at_ / 16 / 16 - h - 1) (by omega) (by omega), show at_ / 16 / 16 - h - 1 = at_ / 16 / 16 + (-h - 1) by omega]
  rw [bnd (axis_l0 k (at_ / 16 / 16) h (at_ / 16) (at_ / 16 % 16) (by omega) (by omega) (by omega) (by omega) (by omega) (by omega) (2 * h.toNat + 3) k [] (-h - 1) (by omega) (by omega) (by omega) (by omega) (by simp; omega))]
  rfl
/-- A sum over a list. -/
def sm {α : Type} (f : α → Int) : List α → Int
  | [] => 0
  | x :: xs => f x + sm f xs
theorem sm_append {α : Type} (f : α → Int) (a b : List α) : sm f (a ++ b) = sm f a + sm f b := by
  induction a with
  | nil => simp [sm]
  | cons x a ih => rw [List.cons_append, sm, sm, ih]; omega
theorem sm_map {α β : Type} (f : β → Int) (g : α → β) (l : List α) : sm f (l.map g) = sm (fun x => f (g x)) l := by
  induction l with
  | nil => rfl
  | cons x l ih => rw [List.map_cons, sm, sm, ih]
theorem sm_mul {α : Type} (f : α → Int) (c : Int) (l : List α) : sm (fun x => f x * c) l = sm f l * c := by
  induction l with
  | nil => simp [sm]
  | cons x l ih => rw [sm, sm, ih, Int.add_mul]
theorem sm_add {α : Type} (f g : α → Int) (l : List α) : sm (fun x => f x + g x) l = sm f l + sm g l := by
  induction l with
  | nil => rfl
  | cons x l ih => rw [sm, sm, sm, ih]; omega
theorem sm_congr {α : Type} {f g : α → Int} {l : List α} (h : ∀ x, x ∈ l → f x = g x) : sm f l = sm g l := by
  induction l with
  | nil => rfl
  | cons x l ih => rw [sm, sm, h x (by simp), ih (fun y hy => h y (by simp [hy]))]
theorem sm_flatMap {α β : Type} (f : β → Int) (g : α → List β) (l : List α) : sm f (l.flatMap g) = sm (fun x => sm f (g x)) l := by
  induction l with
  | nil => rfl
  | cons x l ih => rw [List.flatMap_cons, sm_append, sm, ih]
def good (r h : Int) : Bool := (tab r h).all (fun p => decide (-5 ≤ p.1 ∧ p.1 ≤ 5 ∧ 1 ≤ p.2 ∧ p.2 ≤ 4096)) && decide ((tab r h).length ≤ 11) && decide (sm (·.2) (tab r h) = 4096) && decide (sm (fun p => p.2 * (2 * p.1 + 1)) (tab r h) = 512 * r + 256)
theorem good_all : ∀ r : Fin 16, ∀ h ∈ [1, 2, 4], good (r.val : Int) h = true := by decide +kernel
theorem tab_good (r h : Int) (r0 : 0 ≤ r) (r1 : r < 16) (hh : h = 1 ∨ h = 2 ∨ h = 4) : (∀ p, p ∈ tab r h → -5 ≤ p.1 ∧ p.1 ≤ 5 ∧ 1 ≤ p.2 ∧ p.2 ≤ 4096) ∧ (tab r h).length ≤ 11 ∧ sm (·.2) (tab r h) = 4096 ∧ sm (fun p => p.2 * (2 * p.1 + 1)) (tab r h) = 512 * r + 256 := by
  have g := good_all ⟨r.toNat, by omega⟩ h (by rcases hh with rfl | rfl | rfl <;> simp)
  dsimp only at g
  rw [show ((r.toNat : Nat) : Int) = r by omega] at g
  unfold good at g
  simp only [Bool.and_eq_true, decide_eq_true_eq, List.all_eq_true] at g
  exact ⟨fun p hp => g.1.1.1 p hp, g.1.1.2, g.1.2, g.2⟩
/-- The spots of a footprint, about its home cell. -/
def foot (rx ry wide high : Int) : List S_Spot := (tab ry high).flatMap fun r => (tab rx wide).map fun c => ⟨c.1, r.1, c.2 * r.2⟩
def move (hx hy : Int) (p : S_Spot) : S_Spot := ⟨hx + p.X, hy + p.Y, p.Light⟩
theorem rd_map {α β : Type} [Inhabited α] [Inhabited β] (f : α → β) (l : List α) (i : Int) (h0 : 0 ≤ i) (h1 : i < (l.length : Int)) : rd (l.map f) i = f (rd l i) := by
  obtain ⟨h, e⟩ := rd_lt (xs := l.map f) h0 (by rw [List.length_map]; exact h1)
  obtain ⟨h', e'⟩ := rd_lt (xs := l) h0 h1
  rw [e, e', List.getElem_map]
theorem rd_drop {α : Type} [Inhabited α] (l : List α) (i : Int) (h0 : 0 ≤ i) (h1 : i < (l.length : Int)) : l.drop i.toNat = rd l i :: l.drop (i + 1).toNat := by
  obtain ⟨h, e⟩ := rd_lt (xs := l) h0 h1
  rw [e, show (i + 1).toNat = i.toNat + 1 by omega]
  exact List.drop_eq_getElem_cons h
theorem point_l1 (k : Nat) (hx hy : Int) (X : List (Int × Int)) (Y : List S_Part) (y : Int) (r : Int × Int) (hr : rd Y y = part hy r) (hr2 : 0 ≤ r.2 ∧ r.2 ≤ 4096) (hX : ∀ p, p ∈ X → 0 ≤ p.2 ∧ p.2 ≤ 4096) (hXl : X.length ≤ 100) : ∀ (d n : Nat) (out : List S_Spot) (i : Int), i + d = X.length → 0 ≤ i → d < n → out.length + d ≤ 100000 →
    optics_Point.l1 k (X.map (part hx)) Y y n out i = some (out ++ ((X.drop i.toNat).map fun c => move hx hy ⟨c.1, r.1, c.2 * r.2⟩)) := by
  intro d
  induction d with
  | zero =>
    intro n out i hi i0 hn hl
    obtain ⟨n, rfl⟩ : ∃ m, n = m + 1 := ⟨n - 1, by omega⟩
    rw [optics_Point.l1, ifn (by rw [List.length_map]; omega), List.drop_of_length_le (by omega), List.map_nil, List.append_nil]
  | succ d ih =>
    intro n out i hi i0 hn hl
    obtain ⟨n, rfl⟩ : ∃ m, n = m + 1 := ⟨n - 1, by omega⟩
    have hp := hX _ (rd_mem i0 (show i < (X.length : Int) by omega))
    have hm := mul_le hp.1 hp.2 hr2.1 hr2.2
    rw [optics_Point.l1, ifp (by rw [List.length_map]; omega), ifp i0, ifp (by omega), wid (x := i + 1) (by omega) (by omega), rd_map (part hx) X i i0 (by omega), hr]
    unfold part
    dsimp only
    rw [wid (x := (rd X i).2 * r.2) (by omega) (by omega), ← show part hx = fun p => (⟨hx + p.1, p.2⟩ : S_Part) from rfl]
    rw [ih n _ (i + 1) (by omega) (by omega) (by omega) (by rw [List.length_append, List.length_cons, List.length_nil]; omega), rd_drop X i i0 (by omega), List.map_cons, List.append_assoc]
    rfl
theorem point_l0 (k : Nat) (hx hy : Int) (X Y : List (Int × Int)) (hX : ∀ p, p ∈ X → 0 ≤ p.2 ∧ p.2 ≤ 4096) (hY : ∀ p, p ∈ Y → 0 ≤ p.2 ∧ p.2 ≤ 4096) (hXl : X.length ≤ 11) (hYl : Y.length ≤ 11) (hk : 30 ≤ k) : ∀ (d n : Nat) (out : List S_Spot) (i : Int), i + d = Y.length → 0 ≤ i → d < n → out.length + 11 * d ≤ 1000 →
    optics_Point.l0 k (Y.map (part hy)) (X.map (part hx)) n out i = some (out ++ (((Y.drop i.toNat).flatMap fun r => X.map fun c => (⟨c.1, r.1, c.2 * r.2⟩ : S_Spot)).map (move hx hy))) := by
  intro d
  induction d with
  | zero =>
    intro n out i hi i0 hn hl
    obtain ⟨n, rfl⟩ : ∃ m, n = m + 1 := ⟨n - 1, by omega⟩
    rw [optics_Point.l0, ifn (by rw [List.length_map]; omega), List.drop_of_length_le (by omega), List.flatMap_nil, List.map_nil, List.append_nil]
  | succ d ih =>
    intro n out i hi i0 hn hl
    obtain ⟨n, rfl⟩ : ∃ m, n = m + 1 := ⟨n - 1, by omega⟩
    have hp := hY _ (rd_mem i0 (show i < (Y.length : Int) by omega))
    rw [optics_Point.l0, ifp (by rw [List.length_map]; omega), ifp i0, bnd (point_l1 k hx hy X _ i (rd Y i) (rd_map (part hy) Y i i0 (by omega)) hp hX (by omega) X.length k out 0 (by simp) (by decide) (by omega) (by omega)), wid (x := i + 1) (by omega) (by omega)]
    rw [ih n _ (i + 1) (by omega) (by omega) (by omega) (by rw [List.length_append, List.length_map, List.length_drop]; omega), rd_drop Y i i0 (by omega), List.flatMap_cons, List.map_append, List.append_assoc, List.map_map]
    rfl
theorem or00 (k : Nat) (hk : 10 ≤ k) : cmp_Or_Errno k [0, 0] = some 0 := by
  obtain ⟨k, rfl⟩ : ∃ j, k = j + 10 := ⟨k - 10, by omega⟩
  kernel_rfl
theorem point_eq (k : Nat) (px py wide high : Int) (x0 : -65536 ≤ px) (x1 : px ≤ 65536) (y0 : -65536 ≤ py) (y1 : py ≤ 65536) (hw : wide = 1 ∨ wide = 2 ∨ wide = 4) (hh : high = 1 ∨ high = 2 ∨ high = 4) (hk : 30 ≤ k) :
    optics_Point k ⟨px, py⟩ wide high = some ((foot (px / 16 % 16) (py / 16 % 16) wide high).map (move (px / 16 / 16) (py / 16 / 16)), 0) := by
  obtain ⟨a1, a2, _⟩ := tab_good (px / 16 % 16) wide (by omega) (by omega) hw
  obtain ⟨b1, b2, _⟩ := tab_good (py / 16 % 16) high (by omega) (by omega) hh
  unfold optics_Point
  dsimp only
  rw [bnd (axis_eq k px wide x0 x1 hw hk)]
  dsimp only
  rw [bnd (axis_eq k py high y0 y1 hh hk)]
  dsimp only
  rw [bnd (or00 k (by omega)), ifn (by decide)]
  rw [bnd (point_l0 k _ _ _ _ (fun p hp => by have := a1 p hp; omega) (fun p hp => by have := b1 p hp; omega) a2 b2 hk _ k [] 0 (by rw [Int.zero_add]) (by decide) (by omega) (by simp; omega))]
  rfl
/-- What is known of a footprint. -/
theorem foot_good (rx ry wide high : Int) (x0 : 0 ≤ rx) (x1 : rx < 16) (y0 : 0 ≤ ry) (y1 : ry < 16) (hw : wide = 1 ∨ wide = 2 ∨ wide = 4) (hh : high = 1 ∨ high = 2 ∨ high = 4) :
    (∀ p, p ∈ foot rx ry wide high → -5 ≤ p.X ∧ p.X ≤ 5 ∧ -5 ≤ p.Y ∧ p.Y ≤ 5 ∧ 0 ≤ p.Light ∧ p.Light ≤ 16777216) ∧ (foot rx ry wide high).length ≤ 121 ∧ sm (·.Light) (foot rx ry wide high) = 16777216 ∧
    sm (fun p => p.Light * (2 * p.X + 1)) (foot rx ry wide high) = 1048576 * (2 * rx + 1) ∧ sm (fun p => p.Light * (2 * p.Y + 1)) (foot rx ry wide high) = 1048576 * (2 * ry + 1) := by
  obtain ⟨a1, a2, a3, a4⟩ := tab_good rx wide x0 x1 hw
  obtain ⟨b1, b2, b3, b4⟩ := tab_good ry high y0 y1 hh
  unfold foot
  refine ⟨?_, ?_, ?_, ?_, ?_⟩
  · intro p hp
    obtain ⟨r, hr, hp⟩ := List.mem_flatMap.mp hp
    obtain ⟨c, hc, rfl⟩ := List.mem_map.mp hp
    have h1 := a1 c hc
    have h2 := b1 r hr
    have := mul_le (a := c.2) (b := r.2) (A := 4096) (B := 4096) (by omega) (by omega) (by omega) (by omega)
    dsimp only
    omega
  · have : ∀ (Y X : List (Int × Int)), (Y.flatMap fun r => X.map fun c => (⟨c.1, r.1, c.2 * r.2⟩ : S_Spot)).length = Y.length * X.length := by
      intro Y X
      induction Y with
      | nil => simp
      | cons y Y ih => rw [List.flatMap_cons, List.length_append, ih, List.length_map, List.length_cons, Nat.add_mul]; omega
    rw [this]
    exact Nat.mul_le_mul b2 a2
  · rw [sm_flatMap]
    have : sm (fun r : Int × Int => sm (·.Light) ((tab rx wide).map fun c => (⟨c.1, r.1, c.2 * r.2⟩ : S_Spot))) (tab ry high) = sm (fun r => r.2 * 4096) (tab ry high) := by
      refine sm_congr fun r _ => ?_
      rw [sm_map, sm_mul (fun c : Int × Int => c.2), a3, Int.mul_comm]
    rw [this, sm_mul (fun r : Int × Int => r.2), b3]; rfl
  · rw [sm_flatMap]
    have : sm (fun r : Int × Int => sm (fun p : S_Spot => p.Light * (2 * p.X + 1)) ((tab rx wide).map fun c => (⟨c.1, r.1, c.2 * r.2⟩ : S_Spot))) (tab ry high) = sm (fun r => r.2 * (512 * rx + 256)) (tab ry high) := by
      refine sm_congr fun r _ => ?_
      rw [sm_map]
      dsimp only
      rw [sm_congr (g := fun c : Int × Int => c.2 * (2 * c.1 + 1) * r.2) (fun c _ => by rw [Int.mul_right_comm]), sm_mul (fun c : Int × Int => c.2 * (2 * c.1 + 1)), a4, Int.mul_comm]
    rw [this, sm_mul (fun r : Int × Int => r.2), b3]; omega
  · rw [sm_flatMap]
    have : sm (fun r : Int × Int => sm (fun p : S_Spot => p.Light * (2 * p.Y + 1)) ((tab rx wide).map fun c => (⟨c.1, r.1, c.2 * r.2⟩ : S_Spot))) (tab ry high) = sm (fun r => r.2 * (2 * r.1 + 1) * 4096) (tab ry high) := by
      refine sm_congr fun r _ => ?_
      rw [sm_map]
      dsimp only
      rw [sm_congr (g := fun c : Int × Int => c.2 * (r.2 * (2 * r.1 + 1))) (fun c _ => by rw [Int.mul_assoc]), sm_mul (fun c : Int × Int => c.2), a3, Int.mul_comm]
    rw [this, sm_mul (fun r : Int × Int => r.2 * (2 * r.1 + 1)), b4]; omega
theorem spreads_eq (k : Nat) (h : 60 ≤ k) : spykeep3_spreads k = some true := by
  obtain ⟨k, rfl⟩ : ∃ j, k = j + 60 := ⟨k - 60, by omega⟩
  kernel_rfl
theorem next_ex (k : Nat) (L : List Int) (a n : Int) (h1 : 1 ≤ n) (h2 : n ≤ 4611686018427387904) (a0 : 0 ≤ a) (a1 : a ≤ 4611686018427387904) :
    ∃ v, spymake_Stream_Next k ⟨L, a⟩ n = some (v, a + 1) ∧ 0 ≤ v ∧ v < n := by
  unfold spymake_Stream_Next
  dsimp only
  rw [wid (x := a + 1) (by omega) (by omega)]
  by_cases c : (L.length : Int) = 0
  · rw [ifp c]
    obtain ⟨v, hv, v0, v1⟩ := below_ex k (w64 ((a + 1) * 7919)) n h1 h2
    rw [bnd hv]
    exact ⟨v, rfl, v0, v1⟩
  · rw [ifn c, ifp c, show a + 1 - 1 = a by omega, wid (x := a) (by omega) (by omega)]
    have e1 := Int.tmod_lt_of_pos a (show 0 < (L.length : Int) by omega)
    have e2 : 0 ≤ Int.tmod a (L.length : Int) := Int.tmod_nonneg _ a0
    rw [ifp e2, ifp e1]
    obtain ⟨u, hu, _⟩ := below_ex k (rd L (Int.tmod a (L.length : Int))) 1073741824 (by decide) (by decide)
    rw [bnd hu]
    obtain ⟨v, hv, v0, v1⟩ := below_ex k (w64 (u + (w64 ((w64 (Int.tdiv a (L.length : Int))) * (w64 (7919 + (Int.tmod a (L.length : Int)))))))) n h1 h2
    rw [bnd hv]
    exact ⟨v, rfl, v0, v1⟩
theorem rd_at {α : Type} [Inhabited α] {l pre post : List α} {x : α} {i : Int} (hl : l = pre ++ x :: post) (hi : i = (pre.length : Int)) : rd l i = x := by
  subst hl hi
  obtain ⟨h, e⟩ := rd_lt (xs := pre ++ x :: post) (i := (pre.length : Int)) (by omega) (by simp; omega)
  rw [e]
  simp
/-! Sums over spots and over maps of light. -/
def sg (g : Int → Int → Int) (l : List S_Spot) : Int := sm (fun s => s.Light * g s.X s.Y) l
def sgm (g : Int → Int → Int) (m : List ((Int × Int) × Int)) : Int := sm (fun p => p.2 * g p.1.2 p.1.1) m
def one (_ _ : Int) : Int := 1
theorem sg_append (g : Int → Int → Int) (a b : List S_Spot) : sg g (a ++ b) = sg g a + sg g b := sm_append _ a b
theorem sg_cons (g : Int → Int → Int) (s : S_Spot) (l : List S_Spot) : sg g (s :: l) = s.Light * g s.X s.Y + sg g l := rfl
theorem agetP {p : (Int × Int) × Int} {m : List ((Int × Int) × Int)} {k : Int × Int} (h : p.1 = k) : aget 0 (p :: m) k = p.2 := by simp [aget, afind, h]
theorem agetN {p : (Int × Int) × Int} {m : List ((Int × Int) × Int)} {k : Int × Int} (h : ¬ p.1 = k) : aget 0 (p :: m) k = aget 0 m k := by simp [aget, afind, h]
theorem sgm_put (g : Int → Int → Int) (v : Int) (k : Int × Int) : ∀ m : List ((Int × Int) × Int), sgm g (aput m k (aget 0 m k + v)) = sgm g m + v * g k.2 k.1
  | [] => by
    show ((0 : Int) + v) * g k.2 k.1 + 0 = 0 + v * g k.2 k.1
    rw [Int.zero_add, Int.add_zero, Int.zero_add]
  | p :: m => by
    by_cases c : p.1 = k
    · rw [agetP c, aput, if_pos c]
      show (p.2 + v) * g k.2 k.1 + sgm g m = p.2 * g p.1.2 p.1.1 + sgm g m + v * g k.2 k.1
      rw [c, Int.add_mul]; omega
    · rw [agetN c, aput, if_neg c]
      have ih := sgm_put g v k m
      show p.2 * g p.1.2 p.1.1 + sgm g (aput m k (aget 0 m k + v)) = p.2 * g p.1.2 p.1.1 + sgm g m + v * g k.2 k.1
      rw [ih]; omega
theorem aput_keys (k : Int × Int) (v : Int) : ∀ m : List ((Int × Int) × Int), ((aput m k v).map (·.1) = m.map (·.1) ∧ k ∈ m.map (·.1)) ∨ ((aput m k v).map (·.1) = m.map (·.1) ++ [k] ∧ k ∉ m.map (·.1))
  | [] => .inr ⟨rfl, by simp⟩
  | p :: m => by
    by_cases c : p.1 = k
    · refine .inl ⟨?_, ?_⟩
      · rw [aput, if_pos c, List.map_cons, List.map_cons, c]
      · rw [List.map_cons, c]; exact List.mem_cons_self ..
    · rw [aput, if_neg c]
      rcases aput_keys k v m with ⟨h1, h2⟩ | ⟨h1, h2⟩
      · exact .inl ⟨by rw [List.map_cons, List.map_cons, h1], by rw [List.map_cons]; exact List.mem_cons_of_mem _ h2⟩
      · refine .inr ⟨by rw [List.map_cons, List.map_cons, h1]; rfl, ?_⟩
        rw [List.map_cons, List.mem_cons]
        rintro (h | h)
        · exact c h.symm
        · exact h2 h
theorem aput_mem {k : Int × Int} {v : Int} : ∀ {m : List ((Int × Int) × Int)} {p : (Int × Int) × Int}, p ∈ aput m k v → p = (k, v) ∨ p ∈ m
  | [], p, h => by rw [aput] at h; exact .inl (List.mem_singleton.mp h)
  | q :: m, p, h => by
    rw [aput] at h
    by_cases c : q.1 = k
    · rw [if_pos c] at h
      rcases List.mem_cons.mp h with h | h
      · exact .inl h
      · exact .inr (List.mem_cons_of_mem _ h)
    · rw [if_neg c] at h
      rcases List.mem_cons.mp h with h | h
      · exact .inr (by rw [h]; exact List.mem_cons_self ..)
      · rcases aput_mem h with h | h
        · exact .inl h
        · exact .inr (List.mem_cons_of_mem _ h)
/-- A map of light: no key twice, keys that are cells, nothing below 0. -/
structure MG (m : List ((Int × Int) × Int)) : Prop where
  nd : (m.map (·.1)).Nodup
  nn : ∀ p ∈ m, 0 ≤ p.2
  kb : ∀ p ∈ m, -300 ≤ p.1.1 ∧ p.1.1 ≤ 300 ∧ -300 ≤ p.1.2 ∧ p.1.2 ≤ 300
theorem sgm_one_nn {m : List ((Int × Int) × Int)} (h : ∀ p ∈ m, 0 ≤ p.2) : 0 ≤ sgm one m := by
  induction m with
  | nil => exact Int.le_refl 0
  | cons p m ih =>
    have h1 := h p (List.mem_cons_self ..)
    have h2 := ih (fun q hq => h q (List.mem_cons_of_mem _ hq))
    show 0 ≤ p.2 * 1 + sgm one m
    omega
theorem aget_in {m : List ((Int × Int) × Int)} (h : ∀ p ∈ m, 0 ≤ p.2) (k : Int × Int) : 0 ≤ aget 0 m k ∧ aget 0 m k ≤ sgm one m := by
  induction m with
  | nil => exact ⟨Int.le_refl 0, Int.le_refl 0⟩
  | cons p m ih =>
    have h1 := h p (List.mem_cons_self ..)
    have h3 := fun q hq => h q (List.mem_cons_of_mem p hq)
    have h2 := ih h3
    have h4 := sgm_one_nn h3
    have e : sgm one (p :: m) = p.2 * 1 + sgm one m := rfl
    by_cases c : p.1 = k
    · rw [agetP c, e]; omega
    · rw [agetN c, e]; omega
theorem MG.put {m : List ((Int × Int) × Int)} (h : MG m) {k : Int × Int} {v : Int} (hv : 0 ≤ v) (hk : -300 ≤ k.1 ∧ k.1 ≤ 300 ∧ -300 ≤ k.2 ∧ k.2 ≤ 300) : MG (aput m k v) where
  nd := by
    rcases aput_keys k v m with ⟨h1, _⟩ | ⟨h1, h2⟩
    · rw [h1]; exact h.nd
    · rw [h1]; exact List.nodup_append.mpr ⟨h.nd, by simp, fun a ha b hb e => by simp at hb; subst hb; subst e; exact h2 ha⟩
  nn := fun p hp => by
    rcases aput_mem hp with rfl | hp
    · exact hv
    · exact h.nn p hp
  kb := fun p hp => by
    rcases aput_mem hp with rfl | hp
    · exact hk
    · exact h.kb p hp
theorem aput_l (k : Int × Int) (v : Int) (m : List ((Int × Int) × Int)) : (aput m k v).length ≤ m.length + 1 := aput_len m k v
/-- Spots with light in cells that are near. -/
structure SG (l : List S_Spot) (N : Nat) (T : Int) : Prop where
  s : ∀ s ∈ l, 0 ≤ s.Light ∧ -300 ≤ s.X ∧ s.X ≤ 300 ∧ -300 ≤ s.Y ∧ s.Y ≤ 300
  n : l.length ≤ N
  t : sg one l ≤ T
theorem sg_one_nn {l : List S_Spot} (h : ∀ s ∈ l, 0 ≤ s.Light) : 0 ≤ sg one l := by
  induction l with
  | nil => exact Int.le_refl 0
  | cons s l ih =>
    have h1 := h s (List.mem_cons_self ..)
    have h2 := ih (fun q hq => h q (List.mem_cons_of_mem _ hq))
    show 0 ≤ s.Light * 1 + sg one l
    omega
theorem add_l1 (k : Nat) (a b : List S_Spot) (x : Int) (L : List S_Spot) (hx : rd ([a, b] : List (List S_Spot)) x = L) (hs : ∀ s ∈ L, 0 ≤ s.Light ∧ -300 ≤ s.X ∧ s.X ≤ 300 ∧ -300 ≤ s.Y ∧ s.Y ≤ 300) (hl : L.length ≤ 1000000) : ∀ (d n : Nat) (i : Int) (m : List ((Int × Int) × Int)), i + d = (L.length : Int) → 0 ≤ i → d < n → MG m →
    sgm one m + sg one (L.drop i.toNat) ≤ 4611686018427387904 → ∃ m', optics_add.l1 k a b x n i m = some m' ∧ MG m' ∧ (∀ g, sgm g m' = sgm g m + sg g (L.drop i.toNat)) ∧ m'.length ≤ m.length + d := by
  intro d
  induction d with
  | zero =>
    intro n i m hi i0 hn hm ht
    obtain ⟨n, rfl⟩ : ∃ q, n = q + 1 := ⟨n - 1, by omega⟩
    refine ⟨m, ?_, hm, fun g => ?_, by omega⟩
    · rw [optics_add.l1, hx, ifn (by omega)]
    · rw [List.drop_of_length_le (by omega)]; exact (Int.add_zero _).symm
  | succ d ih =>
    intro n i m hi i0 hn hm ht
    obtain ⟨n, rfl⟩ : ∃ q, n = q + 1 := ⟨n - 1, by omega⟩
    have hd := rd_drop L i i0 (by omega)
    obtain ⟨s1, s2, s3, s4, s5⟩ := hs _ (rd_mem i0 (show i < (L.length : Int) by omega))
    have hds : ∀ s ∈ L.drop (i + 1).toNat, 0 ≤ s.Light := fun s h => (hs s (List.mem_of_mem_drop h)).1
    have h5 := sg_one_nn hds
    rw [hd, sg_cons, show one (rd L i).X (rd L i).Y = 1 from rfl, Int.mul_one] at ht
    obtain ⟨a1, a2⟩ := aget_in hm.nn ((rd L i).Y, (rd L i).X)
    have h6 := sgm_put one (rd L i).Light ((rd L i).Y, (rd L i).X) m
    rw [show one ((rd L i).Y, (rd L i).X).2 ((rd L i).Y, (rd L i).X).1 = 1 from rfl, Int.mul_one] at h6
    obtain ⟨m', e1, e2, e3, e4⟩ := ih n (i + 1) (aput m ((rd L i).Y, (rd L i).X) (aget 0 m ((rd L i).Y, (rd L i).X) + (rd L i).Light)) (by omega) (by omega) (by omega) (hm.put (by omega) ⟨s4, s5, s2, s3⟩) (by rw [h6]; omega)
    refine ⟨m', ?_, e2, fun g => ?_, ?_⟩
    · rw [optics_add.l1, hx, ifp (by omega), ifp i0, wid (x := aget 0 m ((rd L i).Y, (rd L i).X) + (rd L i).Light) (by omega) (by omega), wid (x := i + 1) (by omega) (by omega)]
      exact e1
    · rw [e3 g, sgm_put, hd, sg_cons]; dsimp only; omega
    · have := aput_l ((rd L i).Y, (rd L i).X) (aget 0 m ((rd L i).Y, (rd L i).X) + (rd L i).Light) m
      omega
theorem sm_perm {α : Type} (f : α → Int) {l l' : List α} (h : l.Perm l') : sm f l = sm f l' := by
  induction h with
  | nil => rfl
  | cons x _ ih => show f x + sm f _ = f x + sm f _; rw [ih]
  | swap x y l => show f y + (f x + sm f l) = f x + (f y + sm f l); omega
  | trans _ _ h1 h2 => exact h1.trans h2
theorem sm_keys (g : Int → Int → Int) : ∀ (m : List ((Int × Int) × Int)), (m.map (·.1)).Nodup → sm (fun k : Int × Int => aget 0 m k * g k.2 k.1) (m.map (·.1)) = sgm g m
  | [], _ => rfl
  | p :: m, h => by
    rw [List.map_cons, List.nodup_cons] at h
    have ih := sm_keys g m h.2
    show aget 0 (p :: m) p.1 * g p.1.2 p.1.1 + sm (fun k : Int × Int => aget 0 (p :: m) k * g k.2 k.1) (m.map (·.1)) = p.2 * g p.1.2 p.1.1 + sgm g m
    rw [agetP rfl, ← ih]
    congr 1
    refine sm_congr fun k hk => ?_
    rw [agetN (fun e => h.1 (e ▸ hk))]
theorem wf64 {x : Int} (h0 : -300 ≤ x) (h1 : x ≤ 300) : (Lit.int .i64 x).wf = true := by
  simp [Lit.wf, IntKind.min, IntKind.max, IntKind.bits, IntKind.signed]
  omega
theorem add_l2 (k : Nat) (m : List ((Int × Int) × Int)) (hm : MG m) (ks : List (Int × Int)) (hk : ∀ q ∈ ks, -300 ≤ q.1 ∧ q.1 ≤ 300 ∧ -300 ≤ q.2 ∧ q.2 ≤ 300) (hl : ks.length ≤ 1000000) : ∀ (d n : Nat) (i : Int) (out : List S_Spot), i + d = (ks.length : Int) → 0 ≤ i → d < n → out.length + d ≤ 1000000 →
    (∀ s ∈ out, 0 ≤ s.Light ∧ -300 ≤ s.X ∧ s.X ≤ 300 ∧ -300 ≤ s.Y ∧ s.Y ≤ 300) → ∃ out', optics_add.l2 k (ks.map fun x => [x.1, x.2]) m n out i = some out' ∧ (∀ s ∈ out', 0 ≤ s.Light ∧ -300 ≤ s.X ∧ s.X ≤ 300 ∧ -300 ≤ s.Y ∧ s.Y ≤ 300) ∧
      (∀ g, sg g out' = sg g out + sm (fun q : Int × Int => aget 0 m q * g q.2 q.1) (ks.drop i.toNat)) ∧ out'.length ≤ out.length + d := by
  intro d
  induction d with
  | zero =>
    intro n i out hi i0 hn ho hs
    obtain ⟨n, rfl⟩ : ∃ q, n = q + 1 := ⟨n - 1, by omega⟩
    refine ⟨out, ?_, hs, fun g => ?_, by omega⟩
    · rw [optics_add.l2, ifn (by rw [List.length_map]; omega)]
    · rw [List.drop_of_length_le (by omega)]; exact (Int.add_zero _).symm
  | succ d ih =>
    intro n i out hi i0 hn ho hs
    obtain ⟨n, rfl⟩ : ∃ q, n = q + 1 := ⟨n - 1, by omega⟩
    have hd := rd_drop ks i i0 (by omega)
    have hq := hk _ (rd_mem i0 (show i < (ks.length : Int) by omega))
    have hr : rd (ks.map fun x => [x.1, x.2]) i = [(rd ks i).1, (rd ks i).2] := rd_map _ ks i i0 (by omega)
    have g0 : ([(rd ks i).1, (rd ks i).2] : List Int).getD 0 default = (rd ks i).1 := rfl
    have g1 : ([(rd ks i).1, (rd ks i).2] : List Int).getD 1 default = (rd ks i).2 := rfl
    have ga := aget_in hm.nn (rd ks i)
    by_cases c : aget 0 m (rd ks i) = 0
    · obtain ⟨out', e1, e2, e3, e4⟩ := ih n (i + 1) out (by omega) (by omega) (by omega) (by omega) hs
      refine ⟨out', ?_, e2, fun g => ?_, by omega⟩
      · rw [optics_add.l2, ifp (by rw [List.length_map]; omega), ifp i0, hr, g0, g1, ifn (by rw [show ((rd ks i).1, (rd ks i).2) = rd ks i from rfl]; omega), wid (x := i + 1) (by omega) (by omega)]
        exact e1
      · rw [e3 g, hd]
        show _ = sg g out + (aget 0 m (rd ks i) * g (rd ks i).2 (rd ks i).1 + _)
        rw [c, Int.zero_mul, Int.zero_add]
    · obtain ⟨out', e1, e2, e3, e4⟩ := ih n (i + 1) (out ++ [⟨(rd ks i).2, (rd ks i).1, aget 0 m (rd ks i)⟩]) (by omega) (by omega) (by omega) (by rw [List.length_append, List.length_singleton]; omega) (fun s h => by
        rcases List.mem_append.mp h with h | h
        · exact hs s h
        · rw [List.mem_singleton] at h; subst h; exact ⟨ga.1, hq.2.2.1, hq.2.2.2, hq.1, hq.2.1⟩)
      refine ⟨out', ?_, e2, fun g => ?_, by rw [List.length_append, List.length_singleton] at e4; omega⟩
      · rw [optics_add.l2, ifp (by rw [List.length_map]; omega), ifp i0, hr, g0, g1, ifp (by rw [show ((rd ks i).1, (rd ks i).2) = rd ks i from rfl]; omega), ifp (by omega), wid (x := i + 1) (by omega) (by omega)]
        exact e1
      · rw [e3 g, sg_append, hd, Int.add_assoc]
        congr 1
        show aget 0 m (rd ks i) * g (rd ks i).2 (rd ks i).1 + 0 + _ = aget 0 m (rd ks i) * g (rd ks i).2 (rd ks i).1 + _
        rw [Int.add_zero]
theorem add_ex (k : Nat) (a b : List S_Spot) (N M : Nat) (T U : Int) (ha : SG a N T) (hb : SG b M U) (hN : N ≤ 100000) (hM : M ≤ 100000) (hT : T + U ≤ 4611686018427387904) (hk : N + M + 10 < k) : ∃ c, optics_add k a b = some c ∧ (∀ g, sg g c = sg g a + sg g b) ∧ SG c (N + M) (T + U) := by
  have na := ha.n
  have nb := hb.n
  have ta := ha.t
  have tb := hb.t
  obtain ⟨m1, e1, h1, s1, l1⟩ := add_l1 k a b 0 a rfl ha.s (by omega) a.length k 0 [] (by omega) (by decide) (by omega) ⟨List.nodup_nil, by simp, by simp⟩ (by rw [show (0 : Int).toNat = 0 from rfl, List.drop_zero]; have e : sgm one [] = 0 := rfl; rw [e]; have := sg_one_nn (fun s h => (hb.s s h).1); omega)
  rw [show (0 : Int).toNat = 0 from rfl, List.drop_zero] at s1
  have s1' := s1 one
  have e0 : sgm one [] = 0 := rfl
  rw [e0, Int.zero_add] at s1'
  obtain ⟨m2, e2, h2, s2, l2⟩ := add_l1 k a b 1 b rfl hb.s (by omega) b.length k 0 m1 (by omega) (by decide) (by omega) h1 (by rw [show (0 : Int).toNat = 0 from rfl, List.drop_zero]; omega)
  rw [show (0 : Int).toNat = 0 from rfl, List.drop_zero] at s2
  have el : optics_add.l0 k a b k 0 [] = some m2 := by
    obtain ⟨j, hj⟩ : ∃ j, k = j + 1 + 1 + 1 := ⟨k - 3, by omega⟩
    have : ∀ q, q = j + 1 + 1 + 1 → optics_add.l0 k a b q 0 [] = some m2 := by
      rintro q rfl
      rw [optics_add.l0, ifp (by decide), ifp (by decide), bnd e1, wid (x := (0 : Int) + 1) (by decide) (by decide), Int.zero_add, optics_add.l0, ifp (by decide), ifp (by decide), bnd e2, wid (x := (1 : Int) + 1) (by decide) (by decide), show (1 : Int) + 1 = 2 from rfl, optics_add.l0, ifn (by decide)]
    exact this k hj
  rw [List.length_nil] at l1
  have hp := List.mergeSort_perm (m2.map (·.1)) leA
  have hks : ∀ q ∈ (m2.map (·.1)).mergeSort leA, -300 ≤ q.1 ∧ q.1 ≤ 300 ∧ -300 ≤ q.2 ∧ q.2 ≤ 300 := fun q hq => by
    obtain ⟨p, hp', rfl⟩ := List.mem_map.mp (hp.mem_iff.mp hq)
    exact h2.kb p hp'
  have hlen : ((m2.map (·.1)).mergeSort leA).length = m2.length := by rw [List.length_mergeSort, List.length_map]
  have hsk : sortedKeysA m2 = some (((m2.map (·.1)).mergeSort leA).map fun x => [x.1, x.2]) := by
    unfold sortedKeysA
    rw [ifp (List.all_eq_true.mpr fun p hp' => by
      obtain ⟨k1, k2, k3, k4⟩ := h2.kb p hp'
      rw [wf64 k1 k2, wf64 k3 k4]; rfl), ifp h2.nd, ifp (by omega)]
  obtain ⟨c, e3, h3, s3, l3⟩ := add_l2 k m2 h2 _ hks (by omega) m2.length k 0 [] (by omega) (by decide) (by omega) (by rw [List.length_nil]; omega) (by simp)
  have hs : ∀ g, sg g c = sg g a + sg g b := fun g => by
    rw [s3 g, show (0 : Int).toNat = 0 from rfl, List.drop_zero, sm_perm _ hp, sm_keys g m2 h2.nd, s2 g, s1 g, show sgm g [] = 0 from rfl, show sg g [] = 0 from rfl]; omega
  refine ⟨c, ?_, hs, ⟨h3, by rw [List.length_nil] at l3; omega, ?_⟩⟩
  · unfold optics_add
    rw [bnd el, bnd hsk, bnd e3]
  · rw [hs one]; omega
def sc (q : Int) (s : S_Spot) : S_Spot := ⟨s.X, s.Y, s.Light * q⟩
theorem sg_sc (g : Int → Int → Int) (q : Int) (l : List S_Spot) : sg g (l.map (sc q)) = sg g l * q := by
  unfold sg
  rw [sm_map, ← sm_mul]
  refine sm_congr fun s _ => ?_
  show s.Light * q * g s.X s.Y = s.Light * g s.X s.Y * q
  rw [Int.mul_right_comm]
theorem scale_l1 (k : Nat) (P : List S_Spot) (rates : List Int) (x q : Int) (hq : rd rates x = q) (q0 : 0 ≤ q) (q1 : q ≤ 1048576) (hP : ∀ s ∈ P, 0 ≤ s.Light ∧ s.Light ≤ 16777216) (hl : P.length ≤ 1000) : ∀ (d n : Nat) (i : Int) (l : List S_Spot), i + d = (P.length : Int) → 0 ≤ i → d < n → l = (P.map (sc q)).take i.toNat ++ P.drop i.toNat →
    optics_Trail.l1 k P rates x n l i = some (P.map (sc q)) := by
  intro d
  induction d with
  | zero =>
    intro n i l hi i0 hn e
    obtain ⟨n, rfl⟩ : ∃ z, n = z + 1 := ⟨n - 1, by omega⟩
    rw [List.drop_of_length_le (by omega), List.append_nil, List.take_of_length_le (by rw [List.length_map]; omega)] at e
    rw [optics_Trail.l1, ifn (by omega), e]
  | succ d ih =>
    intro n i l hi i0 hn e
    obtain ⟨n, rfl⟩ : ∃ z, n = z + 1 := ⟨n - 1, by omega⟩
    have hd := rd_drop P i i0 (by omega)
    rw [hd] at e
    have hA : ((P.map (sc q)).take i.toNat).length = i.toNat := by rw [List.length_take, List.length_map]; omega
    have hr : rd l i = rd P i := rd_at e (by rw [hA]; omega)
    obtain ⟨s0, s1⟩ := hP _ (rd_mem i0 (show i < (P.length : Int) by omega))
    have m0 : 0 ≤ (rd P i).Light * q := Int.mul_nonneg s0 q0
    have m1 : (rd P i).Light * q ≤ 16777216 * 1048576 := Int.mul_le_mul s1 q1 q0 (by decide)
    have hll : l.length = P.length := by rw [e, List.length_append, hA, List.length_cons, List.length_drop]; omega
    have hset : l.set i.toNat (sc q (rd P i)) = (P.map (sc q)).take (i + 1).toNat ++ P.drop (i + 1).toNat := by
      rw [e, List.set_append_right _ _ (by omega), hA, Nat.sub_self, List.set_cons_zero]
      have e2 : (P.map (sc q)).take (i + 1).toNat = (P.map (sc q)).take i.toNat ++ [sc q (rd P i)] := by
        rw [show (i + 1).toNat = i.toNat + 1 by omega, List.take_add_one]
        congr 1
        have hlt : i.toNat < P.length := by omega
        rw [List.getElem?_map, List.getElem?_eq_getElem hlt, (rd_lt i0 (by omega)).2]
        rfl
      rw [e2, List.append_assoc]; rfl
    rw [optics_Trail.l1, ifp (by omega), ifp i0, ifp (by omega), hr, hq, wid (x := (rd P i).Light * q) (by omega) (by omega), wid (x := i + 1) (by omega) (by omega)]
    exact ih n (i + 1) _ (by omega) (by omega) (by omega) hset
theorem nocont (k : Nat) (s : List Int) (hs : AllIn s 0 1048576) (hl : s.length ≤ 100000) (hk : s.length < k) : slices_ContainsFunc_Quanta__optics_Trail_1 k s = some false := by
  have h : ∀ (d n : Nat) (i : Int), i + d = (s.length : Int) → 0 ≤ i → d < n → slices_IndexFunc_Quanta__optics_Trail_1.l0 k s n i = some (Sum.inr ()) := by
    intro d
    induction d with
    | zero =>
      intro n i hi i0 hn
      obtain ⟨n, rfl⟩ : ∃ z, n = z + 1 := ⟨n - 1, by omega⟩
      rw [slices_IndexFunc_Quanta__optics_Trail_1.l0, ifn (by omega)]
    | succ d ih =>
      intro n i hi i0 hn
      obtain ⟨n, rfl⟩ : ∃ z, n = z + 1 := ⟨n - 1, by omega⟩
      have hr := hs.rd i0 (show i < (s.length : Int) by omega)
      have h1 : optics_Trail_1 k (rd s i) = some false := by
        unfold optics_Trail_1
        rw [ifn (by omega), decide_eq_false (by omega)]
      rw [slices_IndexFunc_Quanta__optics_Trail_1.l0, ifp (by omega), ifp i0, bnd h1, ifn (by decide), wid (x := i + 1) (by omega) (by omega)]
      exact ih n (i + 1) (by omega) (by omega) (by omega)
  unfold slices_ContainsFunc_Quanta__optics_Trail_1 slices_IndexFunc_Quanta__optics_Trail_1
  rw [h s.length k 0 (by omega) (by decide) hk]
  rfl
def PL (p : S_Point) (dx dy w h i : Int) : List S_Spot := (foot ((p.X + i * dx) / 16 % 16) ((p.Y + i * dy) / 16 % 16) w h).map (move ((p.X + i * dx) / 16 / 16) ((p.Y + i * dy) / 16 / 16))
def trS (p : S_Point) (dx dy w h : Int) (g : Int → Int → Int) : Int → List Int → Int
  | _, [] => 0
  | i, q :: qs => sg g (PL p dx dy w h i) * q + trS p dx dy w h g (i + 1) qs
theorem drift {i d : Int} (i0 : 0 ≤ i) (i1 : i ≤ 16) (d0 : -64 ≤ d) (d1 : d ≤ 64) : -1024 ≤ i * d ∧ i * d ≤ 1024 := by
  have h1 : i * d ≤ i * 64 := Int.mul_le_mul_of_nonneg_left d1 i0
  have h2 : i * (-64) ≤ i * d := Int.mul_le_mul_of_nonneg_left d0 i0
  omega
/-- What is told of the trail. -/
structure TH (p : S_Point) (dx dy w h : Int) : Prop where
  x0 : -20000 ≤ p.X
  x1 : p.X ≤ 20000
  y0 : -20000 ≤ p.Y
  y1 : p.Y ≤ 20000
  dx0 : -64 ≤ dx
  dx1 : dx ≤ 64
  dy0 : -64 ≤ dy
  dy1 : dy ≤ 64
  w : w = 1 ∨ w = 2 ∨ w = 4
  h : h = 1 ∨ h = 2 ∨ h = 4
theorem PL_good {p : S_Point} {dx dy w h : Int} (H : TH p dx dy w h) {i : Int} (i0 : 0 ≤ i) (i1 : i ≤ 16) : (∀ s ∈ PL p dx dy w h i, 0 ≤ s.Light ∧ s.Light ≤ 16777216 ∧ -100 ≤ s.X ∧ s.X ≤ 100 ∧ -100 ≤ s.Y ∧ s.Y ≤ 100) ∧ (PL p dx dy w h i).length ≤ 121 ∧ sg one (PL p dx dy w h i) = 16777216 := by
  obtain ⟨a1, a2⟩ := drift i0 i1 H.dx0 H.dx1
  obtain ⟨b1, b2⟩ := drift i0 i1 H.dy0 H.dy1
  have := H.x0; have := H.x1; have := H.y0; have := H.y1
  obtain ⟨f1, f2, f3, _, _⟩ := foot_good ((p.X + i * dx) / 16 % 16) ((p.Y + i * dy) / 16 % 16) w h (by omega) (by omega) (by omega) (by omega) H.w H.h
  refine ⟨fun s hs => ?_, ?_, ?_⟩
  · obtain ⟨q, hq, rfl⟩ := List.mem_map.mp hs
    obtain ⟨c1, c2, c3, c4, c5, c6⟩ := f1 q hq
    unfold move
    dsimp only
    omega
  · unfold PL; rw [List.length_map]; exact f2
  · unfold PL sg
    rw [sm_map, ← f3]
    refine sm_congr fun s _ => ?_
    show s.Light * 1 = s.Light
    omega
theorem point_at (k : Nat) {p : S_Point} {dx dy w h : Int} (H : TH p dx dy w h) {i : Int} (i0 : 0 ≤ i) (i1 : i ≤ 16) (hk : 30 ≤ k) : optics_Point k (⟨w64 (p.X + (w64 (i * dx))), w64 (p.Y + (w64 (i * dy)))⟩ : S_Point) w h = some (PL p dx dy w h i, 0) := by
  obtain ⟨a1, a2⟩ := drift i0 i1 H.dx0 H.dx1
  obtain ⟨b1, b2⟩ := drift i0 i1 H.dy0 H.dy1
  have := H.x0; have := H.x1; have := H.y0; have := H.y1
  rw [wid (x := i * dx) (by omega) (by omega), wid (x := i * dy) (by omega) (by omega), wid (x := p.X + i * dx) (by omega) (by omega), wid (x := p.Y + i * dy) (by omega) (by omega)]
  exact point_eq k _ _ w h (by omega) (by omega) (by omega) (by omega) H.w H.h hk
theorem trail_l0 (k : Nat) (rates : List Int) {p : S_Point} {dx dy w h : Int} (H : TH p dx dy w h) (hr : AllIn rates 0 1048576) (hl : rates.length ≤ 16) (hk : 3000 ≤ k) : ∀ (d n : Nat) (i : Nat) (out : List S_Spot), i + d = rates.length → d < n → SG out (121 * i) (17592186044416 * i) →
    ∃ c, optics_Trail.l0 k rates p dx dy w h n out (i : Int) = some (Sum.inr c) ∧ (∀ g, sg g c = sg g out + trS p dx dy w h g (i : Int) (rates.drop i)) ∧ SG c (121 * rates.length) (17592186044416 * rates.length) := by
  intro d
  induction d with
  | zero =>
    intro n i out hi hn ho
    obtain ⟨n, rfl⟩ : ∃ z, n = z + 1 := ⟨n - 1, by omega⟩
    obtain rfl : i = rates.length := by omega
    refine ⟨out, ?_, fun g => ?_, ho⟩
    · rw [optics_Trail.l0, ifn (by omega)]
    · rw [List.drop_length]; exact (Int.add_zero _).symm
  | succ d ih =>
    intro n i out hi hn ho
    obtain ⟨n, rfl⟩ : ∃ z, n = z + 1 := ⟨n - 1, by omega⟩
    have hd := rd_drop rates (i : Int) (by omega) (by omega)
    rw [Int.toNat_natCast, show ((i : Int) + 1).toNat = i + 1 by omega] at hd
    obtain ⟨q0, q1⟩ := hr.rd (show (0 : Int) ≤ (i : Int) by omega) (by omega)
    obtain ⟨p1, p2, p3⟩ := PL_good H (i := (i : Int)) (by omega) (by omega)
    have hsc := scale_l1 k (PL p dx dy w h i) rates (i : Int) (rd rates i) rfl q0 q1 (fun s hs => ⟨(p1 s hs).1, (p1 s hs).2.1⟩) (by omega) (PL p dx dy w h i).length k 0 (PL p dx dy w h i) (by omega) (by decide) (by omega) rfl
    have hsg : sg one ((PL p dx dy w h i).map (sc (rd rates i))) ≤ 17592186044416 := by rw [sg_sc, p3]; omega
    have hgood : SG ((PL p dx dy w h i).map (sc (rd rates i))) 121 17592186044416 := ⟨fun s hs => by
      obtain ⟨z, hz, rfl⟩ := List.mem_map.mp hs
      obtain ⟨c1, c2, c3, c4, c5, c6⟩ := p1 z hz
      have m0 : 0 ≤ z.Light * rd rates i := Int.mul_nonneg c1 q0
      exact ⟨m0, by show -300 ≤ z.X; omega, by show z.X ≤ 300; omega, by show -300 ≤ z.Y; omega, by show z.Y ≤ 300; omega⟩, by rw [List.length_map]; exact p2, hsg⟩
    obtain ⟨c, e1, e2, e3⟩ := add_ex k out _ (121 * i) 121 _ _ ho hgood (by omega) (by omega) (by omega) (by omega)
    obtain ⟨c', e4, e5, e6⟩ := ih n (i + 1) c (by omega) (by omega) (by
      have h1 : 121 * (i + 1) = 121 * i + 121 := by omega
      have h2 : (17592186044416 : Int) * ((i + 1 : Nat) : Int) = 17592186044416 * (i : Int) + 17592186044416 := by omega
      rw [h1, h2]; exact e3)
    refine ⟨c', ?_, fun g => ?_, e6⟩
    · rw [optics_Trail.l0, ifp (by omega), ifp (by omega), bnd (point_at k H (by omega) (by omega) (by omega))]; dsimp only
      rw [ifn (by simp), bnd hsc, bnd e1, wid (x := (i : Int) + 1) (by omega) (by omega)]
      exact e4
    · rw [e5 g, e2 g, hd, sg_sc, show ((i + 1 : Nat) : Int) = (i : Int) + 1 by omega]
      show _ = _ + (sg g (PL p dx dy w h i) * rd rates i + trS p dx dy w h g ((i : Int) + 1) _)
      omega
theorem trail_ex (k : Nat) (rates : List Int) {p : S_Point} {dx dy w h : Int} (H : TH p dx dy w h) (hr : AllIn rates 0 1048576) (hl : rates.length ≤ 16) (hk : 3000 ≤ k) :
    ∃ c, optics_Trail k p dx dy rates w h = some (c, 0) ∧ (∀ g, sg g c = trS p dx dy w h g 0 rates) ∧ SG c (121 * rates.length) (17592186044416 * rates.length) := by
  obtain ⟨c, e1, e2, e3⟩ := trail_l0 k rates H hr hl hk rates.length k 0 [] (by omega) (by omega) ⟨by simp, by simp, by show (0 : Int) ≤ _; omega⟩
  have := H.dx0; have := H.dx1; have := H.dy0; have := H.dy1
  have := H.x0; have := H.x1; have := H.y0; have := H.y1
  refine ⟨c, ?_, fun g => ?_, e3⟩
  · unfold optics_Trail
    rw [ifn (by omega), mx_def, ifn (by omega), mn_def, ifn (by omega), bnd (nocont k rates hr (by omega) (by omega)), ifn (by decide)]
    have hp := point_eq k p.X p.Y w h (by omega) (by omega) (by omega) (by omega) H.w H.h (by omega)
    rw [bnd (show optics_Point k p w h = _ from hp)]; dsimp only
    rw [ifn (by simp), show (0 : Int) = ((0 : Nat) : Int) from rfl, bnd e1]
    rfl
  · rw [e2 g, List.drop_zero]
    show 0 + _ = _
    rw [Int.zero_add]; rfl
theorem trS_add (p : S_Point) (dx dy w h : Int) (g : Int → Int → Int) : ∀ (a b : List Int) (i : Int), a.length = b.length → trS p dx dy w h g i (List.zipWith (· + ·) a b) = trS p dx dy w h g i a + trS p dx dy w h g i b
  | [], [], _, _ => rfl
  | x :: a, y :: b, i, e => by
    have ih := trS_add p dx dy w h g a b (i + 1) (by simpa using e)
    show sg g (PL p dx dy w h i) * (x + y) + trS p dx dy w h g (i + 1) (List.zipWith (· + ·) a b) = (sg g (PL p dx dy w h i) * x + trS p dx dy w h g (i + 1) a) + (sg g (PL p dx dy w h i) * y + trS p dx dy w h g (i + 1) b)
    rw [ih, Int.mul_add]; omega
theorem trS_one {p : S_Point} {dx dy w h : Int} (H : TH p dx dy w h) : ∀ (a : List Int) (i : Int), 0 ≤ i → i + a.length ≤ 16 → trS p dx dy w h one i a = 16777216 * sm (fun x => x) a
  | [], _, _, _ => rfl
  | x :: a, i, h0, h1 => by
    rw [List.length_cons] at h1
    have ih := trS_one H a (i + 1) (by omega) (by omega)
    have e := (PL_good H (i := i) h0 (by omega)).2.2
    show sg one (PL p dx dy w h i) * x + trS p dx dy w h one (i + 1) a = 16777216 * (x + sm (fun x => x) a)
    rw [ih, e]; omega
theorem range_ex (k : Nat) (L : List Int) (a lo hi : Int) (h1 : lo ≤ hi) (h2 : hi - lo ≤ 1073741824) (h3 : -4611686018427387904 ≤ lo) (h4 : hi ≤ 4611686018427387904) (a0 : 0 ≤ a) (a1 : a ≤ 4611686018427387904) :
    ∃ v, spymake_Stream_Range k ⟨L, a⟩ lo hi = some (v, a + 1) ∧ lo ≤ v ∧ v ≤ hi := by
  unfold spymake_Stream_Range
  rw [ifn (by omega), wid (x := hi - lo) (by omega) (by omega), wid (x := hi - lo + 1) (by omega) (by omega)]
  obtain ⟨v, hv, v0, v1⟩ := next_ex k L a (hi - lo + 1) (by omega) (by omega) a0 a1
  rw [bnd hv]
  dsimp only
  rw [wid (by omega) (by omega)]
  exact ⟨_, rfl, by omega, by omega⟩
theorem u64_and32 (x : Int) (h0 : 0 ≤ x) (h1 : x < 18446744073709551616) : Go.bits .and .u64 x 4294967295 = x % 4294967296 := by
  rw [Go.u64_and x 4294967295 h0 h1 (by decide) (by decide)]
  have : x.toNat &&& (4294967295 : Int).toNat = x.toNat % 4294967296 := Nat.and_two_pow_sub_one_eq_mod x.toNat 32
  rw [this]
  omega
theorem shr32 (x : Int) : shr x 32 = x / 4294967296 := shr_def x 32
theorem mul64_eq (k : Nat) (a b : Int) (ha : 0 ≤ a) (ha' : a < 18446744073709551616) (hb : 0 ≤ b) (hb' : b < 18446744073709551616) :
    bits_Mul64 k a b = some (a * b / 18446744073709551616, a * b % 18446744073709551616) := by
  unfold bits_Mul64
  rw [u64_and32 a ha ha', u64_and32 b hb hb', shr32 a, shr32 b]
  have h1 := mul_le (a := a / 4294967296) (b := b / 4294967296) (A := 4294967295) (B := 4294967295) (by omega) (by omega) (by omega) (by omega)
  have h2 := mul_le (a := a / 4294967296) (b := b % 4294967296) (A := 4294967295) (B := 4294967295) (by omega) (by omega) (by omega) (by omega)
  have h3 := mul_le (a := a % 4294967296) (b := b / 4294967296) (A := 4294967295) (B := 4294967295) (by omega) (by omega) (by omega) (by omega)
  have h4 := mul_le (a := a % 4294967296) (b := b % 4294967296) (A := 4294967295) (B := 4294967295) (by omega) (by omega) (by omega) (by omega)
  have e : a * b = (a / 4294967296) * (b / 4294967296) * 18446744073709551616 + ((a / 4294967296) * (b % 4294967296) + (a % 4294967296) * (b / 4294967296)) * 4294967296 + (a % 4294967296) * (b % 4294967296) := by
    have ea : a = a / 4294967296 * 4294967296 + a % 4294967296 := by omega
    have eb : b = b / 4294967296 * 4294967296 + b % 4294967296 := by omega
    generalize a / 4294967296 = x1 at *
    generalize a % 4294967296 = x0 at *
    generalize b / 4294967296 = y1 at *
    generalize b % 4294967296 = y0 at *
    subst ea eb
    grind
  rw [u64_def (a * b), e]
  generalize (a / 4294967296) * (b / 4294967296) = p at *
  generalize (a / 4294967296) * (b % 4294967296) = q at *
  generalize (a % 4294967296) * (b / 4294967296) = r at *
  generalize (a % 4294967296) * (b % 4294967296) = s at *
  rw [wuid (x := s) (by omega) (by omega), wuid (x := p) (by omega) (by omega), wuid (x := q) (by omega) (by omega), wuid (x := r) (by omega) (by omega)]
  rw [shr32 s, wuid (x := q + s / 4294967296) (by omega) (by omega)]
  rw [u64_and32 (q + s / 4294967296) (by omega) (by omega), shr32 (q + s / 4294967296)]
  rw [wuid (x := p + (q + s / 4294967296) / 4294967296) (by omega) (by omega)]
  rw [wuid (x := (q + s / 4294967296) % 4294967296 + r) (by omega) (by omega), shr32]
  rw [wuid (by omega) (by omega)]
  have e1 : p + (q + s / 4294967296) / 4294967296 + ((q + s / 4294967296) % 4294967296 + r) / 4294967296 = (p * 18446744073709551616 + (q + r) * 4294967296 + s) / 18446744073709551616 := by omega
  rw [e1]
theorem i64_and_low (x : Int) (i : Nat) (hi : i ≤ 62) : Go.bits .and .i64 x ((2 ^ i - 1 : Nat) : Int) = (((x % 18446744073709551616).toNat % 2 ^ i : Nat) : Int) := by
  have hp : 2 ^ i ≤ 2 ^ 62 := Nat.pow_le_pow_right (by decide) hi
  have hpos : 0 < 2 ^ i := Nat.two_pow_pos i
  have e1 : (BitVec.ofInt 64 x).toNat = (x % 18446744073709551616).toNat := by simp [BitVec.toNat_ofInt]
  have hb : (2 ^ i - 1) % 2 ^ IntKind.i64.bits = 2 ^ i - 1 := Nat.mod_eq_of_lt (by show 2 ^ i - 1 < 2 ^ 64; omega)
  simp only [Go.bits, BitVec.ofInt_natCast, BitVec.toNat_and, BitVec.toNat_ofNat, hb]
  rw [show (BitVec.ofInt IntKind.i64.bits x).toNat = (x % 18446744073709551616).toNat from e1, Nat.and_two_pow_sub_one_eq_mod]
  have := Nat.mod_lt (x % 18446744073709551616).toNat hpos
  rw [IntKind.wrap_i64]
  omega
theorem i64_and_in (x : Int) (i : Nat) (m : Int) (hi : i ≤ 62) (hm : m = ((2 ^ i - 1 : Nat) : Int)) : 0 ≤ Go.bits .and .i64 x m ∧ Go.bits .and .i64 x m ≤ m := by
  subst hm
  rw [i64_and_low x i hi]
  have := Nat.mod_lt (x % 18446744073709551616).toNat (Nat.two_pow_pos i)
  omega
theorem size_eq (k : Nat) (a : Int) (h0 : -9223372036854775808 ≤ a) (h1 : a ≤ 9223372036854775807) : num_size k a = some (if a < 0 then -a else a) := by
  unfold num_size
  by_cases c : a < 0
  · rw [ifp c, ifp c]
    congr 1
    simp only [u64_def]
    omega
  · rw [ifn c, ifn c, wuid (by omega) (by omega)]
theorem xor_max (x : Int) (h0 : 0 ≤ x) (h1 : x < 18446744073709551616) : Go.bits .xor .u64 IntKind.u64.max x = 18446744073709551615 - x := by
  have hm : IntKind.u64.max = 18446744073709551615 := by decide
  rw [hm, Go.u64_xor _ _ (by decide) (by decide) h0 h1]
  have hb : (BitVec.allOnes 64 ^^^ BitVec.ofNat 64 x.toNat).toNat = 18446744073709551615 - x.toNat := by
    rw [BitVec.allOnes_xor, BitVec.toNat_not, BitVec.toNat_ofNat, Nat.mod_eq_of_lt (by omega)]
  have hb2 : (BitVec.allOnes 64 ^^^ BitVec.ofNat 64 x.toNat).toNat = 18446744073709551615 ^^^ x.toNat := by
    rw [BitVec.toNat_xor, BitVec.toNat_ofNat, Nat.mod_eq_of_lt (by omega)]; rfl
  rw [hb2] at hb
  rw [show (18446744073709551615 : Int).toNat = 18446744073709551615 from rfl, hb]
  omega
theorem neg_eq (k : Nat) (P : Int) (h0 : 0 < P) (h1 : P ≤ 85070591730234615865843651857942052864) : num_Wide_Neg k ⟨w64 (P / 18446744073709551616), P % 18446744073709551616⟩ = some ⟨-P / 18446744073709551616, -P % 18446744073709551616⟩ := by
  have e1 : u64 (w64 (P / 18446744073709551616)) = P / 18446744073709551616 := by rw [wid (by omega) (by omega), wuid (by omega) (by omega)]
  unfold num_Wide_Neg
  dsimp only
  rw [e1, xor_max (P % 18446744073709551616) (by omega) (by omega), xor_max (P / 18446744073709551616) (by omega) (by omega), ifp (by omega), ifp (by omega), ifp (by omega), ifp (by omega)]
  congr 2
  · rw [w64_def]; omega
  · omega
/-- The low and the high word of a product. -/
theorem product_eq (k : Nat) (a b : Int) (ha : -9223372036854775808 ≤ a) (ha' : a ≤ 9223372036854775807) (hb : -9223372036854775808 ≤ b) (hb' : b ≤ 9223372036854775807) :
    num_Product k a b = some ⟨a * b / 18446744073709551616, a * b % 18446744073709551616⟩ := by
  unfold num_Product
  rw [bnd (size_eq k a ha ha'), bnd (size_eq k b hb hb')]
  obtain ⟨A, hA⟩ : ∃ A, A = if a < 0 then -a else a := ⟨_, rfl⟩
  obtain ⟨B, hB⟩ : ∃ B, B = if b < 0 then -b else b := ⟨_, rfl⟩
  rw [← hA, ← hB]
  have A0 : 0 ≤ A ∧ A ≤ 9223372036854775808 := by rw [hA]; split <;> omega
  have B0 : 0 ≤ B ∧ B ≤ 9223372036854775808 := by rw [hB]; split <;> omega
  rw [bnd (mul64_eq k A B (by omega) (by omega) (by omega) (by omega))]
  dsimp only
  have hAB := mul_le A0.1 A0.2 B0.1 B0.2
  have neg : A * B = -(a * b) → (num_Wide_Neg k ⟨w64 (A * B / 18446744073709551616), A * B % 18446744073709551616⟩).bind (fun v => some v) = some ⟨a * b / 18446744073709551616, a * b % 18446744073709551616⟩ := by
    intro e
    by_cases z : a * b = 0
    · have ez : A * B = 0 := by omega
      rw [ez, z]
      have : num_Wide_Neg k ⟨w64 (0 / 18446744073709551616), 0 % 18446744073709551616⟩ = some ⟨0, 0⟩ := by kernel_rfl
      rw [this]; rfl
    · rw [neg_eq k (A * B) (by omega) (by omega), e, Int.neg_neg]; rfl
  by_cases ca : a < 0
  · rw [if_pos ca] at hA
    by_cases cb : b < 0
    · rw [if_pos cb] at hB
      have e : A * B = a * b := by rw [hA, hB, Int.neg_mul_neg]
      rw [show (decide (a < 0) != decide (b < 0)) = false by simp [ca, cb], ifn (by decide), e, wid (by omega) (by omega)]
    · rw [if_neg cb] at hB
      rw [show (decide (a < 0) != decide (b < 0)) = true by simp [ca, cb], ifp rfl]
      exact neg (by rw [hA, hB, Int.neg_mul])
  · rw [if_neg ca] at hA
    by_cases cb : b < 0
    · rw [if_pos cb] at hB
      rw [show (decide (a < 0) != decide (b < 0)) = true by simp [ca, cb], ifp rfl]
      exact neg (by rw [hA, hB, Int.mul_neg])
    · rw [if_neg cb] at hB
      have e : A * B = a * b := by rw [hA, hB]
      rw [show (decide (a < 0) != decide (b < 0)) = false by simp [ca, cb], ifn (by decide), e, wid (by omega) (by omega)]
theorem mul_eq (k : Nat) (a b : Int) (ha : -9223372036854775808 ≤ a) (ha' : a ≤ 9223372036854775807) (hb : -9223372036854775808 ≤ b) (hb' : b ≤ 9223372036854775807) (h0 : -9223372036854775808 ≤ a * b) (h1 : a * b ≤ 9223372036854775807) : num_Mul k a b = some (a * b, true) := by
  unfold num_Mul
  rw [bnd (product_eq k a b ha ha' hb hb')]
  dsimp only
  generalize a * b = P at *
  have e : w64 (P % 18446744073709551616) = P := by rw [w64_def]; omega
  rw [e, ifn (by rw [show shr P 63 = P / 9223372036854775808 from shr_def P 63]; omega)]
theorem gcd_l0_frac_Make (k : Nat) (y : Nat) : ∀ (n x : Nat), y < n → frac_Make.l0 k n (x : Int) (y : Int) = some ((Nat.gcd x y : Nat) : Int) := by
  induction y using Nat.strongRecOn with
  | _ y ih =>
    intro n x hn
    obtain ⟨n, rfl⟩ : ∃ m, n = m + 1 := ⟨n - 1, by omega⟩
    rw [frac_Make.l0]
    by_cases c : y = 0
    · subst c; rw [ifn (by decide), Nat.gcd_zero_right]
    · rw [ifp (by omega), ifp (by omega), show Int.tmod (x : Int) (y : Int) = ((x % y : Nat) : Int) from (Int.tmod_eq_emod_of_nonneg (by omega)).trans (Int.natCast_emod x y).symm]
      have hlt := Nat.mod_lt x (show 0 < y by omega)
      rw [ih (x % y) hlt n y (by omega), Nat.gcd_comm x y, Nat.gcd_rec y x, Nat.gcd_comm (x % y) y]
theorem gcd_l0_num_Gcd (k : Nat) (y : Nat) : ∀ (n x : Nat), y < n → num_Gcd.l0 k n (x : Int) (y : Int) = some ((Nat.gcd x y : Nat) : Int) := by
  induction y using Nat.strongRecOn with
  | _ y ih =>
    intro n x hn
    obtain ⟨n, rfl⟩ : ∃ m, n = m + 1 := ⟨n - 1, by omega⟩
    rw [num_Gcd.l0]
    by_cases c : y = 0
    · subst c; rw [ifn (by decide), Nat.gcd_zero_right]
    · rw [ifp (by omega), ifp (by omega), show Int.tmod (x : Int) (y : Int) = ((x % y : Nat) : Int) from (Int.tmod_eq_emod_of_nonneg (by omega)).trans (Int.natCast_emod x y).symm]
      have hlt := Nat.mod_lt x (show 0 < y by omega)
      rw [ih (x % y) hlt n y (by omega), Nat.gcd_comm x y, Nat.gcd_rec y x, Nat.gcd_comm (x % y) y]
theorem fsize_eq (k : Nat) (a : Int) (h0 : -9223372036854775808 ≤ a) (h1 : a ≤ 9223372036854775807) : frac_size k a = some ((a.natAbs : Nat) : Int) := by
  unfold frac_size
  by_cases c : a < 0
  · rw [ifp c]
    congr 1
    simp only [u64_def]
    omega
  · rw [ifn c, wuid (by omega) (by omega)]
    congr 1; omega
theorem nsize_eq (k : Nat) (a : Int) (h0 : -9223372036854775808 ≤ a) (h1 : a ≤ 9223372036854775807) : num_size k a = some ((a.natAbs : Nat) : Int) := by
  rw [size_eq k a h0 h1]
  congr 1
  split <;> omega
theorem andnot63 (x : Int) (h0 : 0 ≤ x) (h1 : x < 9223372036854775808) : Go.bits .andNot .u64 x 9223372036854775808 = x := by
  rw [Go.u64_andNot x _ h0 (by omega) (by decide) (by decide)]
  have : x.toNat &&& 9223372036854775807 = x.toNat % 9223372036854775808 := Nat.and_two_pow_sub_one_eq_mod x.toNat 63
  rw [show (18446744073709551615 - (9223372036854775808 : Int).toNat : Nat) = 9223372036854775807 from rfl, this]
  omega
theorem ngcd_eq (k : Nat) (a b : Int) (ha : -4611686018427387904 ≤ a) (ha' : a ≤ 4611686018427387904) (hb : 1 ≤ b) (hb' : b ≤ 4611686018427387904) (hk : b.natAbs < k) : num_Gcd k a b = some ((Nat.gcd a.natAbs b.natAbs : Nat) : Int) := by
  have hle : Nat.gcd a.natAbs b.natAbs ≤ b.natAbs := Nat.gcd_le_right _ (by omega)
  unfold num_Gcd
  rw [bnd (nsize_eq k a (by omega) (by omega)), bnd (nsize_eq k b (by omega) (by omega)), bnd (gcd_l0_num_Gcd k b.natAbs k a.natAbs hk), andnot63 _ (by omega) (by omega), wid (by omega) (by omega)]
theorem gcd_odd (m : Nat) (h : m % 2 = 1) : Nat.gcd m 16 = 1 := by
  rw [Nat.gcd_comm, Nat.gcd_rec]
  have : m % 16 = 1 ∨ m % 16 = 3 ∨ m % 16 = 5 ∨ m % 16 = 7 ∨ m % 16 = 9 ∨ m % 16 = 11 ∨ m % 16 = 13 ∨ m % 16 = 15 := by omega
  rcases this with e | e | e | e | e | e | e | e <;> rw [e] <;> decide
theorem or000 (k : Nat) (hk : 10 ≤ k) : cmp_Or_Errno k [0, 0, 0] = some 0 := by
  obtain ⟨k, rfl⟩ : ∃ j, k = j + 10 := ⟨k - 10, by omega⟩
  kernel_rfl
theorem made_tt (k : Nat) (n d : Int) (hk : 10 ≤ k) (h0 : -1152921504606846976 ≤ n) (h1 : n ≤ 1152921504606846976) (h2 : d ≤ 1152921504606846976) : frac_made k n d [true, true] = some (⟨n, d⟩, 0) := by
  obtain ⟨k, rfl⟩ : ∃ j, k = j + 10 := ⟨k - 10, by omega⟩
  have e : frac_made.l0 (k + 10) [true, true] (k + 10) 0 = some (Sum.inr ()) := by kernel_rfl
  unfold frac_made
  rw [bnd e]
  dsimp only [Sum.elim_inr]
  rw [ifn (by omega), ifn (by omega), ifn (by omega)]
/-- The middle of a cell's sixteenth, out of the moment. -/
theorem centre1_eq (k : Nat) (g : Int) (g0 : -10000 ≤ g) (g1 : g ≤ 10000) (hk : 16777300 ≤ k) : optics_Centre_1 k 16777216 0 (1048576 * (2 * g + 1)) = some (⟨16 * g + 8, 1⟩, 0) := by
  have hodd : (2 * g + 1).natAbs % 2 = 1 := by omega
  have hg : Nat.gcd (1048576 * (2 * g + 1)).natAbs 16777216 = 1048576 := by
    rw [show (1048576 * (2 * g + 1)).natAbs = 1048576 * (2 * g + 1).natAbs by omega, show (16777216 : Nat) = 1048576 * 16 by rfl, Nat.gcd_mul_left, gcd_odd _ hodd]
  have hmake : frac_Make k (1048576 * (2 * g + 1)) 16777216 = some (⟨2 * g + 1, 16⟩, 0) := by
    have l0 := gcd_l0_frac_Make k 16777216 k (1048576 * (2 * g + 1)).natAbs (by omega)
    rw [hg] at l0
    have e16 : ((16777216 : Int).natAbs : Nat) = 16777216 := rfl
    unfold frac_Make
    rw [ifn (by decide), bnd (fsize_eq k _ (by omega) (by omega)), bnd (fsize_eq k 16777216 (by decide) (by decide)), e16, bnd l0, bnd (fsize_eq k _ (by omega) (by omega)), ifp (by decide), bnd (fsize_eq k 16777216 (by decide) (by decide)), e16]
    have q1 : Int.tdiv (((1048576 * (2 * g + 1)).natAbs : Nat) : Int) ((1048576 : Nat) : Int) = (((2 * g + 1).natAbs : Nat) : Int) := by
      rw [tdiv_nn (by omega)]; omega
    have q2 : Int.tdiv ((16777216 : Nat) : Int) ((1048576 : Nat) : Int) = 16 := by decide
    rw [q1, q2, wuid (x := 16) (by decide) (by decide), wuid (x := (((2 * g + 1).natAbs : Nat) : Int)) (by omega) (by omega), ifn (by omega), ifn (by decide), wid (x := 16) (by decide) (by decide), wid (x := (((2 * g + 1).natAbs : Nat) : Int)) (by omega) (by omega), decide_eq_false (show ¬ ((16777216 : Int) < 0) by decide)]
    by_cases c : 1048576 * (2 * g + 1) < 0
    · rw [decide_eq_true c, ifp (by decide), wid (by omega) (by omega), show 0 - (((2 * g + 1).natAbs : Nat) : Int) = 2 * g + 1 by omega]
    · rw [decide_eq_false c, ifn (by decide), show (((2 * g + 1).natAbs : Nat) : Int) = 2 * g + 1 by omega]
  have hc1 : frac_Check k ⟨2 * g + 1, 16⟩ = some 0 := by
    unfold frac_Check
    dsimp only
    rw [ifn (by omega), ifn (by omega), ifn (by decide), ifn (by decide), bnd (ngcd_eq k (2 * g + 1) 16 (by omega) (by omega) (by decide) (by decide) (by show 16 < k; omega))]
    rw [show Nat.gcd (2 * g + 1).natAbs (16 : Int).natAbs = 1 from gcd_odd _ hodd, ifn (by decide)]
  have hc2 : frac_Check k ⟨128, 1⟩ = some 0 := by
    unfold frac_Check
    dsimp only
    rw [ifn (by decide), ifn (by decide), ifn (by decide), ifn (by decide), bnd (ngcd_eq k 128 1 (by decide) (by decide) (by decide) (by decide) (by show 1 < k; omega))]
    rfl
  have hmul : frac_Mul k ⟨2 * g + 1, 16⟩ ⟨128, 1⟩ = some (⟨16 * g + 8, 1⟩, 0) := by
    unfold frac_Mul frac_both
    rw [bnd hc1, bnd hc2, bnd (or00 k (by omega))]
    dsimp only [Option.bind_some]
    rw [ifn (by decide), bnd (ngcd_eq k (2 * g + 1) 1 (by omega) (by omega) (by decide) (by decide) (by show 1 < k; omega)), bnd (ngcd_eq k 128 16 (by decide) (by decide) (by decide) (by decide) (by show 16 < k; omega))]
    rw [show Nat.gcd (2 * g + 1).natAbs (1 : Int).natAbs = 1 from Nat.gcd_one_right _, show Nat.gcd (128 : Int).natAbs (16 : Int).natAbs = 16 by decide]
    rw [ifp (by decide), ifp (by decide), show Int.tdiv (2 * g + 1) ((1 : Nat) : Int) = 2 * g + 1 from Int.tdiv_one _, show Int.tdiv 128 ((16 : Nat) : Int) = 8 by decide, show Int.tdiv 16 ((16 : Nat) : Int) = 1 by decide, show Int.tdiv 1 ((1 : Nat) : Int) = 1 by decide, wid (x := 2 * g + 1) (by omega) (by omega), wid (x := 8) (by decide) (by decide), wid (x := 1) (by decide) (by decide)]
    rw [bnd (mul_eq k (2 * g + 1) 8 (by omega) (by omega) (by decide) (by decide) (by omega) (by omega))]
    dsimp only
    rw [bnd (mul_eq k 1 1 (by decide) (by decide) (by decide) (by decide) (by decide) (by decide))]
    dsimp only
    rw [bnd (made_tt k _ _ (by omega) (by omega) (by omega) (by decide)), show (2 * g + 1) * 8 = 16 * g + 8 by omega, show (1 : Int) * 1 = 1 by rfl]
  unfold optics_Centre_1
  rw [bnd hmake]
  dsimp only
  rw [bnd hmul]
  dsimp only
  rw [bnd (or000 k (by omega))]
theorem sm_nn {α : Type} {f : α → Int} {l : List α} (h : ∀ x, x ∈ l → 0 ≤ f x) : 0 ≤ sm f l := by
  induction l with
  | nil => exact Int.le_refl 0
  | cons x l ih => have := h x (by simp); have := ih (fun y hy => h y (by simp [hy])); rw [sm]; omega
theorem centre_l0 (k : Nat) (l : List S_Spot) (hp : ∀ p, p ∈ l → -200 ≤ p.X ∧ p.X ≤ 200 ∧ -200 ≤ p.Y ∧ p.Y ≤ 200 ∧ 0 ≤ p.Light ∧ p.Light ≤ 16777216) (hl : l.length ≤ 200) : ∀ (d n : Nat) (sx sy i all : Int), i + d = l.length → 0 ≤ i → d < n → 0 ≤ all → all ≤ 16777216 * i → -401 * all ≤ sx → sx ≤ 401 * all → -401 * all ≤ sy → sy ≤ 401 * all →
    optics_Centre.l0 k l n sx sy i all = some (Sum.inr (sx + sm (fun p => p.Light * (2 * p.X + 1)) (l.drop i.toNat), sy + sm (fun p => p.Light * (2 * p.Y + 1)) (l.drop i.toNat), all + sm (·.Light) (l.drop i.toNat))) := by
  intro d
  induction d with
  | zero =>
    intro n sx sy i all hi i0 hn _ _ _ _ _ _
    obtain ⟨n, rfl⟩ : ∃ m, n = m + 1 := ⟨n - 1, by omega⟩
    rw [optics_Centre.l0, ifn (by omega), List.drop_of_length_le (by omega), sm, sm, sm, Int.add_zero, Int.add_zero, Int.add_zero]
  | succ d ih =>
    intro n sx sy i all hi i0 hn a0 a1 x0 x1 y0 y1
    obtain ⟨n, rfl⟩ : ∃ m, n = m + 1 := ⟨n - 1, by omega⟩
    obtain ⟨p1, p2, p3, p4, p5, p6⟩ := hp _ (rd_mem i0 (show i < (l.length : Int) by omega))
    have b1 : (rd l i).Light * (2 * (rd l i).X + 1) ≤ (rd l i).Light * 401 := Int.mul_le_mul_of_nonneg_left (by omega) p5
    have b2 : (rd l i).Light * (-401) ≤ (rd l i).Light * (2 * (rd l i).X + 1) := Int.mul_le_mul_of_nonneg_left (by omega) p5
    have b3 : (rd l i).Light * (2 * (rd l i).Y + 1) ≤ (rd l i).Light * 401 := Int.mul_le_mul_of_nonneg_left (by omega) p5
    have b4 : (rd l i).Light * (-401) ≤ (rd l i).Light * (2 * (rd l i).Y + 1) := Int.mul_le_mul_of_nonneg_left (by omega) p5
    rw [optics_Centre.l0, ifp (by omega), ifp i0, mx_def, mn_def, ifn (by omega), ifn (by omega), ifn (by omega), wid (x := 281474976710656 - all) (by omega) (by omega), ifn (by omega)]
    rw [wid (x := 2 * (rd l i).X) (by omega) (by omega), wid (x := 2 * (rd l i).X + 1) (by omega) (by omega), wid (x := 2 * (rd l i).Y) (by omega) (by omega), wid (x := 2 * (rd l i).Y + 1) (by omega) (by omega), wid (x := i + 1) (by omega) (by omega), wid (x := all + (rd l i).Light) (by omega) (by omega)]
    rw [wid (x := (rd l i).Light * (2 * (rd l i).X + 1)) (by omega) (by omega), wid (x := (rd l i).Light * (2 * (rd l i).Y + 1)) (by omega) (by omega)]
    rw [wid (x := sx + (rd l i).Light * (2 * (rd l i).X + 1)) (by omega) (by omega), wid (x := sy + (rd l i).Light * (2 * (rd l i).Y + 1)) (by omega) (by omega)]
    rw [ih n _ _ (i + 1) _ (by omega) (by omega) (by omega) (by omega) (by omega) (by omega) (by omega) (by omega) (by omega)]
    have e := rd_drop l i i0 (by omega)
    rw [e, sm, sm, sm]
    congr 2
    simp only [Prod.mk.injEq]
    refine ⟨?_, ?_, ?_⟩ <;> omega
def gx (x _ : Int) : Int := 2 * x + 1
def gy (_ y : Int) : Int := 2 * y + 1
theorem PL_x {p : S_Point} {dx dy w h : Int} (H : TH p dx dy w h) (i : Int) : sg gx (PL p dx dy w h i) = 1048576 * (2 * ((p.X + i * dx) / 16) + 1) := by
  obtain ⟨f1, f2, f3, f4, f5⟩ := foot_good ((p.X + i * dx) / 16 % 16) ((p.Y + i * dy) / 16 % 16) w h (by omega) (by omega) (by omega) (by omega) H.w H.h
  unfold PL sg
  rw [sm_map, sm_congr (g := fun q : S_Spot => q.Light * (2 * ((p.X + i * dx) / 16 / 16)) + q.Light * (2 * q.X + 1)) (fun q _ => by unfold move gx; dsimp only; rw [← Int.mul_add]; congr 1; omega), sm_add, sm_mul (fun q : S_Spot => q.Light), f3, f4]
  omega
theorem PL_y {p : S_Point} {dx dy w h : Int} (H : TH p dx dy w h) (i : Int) : sg gy (PL p dx dy w h i) = 1048576 * (2 * ((p.Y + i * dy) / 16) + 1) := by
  obtain ⟨f1, f2, f3, f4, f5⟩ := foot_good ((p.X + i * dx) / 16 % 16) ((p.Y + i * dy) / 16 % 16) w h (by omega) (by omega) (by omega) (by omega) H.w H.h
  unfold PL sg
  rw [sm_map, sm_congr (g := fun q : S_Spot => q.Light * (2 * ((p.Y + i * dy) / 16 / 16)) + q.Light * (2 * q.Y + 1)) (fun q _ => by unfold move gy; dsimp only; rw [← Int.mul_add]; congr 1; omega), sm_add, sm_mul (fun q : S_Spot => q.Light), f3, f5]
  omega
/-- The moment of a trail along an axis. -/
def ms (at_ d : Int) : Int → List Int → Int
  | _, [] => 0
  | i, q :: qs => (2 * ((at_ + i * d) / 16) + 1) * q + ms at_ d (i + 1) qs
theorem trS_x {p : S_Point} {dx dy w h : Int} (H : TH p dx dy w h) : ∀ (a : List Int) (i : Int), trS p dx dy w h gx i a = 1048576 * ms p.X dx i a
  | [], _ => rfl
  | q :: a, i => by
    have ih := trS_x H a (i + 1)
    show sg gx (PL p dx dy w h i) * q + trS p dx dy w h gx (i + 1) a = 1048576 * ((2 * ((p.X + i * dx) / 16) + 1) * q + ms p.X dx (i + 1) a)
    rw [ih, PL_x H, Int.mul_assoc, ← Int.mul_add]
theorem trS_y {p : S_Point} {dx dy w h : Int} (H : TH p dx dy w h) : ∀ (a : List Int) (i : Int), trS p dx dy w h gy i a = 1048576 * ms p.Y dy i a
  | [], _ => rfl
  | q :: a, i => by
    have ih := trS_y H a (i + 1)
    show sg gy (PL p dx dy w h i) * q + trS p dx dy w h gy (i + 1) a = 1048576 * ((2 * ((p.Y + i * dy) / 16) + 1) * q + ms p.Y dy (i + 1) a)
    rw [ih, PL_y H, Int.mul_assoc, ← Int.mul_add]
theorem ms_in (at_ d lo hi : Int) : ∀ (a : List Int) (i : Int), AllIn a 0 1048576 → (∀ j : Int, i ≤ j → j < i + a.length → lo ≤ 8 * (2 * ((at_ + j * d) / 16) + 1) ∧ 8 * (2 * ((at_ + j * d) / 16) + 1) ≤ hi) → lo * sm (fun x => x) a ≤ 8 * ms at_ d i a ∧ 8 * ms at_ d i a ≤ hi * sm (fun x => x) a
  | [], i, _, _ => by show lo * 0 ≤ 8 * 0 ∧ 8 * 0 ≤ hi * 0; omega
  | q :: a, i, hA, hj => by
    have q0 := (hA q (List.mem_cons_self ..)).1
    rw [List.length_cons] at hj
    obtain ⟨i1, i2⟩ := ms_in at_ d lo hi a (i + 1) (fun x hx => hA x (List.mem_cons_of_mem _ hx)) (fun j h1 h2 => hj j (by omega) (by omega))
    obtain ⟨j1, j2⟩ := hj i (by omega) (by omega)
    have m1 := Int.mul_le_mul_of_nonneg_right j1 q0
    have m2 := Int.mul_le_mul_of_nonneg_right j2 q0
    show lo * (q + sm (fun x => x) a) ≤ 8 * ((2 * ((at_ + i * d) / 16) + 1) * q + ms at_ d (i + 1) a) ∧ 8 * ((2 * ((at_ + i * d) / 16) + 1) * q + ms at_ d (i + 1) a) ≤ hi * (q + sm (fun x => x) a)
    rw [Int.mul_add, Int.mul_add, Int.mul_add]
    rw [Int.mul_assoc] at m1 m2
    omega
theorem run_in {n j d : Int} (j0 : 0 ≤ j) (j1 : j ≤ n) : min 0 (d * n) ≤ j * d ∧ j * d ≤ max 0 (d * n) := by
  rw [Int.mul_comm d n]
  rcases Int.le_total 0 d with h | h
  · have m1 : j * d ≤ n * d := Int.mul_le_mul_of_nonneg_right j1 h
    have m2 : 0 ≤ j * d := Int.mul_nonneg j0 h
    omega
  · have m1 : n * d ≤ j * d := Int.mul_le_mul_of_nonpos_right j1 h
    have m2 : j * d ≤ 0 := Int.mul_nonpos_of_nonneg_of_nonpos j0 h
    omega
theorem floor_ge (k : Nat) (N D : Int) (hD : 1 ≤ D) (h0 : -4611686018427387904 ≤ N) (h1 : N ≤ 4611686018427387904) : ∃ f, num_FloorDiv k N D = some f ∧ ∀ L, L * D ≤ N → L ≤ f := by
  have e := Int.mul_tdiv_add_tmod N D
  have r1 := Int.lt_tmod_of_pos N (show 0 < D by omega)
  have r2 := Int.tmod_lt_of_pos N (show 0 < D by omega)
  have q1 : Int.tdiv N D ≤ N.natAbs := by
    have := Int.natAbs_tdiv_le_natAbs N D
    omega
  have q2 : -(N.natAbs : Int) ≤ Int.tdiv N D := by
    have := Int.natAbs_tdiv_le_natAbs N D
    omega
  unfold num_FloorDiv
  rw [ifn (by omega), ifp (by omega), wid (x := Int.tdiv N D) (by omega) (by omega), wid (x := Int.tdiv N D - 1) (by omega) (by omega)]
  generalize Int.tdiv N D = q at *
  generalize Int.tmod N D = r at *
  by_cases c : r < 0
  · rw [ifp c]
    refine ⟨_, rfl, fun L hL => ?_⟩
    have : L * D < q * D := by rw [Int.mul_comm q D]; omega
    have := Int.lt_of_mul_lt_mul_right this (by omega)
    omega
  · rw [ifn c]
    refine ⟨_, rfl, fun L hL => ?_⟩
    have : L * D < (q + 1) * D := by rw [Int.add_mul, Int.one_mul, Int.mul_comm q D]; omega
    have := Int.lt_of_mul_lt_mul_right this (by omega)
    omega
theorem ceil_le (k : Nat) (N D : Int) (hD : 1 ≤ D) (h0 : -4611686018427387904 ≤ N) (h1 : N ≤ 4611686018427387904) : ∃ f, num_CeilDiv k N D = some f ∧ ∀ U, N ≤ U * D → f ≤ U := by
  have e := Int.mul_tdiv_add_tmod N D
  have r1 := Int.lt_tmod_of_pos N (show 0 < D by omega)
  have r2 := Int.tmod_lt_of_pos N (show 0 < D by omega)
  have q1 : Int.tdiv N D ≤ N.natAbs := by
    have := Int.natAbs_tdiv_le_natAbs N D
    omega
  have q2 : -(N.natAbs : Int) ≤ Int.tdiv N D := by
    have := Int.natAbs_tdiv_le_natAbs N D
    omega
  unfold num_CeilDiv
  rw [ifn (by omega), ifp (by omega), wid (x := Int.tdiv N D) (by omega) (by omega), wid (x := Int.tdiv N D + 1) (by omega) (by omega)]
  generalize Int.tdiv N D = q at *
  generalize Int.tmod N D = r at *
  by_cases c : r > 0
  · rw [ifp c]
    refine ⟨_, rfl, fun U hU => ?_⟩
    have : q * D < U * D := by rw [Int.mul_comm q D]; omega
    have := Int.lt_of_mul_lt_mul_right this (by omega)
    omega
  · rw [ifn c]
    refine ⟨_, rfl, fun U hU => ?_⟩
    have : (q - 1) * D < U * D := by rw [Int.sub_mul, Int.one_mul, Int.mul_comm q D]; omega
    have := Int.lt_of_mul_lt_mul_right this (by omega)
    omega
/-- A fraction in lowest terms, within the bounds. -/
structure FR (x : S_Frac) : Prop where
  n0 : -1152921504606846976 ≤ x.Num
  n1 : x.Num ≤ 1152921504606846976
  d0 : 1 ≤ x.Den
  d1 : x.Den ≤ 1152921504606846976
  g : Nat.gcd x.Num.natAbs x.Den.natAbs = 1
theorem fcheck (k : Nat) (x : S_Frac) (h : FR x) (hk : x.Den.natAbs < k) : frac_Check k x = some 0 := by
  have := h.n0; have := h.n1; have := h.d0; have := h.d1
  unfold frac_Check
  rw [ifn (by omega), ifn (by omega), ifn (by omega), ifn (by omega), bnd (ngcd_eq k x.Num x.Den (by omega) (by omega) (by omega) (by omega) hk), h.g, ifn (by decide)]
theorem make_ex (k : Nat) (s A : Int) (hA : 1 ≤ A) (hA2 : A ≤ 1125899906842624) (s0 : -1125899906842624 ≤ s) (s1 : s ≤ 1125899906842624) (hk : A.natAbs < k) : ∃ n d : Int, frac_Make k s A = some (⟨n, d⟩, 0) ∧ FR ⟨n, d⟩ ∧ n * A = s * d ∧ -1125899906842624 ≤ n ∧ n ≤ 1125899906842624 ∧ d ≤ A := by
  have l0 := gcd_l0_frac_Make k A.natAbs k s.natAbs hk
  obtain ⟨g, hg⟩ : ∃ g, Nat.gcd s.natAbs A.natAbs = g := ⟨_, rfl⟩
  rw [hg] at l0
  have gpos : 0 < g := by rw [← hg]; exact Nat.gcd_pos_of_pos_right _ (by omega)
  obtain ⟨u, hu⟩ : g ∣ s.natAbs := hg ▸ Nat.gcd_dvd_left _ _
  obtain ⟨v, hv⟩ : g ∣ A.natAbs := hg ▸ Nat.gcd_dvd_right _ _
  have huv : Nat.gcd u v = 1 := by
    rw [hu, hv, Nat.gcd_mul_left] at hg
    exact Nat.eq_of_mul_eq_mul_left gpos (by rw [hg, Nat.mul_one])
  have v1 : 1 ≤ v := by
    rcases Nat.eq_zero_or_pos v with h | h
    · rw [h] at hv; omega
    · exact h
  have ule : u ≤ s.natAbs := by rw [hu]; exact Nat.le_mul_of_pos_left _ gpos
  have vle : v ≤ A.natAbs := by rw [hv]; exact Nat.le_mul_of_pos_left _ gpos
  have t1 : Int.tdiv ((s.natAbs : Nat) : Int) ((g : Nat) : Int) = (u : Int) := by
    rw [tdiv_nn (by omega), hu, Int.natCast_mul]; exact Int.mul_ediv_cancel_left _ (by omega)
  have t2 : Int.tdiv ((A.natAbs : Nat) : Int) ((g : Nat) : Int) = (v : Int) := by
    rw [tdiv_nn (by omega), hv, Int.natCast_mul]; exact Int.mul_ediv_cancel_left _ (by omega)
  have hAv : A = (g : Int) * (v : Int) := by rw [← Int.natCast_mul, ← hv]; omega
  have hmk : frac_Make k s A = if s < 0 then some (⟨-(u : Int), (v : Int)⟩, 0) else some (⟨(u : Int), (v : Int)⟩, 0) := by
    unfold frac_Make
    rw [ifn (by omega), bnd (fsize_eq k s (by omega) (by omega)), bnd (fsize_eq k A (by omega) (by omega)), bnd l0, bnd (fsize_eq k s (by omega) (by omega)), ifp (by omega), bnd (fsize_eq k A (by omega) (by omega)), t1, t2, wuid (x := (u : Int)) (by omega) (by omega), wuid (x := (v : Int)) (by omega) (by omega), ifn (by omega), ifn (by omega), wid (x := (u : Int)) (by omega) (by omega), wid (x := (v : Int)) (by omega) (by omega), decide_eq_false (show ¬ A < 0 by omega)]
    by_cases c : s < 0
    · rw [decide_eq_true c, ifp (by decide), ifp c, wid (by omega) (by omega), Int.zero_sub]
    · rw [decide_eq_false c, ifn (by decide), ifn c]
  by_cases c : s < 0
  · refine ⟨-(u : Int), (v : Int), by rw [hmk, ifp c], ⟨by show _ ≤ -(u : Int); omega, by show -(u : Int) ≤ _; omega, by show 1 ≤ (v : Int); omega, by show (v : Int) ≤ _; omega, ?_⟩, ?_, by omega, by omega, by omega⟩
    · show Nat.gcd (-(u : Int)).natAbs ((v : Int)).natAbs = 1
      rw [Int.natAbs_neg, Int.natAbs_natCast, Int.natAbs_natCast, huv]
    · have hs : s = -((g : Int) * (u : Int)) := by rw [← Int.natCast_mul, ← hu]; omega
      rw [hs, hAv, Int.neg_mul, Int.neg_mul, Int.mul_comm (g : Int) (u : Int), Int.mul_assoc]
  · refine ⟨(u : Int), (v : Int), by rw [hmk, ifn c], ⟨by show _ ≤ (u : Int); omega, by show (u : Int) ≤ _; omega, by show 1 ≤ (v : Int); omega, by show (v : Int) ≤ _; omega, ?_⟩, ?_, by omega, by omega, by omega⟩
    · show Nat.gcd ((u : Int)).natAbs ((v : Int)).natAbs = 1
      rw [Int.natAbs_natCast, Int.natAbs_natCast, huv]
    · have hs : s = (g : Int) * (u : Int) := by rw [← Int.natCast_mul, ← hu]; omega
      rw [hs, hAv, Int.mul_comm (g : Int) (u : Int), Int.mul_assoc]
theorem half_frac (k : Nat) (n d : Int) (h : FR ⟨n, d⟩) (n0 : -1125899906842624 ≤ n) (n1 : n ≤ 1125899906842624) (d1 : d ≤ 1125899906842624) (hk : d.natAbs < k) (hk2 : 10 ≤ k) : ∃ N D : Int, frac_Mul k ⟨n, d⟩ ⟨128, 1⟩ = some (⟨N, D⟩, 0) ∧ FR ⟨N, D⟩ ∧ N * d = 128 * n * D ∧ D ≤ d := by
  have hd0 : 1 ≤ d := h.d0
  have hg1 : Nat.gcd n.natAbs d.natAbs = 1 := h.g
  have h128 : FR ⟨128, 1⟩ := ⟨by decide, by decide, by decide, by decide, by decide⟩
  obtain ⟨g, hg⟩ : ∃ g, Nat.gcd (128 : Int).natAbs d.natAbs = g := ⟨_, rfl⟩
  have gpos : 0 < g := by rw [← hg]; exact Nat.gcd_pos_of_pos_left _ (by decide)
  obtain ⟨u, hu⟩ : g ∣ (128 : Int).natAbs := hg ▸ Nat.gcd_dvd_left _ _
  obtain ⟨v, hv⟩ : g ∣ d.natAbs := hg ▸ Nat.gcd_dvd_right _ _
  have hu' : 128 = g * u := hu
  have u1 : 1 ≤ u := by
    rcases Nat.eq_zero_or_pos u with h | h
    · rw [h] at hu'; omega
    · exact h
  have ule : u ≤ 128 := by rw [hu']; exact Nat.le_mul_of_pos_left _ gpos
  have v1 : 1 ≤ v := by
    rcases Nat.eq_zero_or_pos v with h | h
    · rw [h] at hv; omega
    · exact h
  have vle : v ≤ d.natAbs := by rw [hv]; exact Nat.le_mul_of_pos_left _ gpos
  have hdv : d = (g : Int) * (v : Int) := by rw [← Int.natCast_mul, ← hv]; omega
  have t1 : Int.tdiv 128 ((g : Nat) : Int) = (u : Int) := by
    rw [tdiv_nn (by decide), show (128 : Int) = (g : Int) * (u : Int) by rw [← Int.natCast_mul, ← hu']; rfl]; exact Int.mul_ediv_cancel_left _ (by omega)
  have t2 : Int.tdiv d ((g : Nat) : Int) = (v : Int) := by
    rw [tdiv_nn (by omega), hdv]; exact Int.mul_ediv_cancel_left _ (by omega)
  have huv : Nat.gcd u v = 1 := by
    rw [hu, hv, Nat.gcd_mul_left] at hg
    exact Nat.eq_of_mul_eq_mul_left gpos (by rw [hg, Nat.mul_one])
  have hnv : Nat.gcd n.natAbs v = 1 := Nat.Coprime.coprime_dvd_right ⟨g, by rw [hv, Nat.mul_comm]⟩ hg1
  have b1 : n * (u : Int) ≤ 1125899906842624 * 128 := by
    rcases Int.le_total 0 n with c | c
    · exact Int.mul_le_mul n1 (by omega) (by omega) (by decide)
    · have : n * (u : Int) ≤ 0 := Int.mul_nonpos_of_nonpos_of_nonneg c (by omega)
      omega
  have b2 : -(1125899906842624 * 128) ≤ n * (u : Int) := by
    have : (-n) * (u : Int) ≤ 1125899906842624 * 128 := by
      rcases Int.le_total 0 (-n) with c | c
      · exact Int.mul_le_mul (by omega) (by omega) (by omega) (by decide)
      · have : (-n) * (u : Int) ≤ 0 := Int.mul_nonpos_of_nonpos_of_nonneg c (by omega)
        omega
    rw [Int.neg_mul] at this
    omega
  refine ⟨n * (u : Int), (v : Int), ?_, ⟨by show _ ≤ n * (u : Int); omega, by show n * (u : Int) ≤ _; omega, by show 1 ≤ (v : Int); omega, by show (v : Int) ≤ _; omega, ?_⟩, ?_, by omega⟩
  · unfold frac_Mul frac_both
    rw [bnd (fcheck k _ h hk), bnd (fcheck k _ h128 (by show 1 < k; omega)), bnd (or00 k hk2)]
    dsimp only [Option.bind_some]
    rw [ifn (by decide), bnd (ngcd_eq k n 1 (by omega) (by omega) (by decide) (by decide) (by show 1 < k; omega)), bnd (ngcd_eq k 128 d (by decide) (by decide) (by omega) (by omega) hk), hg, show Nat.gcd n.natAbs (1 : Int).natAbs = 1 from Nat.gcd_one_right _]
    rw [ifp (by decide), ifp (by omega), show Int.tdiv n ((1 : Nat) : Int) = n from Int.tdiv_one _, t1, t2, show Int.tdiv 1 ((1 : Nat) : Int) = 1 by decide, wid (x := n) (by omega) (by omega), wid (x := (u : Int)) (by omega) (by omega), wid (x := (v : Int)) (by omega) (by omega), wid (x := 1) (by decide) (by decide)]
    rw [bnd (mul_eq k n (u : Int) (by omega) (by omega) (by omega) (by omega) (by omega) (by omega))]
    dsimp only
    rw [bnd (mul_eq k (v : Int) 1 (by omega) (by omega) (by decide) (by decide) (by omega) (by omega))]
    dsimp only
    rw [bnd (made_tt k _ _ hk2 (by omega) (by omega) (by omega)), Int.mul_one]
  · show Nat.gcd (n * (u : Int)).natAbs ((v : Int)).natAbs = 1
    rw [Int.natAbs_mul, Int.natAbs_natCast, Int.natAbs_natCast]
    exact Nat.Coprime.mul_left hnv huv
  · show n * (u : Int) * d = 128 * n * (v : Int)
    rw [hdv, show (128 : Int) = (g : Int) * (u : Int) by rw [← Int.natCast_mul, ← hu']; rfl]
    rw [Int.mul_comm ((g : Int) * (u : Int)) n, Int.mul_assoc n, Int.mul_assoc n, Int.mul_comm (g : Int) (u : Int), Int.mul_assoc (u : Int)]
theorem one_ex (k : Nat) (s A : Int) (hA : 1 ≤ A) (hA2 : A ≤ 1125899906842624) (s0 : -1125899906842624 ≤ s) (s1 : s ≤ 1125899906842624) (hk : A.natAbs + 100 < k) : ∃ N D : Int, optics_Centre_1 k A 0 s = some (⟨N, D⟩, 0) ∧ FR ⟨N, D⟩ ∧ N * A = 128 * s * D ∧ D ≤ A := by
  obtain ⟨n, d, e1, h1, q1, n0, n1, dA⟩ := make_ex k s A hA hA2 s0 s1 (by omega)
  have hd0 : 1 ≤ d := h1.d0
  obtain ⟨N, D, e2, h2, q2, D1⟩ := half_frac k n d h1 n0 n1 (by omega) (by omega) (by omega)
  refine ⟨N, D, ?_, h2, ?_, by omega⟩
  · unfold optics_Centre_1
    rw [bnd e1]; dsimp only
    rw [bnd e2]; dsimp only
    rw [bnd (or000 k (by omega))]
  · have e : (N * A) * d = (128 * s * D) * d := by
      calc (N * A) * d = (N * d) * A := by rw [Int.mul_assoc, Int.mul_comm A d, ← Int.mul_assoc]
        _ = (128 * n * D) * A := by rw [q2]
        _ = 128 * (n * A) * D := by rw [Int.mul_assoc (128 * n), Int.mul_comm D A, ← Int.mul_assoc, Int.mul_assoc 128 n A]
        _ = 128 * (s * d) * D := by rw [q1]
        _ = (128 * s * D) * d := by rw [← Int.mul_assoc 128 s d, Int.mul_assoc (128 * s), Int.mul_comm d D, ← Int.mul_assoc]
    exact Int.eq_of_mul_eq_mul_right (by omega) e
theorem centre_lp (k : Nat) (l : List S_Spot) (hp : ∀ p ∈ l, 0 ≤ p.Light ∧ -300 ≤ p.X ∧ p.X ≤ 300 ∧ -300 ≤ p.Y ∧ p.Y ≤ 300) (hl : l.length ≤ 100000) : ∀ (d n : Nat) (sx sy i all : Int), i + d = l.length → 0 ≤ i → d < n → 0 ≤ all → all + sg one (l.drop i.toNat) ≤ 281474976710656 → -601 * all ≤ sx → sx ≤ 601 * all → -601 * all ≤ sy → sy ≤ 601 * all →
    optics_Centre.l0 k l n sx sy i all = some (Sum.inr (sx + sg gx (l.drop i.toNat), sy + sg gy (l.drop i.toNat), all + sg one (l.drop i.toNat))) := by
  intro d
  induction d with
  | zero =>
    intro n sx sy i all hi i0 hn _ _ _ _ _ _
    obtain ⟨n, rfl⟩ : ∃ m, n = m + 1 := ⟨n - 1, by omega⟩
    rw [optics_Centre.l0, ifn (by omega), List.drop_of_length_le (by omega), show sg gx [] = 0 from rfl, show sg gy [] = 0 from rfl, show sg one [] = 0 from rfl, Int.add_zero, Int.add_zero, Int.add_zero]
  | succ d ih =>
    intro n sx sy i all hi i0 hn a0 a1 x0 x1 y0 y1
    obtain ⟨n, rfl⟩ : ∃ m, n = m + 1 := ⟨n - 1, by omega⟩
    obtain ⟨p5, p1, p2, p3, p4⟩ := hp _ (rd_mem i0 (show i < (l.length : Int) by omega))
    have hd := rd_drop l i i0 (by omega)
    have h5 := sg_one_nn (l := l.drop (i + 1).toNat) (fun s h => (hp s (List.mem_of_mem_drop h)).1)
    rw [hd, sg_cons, show one (rd l i).X (rd l i).Y = 1 from rfl, Int.mul_one] at a1
    have b1 : (rd l i).Light * (2 * (rd l i).X + 1) ≤ (rd l i).Light * 601 := Int.mul_le_mul_of_nonneg_left (by omega) p5
    have b2 : (rd l i).Light * (-601) ≤ (rd l i).Light * (2 * (rd l i).X + 1) := Int.mul_le_mul_of_nonneg_left (by omega) p5
    have b3 : (rd l i).Light * (2 * (rd l i).Y + 1) ≤ (rd l i).Light * 601 := Int.mul_le_mul_of_nonneg_left (by omega) p5
    have b4 : (rd l i).Light * (-601) ≤ (rd l i).Light * (2 * (rd l i).Y + 1) := Int.mul_le_mul_of_nonneg_left (by omega) p5
    rw [optics_Centre.l0, ifp (by omega), ifp i0, mx_def, mn_def, ifn (by omega), ifn (by omega), ifn (by omega), wid (x := 281474976710656 - all) (by omega) (by omega), ifn (by omega)]
    rw [wid (x := 2 * (rd l i).X) (by omega) (by omega), wid (x := 2 * (rd l i).X + 1) (by omega) (by omega), wid (x := 2 * (rd l i).Y) (by omega) (by omega), wid (x := 2 * (rd l i).Y + 1) (by omega) (by omega), wid (x := i + 1) (by omega) (by omega), wid (x := all + (rd l i).Light) (by omega) (by omega)]
    rw [wid (x := (rd l i).Light * (2 * (rd l i).X + 1)) (by omega) (by omega), wid (x := (rd l i).Light * (2 * (rd l i).Y + 1)) (by omega) (by omega)]
    rw [wid (x := sx + (rd l i).Light * (2 * (rd l i).X + 1)) (by omega) (by omega), wid (x := sy + (rd l i).Light * (2 * (rd l i).Y + 1)) (by omega) (by omega)]
    rw [ih n _ _ (i + 1) _ (by omega) (by omega) (by omega) (by omega) (by omega) (by omega) (by omega) (by omega) (by omega), hd, sg_cons, sg_cons, sg_cons, show one (rd l i).X (rd l i).Y = 1 from rfl, Int.mul_one, show gx (rd l i).X (rd l i).Y = 2 * (rd l i).X + 1 from rfl, show gy (rd l i).X (rd l i).Y = 2 * (rd l i).Y + 1 from rfl, Int.add_assoc, Int.add_assoc, Int.add_assoc]
theorem lies (k : Nat) (v : List Int) (N D at_ d S M : Int) (h : FR ⟨N, D⟩) (hk : D.natAbs < k) (a0 : -20000 ≤ at_) (a1 : at_ ≤ 20000) (d0 : -64 ≤ d) (d1 : d ≤ 64) (l1 : 1 ≤ v.length) (l2 : v.length ≤ 16) (S1 : 1 ≤ S) (hN : N * S = 8 * M * D)
    (m1 : (at_ - 7 + min 0 (d * ((v.length : Int) - 1))) * S ≤ 8 * M) (m2 : 8 * M ≤ (at_ + 8 + max 0 (d * ((v.length : Int) - 1))) * S) : spykeep3_OpticsTrailsCentre_1 k v ⟨N, D⟩ at_ d = some true := by
  have hD : 1 ≤ D := h.d0
  have n0 := h.n0
  have n1 := h.n1
  obtain ⟨r1, r2⟩ := drift (i := (v.length : Int) - 1) (by omega) (by omega) d0 d1
  rw [Int.mul_comm] at r1 r2
  obtain ⟨f, hf, hf2⟩ := floor_ge k N D hD (by show -4611686018427387904 ≤ N; have : -1152921504606846976 ≤ N := n0; omega) (by have : N ≤ 1152921504606846976 := n1; omega)
  obtain ⟨c, hc, hc2⟩ := ceil_le k N D hD (by have : -1152921504606846976 ≤ N := n0; omega) (by have : N ≤ 1152921504606846976 := n1; omega)
  have e1 : frac_Floor k ⟨N, D⟩ = some f := by
    unfold frac_Floor frac_rounded__num_FloorDiv
    rw [bnd (fcheck k _ h hk), ifn (by decide), bnd hf]; rfl
  have e2 : frac_Ceil k ⟨N, D⟩ = some c := by
    unfold frac_Ceil frac_rounded__num_CeilDiv
    rw [bnd (fcheck k _ h hk), ifn (by decide), bnd hc]; rfl
  have w1 : w64 ((v.length : Int) - 1) = (v.length : Int) - 1 := wid (by omega) (by omega)
  generalize hR : d * ((v.length : Int) - 1) = R at *
  have g1 : at_ - 7 + min 0 R ≤ f := hf2 _ (by
    have q : (at_ - 7 + min 0 R) * D * S ≤ N * S := by
      rw [hN, Int.mul_assoc, Int.mul_comm D S, ← Int.mul_assoc]
      exact Int.mul_le_mul_of_nonneg_right m1 (by omega)
    exact Int.le_of_mul_le_mul_right q (by omega))
  have g2 : c ≤ at_ + 8 + max 0 R := hc2 _ (by
    have q : N * S ≤ (at_ + 8 + max 0 R) * D * S := by
      rw [hN, Int.mul_assoc (at_ + 8 + max 0 R), Int.mul_comm D S, ← Int.mul_assoc (at_ + 8 + max 0 R)]
      exact Int.mul_le_mul_of_nonneg_right m2 (by omega)
    exact Int.le_of_mul_le_mul_right q (by omega))
  unfold spykeep3_OpticsTrailsCentre_1
  rw [bnd e1, w1, hR, wid (x := R) (by omega) (by omega), mn_def, mx_def, wid (x := at_ - 7) (by omega) (by omega), wid (x := at_ + 8) (by omega) (by omega), wid (x := at_ - 7 + min 0 R) (by omega) (by omega), wid (x := at_ + 8 + max 0 R) (by omega) (by omega), ifp (by omega), bnd e2, decide_eq_true g2]
theorem law_l0 (k : Nat) (L : List Int) (m : Int) (hm : m ≤ 1000) : ∀ (d n : Nat) (out : List Int) (i pos : Int), i + d = m → 0 ≤ i → d < n → 0 ≤ pos → pos + d ≤ 1000000 → out.length + d ≤ 1000 → AllIn out 0 5000 → ∃ out' pos', spykeep3_OpticsTrailsCentre.l0 k m L n i pos out = some (pos', out') ∧ out'.length = out.length + d ∧ AllIn out' 0 5000 ∧ sm (fun x => x) out ≤ sm (fun x => x) out' := by
  intro d
  induction d with
  | zero =>
    intro n out i pos hi i0 hn p0 p1 ho ha
    obtain ⟨n, rfl⟩ : ∃ z, n = z + 1 := ⟨n - 1, by omega⟩
    exact ⟨out, pos, by rw [spykeep3_OpticsTrailsCentre.l0, ifn (by omega)], by omega, ha, Int.le_refl _⟩
  | succ d ih =>
    intro n out i pos hi i0 hn p0 p1 ho ha
    obtain ⟨n, rfl⟩ : ∃ z, n = z + 1 := ⟨n - 1, by omega⟩
    obtain ⟨v, hv, v0, v1⟩ := next_ex k L pos 5000 (by decide) (by decide) p0 (by omega)
    obtain ⟨out', pos', e1, e2, e3, e4⟩ := ih n (out ++ [v]) (i + 1) (pos + 1) (by omega) (by omega) (by omega) (by omega) (by omega) (by rw [List.length_append, List.length_singleton]; omega) (ha.push v0 (by omega))
    rw [sm_append] at e4
    refine ⟨out', pos', ?_, by rw [List.length_append, List.length_singleton] at e2; omega, e3, by
      have : sm (fun x : Int => x) [v] = v + 0 := rfl
      rw [this] at e4; omega⟩
    rw [spykeep3_OpticsTrailsCentre.l0, ifp (by omega), bnd hv]; dsimp only
    rw [ifp (by omega), wid (x := i + 1) (by omega) (by omega)]
    exact e1
theorem sm_up : ∀ (a : List Int), AllIn a 0 5000 → 0 ≤ sm (fun x => x) a ∧ sm (fun x => x) a ≤ 5000 * a.length
  | [], _ => ⟨Int.le_refl 0, Int.le_refl 0⟩
  | x :: a, h => by
    have h1 := h x (List.mem_cons_self ..)
    have h2 := sm_up a (fun q hq => h q (List.mem_cons_of_mem _ hq))
    show 0 ≤ x + sm (fun x => x) a ∧ x + sm (fun x => x) a ≤ 5000 * ((a.length + 1 : Nat) : Int)
    omega
theorem ms_small (at_ d : Int) (a0 : -20000 ≤ at_) (a1 : at_ ≤ 20000) (d0 : -64 ≤ d) (d1 : d ≤ 64) (a : List Int) (hA : AllIn a 0 5000) (hl : a.length ≤ 16) : -240000000 ≤ ms at_ d 0 a ∧ ms at_ d 0 a ≤ 240000000 := by
  obtain ⟨s0, s1⟩ := sm_up a hA
  obtain ⟨i1, i2⟩ := ms_in at_ d (-22000) 22000 a 0 (hA.mono (by decide) (by decide)) (fun j h1 h2 => by
    obtain ⟨r1, r2⟩ := drift (i := j) (d := d) (by omega) (by omega) d0 d1
    omega)
  omega
theorem axis_law (k : Nat) (v : List Int) (N D at_ d A : Int) (h : FR ⟨N, D⟩) (hk : D.natAbs < k) (a0 : -20000 ≤ at_) (a1 : at_ ≤ 20000) (d0 : -64 ≤ d) (d1 : d ≤ 64) (l1 : 1 ≤ v.length) (l2 : v.length ≤ 16) (hv : AllIn v 0 5000) (S1 : 1 ≤ sm (fun x => x) v) (hA : A = 16777216 * sm (fun x => x) v) (hN : N * A = 128 * (1048576 * ms at_ d 0 v) * D) : spykeep3_OpticsTrailsCentre_1 k v ⟨N, D⟩ at_ d = some true := by
  refine lies k v N D at_ d (sm (fun x => x) v) (ms at_ d 0 v) h hk a0 a1 d0 d1 l1 l2 S1 ?_ ?_ ?_
  · have e : (N * sm (fun x => x) v) * 16777216 = (8 * ms at_ d 0 v * D) * 16777216 := by
      rw [hA, Int.mul_comm 16777216, ← Int.mul_assoc] at hN
      rw [hN]
      have q : 128 * (1048576 * ms at_ d 0 v) = 8 * ms at_ d 0 v * 16777216 := by omega
      rw [q, Int.mul_assoc, Int.mul_comm 16777216 D, ← Int.mul_assoc]
    exact Int.eq_of_mul_eq_mul_right (by decide) e
  · exact (ms_in at_ d _ (at_ + 8 + max 0 (d * ((v.length : Int) - 1))) v 0 (hv.mono (by decide) (by decide)) (fun j h1 h2 => by
      obtain ⟨r1, r2⟩ := run_in (n := (v.length : Int) - 1) (j := j) (d := d) (by omega) (by omega)
      omega)).1
  · exact (ms_in at_ d (at_ - 7 + min 0 (d * ((v.length : Int) - 1))) _ v 0 (hv.mono (by decide) (by decide)) (fun j h1 h2 => by
      obtain ⟨r1, r2⟩ := run_in (n := (v.length : Int) - 1) (j := j) (d := d) (by omega) (by omega)
      omega)).2
theorem law (k : Nat) (p : S_Point) (dx dy : Int) (L : List Int) (n : Int) (hk : 2000000000000 ≤ k) : spykeep3_OpticsTrailsCentre k p dx dy L n = some true := by
  obtain ⟨q, hq, q0, q1⟩ := range_ex k L 0 1 5000 (by decide) (by decide) (by decide) (by decide) (by decide) (by decide)
  obtain ⟨m, hm, m0, m1⟩ := next_ex k L (0 + 1) 16 (by decide) (by decide) (by decide) (by decide)
  obtain ⟨a, pos', e2, b1, b2, b3⟩ := law_l0 k L m (by omega) m.toNat k [q] 0 (0 + 1 + 1) (by omega) (by decide) (by omega) (by decide) (by omega) (by rw [List.length_singleton]; omega) (fun x hx => by rw [List.mem_singleton] at hx; omega)
  rw [List.length_singleton] at b1
  rw [show sm (fun x : Int => x) [q] = q + 0 from rfl] at b3
  obtain ⟨u0, u1⟩ := sm_up a b2
  obtain ⟨w, hw, w1⟩ := half_ex k n
  obtain ⟨h, hh, h1⟩ := half_ex k (w64 (Int.tdiv n 3))
  have px0 := Int.lt_tmod_of_pos p.X (show (0 : Int) < 20000 by decide)
  have px1 := Int.tmod_lt_of_pos p.X (show (0 : Int) < 20000 by decide)
  have py0 := Int.lt_tmod_of_pos p.Y (show (0 : Int) < 20000 by decide)
  have py1 := Int.tmod_lt_of_pos p.Y (show (0 : Int) < 20000 by decide)
  have dx0 := Int.lt_tmod_of_pos dx (show (0 : Int) < 65 by decide)
  have dx1 := Int.tmod_lt_of_pos dx (show (0 : Int) < 65 by decide)
  have dy0 := Int.lt_tmod_of_pos dy (show (0 : Int) < 65 by decide)
  have dy1 := Int.tmod_lt_of_pos dy (show (0 : Int) < 65 by decide)
  have H : TH ⟨Int.tmod p.X 20000, Int.tmod p.Y 20000⟩ (Int.tmod dx 65) (Int.tmod dy 65) w h := ⟨by show -20000 ≤ Int.tmod p.X 20000; omega, by show Int.tmod p.X 20000 ≤ 20000; omega, by show -20000 ≤ Int.tmod p.Y 20000; omega, by show Int.tmod p.Y 20000 ≤ 20000; omega, by omega, by omega, by omega, by omega, w1, h1⟩
  obtain ⟨t, f1, f2, f3⟩ := trail_ex k a H (b2.mono (by decide) (by decide)) (by omega) (by omega)
  have hone : sg one t = 16777216 * sm (fun x => x) a := by rw [f2, trS_one H a 0 (by decide) (by omega)]
  have hx : sg gx t = 1048576 * ms (Int.tmod p.X 20000) (Int.tmod dx 65) 0 a := by rw [f2, trS_x H]
  have hy : sg gy t = 1048576 * ms (Int.tmod p.Y 20000) (Int.tmod dy 65) 0 a := by rw [f2, trS_y H]
  have mx1 := ms_small (Int.tmod p.X 20000) (Int.tmod dx 65) (by omega) (by omega) (by omega) (by omega) a b2 (by omega)
  have my1 := ms_small (Int.tmod p.Y 20000) (Int.tmod dy 65) (by omega) (by omega) (by omega) (by omega) a b2 (by omega)
  have hS1 : 1 ≤ sm (fun x => x) a := by omega
  have hS2 : sm (fun x => x) a ≤ 80000 := by omega
  have tn := f3.n
  have c0 := centre_lp k t f3.s (by omega) t.length k 0 0 0 0 (by omega) (by decide) (by omega) (by decide) (by rw [show (0 : Int).toNat = 0 from rfl, List.drop_zero]; omega) (by decide) (by decide) (by decide) (by decide)
  rw [show (0 : Int).toNat = 0 from rfl, List.drop_zero, Int.zero_add, Int.zero_add, Int.zero_add, hx, hy, hone] at c0
  obtain ⟨N1, D1, x1, x2, x3, x4⟩ := one_ex k (1048576 * ms (Int.tmod p.X 20000) (Int.tmod dx 65) 0 a) (16777216 * sm (fun x => x) a) (by omega) (by omega) (by omega) (by omega) (by omega)
  obtain ⟨N2, D2, y1, y2, y3, y4⟩ := one_ex k (1048576 * ms (Int.tmod p.Y 20000) (Int.tmod dy 65) 0 a) (16777216 * sm (fun x => x) a) (by omega) (by omega) (by omega) (by omega) (by omega)
  have xd : 1 ≤ D1 := x2.d0
  have yd : 1 ≤ D2 := y2.d0
  have hc : optics_Centre k t = some (⟨N1, D1⟩, ⟨N2, D2⟩, 0) := by
    unfold optics_Centre
    rw [bnd c0]
    dsimp only [Sum.elim_inr]
    rw [ifn (by omega), bnd x1]; dsimp only
    rw [bnd y1]; dsimp only
    rw [ifn (by decide)]
  have lx := axis_law k a N1 D1 (Int.tmod p.X 20000) (Int.tmod dx 65) _ x2 (by omega) (by omega) (by omega) (by omega) (by omega) (by omega) (by omega) b2 hS1 rfl x3
  have ly := axis_law k a N2 D2 (Int.tmod p.Y 20000) (Int.tmod dy 65) _ y2 (by omega) (by omega) (by omega) (by omega) (by omega) (by omega) (by omega) b2 hS1 rfl y3
  unfold spykeep3_OpticsTrailsCentre
  rw [bnd hq]; dsimp only
  rw [bnd hm]; dsimp only
  rw [bnd e2]; dsimp only
  rw [bnd hw, bnd hh, bnd f1]; dsimp only
  rw [bnd hc]; dsimp only
  rw [bnd (spreads_eq k (by omega)), ifn (by simp), ifn (by simp), ifn (by simp), bnd lx, ifp rfl, bnd ly]
theorem law_ex (p : S_Point) (dx dy : Int) (L : List Int) (n : Int) (_ : (Lit.int .i64 p.X).wf = true) (_ : (Lit.int .i64 p.Y).wf = true) (_ : (Lit.int .i64 dx).wf = true) (_ : (Lit.int .i64 dy).wf = true) (_ : (Lit.int .i64 n).wf = true) : ∃ k, spykeep3_OpticsTrailsCentre k p dx dy L n = some true := ⟨2000000000000, law 2000000000000 p dx dy L n (Nat.le_refl _)⟩

end Go.Sp.X4
