import Derived.Test.YtjdjbmokjhooaaaFT4
import Derived.KernelRfl
import Derived.Laws.BitsLemmas
import Derived.Laws.Bits64
import Derived.Laws.BitsAllLaws
import Derived.Laws.BitsLemmas
import Derived.Laws.Bits64
import Derived.Laws.BitsAllLaws
namespace Go.Sp.T4
open Go Go.Sp
set_option linter.unusedVariables false
theorem bnd {α β : Type} {x : Option α} {g : α → Option β} {v : α} (h : x = some v) : x.bind g = g v := by rw [h]; rfl
theorem ifp {α : Type} {c : Prop} [Decidable c] {x y : α} (h : c) : (if c then x else y) = x := if_pos h
theorem ifn {α : Type} {c : Prop} [Decidable c] {x y : α} (h : ¬ c) : (if c then x else y) = y := if_neg h
theorem rd_mem {α : Type} [Inhabited α] {l : List α} {i : Int} (h0 : 0 ≤ i) (h1 : i < (l.length : Int)) : rd l i ∈ l := by
  obtain ⟨h, e⟩ := rd_lt h0 h1
  rw [e]; exact List.getElem_mem h
theorem wid {x : Int} (h : -9223372036854775808 ≤ x) (h' : x ≤ 9223372036854775807) : w64 x = x := w64_of h h'
theorem wuid {x : Int} (h : 0 ≤ x) (h' : x ≤ 18446744073709551615) : u64 x = x := u64_of h h'
theorem mul_le {a b A B : Int} (h1 : 0 ≤ a) (h2 : a ≤ A) (h3 : 0 ≤ b) (h4 : b ≤ B) : 0 ≤ a * b ∧ a * b ≤ A * B :=
  ⟨Int.mul_nonneg h1 h3, Int.mul_le_mul h2 h4 h3 (by omega)⟩
theorem tdiv_nn {a b : Int} (h : 0 ≤ a) : Int.tdiv a b = a / b := Int.tdiv_eq_ediv_of_nonneg h
theorem tmod_nn {a b : Int} (h : 0 ≤ a) : Int.tmod a b = a % b := Int.tmod_eq_emod_of_nonneg h
def AllIn (l : List Int) (lo hi : Int) : Prop := ∀ x, x ∈ l → lo ≤ x ∧ x ≤ hi
theorem AllIn.nil {lo hi : Int} : AllIn [] lo hi := fun x h => by cases h
theorem AllIn.push {l : List Int} {lo hi x : Int} (h : AllIn l lo hi) (h0 : lo ≤ x) (h1 : x ≤ hi) : AllIn (l ++ [x]) lo hi := by
  intro y hy
  rcases List.mem_append.mp hy with hy | hy
  · exact h y hy
  · simp only [List.mem_singleton] at hy; subst hy; exact ⟨h0, h1⟩
theorem AllIn.rd {l : List Int} {lo hi i : Int} (h : AllIn l lo hi) (h0 : 0 ≤ i) (h1 : i < (l.length : Int)) : lo ≤ rd l i ∧ rd l i ≤ hi := h _ (rd_mem h0 h1)
theorem AllIn.mono {l : List Int} {lo hi lo' hi' : Int} (h : AllIn l lo hi) (h0 : lo' ≤ lo) (h1 : hi ≤ hi') : AllIn l lo' hi' := fun x hx => by have := h x hx; omega
theorem rd_set_eq (l : List Int) (i x : Int) (h0 : 0 ≤ i) (h1 : i < (l.length : Int)) : rd (l.set i.toNat x) i = x := by
  obtain ⟨h, e⟩ := rd_lt (xs := l.set i.toNat x) h0 (by simp; omega)
  rw [e]; simp
theorem rd_set_ne (l : List Int) (i j x : Int) (h0 : 0 ≤ i) (hj : 0 ≤ j) (h1 : j < (l.length : Int)) (hne : j ≠ i) : rd (l.set i.toNat x) j = rd l j := by
  obtain ⟨h, e⟩ := rd_lt (xs := l.set i.toNat x) hj (by simp; omega)
  obtain ⟨h', e'⟩ := rd_lt (xs := l) hj h1
  rw [e, e', List.getElem_set, if_neg (by omega)]
theorem rd_push_old (l : List Int) (x i : Int) (h0 : 0 ≤ i) (h1 : i < (l.length : Int)) : rd (l ++ [x]) i = rd l i := by
  obtain ⟨h, e⟩ := rd_lt (xs := l ++ [x]) h0 (by simp; omega)
  obtain ⟨h', e'⟩ := rd_lt (xs := l) h0 h1
  rw [e, e', List.getElem_append_left h']
theorem rd_push_new (l : List Int) (x i : Int) (h1 : i = (l.length : Int)) : rd (l ++ [x]) i = x := by
  obtain ⟨h, e⟩ := rd_lt (xs := l ++ [x]) (i := i) (by omega) (by simp; omega)
  rw [e, List.getElem_append_right (by omega)]
  simp
theorem below_ex (k : Nat) (x n : Int) (h1 : 1 ≤ n) (h2 : n ≤ 4611686018427387904) : ∃ v, spymake_Below k x n = some v ∧ 0 ≤ v ∧ v < n := by
  have e1 := Int.tmod_lt_of_pos x (show 0 < n by omega)
  have e2 := Int.lt_tmod_of_pos x (show 0 < n by omega)
  unfold spymake_Below
  rw [ifn (by omega), ifp (by omega)]
  by_cases c : Int.tmod x n < 0
  · rw [ifp c]
    refine ⟨_, rfl, ?_, ?_⟩ <;> rw [wid (by omega) (by omega)] <;> omega
  · rw [ifn c]
    exact ⟨_, rfl, by omega, by omega⟩
theorem half_ex (k : Nat) (n : Int) : ∃ h, spykeep3_half k n = some h ∧ (h = 1 ∨ h = 2 ∨ h = 4) := by
  unfold spykeep3_half
  obtain ⟨v, e, v0, v1⟩ := below_ex k n 3 (by decide) (by decide)
  rw [bnd e, ifp (by omega)]
  have : v = 0 ∨ v = 1 ∨ v = 2 := by omega
  rcases this with rfl | rfl | rfl
  · exact ⟨1, by kernel_rfl, .inl rfl⟩
  · exact ⟨2, by kernel_rfl, .inr (.inl rfl)⟩
  · exact ⟨4, by kernel_rfl, .inr (.inr rfl)⟩
/-- The weight of all grid points before a point. -/
def bf (d n : Int) : Int := (optics_before 0 d n).getD 0
theorem before_eq (k : Nat) (d n : Int) : optics_before k d n = some (bf d n) := by
  unfold bf optics_before
  by_cases c1 : d ≤ w64 (0 - n)
  · rw [ifp c1]; rfl
  rw [ifn c1]
  by_cases c2 : d ≤ 0
  · rw [ifp c2]; rfl
  rw [ifn c2]
  by_cases c3 : d < n
  · rw [ifp c3]; rfl
  rw [ifn c3]; rfl
/-- The weight of the cell j of a footprint whose position has r grid points before it in its cell. -/
def wt (r h j : Int) : Int := w64 (bf (16 * j - r + 16) (w64 (16 * h)) - bf (16 * j - r) (w64 (16 * h)))
def tabL (r h : Int) : Nat → Int → List (Int × Int)
  | 0, _ => []
  | d + 1, j => if wt r h j > 0 then (j, w64 (w64 (Int.tdiv 16 (w64 (h * h))) * wt r h j)) :: tabL r h d (j + 1) else tabL r h d (j + 1)
def tab (r h : Int) : List (Int × Int) := tabL r h (2 * h.toNat + 3) (-h - 1)
def part (home : Int) (p : Int × Int) : S_Part := ⟨home + p.1, p.2⟩
theorem axis_l0 (k : Nat) (home h g r : Int) (hg : g = 16 * home + r) (hh : 1 ≤ h ∧ h ≤ 4) (r0 : 0 ≤ r) (r1 : r < 16) (H0 : -100000 ≤ home) (H1 : home ≤ 100000) : ∀ (d n : Nat) (out : List S_Part) (j : Int), j + d = h + 2 → d < n → -10 ≤ j → d ≤ 20 → out.length + d ≤ 100 →
    optics_Axis.l0 k home h g n out (home + j) = some (out ++ (tabL r h d j).map (part home)) := by
  intro d
  induction d with
  | zero =>
    intro n out j hj hn j0 hd hl
    obtain ⟨n, rfl⟩ : ∃ m, n = m + 1 := ⟨n - 1, by omega⟩
    rw [optics_Axis.l0, wid (x := home + h) (by omega) (by omega), wid (x := home + h + 1) (by omega) (by omega), ifn (by omega), tabL, List.map_nil, List.append_nil]
  | succ d ih =>
    intro n out j hj hn j0 hd hl
    obtain ⟨n, rfl⟩ : ∃ m, n = m + 1 := ⟨n - 1, by omega⟩
    rw [optics_Axis.l0, wid (x := home + h) (by omega) (by omega), wid (x := home + h + 1) (by omega) (by omega), ifp (by omega), wid (x := 16 * (home + j)) (by omega) (by omega), wid (x := 16 * (home + j) - g) (by omega) (by omega), wid (x := 16 * (home + j) - g + 16) (by omega) (by omega), bnd (before_eq k _ _), bnd (before_eq k _ _)]
    rw [show 16 * (home + j) - g = 16 * j - r by omega, tabL, wid (x := home + j + 1) (by omega) (by omega), show home + j + 1 = home + (j + 1) by omega]
    have e : w64 (bf (16 * j - r + 16) (w64 (16 * h)) - bf (16 * j - r) (w64 (16 * h))) = wt r h j := rfl
    rw [e]
    by_cases c : wt r h j > 0
    · rw [ifp c, if_pos c, ifp (by omega), ih n _ (j + 1) (by omega) (by omega) (by omega) (by omega) (by rw [List.length_append, List.length_cons, List.length_nil]; omega), List.map_cons, List.append_assoc]
      rfl
    · rw [ifn c, if_neg c, ih n _ (j + 1) (by omega) (by omega) (by omega) (by omega) (by omega)]
theorem floor16 (k : Nat) (a : Int) (h0 : -4611686018427387904 ≤ a) (h1 : a ≤ 4611686018427387904) : num_FloorDiv k a 16 = some (a / 16) := by
  have t1 := Int.mul_tdiv_add_tmod a 16
  have t2 := Int.tmod_lt_of_pos a (show (0 : Int) < 16 by decide)
  have t3 := Int.lt_tmod_of_pos a (show (0 : Int) < 16 by decide)
  unfold num_FloorDiv
  rw [ifn (by decide), ifp (by decide)]
  by_cases c : Int.tmod a 16 < 0
  · rw [ifp c, wid (x := Int.tdiv a 16) (by omega) (by omega), wid (by omega) (by omega)]
    congr 1; omega
  · rw [ifn c, wid (by omega) (by omega)]
    congr 1; omega
theorem reach_eq (k : Nat) (h : Int) (hh : h = 1 ∨ h = 2 ∨ h = 4) : optics_Reach k h = some h := by
  rcases hh with rfl | rfl | rfl <;> kernel_rfl
theorem axis_eq (k : Nat) (at_ h : Int) (a0 : -65536 ≤ at_) (a1 : at_ ≤ 65536) (hh : h = 1 ∨ h = 2 ∨ h = 4) (hk : 30 ≤ k) : optics_Axis k at_ h = some ((tab (at_ / 16 % 16) h).map (part (at_ / 16 / 16)), 0) := by
  have h2 : h * h = 1 ∨ h * h = 4 ∨ h * h = 16 := by rcases hh with rfl | rfl | rfl <;> decide
  unfold optics_Axis
  rw [ifn (by omega), ifn (by omega), bnd (reach_eq k h hh), ifn (by omega), bnd (floor16 k at_ (by omega) (by omega)), bnd (floor16 k (at_ / 16) (by omega) (by omega)), ifp (by rw [wid (by omega) (by omega)]; omega), wid (x := at_ / 16 / 16 - h) (by omega) (by omega), wid (x := at_ / 16 / 16 - h - 1) (by omega) (by omega), show at_ / 16 / 16 - h - 1 = at_ / 16 / 16 + (-h - 1) by omega]
  rw [bnd (axis_l0 k (at_ / 16 / 16) h (at_ / 16) (at_ / 16 % 16) (by omega) (by omega) (by omega) (by omega) (by omega) (by omega) (2 * h.toNat + 3) k [] (-h - 1) (by omega) (by omega) (by omega) (by omega) (by simp; omega))]
  rfl
/-- A sum over a list. -/
def sm {α : Type} (f : α → Int) : List α → Int
  | [] => 0
  | x :: xs => f x + sm f xs
theorem sm_append {α : Type} (f : α → Int) (a b : List α) : sm f (a ++ b) = sm f a + sm f b := by
  induction a with
  | nil => simp [sm]
  | cons x a ih => rw [List.cons_append, sm, sm, ih]; omega
theorem sm_map {α β : Type} (f : β → Int) (g : α → β) (l : List α) : sm f (l.map g) = sm (fun x => f (g x)) l := by
  induction l with
  | nil => rfl
  | cons x l ih => rw [List.map_cons, sm, sm, ih]
theorem sm_mul {α : Type} (f : α → Int) (c : Int) (l : List α) : sm (fun x => f x * c) l = sm f l * c := by
  induction l with
  | nil => simp [sm]
  | cons x l ih => rw [sm, sm, ih, Int.add_mul]
theorem sm_add {α : Type} (f g : α → Int) (l : List α) : sm (fun x => f x + g x) l = sm f l + sm g l := by
  induction l with
  | nil => rfl
  | cons x l ih => rw [sm, sm, sm, ih]; omega
theorem sm_congr {α : Type} {f g : α → Int} {l : List α} (h : ∀ x, x ∈ l → f x = g x) : sm f l = sm g l := by
  induction l with
  | nil => rfl
  | cons x l ih => rw [sm, sm, h x (by simp), ih (fun y hy => h y (by simp [hy]))]
theorem sm_flatMap {α β : Type} (f : β → Int) (g : α → List β) (l : List α) : sm f (l.flatMap g) = sm (fun x => sm f (g x)) l := by
  induction l with
  | nil => rfl
  | cons x l ih => rw [List.flatMap_cons, sm_append, sm, ih]
def good (r h : Int) : Bool := (tab r h).all (fun p => decide (-5 ≤ p.1 ∧ p.1 ≤ 5 ∧ 1 ≤ p.2 ∧ p.2 ≤ 4096)) && decide ((tab r h).length ≤ 11) && decide (sm (·.2) (tab r h) = 4096) && decide (sm (fun p => p.2 * (2 * p.1 + 1)) (tab r h) = 512 * r + 256)
theorem good_all : ∀ r : Fin 16, ∀ h ∈ [1, 2, 4], good (r.val : Int) h = true := by decide +kernel
theorem tab_good (r h : Int) (r0 : 0 ≤ r) (r1 : r < 16) (hh : h = 1 ∨ h = 2 ∨ h = 4) : (∀ p, p ∈ tab r h → -5 ≤ p.1 ∧ p.1 ≤ 5 ∧ 1 ≤ p.2 ∧ p.2 ≤ 4096) ∧ (tab r h).length ≤ 11 ∧ sm (·.2) (tab r h) = 4096 ∧ sm (fun p => p.2 * (2 * p.1 + 1)) (tab r h) = 512 * r + 256 := by
  have g := good_all ⟨r.toNat, by omega⟩ h (by rcases hh with rfl | rfl | rfl <;> simp)
  dsimp only at g
  rw [show ((r.toNat : Nat) : Int) = r by omega] at g
  unfold good at g
  simp only [Bool.and_eq_true, decide_eq_true_eq, List.all_eq_true] at g
  exact ⟨fun p hp => g.1.1.1 p hp, g.1.1.2, g.1.2, g.2⟩
/-- The spots of a footprint, about its home cell. -/
def foot (rx ry wide high : Int) : List S_Spot := (tab ry high).flatMap fun r => (tab rx wide).map fun c => ⟨c.1, r.1, c.2 * r.2⟩
def move (hx hy : Int) (p : S_Spot) : S_Spot := ⟨hx + p.X, hy + p.Y, p.Light⟩
theorem rd_map {α β : Type} [Inhabited α] [Inhabited β] (f : α → β) (l : List α) (i : Int) (h0 : 0 ≤ i) (h1 : i < (l.length : Int)) : rd (l.map f) i = f (rd l i) := by
  obtain ⟨h, e⟩ := rd_lt (xs := l.map f) h0 (by rw [List.length_map]; exact h1)
  obtain ⟨h', e'⟩ := rd_lt (xs := l) h0 h1
  rw [e, e', List.getElem_map]
theorem rd_drop {α : Type} [Inhabited α] (l : List α) (i : Int) (h0 : 0 ≤ i) (h1 : i < (l.length : Int)) : l.drop i.toNat = rd l i :: l.drop (i + 1).toNat := by
  obtain ⟨h, e⟩ := rd_lt (xs := l) h0 h1
  rw [e, show (i + 1).toNat = i.toNat + 1 by omega]
  exact List.drop_eq_getElem_cons h
theorem point_l1 (k : Nat) (hx hy : Int) (X : List (Int × Int)) (Y : List S_Part) (y : Int) (r : Int × Int) (hr : rd Y y = part hy r) (hr2 : 0 ≤ r.2 ∧ r.2 ≤ 4096) (hX : ∀ p, p ∈ X → 0 ≤ p.2 ∧ p.2 ≤ 4096) (hXl : X.length ≤ 100) : ∀ (d n : Nat) (out : List S_Spot) (i : Int), i + d = X.length → 0 ≤ i → d < n → out.length + d ≤ 100000 →
    optics_Point.l1 k (X.map (part hx)) Y y n out i = some (out ++ ((X.drop i.toNat).map fun c => move hx hy ⟨c.1, r.1, c.2 * r.2⟩)) := by
  intro d
  induction d with
  | zero =>
    intro n out i hi i0 hn hl
    obtain ⟨n, rfl⟩ : ∃ m, n = m + 1 := ⟨n - 1, by omega⟩
    rw [optics_Point.l1, ifn (by rw [List.length_map]; omega), List.drop_of_length_le (by omega), List.map_nil, List.append_nil]
  | succ d ih =>
    intro n out i hi i0 hn hl
    obtain ⟨n, rfl⟩ : ∃ m, n = m + 1 := ⟨n - 1, by omega⟩
    have hp := hX _ (rd_mem i0 (show i < (X.length : Int) by omega))
    have hm := mul_le hp.1 hp.2 hr2.1 hr2.2
    rw [optics_Point.l1, ifp (by rw [List.length_map]; omega), ifp i0, ifp (by omega), wid (x := i + 1) (by omega) (by omega), rd_map (part hx) X i i0 (by omega), hr]
    unfold part
    dsimp only
    rw [wid (x := (rd X i).2 * r.2) (by omega) (by omega), ← show part hx = fun p => (⟨hx + p.1, p.2⟩ : S_Part) from rfl]
    rw [ih n _ (i + 1) (by omega) (by omega) (by omega) (by rw [List.length_append, List.length_cons, List.length_nil]; omega), rd_drop X i i0 (by omega), List.map_cons, List.append_assoc]
    rfl
theorem point_l0 (k : Nat) (hx hy : Int) (X Y : List (Int × Int)) (hX : ∀ p, p ∈ X → 0 ≤ p.2 ∧ p.2 ≤ 4096) (hY : ∀ p, p ∈ Y → 0 ≤ p.2 ∧ p.2 ≤ 4096) (hXl : X.length ≤ 11) (hYl : Y.length ≤ 11) (hk : 30 ≤ k) : ∀ (d n : Nat) (out : List S_Spot) (i : Int), i + d = Y.length → 0 ≤ i → d < n → out.length + 11 * d ≤ 1000 →
    optics_Point.l0 k (Y.map (part hy)) (X.map (part hx)) n out i = some (out ++ (((Y.drop i.toNat).flatMap fun r => X.map fun c => (⟨c.1, r.1, c.2 * r.2⟩ : S_Spot)).map (move hx hy))) := by
  intro d
  induction d with
  | zero =>
    intro n out i hi i0 hn hl
    obtain ⟨n, rfl⟩ : ∃ m, n = m + 1 := ⟨n - 1, by omega⟩
    rw [optics_Point.l0, ifn (by rw [List.length_map]; omega), List.drop_of_length_le (by omega), List.flatMap_nil, List.map_nil, List.append_nil]
  | succ d ih =>
    intro n out i hi i0 hn hl
    obtain ⟨n, rfl⟩ : ∃ m, n = m + 1 := ⟨n - 1, by omega⟩
    have hp := hY _ (rd_mem i0 (show i < (Y.length : Int) by omega))
    rw [optics_Point.l0, ifp (by rw [List.length_map]; omega), ifp i0, bnd (point_l1 k hx hy X _ i (rd Y i) (rd_map (part hy) Y i i0 (by omega)) hp hX (by omega) X.length k out 0 (by simp) (by decide) (by omega) (by omega)), wid (x := i + 1) (by omega) (by omega)]
    rw [ih n _ (i + 1) (by omega) (by omega) (by omega) (by rw [List.length_append, List.length_map, List.length_drop]; omega), rd_drop Y i i0 (by omega), List.flatMap_cons, List.map_append, List.append_assoc, List.map_map]
    rfl
theorem or00 (k : Nat) (hk : 10 ≤ k) : cmp_Or_Errno k [0, 0] = some 0 := by
  obtain ⟨k, rfl⟩ : ∃ j, k = j + 10 := ⟨k - 10, by omega⟩
  kernel_rfl
theorem point_eq (k : Nat) (px py wide high : Int) (x0 : -65536 ≤ px) (x1 : px ≤ 65536) (y0 : -65536 ≤ py) (y1 : py ≤ 65536) (hw : wide = 1 ∨ wide = 2 ∨ wide = 4) (hh : high = 1 ∨ high = 2 ∨ high = 4) (hk : 30 ≤ k) :
    optics_Point k ⟨px, py⟩ wide high = some ((foot (px / 16 % 16) (py / 16 % 16) wide high).map (move (px / 16 / 16) (py / 16 / 16)), 0) := by
  obtain ⟨a1, a2, _⟩ := tab_good (px / 16 % 16) wide (by omega) (by omega) hw
  obtain ⟨b1, b2, _⟩ := tab_good (py / 16 % 16) high (by omega) (by omega) hh
  unfold optics_Point
  dsimp only
  rw [bnd (axis_eq k px wide x0 x1 hw hk)]
  dsimp only
  rw [bnd (axis_eq k py high y0 y1 hh hk)]
  dsimp only
  rw [bnd (or00 k (by omega)), ifn (by decide)]
  rw [bnd (point_l0 k _ _ _ _ (fun p hp => by have := a1 p hp; omega) (fun p hp => by have := b1 p hp; omega) a2 b2 hk _ k [] 0 (by rw [Int.zero_add]) (by decide) (by omega) (by simp; omega))]
  rfl
/-- What is known of a footprint. -/
theorem foot_good (rx ry wide high : Int) (x0 : 0 ≤ rx) (x1 : rx < 16) (y0 : 0 ≤ ry) (y1 : ry < 16) (hw : wide = 1 ∨ wide = 2 ∨ wide = 4) (hh : high = 1 ∨ high = 2 ∨ high = 4) :
    (∀ p, p ∈ foot rx ry wide high → -5 ≤ p.X ∧ p.X ≤ 5 ∧ -5 ≤ p.Y ∧ p.Y ≤ 5 ∧ 0 ≤ p.Light ∧ p.Light ≤ 16777216) ∧ (foot rx ry wide high).length ≤ 121 ∧ sm (·.Light) (foot rx ry wide high) = 16777216 ∧
    sm (fun p => p.Light * (2 * p.X + 1)) (foot rx ry wide high) = 1048576 * (2 * rx + 1) ∧ sm (fun p => p.Light * (2 * p.Y + 1)) (foot rx ry wide high) = 1048576 * (2 * ry + 1) := by
  obtain ⟨a1, a2, a3, a4⟩ := tab_good rx wide x0 x1 hw
  obtain ⟨b1, b2, b3, b4⟩ := tab_good ry high y0 y1 hh
  unfold foot
  refine ⟨?_, ?_, ?_, ?_, ?_⟩
  · intro p hp
    obtain ⟨r, hr, hp⟩ := List.mem_flatMap.mp hp
    obtain ⟨c, hc, rfl⟩ := List.mem_map.mp hp
    have h1 := a1 c hc
    have h2 := b1 r hr
    have := mul_le (a := c.2) (b := r.2) (A := 4096) (B := 4096) (by omega) (by omega) (by omega) (by omega)
    dsimp only
    omega
  · have : ∀ (Y X : List (Int × Int)), (Y.flatMap fun r => X.map fun c => (⟨c.1, r.1, c.2 * r.2⟩ : S_Spot)).length = Y.length * X.length := by
      intro Y X
      induction Y with
      | nil => simp
      | cons y Y ih => rw [List.flatMap_cons, List.length_append, ih, List.length_map, List.length_cons, Nat.add_mul]; omega
    rw [this]
    exact Nat.mul_le_mul b2 a2
  · rw [sm_flatMap]
    have : sm (fun r : Int × Int => sm (·.Light) ((tab rx wide).map fun c => (⟨c.1, r.1, c.2 * r.2⟩ : S_Spot))) (tab ry high) = sm (fun r => r.2 * 4096) (tab ry high) := by
      refine sm_congr fun r _ => ?_
      rw [sm_map, sm_mul (fun c : Int × Int => c.2), a3, Int.mul_comm]
    rw [this, sm_mul (fun r : Int × Int => r.2), b3]; rfl
  · rw [sm_flatMap]
    have : sm (fun r : Int × Int => sm (fun p : S_Spot => p.Light * (2 * p.X + 1)) ((tab rx wide).map fun c => (⟨c.1, r.1, c.2 * r.2⟩ : S_Spot))) (tab ry high) = sm (fun r => r.2 * (512 * rx + 256)) (tab ry high) := by
      refine sm_congr fun r _ => ?_
      rw [sm_map]
      dsimp only
      rw [sm_congr (g := fun c : Int × Int => c.2 * (2 * c.1 + 1) * r.2) (fun c _ => by rw [Int.mul_right_comm]), sm_mul (fun c : Int × Int => c.2 * (2 * c.1 + 1)), a4, Int.mul_comm]
    rw [this, sm_mul (fun r : Int × Int => r.2), b3]; omega
  · rw [sm_flatMap]
    have : sm (fun r : Int × Int => sm (fun p : S_Spot => p.Light * (2 * p.Y + 1)) ((tab rx wide).map fun c => (⟨c.1, r.1, c.2 * r.2⟩ : S_Spot))) (tab ry high) = sm (fun r => r.2 * (2 * r.1 + 1) * 4096) (tab ry high) := by
      refine sm_congr fun r _ => ?_
      rw [sm_map]
      dsimp only
      rw [sm_congr (g := fun c : Int × Int => c.2 * (r.2 * (2 * r.1 + 1))) (fun c _ => by rw [Int.mul_assoc]), sm_mul (fun c : Int × Int => c.2), a3, Int.mul_comm]
    rw [this, sm_mul (fun r : Int × Int => r.2 * (2 * r.1 + 1)), b4]; omega
theorem spreads_eq (k : Nat) (h : 60 ≤ k) : spykeep3_spreads k = some true := by
  obtain ⟨k, rfl⟩ : ∃ j, k = j + 60 := ⟨k - 60, by omega⟩
  kernel_rfl
theorem u64_and32 (x : Int) (h0 : 0 ≤ x) (h1 : x < 18446744073709551616) : Go.bits .and .u64 x 4294967295 = x % 4294967296 := by
  rw [Go.u64_and x 4294967295 h0 h1 (by decide) (by decide)]
  have : x.toNat &&& (4294967295 : Int).toNat = x.toNat % 4294967296 := Nat.and_two_pow_sub_one_eq_mod x.toNat 32
  rw [this]
  omega
theorem shr32 (x : Int) : shr x 32 = x / 4294967296 := shr_def x 32
theorem mul64_eq (k : Nat) (a b : Int) (ha : 0 ≤ a) (ha' : a < 18446744073709551616) (hb : 0 ≤ b) (hb' : b < 18446744073709551616) :
    bits_Mul64 k a b = some (a * b / 18446744073709551616, a * b % 18446744073709551616) := by
  unfold bits_Mul64
  rw [u64_and32 a ha ha', u64_and32 b hb hb', shr32 a, shr32 b]
  have h1 := mul_le (a := a / 4294967296) (b := b / 4294967296) (A := 4294967295) (B := 4294967295) (by omega) (by omega) (by omega) (by omega)
  have h2 := mul_le (a := a / 4294967296) (b := b % 4294967296) (A := 4294967295) (B := 4294967295) (by omega) (by omega) (by omega) (by omega)
  have h3 := mul_le (a := a % 4294967296) (b := b / 4294967296) (A := 4294967295) (B := 4294967295) (by omega) (by omega) (by omega) (by omega)
  have h4 := mul_le (a := a % 4294967296) (b := b % 4294967296) (A := 4294967295) (B := 4294967295) (by omega) (by omega) (by omega) (by omega)
  have e : a * b = (a / 4294967296) * (b / 4294967296) * 18446744073709551616 + ((a / 4294967296) * (b % 4294967296) + (a % 4294967296) * (b / 4294967296)) * 4294967296 + (a % 4294967296) * (b % 4294967296) := by
    have ea : a = a / 4294967296 * 4294967296 + a % 4294967296 := by omega
    have eb : b = b / 4294967296 * 4294967296 + b % 4294967296 := by omega
    generalize a / 4294967296 = x1 at *
    generalize a % 4294967296 = x0 at *
    generalize b / 4294967296 = y1 at *
    generalize b % 4294967296 = y0 at *
    subst ea eb
    grind
  rw [u64_def (a * b), e]
  generalize (a / 4294967296) * (b / 4294967296) = p at *
  generalize (a / 4294967296) * (b % 4294967296) = q at *
  generalize (a % 4294967296) * (b / 4294967296) = r at *
  generalize (a % 4294967296) * (b % 4294967296) = s at *
  rw [wuid (x := s) (by omega) (by omega), wuid (x := p) (by omega) (by omega), wuid (x := q) (by omega) (by omega), wuid (x := r) (by omega) (by omega)]
  rw [shr32 s, wuid (x := q + s / 4294967296) (by omega) (by omega)]
  rw [u64_and32 (q + s / 4294967296) (by omega) (by omega), shr32 (q + s / 4294967296)]
  rw [wuid (x := p + (q + s / 4294967296) / 4294967296) (by omega) (by omega)]
  rw [wuid (x := (q + s / 4294967296) % 4294967296 + r) (by omega) (by omega), shr32]
  rw [wuid (by omega) (by omega)]
  have e1 : p + (q + s / 4294967296) / 4294967296 + ((q + s / 4294967296) % 4294967296 + r) / 4294967296 = (p * 18446744073709551616 + (q + r) * 4294967296 + s) / 18446744073709551616 := by omega
  rw [e1]
theorem i64_and_low (x : Int) (i : Nat) (hi : i ≤ 62) : Go.bits .and .i64 x ((2 ^ i - 1 : Nat) : Int) = (((x % 18446744073709551616).toNat % 2 ^ i : Nat) : Int) := by
  have hp : 2 ^ i ≤ 2 ^ 62 := Nat.pow_le_pow_right (by decide) hi
  have hpos : 0 < 2 ^ i := Nat.two_pow_pos i
  have e1 : (BitVec.ofInt 64 x).toNat = (x % 18446744073709551616).toNat := by simp [BitVec.toNat_ofInt]
  have hb : (2 ^ i - 1) % 2 ^ IntKind.i64.bits = 2 ^ i - 1 := Nat.mod_eq_of_lt (by show 2 ^ i - 1 < 2 ^ 64; omega)
  simp only [Go.bits, BitVec.ofInt_natCast, BitVec.toNat_and, BitVec.toNat_ofNat, hb]
  rw [show (BitVec.ofInt IntKind.i64.bits x).toNat = (x % 18446744073709551616).toNat from e1, Nat.and_two_pow_sub_one_eq_mod]
  have := Nat.mod_lt (x % 18446744073709551616).toNat hpos
  rw [IntKind.wrap_i64]
  omega
theorem i64_and_in (x : Int) (i : Nat) (m : Int) (hi : i ≤ 62) (hm : m = ((2 ^ i - 1 : Nat) : Int)) : 0 ≤ Go.bits .and .i64 x m ∧ Go.bits .and .i64 x m ≤ m := by
  subst hm
  rw [i64_and_low x i hi]
  have := Nat.mod_lt (x % 18446744073709551616).toNat (Nat.two_pow_pos i)
  omega
theorem size_eq (k : Nat) (a : Int) (h0 : -9223372036854775808 ≤ a) (h1 : a ≤ 9223372036854775807) : num_size k a = some (if a < 0 then -a else a) := by
  unfold num_size
  by_cases c : a < 0
  · rw [ifp c, ifp c]
    congr 1
    simp only [u64_def]
    omega
  · rw [ifn c, ifn c, wuid (by omega) (by omega)]
theorem xor_max (x : Int) (h0 : 0 ≤ x) (h1 : x < 18446744073709551616) : Go.bits .xor .u64 IntKind.u64.max x = 18446744073709551615 - x := by
  have hm : IntKind.u64.max = 18446744073709551615 := by decide
  rw [hm, Go.u64_xor _ _ (by decide) (by decide) h0 h1]
  have hb : (BitVec.allOnes 64 ^^^ BitVec.ofNat 64 x.toNat).toNat = 18446744073709551615 - x.toNat := by
    rw [BitVec.allOnes_xor, BitVec.toNat_not, BitVec.toNat_ofNat, Nat.mod_eq_of_lt (by omega)]
  have hb2 : (BitVec.allOnes 64 ^^^ BitVec.ofNat 64 x.toNat).toNat = 18446744073709551615 ^^^ x.toNat := by
    rw [BitVec.toNat_xor, BitVec.toNat_ofNat, Nat.mod_eq_of_lt (by omega)]; rfl
  rw [hb2] at hb
  rw [show (18446744073709551615 : Int).toNat = 18446744073709551615 from rfl, hb]
  omega
theorem neg_eq (k : Nat) (P : Int) (h0 : 0 < P) (h1 : P ≤ 85070591730234615865843651857942052864) : num_Wide_Neg k ⟨w64 (P / 18446744073709551616), P % 18446744073709551616⟩ = some ⟨-P / 18446744073709551616, -P % 18446744073709551616⟩ := by
  have e1 : u64 (w64 (P / 18446744073709551616)) = P / 18446744073709551616 := by rw [wid (by omega) (by omega), wuid (by omega) (by omega)]
  unfold num_Wide_Neg
  dsimp only
  rw [e1, xor_max (P % 18446744073709551616) (by omega) (by omega), xor_max (P / 18446744073709551616) (by omega) (by omega), ifp (by omega), ifp (by omega), ifp (by omega), ifp (by omega)]
  congr 2
  · rw [w64_def]; omega
  · omega
/-- The low and the high word of a product. -/
theorem product_eq (k : Nat) (a b : Int) (ha : -9223372036854775808 ≤ a) (ha' : a ≤ 9223372036854775807) (hb : -9223372036854775808 ≤ b) (hb' : b ≤ 9223372036854775807) :
    num_Product k a b = some ⟨a * b / 18446744073709551616, a * b % 18446744073709551616⟩ := by
  unfold num_Product
  rw [bnd (size_eq k a ha ha'), bnd (size_eq k b hb hb')]
  obtain ⟨A, hA⟩ : ∃ A, A = if a < 0 then -a else a := ⟨_, rfl⟩
  obtain ⟨B, hB⟩ : ∃ B, B = if b < 0 then -b else b := ⟨_, rfl⟩
  rw [← hA, ← hB]
  have A0 : 0 ≤ A ∧ A ≤ 9223372036854775808 := by rw [hA]; split <;> omega
  have B0 : 0 ≤ B ∧ B ≤ 9223372036854775808 := by rw [hB]; split <;> omega
  rw [bnd (mul64_eq k A B (by omega) (by omega) (by omega) (by omega))]
  dsimp only
  have hAB := mul_le A0.1 A0.2 B0.1 B0.2
  have neg : A * B = -(a * b) → (num_Wide_Neg k ⟨w64 (A * B / 18446744073709551616), A * B % 18446744073709551616⟩).bind (fun v => some v) = some ⟨a * b / 18446744073709551616, a * b % 18446744073709551616⟩ := by
    intro e
    by_cases z : a * b = 0
    · have ez : A * B = 0 := by omega
      rw [ez, z]
      have : num_Wide_Neg k ⟨w64 (0 / 18446744073709551616), 0 % 18446744073709551616⟩ = some ⟨0, 0⟩ := by kernel_rfl
      rw [this]; rfl
    · rw [neg_eq k (A * B) (by omega) (by omega), e, Int.neg_neg]; rfl
  by_cases ca : a < 0
  · rw [if_pos ca] at hA
    by_cases cb : b < 0
    · rw [if_pos cb] at hB
      have e : A * B = a * b := by rw [hA, hB, Int.neg_mul_neg]
      rw [show (decide (a < 0) != decide (b < 0)) = false by simp [ca, cb], ifn (by decide), e, wid (by omega) (by omega)]
    · rw [if_neg cb] at hB
      rw [show (decide (a < 0) != decide (b < 0)) = true by simp [ca, cb], ifp rfl]
      exact neg (by rw [hA, hB, Int.neg_mul])
  · rw [if_neg ca] at hA
    by_cases cb : b < 0
    · rw [if_pos cb] at hB
      rw [show (decide (a < 0) != decide (b < 0)) = true by simp [ca, cb], ifp rfl]
      exact neg (by rw [hA, hB, Int.mul_neg])
    · rw [if_neg cb] at hB
      have e : A * B = a * b := by rw [hA, hB]
      rw [show (decide (a < 0) != decide (b < 0)) = false by simp [ca, cb], ifn (by decide), e, wid (by omega) (by omega)]
theorem mul_eq (k : Nat) (a b : Int) (ha : -9223372036854775808 ≤ a) (ha' : a ≤ 9223372036854775807) (hb : -9223372036854775808 ≤ b) (hb' : b ≤ 9223372036854775807) (h0 : -9223372036854775808 ≤ a * b) (h1 : a * b ≤ 9223372036854775807) : num_Mul k a b = some (a * b, true) := by
  unfold num_Mul
  rw [bnd (product_eq k a b ha ha' hb hb')]
  dsimp only
  generalize a * b = P at *
  have e : w64 (P % 18446744073709551616) = P := by rw [w64_def]; omega
  rw [e, ifn (by rw [show shr P 63 = P / 9223372036854775808 from shr_def P 63]; omega)]
theorem gcd_l0_frac_Make (k : Nat) (y : Nat) : ∀ (n x : Nat), y < n → frac_Make.l0 k n (x : Int) (y : Int) = some ((Nat.gcd x y : Nat) : Int) := by
  induction y using Nat.strongRecOn with
  | _ y ih =>
    intro n x hn
    obtain ⟨n, rfl⟩ : ∃ m, n = m + 1 := ⟨n - 1, by omega⟩
    rw [frac_Make.l0]
    by_cases c : y = 0
    · subst c; rw [ifn (by decide), Nat.gcd_zero_right]
    · rw [ifp (by omega), ifp (by omega), show Int.tmod (x : Int) (y : Int) = ((x % y : Nat) : Int) from (Int.tmod_eq_emod_of_nonneg (by omega)).trans (Int.natCast_emod x y).symm]
      have hlt := Nat.mod_lt x (show 0 < y by omega)
      rw [ih (x % y) hlt n y (by omega), Nat.gcd_comm x y, Nat.gcd_rec y x, Nat.gcd_comm (x % y) y]
theorem gcd_l0_num_Gcd (k : Nat) (y : Nat) : ∀ (n x : Nat), y < n → num_Gcd.l0 k n (x : Int) (y : Int) = some ((Nat.gcd x y : Nat) : Int) := by
  induction y using Nat.strongRecOn with
  | _ y ih =>
    intro n x hn
    obtain ⟨n, rfl⟩ : ∃ m, n = m + 1 := ⟨n - 1, by omega⟩
    rw [num_Gcd.l0]
    by_cases c : y = 0
    · subst c; rw [ifn (by decide), Nat.gcd_zero_right]
    · rw [ifp (by omega), ifp (by omega), show Int.tmod (x : Int) (y : Int) = ((x % y : Nat) : Int) from (Int.tmod_eq_emod_of_nonneg (by omega)).trans (Int.natCast_emod x y).symm]
      have hlt := Nat.mod_lt x (show 0 < y by omega)
      rw [ih (x % y) hlt n y (by omega), Nat.gcd_comm x y, Nat.gcd_rec y x, Nat.gcd_comm (x % y) y]
theorem fsize_eq (k : Nat) (a : Int) (h0 : -9223372036854775808 ≤ a) (h1 : a ≤ 9223372036854775807) : frac_size k a = some ((a.natAbs : Nat) : Int) := by
  unfold frac_size
  by_cases c : a < 0
  · rw [ifp c]
    congr 1
    simp only [u64_def]
    omega
  · rw [ifn c, wuid (by omega) (by omega)]
    congr 1; omega
theorem nsize_eq (k : Nat) (a : Int) (h0 : -9223372036854775808 ≤ a) (h1 : a ≤ 9223372036854775807) : num_size k a = some ((a.natAbs : Nat) : Int) := by
  rw [size_eq k a h0 h1]
  congr 1
  split <;> omega
theorem andnot63 (x : Int) (h0 : 0 ≤ x) (h1 : x < 9223372036854775808) : Go.bits .andNot .u64 x 9223372036854775808 = x := by
  rw [Go.u64_andNot x _ h0 (by omega) (by decide) (by decide)]
  have : x.toNat &&& 9223372036854775807 = x.toNat % 9223372036854775808 := Nat.and_two_pow_sub_one_eq_mod x.toNat 63
  rw [show (18446744073709551615 - (9223372036854775808 : Int).toNat : Nat) = 9223372036854775807 from rfl, this]
  omega
theorem ngcd_eq (k : Nat) (a b : Int) (ha : -4611686018427387904 ≤ a) (ha' : a ≤ 4611686018427387904) (hb : 1 ≤ b) (hb' : b ≤ 4611686018427387904) (hk : b.natAbs < k) : num_Gcd k a b = some ((Nat.gcd a.natAbs b.natAbs : Nat) : Int) := by
  have hle : Nat.gcd a.natAbs b.natAbs ≤ b.natAbs := Nat.gcd_le_right _ (by omega)
  unfold num_Gcd
  rw [bnd (nsize_eq k a (by omega) (by omega)), bnd (nsize_eq k b (by omega) (by omega)), bnd (gcd_l0_num_Gcd k b.natAbs k a.natAbs hk), andnot63 _ (by omega) (by omega), wid (by omega) (by omega)]
theorem gcd_odd (m : Nat) (h : m % 2 = 1) : Nat.gcd m 16 = 1 := by
  rw [Nat.gcd_comm, Nat.gcd_rec]
  have : m % 16 = 1 ∨ m % 16 = 3 ∨ m % 16 = 5 ∨ m % 16 = 7 ∨ m % 16 = 9 ∨ m % 16 = 11 ∨ m % 16 = 13 ∨ m % 16 = 15 := by omega
  rcases this with e | e | e | e | e | e | e | e <;> rw [e] <;> decide
theorem or000 (k : Nat) (hk : 10 ≤ k) : cmp_Or_Errno k [0, 0, 0] = some 0 := by
  obtain ⟨k, rfl⟩ : ∃ j, k = j + 10 := ⟨k - 10, by omega⟩
  kernel_rfl
theorem made_tt (k : Nat) (n d : Int) (hk : 10 ≤ k) (h0 : -1152921504606846976 ≤ n) (h1 : n ≤ 1152921504606846976) (h2 : d ≤ 1152921504606846976) : frac_made k n d [true, true] = some (⟨n, d⟩, 0) := by
  obtain ⟨k, rfl⟩ : ∃ j, k = j + 10 := ⟨k - 10, by omega⟩
  have e : frac_made.l0 (k + 10) [true, true] (k + 10) 0 = some (Sum.inr ()) := by kernel_rfl
  unfold frac_made
  rw [bnd e]
  dsimp only [Sum.elim_inr]
  rw [ifn (by omega), ifn (by omega), ifn (by omega)]
/-- The middle of a cell's sixteenth, out of the moment. -/
theorem centre1_eq (k : Nat) (g : Int) (g0 : -10000 ≤ g) (g1 : g ≤ 10000) (hk : 16777300 ≤ k) : optics_Centre_1 k 16777216 0 (1048576 * (2 * g + 1)) = some (⟨16 * g + 8, 1⟩, 0) := by
  have hodd : (2 * g + 1).natAbs % 2 = 1 := by omega
  have hg : Nat.gcd (1048576 * (2 * g + 1)).natAbs 16777216 = 1048576 := by
    rw [show (1048576 * (2 * g + 1)).natAbs = 1048576 * (2 * g + 1).natAbs by omega, show (16777216 : Nat) = 1048576 * 16 by rfl, Nat.gcd_mul_left, gcd_odd _ hodd]
  have hmake : frac_Make k (1048576 * (2 * g + 1)) 16777216 = some (⟨2 * g + 1, 16⟩, 0) := by
    have l0 := gcd_l0_frac_Make k 16777216 k (1048576 * (2 * g + 1)).natAbs (by omega)
    rw [hg] at l0
    have e16 : ((16777216 : Int).natAbs : Nat) = 16777216 := rfl
    unfold frac_Make
    rw [ifn (by decide), bnd (fsize_eq k _ (by omega) (by omega)), bnd (fsize_eq k 16777216 (by decide) (by decide)), e16, bnd l0, bnd (fsize_eq k _ (by omega) (by omega)), ifp (by decide), bnd (fsize_eq k 16777216 (by decide) (by decide)), e16]
    have q1 : Int.tdiv (((1048576 * (2 * g + 1)).natAbs : Nat) : Int) ((1048576 : Nat) : Int) = (((2 * g + 1).natAbs : Nat) : Int) := by
      rw [tdiv_nn (by omega)]; omega
    have q2 : Int.tdiv ((16777216 : Nat) : Int) ((1048576 : Nat) : Int) = 16 := by decide
    rw [q1, q2, wuid (x := 16) (by decide) (by decide), wuid (x := (((2 * g + 1).natAbs : Nat) : Int)) (by omega) (by omega), ifn (by omega), ifn (by decide), wid (x := 16) (by decide) (by decide), wid (x := (((2 * g + 1).natAbs : Nat) : Int)) (by omega) (by omega), decide_eq_false (show ¬ ((16777216 : Int) < 0) by decide)]
    by_cases c : 1048576 * (2 * g + 1) < 0
    · rw [decide_eq_true c, ifp (by decide), wid (by omega) (by omega), show 0 - (((2 * g + 1).natAbs : Nat) : Int) = 2 * g + 1 by omega]
    · rw [decide_eq_false c, ifn (by decide), show (((2 * g + 1).natAbs : Nat) : Int) = 2 * g + 1 by omega]
  have hc1 : frac_Check k ⟨2 * g + 1, 16⟩ = some 0 := by
    unfold frac_Check
    dsimp only
    rw [ifn (by omega), ifn (by omega), ifn (by decide), ifn (by decide), bnd (ngcd_eq k (2 * g + 1) 16 (by omega) (by omega) (by decide) (by decide) (by show 16 < k; omega))]
    rw [show Nat.gcd (2 * g + 1).natAbs (16 : Int).natAbs = 1 from gcd_odd _ hodd, ifn (by decide)]
  have hc2 : frac_Check k ⟨128, 1⟩ = some 0 := by
    unfold frac_Check
    dsimp only
    rw [ifn (by decide), ifn (by decide), ifn (by decide), ifn (by decide), bnd (ngcd_eq k 128 1 (by decide) (by decide) (by decide) (by decide) (by show 1 < k; omega))]
    rfl
  have hmul : frac_Mul k ⟨2 * g + 1, 16⟩ ⟨128, 1⟩ = some (⟨16 * g + 8, 1⟩, 0) := by
    unfold frac_Mul frac_both
    rw [bnd hc1, bnd hc2, bnd (or00 k (by omega))]
    dsimp only [Option.bind_some]
    rw [ifn (by decide), bnd (ngcd_eq k (2 * g + 1) 1 (by omega) (by omega) (by decide) (by decide) (by show 1 < k; omega)), bnd (ngcd_eq k 128 16 (by decide) (by decide) (by decide) (by decide) (by show 16 < k; omega))]
    rw [show Nat.gcd (2 * g + 1).natAbs (1 : Int).natAbs = 1 from Nat.gcd_one_right _, show Nat.gcd (128 : Int).natAbs (16 : Int).natAbs = 16 by decide]
    rw [ifp (by decide), ifp (by decide), show Int.tdiv (2 * g + 1) ((1 : Nat) : Int) = 2 * g + 1 from Int.tdiv_one _, show Int.tdiv 128 ((16 : Nat) : Int) = 8 by decide, show Int.tdiv 16 ((16 : Nat) : Int) = 1 by decide, show Int.tdiv 1 ((1 : Nat) : Int) = 1 by decide, wid (x := 2 * g + 1) (by omega) (by omega), wid (x := 8) (by decide) (by decide), wid (x := 1) (by decide) (by decide)]
    rw [bnd (mul_eq k (2 * g + 1) 8 (by omega) (by omega) (by decide) (by decide) (by omega) (by omega))]
    dsimp only
    rw [bnd (mul_eq k 1 1 (by decide) (by decide) (by decide) (by decide) (by decide) (by decide))]
    dsimp only
    rw [bnd (made_tt k _ _ (by omega) (by omega) (by omega) (by decide)), show (2 * g + 1) * 8 = 16 * g + 8 by omega, show (1 : Int) * 1 = 1 by rfl]
  unfold optics_Centre_1
  rw [bnd hmake]
  dsimp only
  rw [bnd hmul]
  dsimp only
  rw [bnd (or000 k (by omega))]
theorem sm_nn {α : Type} {f : α → Int} {l : List α} (h : ∀ x, x ∈ l → 0 ≤ f x) : 0 ≤ sm f l := by
  induction l with
  | nil => exact Int.le_refl 0
  | cons x l ih => have := h x (by simp); have := ih (fun y hy => h y (by simp [hy])); rw [sm]; omega
theorem centre_l0 (k : Nat) (l : List S_Spot) (hp : ∀ p, p ∈ l → -200 ≤ p.X ∧ p.X ≤ 200 ∧ -200 ≤ p.Y ∧ p.Y ≤ 200 ∧ 0 ≤ p.Light ∧ p.Light ≤ 16777216) (hl : l.length ≤ 200) : ∀ (d n : Nat) (sx sy i all : Int), i + d = l.length → 0 ≤ i → d < n → 0 ≤ all → all ≤ 16777216 * i → -401 * all ≤ sx → sx ≤ 401 * all → -401 * all ≤ sy → sy ≤ 401 * all →
    optics_Centre.l0 k l n sx sy i all = some (Sum.inr (sx + sm (fun p => p.Light * (2 * p.X + 1)) (l.drop i.toNat), sy + sm (fun p => p.Light * (2 * p.Y + 1)) (l.drop i.toNat), all + sm (·.Light) (l.drop i.toNat))) := by
  intro d
  induction d with
  | zero =>
    intro n sx sy i all hi i0 hn _ _ _ _ _ _
    obtain ⟨n, rfl⟩ : ∃ m, n = m + 1 := ⟨n - 1, by omega⟩
    rw [optics_Centre.l0, ifn (by omega), List.drop_of_length_le (by omega), sm, sm, sm, Int.add_zero, Int.add_zero, Int.add_zero]
  | succ d ih =>
    intro n sx sy i all hi i0 hn a0 a1 x0 x1 y0 y1
    obtain ⟨n, rfl⟩ : ∃ m, n = m + 1 := ⟨n - 1, by omega⟩
    obtain ⟨p1, p2, p3, p4, p5, p6⟩ := hp _ (rd_mem i0 (show i < (l.length : Int) by omega))
    have b1 : (rd l i).Light * (2 * (rd l i).X + 1) ≤ (rd l i).Light * 401 := Int.mul_le_mul_of_nonneg_left (by omega) p5
    have b2 : (rd l i).Light * (-401) ≤ (rd l i).Light * (2 * (rd l i).X + 1) := Int.mul_le_mul_of_nonneg_left (by omega) p5
    have b3 : (rd l i).Light * (2 * (rd l i).Y + 1) ≤ (rd l i).Light * 401 := Int.mul_le_mul_of_nonneg_left (by omega) p5
    have b4 : (rd l i).Light * (-401) ≤ (rd l i).Light * (2 * (rd l i).Y + 1) := Int.mul_le_mul_of_nonneg_left (by omega) p5
    rw [optics_Centre.l0, ifp (by omega), ifp i0, mx_def, mn_def, ifn (by omega), ifn (by omega), ifn (by omega), wid (x := 281474976710656 - all) (by omega) (by omega), ifn (by omega)]
    rw [wid (x := 2 * (rd l i).X) (by omega) (by omega), wid (x := 2 * (rd l i).X + 1) (by omega) (by omega), wid (x := 2 * (rd l i).Y) (by omega) (by omega), wid (x := 2 * (rd l i).Y + 1) (by omega) (by omega), wid (x := i + 1) (by omega) (by omega), wid (x := all + (rd l i).Light) (by omega) (by omega)]
    rw [wid (x := (rd l i).Light * (2 * (rd l i).X + 1)) (by omega) (by omega), wid (x := (rd l i).Light * (2 * (rd l i).Y + 1)) (by omega) (by omega)]
    rw [wid (x := sx + (rd l i).Light * (2 * (rd l i).X + 1)) (by omega) (by omega), wid (x := sy + (rd l i).Light * (2 * (rd l i).Y + 1)) (by omega) (by omega)]
    rw [ih n _ _ (i + 1) _ (by omega) (by omega) (by omega) (by omega) (by omega) (by omega) (by omega) (by omega) (by omega)]
    have e := rd_drop l i i0 (by omega)
    rw [e, sm, sm, sm]
    congr 2
    simp only [Prod.mk.injEq]
    refine ⟨?_, ?_, ?_⟩ <;> omega
theorem law_l0 (k : Nat) (B : List S_Spot) (hx hy dx dy : Int) (hB : ∀ p, p ∈ B → -5 ≤ p.X ∧ p.X ≤ 5 ∧ -5 ≤ p.Y ∧ p.Y ≤ 5 ∧ 0 ≤ p.Light ∧ p.Light ≤ 16777216) (hl : B.length ≤ 200) (x0 : -100 ≤ hx) (x1 : hx ≤ 100) (y0 : -100 ≤ hy) (y1 : hy ≤ 100) (d0 : 0 ≤ dx) (d1 : dx < 60) (e0 : 0 ≤ dy) (e1 : dy < 60) : ∀ (d n : Nat) (s i : Int), i + d = B.length → 0 ≤ i → d < n → 0 ≤ s → s ≤ 16777216 * i →
    spykeep3_OpticsPointsCentre.l0 k (B.map (move hx hy)) (B.map (move (hx + (dx - 30)) (hy + (dy - 30)))) dx dy n s i = some (Sum.inr (s + sm (·.Light) (B.drop i.toNat))) := by
  intro d
  induction d with
  | zero =>
    intro n s i hi i0 hn _ _
    obtain ⟨n, rfl⟩ : ∃ m, n = m + 1 := ⟨n - 1, by omega⟩
    rw [spykeep3_OpticsPointsCentre.l0, ifn (by rw [List.length_map]; omega), List.drop_of_length_le (by omega), sm, Int.add_zero]
  | succ d ih =>
    intro n s i hi i0 hn s0 s1
    obtain ⟨n, rfl⟩ : ∃ m, n = m + 1 := ⟨n - 1, by omega⟩
    obtain ⟨p1, p2, p3, p4, p5, p6⟩ := hB _ (rd_mem i0 (show i < (B.length : Int) by omega))
    rw [spykeep3_OpticsPointsCentre.l0, ifp (by rw [List.length_map]; omega), ifp i0, ifp (by rw [List.length_map]; omega), rd_map _ B i i0 (by omega), rd_map _ B i i0 (by omega)]
    unfold move
    dsimp only
    rw [wid (x := dx - 30) (by omega) (by omega), wid (x := dy - 30) (by omega) (by omega), wid (x := hx + (rd B i).X + (dx - 30)) (by omega) (by omega), wid (x := hy + (rd B i).Y + (dy - 30)) (by omega) (by omega)]
    have q1 : (hx + (dx - 30) + (rd B i).X == hx + (rd B i).X + (dx - 30)) = true := beq_iff_eq.mpr (by omega)
    have q2 : (hy + (dy - 30) + (rd B i).Y == hy + (rd B i).Y + (dy - 30)) = true := beq_iff_eq.mpr (by omega)
    have q3 : ((rd B i).Light == (rd B i).Light) = true := beq_iff_eq.mpr rfl
    rw [q1, q2, q3, ifn (by decide), wid (x := s + (rd B i).Light) (by omega) (by omega), wid (x := i + 1) (by omega) (by omega)]
    refine (ih n _ (i + 1) (by omega) (by omega) (by omega) (by omega) (by omega)).trans ?_
    have e := rd_drop B i i0 (by omega)
    rw [e, sm]
    congr 2
    omega
theorem shr4 (x : Int) : shr x 4 = x / 16 := shr_def x 4
theorem law (k : Nat) (p : S_Point) (wide high dx dy : Int) (hk : 16777300 ≤ k) : spykeep3_OpticsPointsCentre k p wide high dx dy = some true := by
  unfold spykeep3_OpticsPointsCentre
  obtain ⟨a, ha, a0, a1⟩ := below_ex k dx 60 (by decide) (by decide)
  rw [bnd ha]
  obtain ⟨b, hb, b0, b1⟩ := below_ex k dy 60 (by decide) (by decide)
  rw [bnd hb]
  obtain ⟨w, hw, w1⟩ := half_ex k wide
  obtain ⟨h, hh, h1⟩ := half_ex k high
  rw [bnd hw, bnd hh]
  have px0 := Int.lt_tmod_of_pos p.X (show (0 : Int) < 20000 by decide)
  have px1 := Int.tmod_lt_of_pos p.X (show (0 : Int) < 20000 by decide)
  have py0 := Int.lt_tmod_of_pos p.Y (show (0 : Int) < 20000 by decide)
  have py1 := Int.tmod_lt_of_pos p.Y (show (0 : Int) < 20000 by decide)
  generalize Int.tmod p.X 20000 = x at *
  generalize Int.tmod p.Y 20000 = y at *
  rw [bnd (point_eq k x y w h (by omega) (by omega) (by omega) (by omega) w1 h1 (by omega))]
  dsimp only
  rw [bnd hw, bnd hh]
  rw [wid (x := a - 30) (by omega) (by omega), wid (x := b - 30) (by omega) (by omega), wid (x := 256 * (a - 30)) (by omega) (by omega), wid (x := 256 * (b - 30)) (by omega) (by omega), wid (x := x + 256 * (a - 30)) (by omega) (by omega), wid (x := y + 256 * (b - 30)) (by omega) (by omega)]
  rw [bnd (point_eq k (x + 256 * (a - 30)) (y + 256 * (b - 30)) w h (by omega) (by omega) (by omega) (by omega) w1 h1 (by omega))]
  dsimp only
  rw [show (x + 256 * (a - 30)) / 16 % 16 = x / 16 % 16 by omega, show (y + 256 * (b - 30)) / 16 % 16 = y / 16 % 16 by omega, show (x + 256 * (a - 30)) / 16 / 16 = x / 16 / 16 + (a - 30) by omega, show (y + 256 * (b - 30)) / 16 / 16 = y / 16 / 16 + (b - 30) by omega]
  obtain ⟨f1, f2, f3, f4, f5⟩ := foot_good (x / 16 % 16) (y / 16 % 16) w h (by omega) (by omega) (by omega) (by omega) w1 h1
  generalize foot (x / 16 % 16) (y / 16 % 16) w h = B at *
  obtain ⟨hx, ehx⟩ : ∃ z, z = x / 16 / 16 := ⟨_, rfl⟩
  obtain ⟨hy, ehy⟩ : ∃ z, z = y / 16 / 16 := ⟨_, rfl⟩
  rw [← ehx, ← ehy]
  have hc : optics_Centre k (B.map (move hx hy)) = some (⟨16 * (x / 16) + 8, 1⟩, ⟨16 * (y / 16) + 8, 1⟩, 0) := by
    have l0 := centre_l0 k (B.map (move hx hy)) (fun p hp => by
      obtain ⟨q, hq, rfl⟩ := List.mem_map.mp hp
      have := f1 q hq
      unfold move
      dsimp only
      omega) (by rw [List.length_map]; omega) (B.map (move hx hy)).length k 0 0 0 0 (by omega) (by decide) (by rw [List.length_map]; omega) (by decide) (by decide) (by decide) (by decide) (by decide) (by decide)
    rw [show (0 : Int).toNat = 0 from rfl, List.drop_zero, sm_map, sm_map, sm_map, Int.zero_add, Int.zero_add, Int.zero_add] at l0
    have e1 : sm (fun p => (move hx hy p).Light) B = 16777216 := f3
    have e2 : sm (fun p => (move hx hy p).Light * (2 * (move hx hy p).X + 1)) B = 1048576 * (2 * (x / 16) + 1) := by
      rw [sm_congr (g := fun p : S_Spot => p.Light * (2 * hx) + p.Light * (2 * p.X + 1)) (fun p _ => by unfold move; dsimp only; rw [← Int.mul_add]; congr 1; omega), sm_add, sm_mul (fun p : S_Spot => p.Light), f3, f4]
      omega
    have e3 : sm (fun p => (move hx hy p).Light * (2 * (move hx hy p).Y + 1)) B = 1048576 * (2 * (y / 16) + 1) := by
      rw [sm_congr (g := fun p : S_Spot => p.Light * (2 * hy) + p.Light * (2 * p.Y + 1)) (fun p _ => by unfold move; dsimp only; rw [← Int.mul_add]; congr 1; omega), sm_add, sm_mul (fun p : S_Spot => p.Light), f3, f5]
      omega
    rw [e1, e2, e3] at l0
    unfold optics_Centre
    rw [bnd l0]
    dsimp only [Sum.elim_inr]
    rw [ifn (by decide), bnd (centre1_eq k (x / 16) (by omega) (by omega) hk)]
    dsimp only
    rw [bnd (centre1_eq k (y / 16) (by omega) (by omega) hk)]
    dsimp only
    rw [ifn (by decide)]
  rw [bnd hc]
  dsimp only
  rw [bnd (spreads_eq k (by omega)), ifn (by decide), ifn (by decide), ifn (by decide), ifn (by decide), ifn (by rw [List.length_map, List.length_map]; omega)]
  rw [bnd (law_l0 k B hx hy a b f1 (by omega) (by omega) (by omega) (by omega) (by omega) a0 a1 b0 b1 B.length k 0 0 (by omega) (by decide) (by omega) (by decide) (by decide))]
  dsimp only [Sum.elim_inr]
  rw [show (0 : Int).toNat = 0 from rfl, List.drop_zero, f3, ifp (by decide), shr4, shr4, wid (x := x / 16 * 16) (by omega) (by omega), wid (x := x / 16 * 16 + 8) (by omega) (by omega), wid (x := y / 16 * 16) (by omega) (by omega), wid (x := y / 16 * 16 + 8) (by omega) (by omega)]
  have q1 : (16 * (x / 16) + 8 == x / 16 * 16 + 8) = true := beq_iff_eq.mpr (by omega)
  have q2 : (16 * (y / 16) + 8 == y / 16 * 16 + 8) = true := beq_iff_eq.mpr (by omega)
  rw [q1, q2, ifp (by decide)]
  rfl
theorem law_ex (p : S_Point) (wide high dx dy : Int) (_ : (Lit.int .i64 p.X).wf = true) (_ : (Lit.int .i64 p.Y).wf = true) (_ : (Lit.int .i64 wide).wf = true) (_ : (Lit.int .i64 high).wf = true) (_ : (Lit.int .i64 dx).wf = true) (_ : (Lit.int .i64 dy).wf = true) :
    ∃ k, spykeep3_OpticsPointsCentre k p wide high dx dy = some true := ⟨16777300, law 16777300 p wide high dx dy (Nat.le_refl _)⟩

end Go.Sp.T4
