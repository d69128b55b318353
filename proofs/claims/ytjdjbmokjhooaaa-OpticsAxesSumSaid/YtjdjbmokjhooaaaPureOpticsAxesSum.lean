/- For every position and every number: the weights of an axis are greater than 0, lie at most a half-width from the cell of the position, are listed cell by cell, rise to that cell and fall after it; they sum to 4096, and their mean is exact. -/
import Derived.Test.YtjdjbmokjhooaaaQOpticsAxesSumx3
import Derived.OpenShut
namespace Go.Proofs.Ytjdjbmokjhooaaa.Pure
open Go.RowKit Go.Proofs.Ytjdjbmokjhooaaa.QOpticsAxesSum Go.Proofs.YtjdjbmokjhooaaaW.PrintWords Go.Proofs.YtjdjbmokjhooaaaW.PrintLast

theorem wid {x : Int} (h : -9223372036854775808 ≤ x) (h' : x ≤ 9223372036854775807) : wrap64 x = x := by unfold wrap64; omega

theorem mul_bd {a b A B : Int} (h1 : -A ≤ a) (h2 : a ≤ A) (h3 : -B ≤ b) (h4 : b ≤ B) : -(A * B) ≤ a * b ∧ a * b ≤ A * B := by
  have e : (a * b).natAbs = a.natAbs * b.natAbs := Int.natAbs_mul a b
  have l : a.natAbs * b.natAbs ≤ A.toNat * B.toNat := Nat.mul_le_mul (by omega) (by omega)
  have f : ((A.toNat * B.toNat : Nat) : Int) = A * B := by rw [Int.natCast_mul]; congr 1 <;> omega
  omega

/-- The weight before a point, without wrapping. -/
def bf (d n : Int) : Int := (optics_before.f d n).getD 0
/-- The weight of the cell c cells from home. -/
def wt (h r c : Int) : Int := bf (16 * c - r + 16) (16 * h) - bf (16 * c - r) (16 * h)
/-- The cells c, c + 1, .. and their weights. -/
def ws (h r : Int) : Nat → Int → List (Int × Int)
  | 0, _ => []
  | d + 1, c => if 0 < wt h r c then (c, 16 / (h * h) * wt h r c) :: ws h r d (c + 1) else ws h r d (c + 1)

theorem before_all : ∀ i : Fin 301, ∀ n ∈ [(16 : Int), 32, 64], (optics_before.f ((i.val : Int) - 150) n).isSome = true ∧ 0 ≤ bf ((i.val : Int) - 150) n ∧ bf ((i.val : Int) - 150) n ≤ 4096 := by decide +kernel
theorem before_eq (d n : Int) (h1 : -150 ≤ d) (h2 : d ≤ 150) (hn : n = 16 ∨ n = 32 ∨ n = 64) : optics_before.f d n = some (bf d n) ∧ 0 ≤ bf d n ∧ bf d n ≤ 4096 := by
  have hm : n ∈ [(16 : Int), 32, 64] := by simp; exact hn
  obtain ⟨a, b, c⟩ := before_all ⟨(d + 150).toNat, by omega⟩ n hm
  have e : (((d + 150).toNat : Nat) : Int) - 150 = d := by omega
  simp only [e] at a b c
  refine ⟨?_, b, c⟩
  unfold bf
  cases hh : optics_before.f d n with
  | none => rw [hh] at a; cases a
  | some v => rfl

theorem floor_eq (a b : Int) (hb : 1 ≤ b) (h1 : -4611686018427387904 ≤ a) (h2 : a ≤ 4611686018427387904) (hb2 : b ≤ 4611686018427387904) : num_FloorDiv.f a b = some (a / b) := by
  unfold num_FloorDiv.f
  rw [if_neg (by omega), if_neg (by omega)]
  have hlo : -4611686018427387904 ≤ a / b := by
    have := Int.ediv_le_ediv (c := b) (by omega) h1
    have h3 : (-4611686018427387904 : Int) / b ≥ -4611686018427387904 := by
      rw [ge_iff_le, Int.le_ediv_iff_mul_le (by omega)]
      have : (-4611686018427387904 : Int) * b = - (4611686018427387904 * b) := by omega
      omega
    omega
  have hhi : a / b ≤ 4611686018427387904 := by
    have := Int.ediv_le_ediv (c := b) (by omega) h2
    have h3 : (4611686018427387904 : Int) / b ≤ 4611686018427387904 := Int.ediv_le_self _ (by omega)
    omega
  by_cases ha : 0 ≤ a
  · have e1 : Int.tmod a b = a % b := Int.tmod_eq_emod_of_nonneg ha
    have e2 : Int.tdiv a b = a / b := Int.tdiv_eq_ediv_of_nonneg ha
    have := Int.emod_nonneg a (show b ≠ 0 by omega)
    rw [e1, e2, if_neg (by omega), wid (by omega) (by omega)]
  · have e2 : Int.tdiv a b = - ((-a) / b) := by
      have h := Int.neg_tdiv (-a) b
      rw [Int.neg_neg] at h
      rw [h, Int.tdiv_eq_ediv_of_nonneg (by omega)]
    have e1 : Int.tmod a b = - ((-a) % b) := by
      have h := Int.neg_tmod (-a) b
      rw [Int.neg_neg] at h
      rw [h, Int.tmod_eq_emod_of_nonneg (by omega)]
    have hq := Int.mul_ediv_add_emod (-a) b
    have hq2 := Int.mul_ediv_add_emod a b
    have n1 := Int.emod_nonneg (-a) (show b ≠ 0 by omega)
    have n2 := Int.emod_lt_of_pos (-a) (show 0 < b by omega)
    have n3 := Int.emod_nonneg a (show b ≠ 0 by omega)
    have n4 := Int.emod_lt_of_pos a (show 0 < b by omega)
    by_cases hz : (-a) % b = 0
    · have hd : b ∣ a := by
        have := Int.dvd_of_emod_eq_zero hz
        exact (Int.dvd_neg (a := b) (b := a)).mp this
      have e3 : (-a) / b = -(a / b) := Int.neg_ediv_of_dvd hd
      rw [e1, hz, if_neg (by decide), e2, e3, Int.neg_neg, wid (by omega) (by omega)]
    · have e3 : a / b = - ((-a) / b) - 1 := by
        have : a / b = -((-a) / b) - 1 ∧ a % b = b - (-a) % b := by
          have hu := (Int.ediv_emod_unique (a := a) (b := b) (r := b - (-a) % b) (q := -((-a) / b) - 1) (by omega)).mpr ⟨?_, by omega, by omega⟩
          · exact hu
          · have : b * (-((-a) / b) - 1) = - (b * ((-a) / b)) - b := by rw [Int.mul_sub, Int.mul_neg]; omega
            omega
        exact this.1
      rw [e1, if_pos (by omega), e2, wid (x := - (-a / b)) (by omega) (by omega), e3, wid (by omega) (by omega)]

def at_ (home : Int) (p : Int × Int) : S32 := ⟨home + p.1, p.2⟩

theorem axis_loop (h home r : Int) (hh : h = 1 ∨ h = 2 ∨ h = 4) (hr0 : 0 ≤ r) (hr1 : r ≤ 15) (hm0 : -1000000 ≤ home) (hm1 : home ≤ 1000000) (d : Nat) :
    ∀ (k : Nat) (c : Int) (out : List S32), c + d = h + 2 → -h - 1 ≤ c → out.length + d < 1000 → d < k →
    optics_Axis.l0 k h (16 * home + r) home (16 * h) (16 / (h * h)) out (home + c) = some (out ++ (ws h r d c).map (at_ home), 0) := by
  induction d with
  | zero =>
    intro k c out hc hc0 ho hk
    obtain ⟨k, rfl⟩ : ∃ m, k = m + 1 := ⟨k - 1, by omega⟩
    simp only [optics_Axis.l0]
    rw [wid (x := home + h) (by omega) (by omega), wid (x := home + h + 1) (by omega) (by omega), if_neg (by omega)]
    simp [ws]
  | succ d ih =>
    intro k c out hc hc0 ho hk
    obtain ⟨k, rfl⟩ : ∃ m, k = m + 1 := ⟨k - 1, by omega⟩
    have hn : 16 * h = 16 ∨ 16 * h = 32 ∨ 16 * h = 64 := by omega
    obtain ⟨b1, b2, b3⟩ := before_eq (16 * c - r + 16) (16 * h) (by omega) (by omega) hn
    obtain ⟨b4, b5, b6⟩ := before_eq (16 * c - r) (16 * h) (by omega) (by omega) hn
    simp only [optics_Axis.l0]
    rw [wid (x := home + h) (by omega) (by omega), wid (x := home + h + 1) (by omega) (by omega), if_pos (by omega),
      wid (x := 16 * (home + c)) (by omega) (by omega), wid (x := 16 * (home + c) - (16 * home + r)) (by omega) (by omega),
      wid (x := 16 * (home + c) - (16 * home + r) + 16) (by omega) (by omega),
      show 16 * (home + c) - (16 * home + r) + 16 = 16 * c - r + 16 by omega, show 16 * (home + c) - (16 * home + r) = 16 * c - r by omega,
      b1, b4]
    simp only [Option.bind_some]
    rw [wid (x := bf (16 * c - r + 16) (16 * h) - bf (16 * c - r) (16 * h)) (by omega) (by omega), wid (x := home + c + 1) (by omega) (by omega), Int.add_assoc home c 1]
    have hu : 0 ≤ 16 / (h * h) * (bf (16 * c - r + 16) (16 * h) - bf (16 * c - r) (16 * h)) + 70000 ∧ 16 / (h * h) * (bf (16 * c - r + 16) (16 * h) - bf (16 * c - r) (16 * h)) ≤ 70000 := by
      clear ih b1 b4
      generalize bf (16 * c - r + 16) (16 * h) = X at b2 b3
      generalize bf (16 * c - r) (16 * h) = Y at b5 b6
      rcases hh with rfl | rfl | rfl <;> simp <;> omega
    by_cases hw : 0 < wt h r c
    · have hw' : bf (16 * c - r + 16) (16 * h) - bf (16 * c - r) (16 * h) > 0 := hw
      rw [if_pos hw', if_pos (by omega), wid (by omega) (by omega), ih k (c + 1) _ (by omega) (by omega) (by simp; omega) (by omega)]
      simp only [ws]; rw [if_pos hw]; simp [at_, wt]
    · have hw' : ¬ bf (16 * c - r + 16) (16 * h) - bf (16 * c - r) (16 * h) > 0 := hw
      rw [if_neg hw', ih k (c + 1) _ (by omega) (by omega) (by omega) (by omega)]
      simp only [ws]; rw [if_neg hw]

/-- The weights of an axis, for the place r of the position among the 16 grid points of its cell. -/
def wl (h r : Int) : List (Int × Int) := ws h r (2 * h + 3).toNat (-h - 1)

theorem axis_eq (at' h : Int) (k : Nat) (hh : h = 1 ∨ h = 2 ∨ h = 4) (h0 : -65536 ≤ at') (h1 : at' ≤ 65536) (hk : 20 ≤ k) :
    optics_Axis.f k at' h = some ((wl h (at' / 16 % 16)).map (at_ (at' / 256)), 0) := by
  obtain ⟨k, rfl⟩ : ∃ m, k = m + 1 := ⟨k - 1, by omega⟩
  unfold optics_Axis.f
  rw [if_neg (by omega), show decide (at' > 65536) = false by simp; omega]
  simp only [optics_Axis.j0]
  have hR : optics_Reach.f h = some h := by rcases hh with rfl | rfl | rfl <;> rfl
  rw [if_neg (by decide), hR]
  simp only [Option.bind_some]
  rw [if_neg (by omega), floor_eq at' 16 (by omega) (by omega) (by omega) (by omega)]
  simp only [Option.bind_some]
  rw [floor_eq (at' / 16) 16 (by omega) (by omega) (by omega) (by omega)]
  simp only [Option.bind_some]
  have e : at' / 16 / 16 = at' / 256 := by omega
  have hhh : 1 ≤ h * h ∧ h * h ≤ 16 := by rcases hh with rfl | rfl | rfl <;> decide
  have htd : Int.tdiv 16 (h * h) = 16 / (h * h) := by rcases hh with rfl | rfl | rfl <;> decide
  have hdv : 1 ≤ 16 / (h * h) ∧ 16 / (h * h) ≤ 16 := by rcases hh with rfl | rfl | rfl <;> decide
  rw [wid (x := h * h) (by omega) (by omega), if_neg (by omega), e, wid (x := at' / 256 - h) (by omega) (by omega), wid (x := at' / 256 - h - 1) (by omega) (by omega),
    wid (x := 16 * h) (by omega) (by omega), htd, wid (x := 16 / (h * h)) (by omega) (by omega)]
  have := axis_loop h (at' / 256) (at' / 16 % 16) hh (by omega) (by omega) (by omega) (by omega) (2 * h + 3).toNat k (-h - 1) [] (by omega) (by omega) (by simp; omega) (by omega)
  rw [show 16 * (at' / 256) + at' / 16 % 16 = at' / 16 by omega, show at' / 256 + (-h - 1) = at' / 256 - h - 1 by omega] at this
  rw [this]
  simp [wl]

theorem spreads_true : spykeep3_spreads.f 60 = some true := by decide +kernel
theorem spreads_eq (k : Nat) (hk : 60 ≤ k) : spykeep3_spreads.f k = some true := at_rounds spykeep3_spreads.mono hk spreads_true

theorem below3 (a : Int) (_h0 : -9223372036854775808 ≤ a) (_h1 : a ≤ 9223372036854775807) : ∃ b, spymake_Below.f a 3 = some b ∧ 0 ≤ b ∧ b ≤ 2 := by
  unfold spymake_Below.f
  rw [if_neg (by decide), if_neg (by decide)]
  have t1 := Int.tmod_lt_of_pos a (show (0 : Int) < 3 by decide)
  have t2 : -3 < Int.tmod a 3 := by have := Int.lt_tmod_of_pos a (show (0 : Int) < 3 by decide); omega
  by_cases h : Int.tmod a 3 < 0
  · rw [if_pos h, wid (by omega) (by omega)]; exact ⟨_, rfl, by omega, by omega⟩
  · rw [if_neg h]; exact ⟨_, rfl, by omega, by omega⟩
theorem half_eq (a : Int) (h0 : -9223372036854775808 ≤ a) (h1 : a ≤ 9223372036854775807) : ∃ h, spykeep3_half.f a = some h ∧ (h = 1 ∨ h = 2 ∨ h = 4) := by
  obtain ⟨b, e, b0, b1⟩ := below3 a h0 h1
  unfold spykeep3_half.f
  rw [e]; simp only [Option.bind_some]
  rw [if_pos b0]
  refine ⟨_, rfl, ?_⟩
  have : b = 0 ∨ b = 1 ∨ b = 2 := by omega
  rcases this with rfl | rfl | rfl <;> decide

/-- What the law asks, of the cells counted from home. -/
def chk (h r : Int) : Option (Int × Int) → List (Int × Int) → Int → Int → Bool
  | _, [], s, m => s == 4096 && m == 4096 * (16 * r + 8)
  | p, (c, w) :: t, s, m => decide (0 < w) && decide (w ≤ 4096) && decide (-h ≤ c) && decide (c ≤ h) && decide (s + w ≤ 4096) && decide (-100000000 ≤ m) && decide (m ≤ 100000000)
    && (match p with
        | none => true
        | some (pc, pw) => c == pc + 1 && decide (c ≤ 0 → pw ≤ w) && decide (0 < c → w ≤ pw))
    && chk h r (some (c, w)) t (s + w) (m + w * (256 * c + 128))
theorem chk_all : ∀ r : Fin 16, ∀ h ∈ [(1 : Int), 2, 4], chk h r.val none (wl h r.val) 0 0 = true := by decide +kernel
theorem chk_wl (h r : Int) (hh : h = 1 ∨ h = 2 ∨ h = 4) (hr0 : 0 ≤ r) (hr1 : r ≤ 15) : chk h r none (wl h r) 0 0 = true := by
  have := chk_all ⟨r.toNat, by omega⟩ h (by simp; exact hh)
  have e : ((r.toNat : Nat) : Int) = r := by omega
  simpa only [e] using this
theorem wl_len : ∀ r : Fin 16, ∀ h ∈ [(1 : Int), 2, 4], (wl h r.val).length ≤ 20 := by decide +kernel

/-- Element i of a list that begins with some list. -/
theorem rd_at (home : Int) (pre : List (Int × Int)) (p : Int × Int) (t : List (Int × Int)) : rd_T32 ((pre ++ p :: t).map (at_ home)) (pre.length : Int) = at_ home p := by
  unfold rd_T32
  simp

theorem rd_at0 (home : Int) (pre : List (Int × Int)) (c w : Int) (t : List (Int × Int)) : (rd_T32 ((pre ++ (c, w) :: t).map (at_ home)) (pre.length : Int)).f0 = home + c := by rw [rd_at]; rfl
theorem rd_at1 (home : Int) (pre : List (Int × Int)) (c w : Int) (t : List (Int × Int)) : (rd_T32 ((pre ++ (c, w) :: t).map (at_ home)) (pre.length : Int)).f1 = w := by rw [rd_at]; rfl

theorem mom_step (home c w s m : Int) (c1 : 0 < w) (c2 : w ≤ 4096) (c3 : -4 ≤ c) (c4 : c ≤ 4) (hm0 : -1000 ≤ home) (hm1 : home ≤ 1000) (hs0 : 0 ≤ s) (hs1 : s ≤ 4096) (c6 : -100000000 ≤ m) (c7 : m ≤ 100000000) :
    wrap64 (m + 256 * home * s + wrap64 (w * wrap64 (wrap64 (256 * (home + c)) + 128))) = m + w * (256 * c + 128) + 256 * home * (s + w) := by
  have hmul := mul_bd (a := w) (b := 256 * (home + c) + 128) (A := 4096) (B := 300000) (by omega) (by omega) (by omega) (by omega)
  have hms := mul_bd (a := home) (b := s) (A := 1000) (B := 4096) (by omega) (by omega) (by omega) (by omega)
  have e0 : 256 * home * s = 256 * (home * s) := Int.mul_assoc _ _ _
  rw [wid (x := 256 * (home + c)) (by omega) (by omega), wid (x := 256 * (home + c) + 128) (by omega) (by omega), wid (x := w * (256 * (home + c) + 128)) (by omega) (by omega), wid (by omega) (by omega)]
  grind

theorem law_loop (at' a1 h r home : Int) (hh : spykeep3_half.f a1 = some h) (hv : h = 1 ∨ h = 2 ∨ h = 4) (hr0 : 0 ≤ r) (hr1 : r ≤ 15) (hm0 : -1000 ≤ home) (hm1 : home ≤ 1000) (hat : at' / 16 = 16 * home + r) (t : List (Int × Int)) :
    ∀ (k : Nat) (pre : List (Int × Int)) (s m : Int), 0 ≤ s → s ≤ 4096 → pre.length + t.length < 1000 → 2 * t.length < k → chk h r pre.getLast? t s m = true →
    spykeep3_OpticsAxesSum.l0 k at' a1 ((pre ++ t).map (at_ home)) home s (m + 256 * home * s) ((pre ++ t).map (at_ home)) ((pre ++ t).length : Int) (pre.length : Int) = some true := by
  induction t with
  | nil =>
    intro k pre s m hs0 hs1 hl hk hc
    obtain ⟨k, rfl⟩ : ∃ m, k = m + 1 := ⟨k - 1, by omega⟩
    simp only [chk, Bool.and_eq_true, beq_iff_eq] at hc
    obtain ⟨rfl, rfl⟩ := hc
    simp only [spykeep3_OpticsAxesSum.l0]
    rw [if_neg (by simp)]
    simp only [if_true]
    rw [hat, wid (x := (16 * home + r) * 16) (by omega) (by omega), wid (x := (16 * home + r) * 16 + 8) (by omega) (by omega), wid (by omega) (by omega)]
    simp; omega
  | cons p t ih =>
    intro k pre s m hs0 hs1 hl hk hc
    obtain ⟨c, w⟩ := p
    obtain ⟨k, rfl⟩ : ∃ m, k = m + 2 := ⟨k - 2, by simp at hk; omega⟩
    simp only [chk, Bool.and_eq_true, decide_eq_true_eq] at hc
    obtain ⟨⟨⟨⟨⟨⟨⟨⟨c1, c2⟩, c3⟩, c4⟩, c5⟩, c6⟩, c7⟩, c8⟩, c9⟩ := hc
    simp only [List.length_cons] at hl hk
    have hnext := ih k (pre ++ [(c, w)]) (s + w) (m + w * (256 * c + 128)) (by omega) (by omega) (by simp; omega) (by omega) (by simpa using c9)
    have hl1 : ((pre ++ [(c, w)]).length : Int) = (pre.length : Int) + 1 := by simp
    rw [show pre ++ [(c, w)] ++ t = pre ++ (c, w) :: t by simp, hl1] at hnext
    have hlen : (((pre ++ (c, w) :: t).map (at_ home)).length : Int) = ((pre ++ (c, w) :: t).length : Int) := by simp
    have hlen2 : ((pre ++ (c, w) :: t).length : Int) = (pre.length : Int) + 1 + t.length := by simp; omega
    simp only [spykeep3_OpticsAxesSum.l0]
    rw [if_pos (by omega), if_pos (by omega), if_pos (by omega), rd_at0, rd_at1, if_neg (by omega), hh]
    simp only [Option.bind_some]
    rw [wid (x := home - h) (by omega) (by omega), if_neg (by omega), wid (x := home + h) (by omega) (by omega), show decide (home + c > home + h) = false by simp; omega]
    simp only [spykeep3_OpticsAxesSum.j2]
    rw [if_neg (by decide), wid (x := s + w) (by omega) (by omega), mom_step home c w s m c1 c2 (by omega) (by omega) hm0 hm1 hs0 hs1 c6 c7, wid (x := (pre.length : Int) + 1) (by omega) (by omega), hnext]
    rcases List.eq_nil_or_concat pre with rfl | ⟨pre', q, rfl⟩
    · simp
    · obtain ⟨pc, pw⟩ := q
      simp only [List.concat_eq_append, List.getLast?_append, List.getLast?_singleton, Option.some_or, Bool.and_eq_true, beq_iff_eq, decide_eq_true_eq] at c8
      obtain ⟨⟨d1, d2⟩, d3⟩ := c8
      have hq : ((pre'.concat (pc, pw)).length : Int) = (pre'.length : Int) + 1 := by simp
      have hrd0 : (rd_T32 ((pre'.concat (pc, pw) ++ (c, w) :: t).map (at_ home)) (pre'.length : Int)).f0 = home + pc := by
        have := rd_at0 home pre' pc pw ((c, w) :: t)
        rw [List.concat_eq_append, List.append_assoc]; exact this
      have hrd1 : (rd_T32 ((pre'.concat (pc, pw) ++ (c, w) :: t).map (at_ home)) (pre'.length : Int)).f1 = pw := by
        have := rd_at1 home pre' pc pw ((c, w) :: t)
        rw [List.concat_eq_append, List.append_assoc]; exact this
      rw [hq, wid (x := (pre'.length : Int) + 1 - 1) (by omega) (by omega), show (pre'.length : Int) + 1 - 1 = pre'.length by omega, hrd0, hrd1]
      rw [wid (x := home + pc + 1) (by omega) (by omega), if_pos (by omega), if_pos (by omega), if_pos (by omega), if_pos (by omega)]
      by_cases hc0 : c ≤ 0
      · rw [if_pos (by omega), if_neg (by have := d2 hc0; omega), if_neg (by omega)]
      · rw [if_neg (by omega), if_pos (by omega), if_neg (by have := d3 (by omega); omega)]

theorem OpticsAxesSum : spykeep3_OpticsAxesSum.Pure := by
  intro a0 a1 w0 w1
  have b1 : -9223372036854775808 ≤ a1 ∧ a1 ≤ 9223372036854775807 := bounds_i64 w1
  obtain ⟨h, hh, hv⟩ := half_eq a1 b1.1 b1.2
  refine ⟨100, ?_⟩
  unfold spykeep3_OpticsAxesSum.f
  have t1 := Int.tmod_lt_of_pos a0 (show (0 : Int) < 65536 by decide)
  have t2 := Int.lt_tmod_of_pos a0 (show (0 : Int) < 65536 by decide)
  generalize Int.tmod a0 65536 = x at t1 t2
  rw [hh]; simp only [Option.bind_some]
  rw [axis_eq x h 100 hv (by omega) (by omega) (by omega)]; simp only [Option.bind_some]
  rw [spreads_eq 100 (by omega)]; simp only [Option.bind_some, if_true]
  simp only [spykeep3_OpticsAxesSum.j0]
  have hl := wl_len ⟨(x / 16 % 16).toNat, by omega⟩ h (by simp; exact hv)
  have hl' : (wl h (x / 16 % 16)).length ≤ 20 := by
    have e : (((x / 16 % 16).toNat : Nat) : Int) = x / 16 % 16 := by omega
    simpa only [e] using hl
  rw [if_neg (by decide)]
  have := law_loop x a1 h (x / 16 % 16) (x / 256) hh hv (by omega) (by omega) (by omega) (by omega) (by omega) (wl h (x / 16 % 16)) 99 [] 0 0 (by omega) (by omega) (by simp; omega) (by omega) (chk_wl h _ hv (by omega) (by omega))
  simpa using this

end Go.Proofs.Ytjdjbmokjhooaaa.Pure
