/- slices.Sort of whole numbers: the kit's contract, told of a row of one's own. -/
import Derived.Test.YtpdemjoehkgohaaSpCopy
import Derived.Sort.OwnSortedInts
import Derived.Lib.SlicesCompact
namespace Go.Sp
open Go Go.RowKit Go.Sort Go.Proofs
set_option linter.unusedVariables false
def srt (xs : List Int) : List Int := xs.mergeSort fun x y => decide (x ≤ y)
theorem srt_length (xs : List Int) : (srt xs).length = xs.length := List.length_mergeSort xs
theorem reps_sorted {f : FM} {cs : List Value} {xs : List Int} : Reps (tInt .i64) f cs xs ↔ cs = xs.map (Value.int .i64) := by
  induction xs generalizing cs with
  | nil => simp [Reps]
  | cons x xs ih =>
    constructor
    · rintro ⟨c, cs', rfl, hc, h⟩
      have : c = [.int .i64 x] := hc
      rw [this, ih.mp h]; rfl
    · intro h
      exact ⟨[.int .i64 x], xs.map (Value.int .i64), by rw [h]; rfl, rfl, ih.mpr rfl⟩
theorem sort_own {P : Program} {t w : World} {f : FM} {H : List Seg} {fn : Nat} {E : TypeId} {A : Option Addr} {c : Nat} {s : Seg} {xs : List Int}
    (hsort : ∀ (blk off cap : Nat) (zs : List Int) (w : World), Holds (Value.int .i64) w blk off zs.toArray → blk < w.heap.size → zs.length < 4611686018427387904 → Calls P fn #[.slice (some ⟨blk, off, none⟩) zs.length cap] w fun e w' =>
      e = .returned (.tuple #[]) ∧ ∃ n os, w' = grow (putRow (Value.int .i64) (Sort.ahead w n) blk off (zs.mergeSort fun x y => decide (x ≤ y)).toArray) os)
    (hnone : ∀ (p : Option Addr) (cap : Nat) (w : World), Calls P fn #[.slice p 0 cap] w fun e w' => e = .returned (.tuple #[]) ∧ w' = w)
    (HS : St t w f (s :: H)) (HO : Own (tInt .i64) E f A c s xs) (hl : xs.length < 4611686018427387904) :
    Calls P fn #[.slice A xs.length c] w fun e w' => ∃ (g : FM) (s' : Seg), e = .returned (.tuple #[]) ∧ FM.le f g ∧ St t w' g (s' :: H) ∧ Own (tInt .i64) E g A c s' (srt xs) ∧ (srt xs).length = xs.length := by
  rcases HO with ⟨rfl, rfl, rfl, rfl⟩ | ⟨b, arr, rfl, rfl, h1, h2, h3, h4⟩
  · refine (hnone none 0 w).mono fun e w' ⟨he, hw⟩ => ?_
    subst hw
    exact ⟨f, [], he, FM.le.refl _, HS, .inl ⟨rfl, rfl, rfl, by simp [srt]⟩, srt_length _⟩
  · have h4' := reps_sorted.mp h4
    rw [show (tInt .i64).sz = 1 from rfl, Nat.mul_one] at h4'
    have e1 : c * (tInt .i64).sz = c := Nat.mul_one c
    have h3' : c ≤ arr.size := by omega
    have hH := holds_of_blockI (e := E) (ss := xs) HS.blk h4'
    refine (hsort b 0 c xs w hH (lt_of_some HS.blk) hl).mono fun e w' ⟨he, n, os, hw⟩ => ?_
    have hb := heap_sortedI (n := n) (os := os) (xs.mergeSort fun x y => decide (x ≤ y)).toArray HS.blk
    have hg := grownBy_sortedI (w := w) (g := b) (n := n) (os := os) (xs.mergeSort fun x y => decide (x ≤ y)).toArray
    rw [← hw] at hb hg
    obtain ⟨g1, g2, g3, g4, g5⟩ := hg
    have hS' := HS.turn g1 g2 g3 (fun k hk x hx => by
      rw [g5 k (lt_of_some hx) (fun e => hk (Option.some.inj e))]; exact hx) hb
    refine ⟨f, _, he, FM.le.refl _, hS', .inr ⟨b, _, rfl, rfl, by rw [srt_length]; exact h1, h2, ?_, ?_⟩, srt_length _⟩
    · have : (Sort.putCells (Value.int .i64) 0 (xs.mergeSort fun x y => decide (x ≤ y)).toArray arr).size = arr.size := by simp [Sort.putCells]
      omega
    · rw [reps_sorted, show (tInt .i64).sz = 1 from rfl, Nat.mul_one]
      have hle : (srt xs).length ≤ arr.size := by rw [srt_length]; omega
      exact take_putCellsI arr (srt xs) hle
theorem compact_le (xs : List Int) : (Lib.compact xs).length ≤ xs.length := by
  have h : ∀ m, (Lib.compactUpTo xs.toArray m).length ≤ m := by
    intro m
    induction m with
    | zero => simp [Lib.compactUpTo]
    | succ m ih => rw [Lib.compactUpTo_succ, List.length_append]; split <;> simp <;> omega
  exact h xs.length
theorem compact_own {P : Program} {t w : World} {f : FM} {H : List Seg} {fn : Nat} {E : TypeId} {A : Option Addr} {c : Nat} {s : Seg} {xs : List Int}
    (hcomp : ∀ (blk off cap : Nat) (zs : List Int) (w : World), Holds (Value.int .i64) w blk off zs.toArray → zs.length ≤ 9223372036854775807 → zs.length ≤ cap → Calls P fn #[.slice (some ⟨blk, off, none⟩) zs.length cap] w fun e w' =>
      e = .returned (.slice (some ⟨blk, off, none⟩) (Lib.compact zs).length cap) ∧ ∃ q, w' = putRow (Value.int .i64) (Sort.ahead w q) blk off (Lib.compact zs ++ List.replicate (zs.length - (Lib.compact zs).length) 0).toArray)
    (hnone : ∀ (p : Option Addr) (cap : Nat) (w : World), Calls P fn #[.slice p 0 cap] w fun e w' => e = .returned (.slice p 0 cap) ∧ w' = w)
    (HS : St t w f (s :: H)) (HO : Own (tInt .i64) E f A c s xs) (hl : xs.length < 4611686018427387904) :
    Calls P fn #[.slice A xs.length c] w fun e w' => ∃ (g : FM) (A' : Option Addr) (c' : Nat) (s' : Seg), e = .returned (.slice A' (Lib.compact xs).length c') ∧ FM.le f g ∧ St t w' g (s' :: H) ∧ Own (tInt .i64) E g A' c' s' (Lib.compact xs) := by
  rcases HO with ⟨rfl, rfl, rfl, rfl⟩ | ⟨b, arr, rfl, rfl, h1, h2, h3, h4⟩
  · refine (hnone none 0 w).mono fun e w' ⟨he, hw⟩ => ?_
    subst hw
    exact ⟨f, none, 0, [], he, FM.le.refl _, HS, .inl ⟨rfl, rfl, rfl, rfl⟩⟩
  · have h4' := reps_sorted.mp h4
    rw [show (tInt .i64).sz = 1 from rfl, Nat.mul_one] at h4'
    have e1 : c * (tInt .i64).sz = c := Nat.mul_one c
    have h3' : c ≤ arr.size := by omega
    have hc := compact_le xs
    have hH := holds_of_blockI (e := E) (ss := xs) HS.blk h4'
    refine (hcomp b 0 c xs w hH (by omega) h1).mono fun e w' ⟨he, n, hw⟩ => ?_
    obtain ⟨d, hd⟩ : ∃ d, d = Lib.compact xs ++ List.replicate (xs.length - (Lib.compact xs).length) 0 := ⟨_, rfl⟩
    rw [← hd] at hw
    have hdl : d.length = xs.length := by rw [hd, List.length_append, List.length_replicate]; omega
    have hb := heap_sortedI (n := n) (os := #[]) d.toArray HS.blk
    have hg := grownBy_sortedI (w := w) (g := b) (n := n) (os := #[]) d.toArray
    rw [grow_empty, ← hw] at hb hg
    obtain ⟨g1, g2, g3, g4, g5⟩ := hg
    have hS' := HS.turn g1 g2 g3 (fun k hk x hx => by
      rw [g5 k (lt_of_some hx) (fun e => hk (Option.some.inj e))]; exact hx) hb
    refine ⟨f, _, _, _, he, FM.le.refl _, hS', .inr ⟨b, _, rfl, rfl, by omega, h2, ?_, ?_⟩⟩
    · have : (Sort.putCells (Value.int .i64) 0 d.toArray arr).size = arr.size := by simp [Sort.putCells]
      omega
    · rw [reps_sorted, show (tInt .i64).sz = 1 from rfl, Nat.mul_one]
      have ht := take_putCellsI arr d (by omega)
      have e2 : (Sort.putCells (Value.int .i64) 0 d.toArray arr).toList.take (Lib.compact xs).length = ((Sort.putCells (Value.int .i64) 0 d.toArray arr).toList.take d.length).take (Lib.compact xs).length := by rw [List.take_take, Nat.min_eq_left (by omega)]
      rw [e2, ht, ← List.map_take, hd, List.take_append_of_le_length (Nat.le_refl _), List.take_of_length_le (Nat.le_refl _)]
end Go.Sp
