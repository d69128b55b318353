/- Keys that are pairs of whole numbers, as the kit reads them. -/
import Derived.Test.YtcnhbfdkediodaaSpMapA
import Derived.WideKeyArr
import Derived.Maps.Keyed
import Derived.Sort.KeysCollected
namespace Go.Sp
open Go Go.RowKit Go.Maps Go.WideShapes
set_option linter.unusedVariables false
set_option linter.unusedSimpArgs false
def bytesA (x : Int × Int) : List UInt8 := keyBytes [.int .i64 x.1, .int .i64 x.2]
def KW (x : Int × Int) : Prop := (Lit.int .i64 x.1).wf = true ∧ (Lit.int .i64 x.2).wf = true
instance (x : Int × Int) : Decidable (KW x) := by unfold KW; infer_instance
/-- What is told of the type [2]int, for the kit's laws on keys. -/
structure ArrL (P : Program) (kt E : TypeId) : Prop where
  k : WideMaps.ArrKey P kt E 2
  e : P.underlying E = some (.int .i64)
  s : ∃ m, P.types.size = m + 1
section
variable {P : Program} {kt E : TypeId}
theorem ArrL.keyed (h : ArrL P kt E) : Keyed P kt := Keyed.of_law h.k.law
theorem lit1 (he : P.underlying E = some (.int .i64)) {d : Nat} {c : Value} {l : List Lit} (h : P.keyLits (d + 1) E [c] = some l) : ∃ a, c = .int .i64 a ∧ (Lit.int .i64 a).wf = true ∧ l = [.int .i64 a] := by
  unfold Program.keyLits at h
  rw [he] at h
  cases c <;> simp at h
  rename_i q a
  obtain ⟨⟨rfl, hw⟩, rfl⟩ := h
  exact ⟨a, rfl, hw, rfl⟩
theorem lit1_of (he : P.underlying E = some (.int .i64)) {d : Nat} {a : Int} (hw : (Lit.int .i64 a).wf = true) : P.keyLits (d + 1) E [.int .i64 a] = some [.int .i64 a] := by
  unfold Program.keyLits
  rw [he]
  simp [hw]
theorem ArrL.keyOf (h : ArrL P kt E) {x : Int × Int} (hx : KW x) : Go.keyOf P kt (kA x) = some (.string (bytesA x)) := by
  obtain ⟨m, hm⟩ := h.s
  have hf : (kA x).formed P kt = true := by simp [Value.formed, h.k.hu, h.k.size]
  unfold Go.keyOf
  rw [h.k.hu]
  have hl : P.keyLits (P.types.size + 1) kt (kA x).cells.toList = some [.int .i64 x.1, .int .i64 x.2] := by
    rw [hm]
    unfold Program.keyLits
    rw [h.k.hu]
    have e0 : P.keyLits (m + 1) E [.int .i64 x.1] = some [.int .i64 x.1] := lit1_of h.e hx.1
    have e1 : P.keyLits (m + 1) E [.int .i64 x.2] = some [.int .i64 x.2] := lit1_of h.e hx.2
    simp [Value.cells, h.k.size, h.k.one, List.range, List.range.loop, e0, e1]
  simp only [h.k.keyType h.s, hf, Bool.and_self, if_true, hl, Option.map_some]
  rfl
theorem ArrL.inv (h : ArrL P kt E) {v : Value} {l : Lit} (hv : Go.keyOf P kt v = some l) : ∃ x : Int × Int, v = kA x ∧ l = .string (bytesA x) ∧ KW x := by
  obtain ⟨xs, L, rfl, h1, rfl⟩ := keyOf_top h.k.wide hv
  obtain ⟨m, hm⟩ := h.s
  rw [hm] at h1
  unfold Program.keyLits at h1
  rw [h.k.hu] at h1
  simp only at h1
  split at h1
  · rename_i hl
    rw [h.k.size] at hl
    obtain ⟨c0, c1, hc⟩ : ∃ c0 c1, xs.toList = [c0, c1] := by
      match hx : xs.toList, hl with
      | [a, b], _ => exact ⟨a, b, rfl⟩
    rw [hc, h.k.one] at h1
    simp [List.range, List.range.loop, Option.map_eq_some_iff, Option.bind_eq_some_iff] at h1
    obtain ⟨l0, h0, l2, ⟨l1, h2, rfl⟩, rfl⟩ := h1
    obtain ⟨a, rfl, ha, rfl⟩ := lit1 h.e h0
    obtain ⟨b, rfl, hb, rfl⟩ := lit1 h.e h2
    refine ⟨(a, b), ?_, rfl, ha, hb⟩
    rw [show xs = #[.int .i64 a, .int .i64 b] from Array.ext' hc]
  · cases h1
theorem kA_inj {x y : Int × Int} (h : kA x = kA y) : x = y := by
  simp at h
  exact Prod.ext h.1 h.2
theorem ArrL.bytes_inj (h : ArrL P kt E) {x y : Int × Int} (hx : KW x) (hy : KW y) (e : bytesA x = bytesA y) : x = y :=
  kA_inj (h.keyed.inj (h.keyOf hx) (by rw [e]; exact h.keyOf hy))
/-- Lists of keys that are one another's permutations as bytes are so themselves. -/
theorem ArrL.perm (h : ArrL P kt E) {xs ys : List (Int × Int)} (hx : ∀ x ∈ xs, KW x) (hy : ∀ y ∈ ys, KW y) (hp : (xs.map bytesA).Perm (ys.map bytesA)) : xs.Perm ys := by
  classical
  let g : List UInt8 → Int × Int := fun b => if q : ∃ x, KW x ∧ bytesA x = b then q.choose else (0, 0)
  have hg : ∀ x, KW x → g (bytesA x) = x := by
    intro x hw
    have q : ∃ y, KW y ∧ bytesA y = bytesA x := ⟨x, hw, rfl⟩
    show (if q : ∃ y, KW y ∧ bytesA y = bytesA x then q.choose else (0, 0)) = x
    rw [dif_pos q]
    exact h.bytes_inj q.choose_spec.1 hw q.choose_spec.2
  have := hp.map g
  have ex : List.map (g ∘ bytesA) xs = xs := (List.map_congr_left (f := g ∘ bytesA) (g := id) (fun x hx' => hg x (hx x hx'))).trans (List.map_id _)
  have ey : List.map (g ∘ bytesA) ys = ys := (List.map_congr_left (f := g ∘ bytesA) (g := id) (fun x hx' => hg x (hy x hx'))).trans (List.map_id _)
  rw [List.map_map, List.map_map, ex, ey] at this
  exact this
end
end Go.Sp
