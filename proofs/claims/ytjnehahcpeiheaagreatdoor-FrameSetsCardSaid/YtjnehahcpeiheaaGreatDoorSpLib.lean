/- Strings cut; the library's functions on strings by the kit's contracts. -/
import Derived.Test.YtjnehahcpeiheaaGreatDoorSpStr
import Derived.Lib.AtoiErrMem
import Derived.Laws.Strings2
import Derived.Lib.Repeat
import Derived.Lib.Space
import Derived.Lib.Strings
import Derived.Lib.TrimByte
import Derived.Lib.ParseIntB
import Derived.Lib.AtoiAll
import Derived.Lib.IndexMore
namespace Go.Sp
open Go Go.RowKit Go.Sort Go.Lib
set_option linter.unusedVariables false
def scut (s : ByteArray) (i j : Int) : ByteArray := ⟨((s.data.toList.drop i.toNat).take (j.toNat - i.toNat)).toArray⟩
theorem extract_scut (s : ByteArray) (a b : Nat) : s.extract a b = ⟨((s.data.toList.drop a).take (b - a)).toArray⟩ := by
  have := ByteArray.extract_mk s.data.toList a b
  simpa using this
section
variable {P : Program} {t w : World} {f g : FM} {H : List Seg} {a : Act} {o : Oper} {x y z : Operand}
theorem run_scutLH {T : TypeId} {bs : ByteArray} {k k' : IntKind} {i j : Int} (ho : o.op = .slice T x (some y) (some z) none) (hT : P.underlying T = some .string) (hx : a.eval x = .string bs) (hy : a.eval y = .int k i) (hz : a.eval z = .int k' j)
    (h0 : 0 ≤ i) (h1 : i ≤ j) (h2 : j ≤ (bs.size : Int)) (w : World) : (execOp a.eval o).run P w = .ok (.value (.string (scut bs i j))) w := by
  have := run_slice_string (P := P) w T bs k k' i j hT h0 h1 h2
  rw [extract_scut] at this
  simp [execOp, ho, hx, hy, hz, run_sliceAt_string w T _ _ _ _ hT, this, scut]
theorem run_scutL {T : TypeId} {bs : ByteArray} {k : IntKind} {i : Int} (ho : o.op = .slice T x (some y) none none) (hT : P.underlying T = some .string) (hx : a.eval x = .string bs) (hy : a.eval y = .int k i)
    (h0 : 0 ≤ i) (h1 : i ≤ (bs.size : Int)) (w : World) : (execOp a.eval o).run P w = .ok (.value (.string (scut bs i (bs.size : Int)))) w := by
  have := run_slice_string_l (P := P) w T bs hT k i h0 h1
  rw [extract_scut] at this
  simp [execOp, ho, hx, hy, run_sliceAt_string w T _ _ _ _ hT, this, scut]
theorem run_scutH {T : TypeId} {bs : ByteArray} {k : IntKind} {j : Int} (ho : o.op = .slice T x none (some y) none) (hT : P.underlying T = some .string) (hx : a.eval x = .string bs) (hy : a.eval y = .int k j)
    (h0 : 0 ≤ j) (h1 : j ≤ (bs.size : Int)) (w : World) : (execOp a.eval o).run P w = .ok (.value (.string (scut bs 0 j))) w := by
  have := run_slice_string_h (P := P) w T bs hT k j h0 h1
  rw [extract_scut] at this
  simp [execOp, ho, hx, hy, run_sliceAt_string w T _ _ _ _ hT, this, scut]
theorem lib_calls {fn : FuncId} {args : Array Value} {r : Value} {Q : World → Prop} (hc : Calls P fn args w fun e w' => e = .returned r ∧ Q w') (hQ : ∀ w', Q w' → Below w.heap.size w w') (HS : St t w f H) :
    Calls P fn args w fun e w' => ∃ (g : FM), e = .returned r ∧ FM.le f g ∧ St t w' g H := by
  refine hc.mono ?_
  rintro e w' ⟨rfl, hq⟩
  exact ⟨f, rfl, FM.le.refl _, HS.below (hQ w' hq)⟩
def VarI (b : Nat) (f : FM) : Prop := ∃ m E fr, f b = some (.cells #[.int .i64 m] E fr)
theorem VarI.mono {b : Nat} (h : VarI b f) (hl : FM.le f g) : VarI b g := by
  obtain ⟨m, E, fr, h⟩ := h
  exact ⟨m, E, fr, hl _ _ h⟩
theorem VarI.cell {b : Nat} (h : VarI b f) (HS : St t w f H) : ∃ m, w.cell? ⟨b, 0, none⟩ = some (.int .i64 m) := by
  obtain ⟨m, E, fr, h⟩ := h
  exact ⟨m, by rw [cell_of_row w b 0 _ E fr (HS.fz _ _ h)]; rfl⟩
theorem q_same (w' : World) (h : w' = w) : Below w.heap.size w w' := h ▸ Below.refl _ _
theorem q_below (w' : World) (h : Below w.heap.size w w') : Below w.heap.size w w' := h
theorem q_bytes {e : TypeId} {s : ByteArray} (w' : World) (h : w' = bytesWorld w e s) : Below w.heap.size w w' := h ▸ bytesWorld_below w e s
theorem q_bytes2 {e : TypeId} (w' : World) (h : w' = w ∨ ∃ t, w' = bytesWorld w e t) : Below w.heap.size w w' := by
  rcases h with h | ⟨s, h⟩
  · exact q_same w' h
  · exact q_bytes w' h
theorem q_drew (w' : World) (h : ∃ n, w' = w.drewN n) : Below w.heap.size w w' := by
  obtain ⟨n, rfl⟩ := h
  have := below_grow w.heap.size w (Nat.le_refl _) n #[]
  have e : grow (w.drewN n) #[] = w.drewN n := (show ∀ v : World, grow v #[] = v from fun v => by unfold grow; cases v; simp) _
  rw [e] at this
  exact this
end
end Go.Sp
