/- Strings: sums, conversions; tables that a row lists; strconv by the kit's contracts. -/
import Derived.Test.YtjnehahcpeiheaaGreatDoorSpCopy
import Derived.Laws.Concat
import Derived.Laws.BytesString
import Derived.Laws.BytesArg
import Derived.Lib.LaidTab
import Derived.Lib.AppendIntMem
namespace Go.Sp
open Go Go.RowKit Go.Sort Go.Lib
set_option linter.unusedVariables false
def bstr (xs : List Int) : ByteArray := ⟨(xs.map fun n => UInt8.ofNat n.toNat).toArray⟩
section
variable {P : Program} {t w : World} {f g : FM} {H : List Seg} {a : Act} {o : Oper} {x y : Operand}
theorem run_concat {T T' : TypeId} {m n : ByteArray} (ho : o.op = .binOp .add T x y T') (hx : a.eval x = .string m) (hy : a.eval y = .string n) (h : m.size + n.size ≤ 9223372036854775807) (w : World) :
    (execOp a.eval o).run P w = .ok (.value (.string (m ++ n))) w := by
  have := run_string_add_sum (P := P) (w := w) m n h
  simp [execOp, ho, hx, hy, eqGuard, binOp, this]
theorem reps_int {κ : IntKind} {cs : List Value} {xs : List Int} : Reps (tInt κ) f cs xs ↔ cs = xs.map (Value.int κ) := by
  induction xs generalizing cs with
  | nil => simp [Reps]
  | cons x xs ih =>
    constructor
    · rintro ⟨c, cs', rfl, hc, h⟩
      have : c = [.int κ x] := hc
      rw [this, ih.mp h]; rfl
    · intro h
      exact ⟨[.int κ x], xs.map (Value.int κ), by rw [h]; rfl, rfl, ih.mpr rfl⟩
theorem run_bstr {src dst E : TypeId} {A : Option Addr} {c : Nat} {xs : List Int} (ho : o.op = .convert src dst x) (hs : P.underlying src = some (.slice E)) (he : P.underlying E = some (.int .u8)) (hd : P.underlying dst = some .string)
    (hx : a.eval x = .slice A xs.length c) (hR : Rc (tInt .u8) w f A xs) : (execOp a.eval o).run P w = .ok (.value (.string (bstr xs))) w := by
  have key : (convert src dst (.slice A xs.length c)).run P w = .ok (.string (bstr xs)) w := by
    rw [run_convert_bytes_string w src dst E _ _ c hs he hd]
    cases hA : A with
    | none =>
      rcases hR with h | ⟨b, off, cs, h, _⟩
      · subst h; simp [Conv.bytesToString, bstr]; rfl
      · rw [hA] at h; cases h
    | some ad =>
      have hl : (loadCells ad xs.length).run P w = .ok (xs.map (Value.int .u8)).toArray w := by
        rcases hR with h | ⟨b, off, cs, h, hr, hc⟩
        · subst h; simp [loadCells, loadCellsFrom, Sem.run_pure]
        · rw [hA] at h
          injection h with h
          subst h
          have hcs := reps_int.mp hr
          have := run_loadCells_list (P := P) w ⟨b, off, none⟩ (xs.map (Value.int .u8)) (fun j v hj => hc j v (by rw [hcs]; exact hj))
          simpa using this
      rw [run_bytesToString w ad xs.length c xs hl, foldl_push_bytes]
      simp [bstr, ByteArray.empty, ByteArray.emptyWithCapacity]
      rfl
  simp [execOp, ho, hx, key]
def TabF (P : Program) (name : String) (k : IntKind) (zs : List Int) (f : FM) : Prop := ∃ g E fr, P.globalNamed name = some g ∧ f g = some (.cells (zs.map fun z => Value.int k z).toArray E fr)
theorem TabF.mono {name : String} {k : IntKind} {zs : List Int} (h : TabF P name k zs f) (hl : FM.le f g) : TabF P name k zs g := by
  obtain ⟨b, E, fr, h1, h2⟩ := h
  exact ⟨b, E, fr, h1, hl _ _ h2⟩
theorem TabF.tab {name : String} {k : IntKind} {zs : List Int} (h : TabF P name k zs f) (hS : St t w f H) : TabIs P w name k zs := by
  obtain ⟨b, E, fr, h1, h2⟩ := h
  unfold TabIs World.var?
  rw [h1, Option.bind_some, hS.fz _ _ h2]
def numeral (n : Int) : ByteArray := ⟨(itoa n).toArray⟩
theorem itoa_calls {fn : FuncId} {args : Array Value} {n : Int} {Tab : World → Prop}
    (hcall : ∀ w : World, Tab w → Calls P fn args w fun e w' => e = .returned (.string ⟨(itoa n).toArray⟩) ∧ ∃ k os, w' = grow (w.drewN k) os) (HS : St t w f H) (HT : Tab w) :
    Calls P fn args w fun e w' => e = .returned (.string (numeral n)) ∧ St t w' f H := by
  refine (hcall w HT).mono ?_
  rintro e w' ⟨rfl, k, os, rfl⟩
  exact ⟨rfl, HS.below (below_grow _ w (Nat.le_refl _) k os)⟩
end
end Go.Sp
