/- Maps with whole numbers as keys, of the walk's own: a block of its own, told by the list of its entries in the order in which they came. -/
import Derived.Test.YtiibkbligihgoaaGreatSpCopy
import Derived.MapKept
namespace Go.Sp
open Go Go.MapKept
set_option linter.unusedVariables false
set_option linter.unusedSimpArgs false
variable {α : Type} {κ : IntKind} {vf : α → Value} {P : Program} {t w : World} {f : FM} {H : List Seg} {a : Act} {o : Oper} {K' : Value → World → Prop}
def ments (κ : IntKind) (vf : α → Value) : List (Int × α) → Nat → List MapEntry
  | [], _ => []
  | p :: m, i => ⟨.int κ p.1, vf p.2, i⟩ :: ments κ vf m (i + 1)
def mobj (κ : IntKind) (vf : α → Value) (m : List (Int × α)) : Obj := .map (ments κ vf m 0).toArray m.length
def mfind : List (Int × α) → Int → Option α
  | [], _ => none
  | p :: m, k => if p.1 = k then some p.2 else mfind m k
def mget (z : α) (m : List (Int × α)) (k : Int) : α := (mfind m k).getD z
def mput : List (Int × α) → Int → α → List (Int × α)
  | [], k, v => [(k, v)]
  | p :: m, k, v => if p.1 = k then (k, v) :: m else p :: mput m k v
theorem sameNow_int (x y : Int) : Instr.sameNow (.int κ) (.int κ x) (.int κ y) = some (x == y) := by simp [Instr.sameNow]
theorem findNow_none {m : List (Int × α)} {k : Int} (h : mfind m k = none) : ∀ i j, Instr.findNow (.int κ) (.int κ k) (ments κ vf m i) j = some none := by
  induction m with
  | nil => intro i j; rfl
  | cons p m ih =>
    intro i j
    rw [mfind] at h
    by_cases c : p.1 = k
    · rw [if_pos c] at h; cases h
    · rw [if_neg c] at h
      rw [ments, Instr.findNow, sameNow_int, beq_eq_false_iff_ne.mpr (fun e => c e.symm)]
      exact ih h _ _
theorem findNow_some {m : List (Int × α)} {k : Int} {v : α} (h : mfind m k = some v) : ∃ q, q < m.length ∧ ∀ i, (∀ j, Instr.findNow (.int κ) (.int κ k) (ments κ vf m i) j = some (some (j + q, vf v))) ∧
    (∃ e, (ments κ vf m i)[q]? = some e ∧ e.key = .int κ k) ∧ ∀ u, (ments κ vf m i).modify q (fun e => { e with key := .int κ k, val := vf u }) = ments κ vf (mput m k u) i := by
  induction m with
  | nil => rw [mfind] at h; cases h
  | cons p m ih =>
    rw [mfind] at h
    by_cases c : p.1 = k
    · rw [if_pos c] at h
      injection h with h
      refine ⟨0, by simp, fun i => ⟨fun j => ?_, ?_, fun u => ?_⟩⟩
      · rw [ments, Instr.findNow, sameNow_int, beq_iff_eq.mpr c.symm, h]; rfl
      · exact ⟨_, rfl, by rw [c]⟩
      · rw [mput, if_pos c]; rfl
    · rw [if_neg c] at h
      obtain ⟨q, hq, ih⟩ := ih h
      refine ⟨q + 1, by simp only [List.length_cons]; omega, fun i => ?_⟩
      obtain ⟨h1, ⟨e, h2, h3⟩, h4⟩ := ih (i + 1)
      refine ⟨fun j => ?_, ⟨e, h2, h3⟩, fun u => ?_⟩
      · rw [ments, Instr.findNow, sameNow_int, beq_eq_false_iff_ne.mpr (fun e => c e.symm)]
        show Instr.findNow _ _ _ (j + 1) = _
        rw [h1, show j + 1 + q = j + (q + 1) by omega]
      · rw [mput, if_neg c, ments, ments, List.modify_succ_cons, h4]
theorem mput_none {m : List (Int × α)} {k : Int} (h : mfind m k = none) (u : α) : (mput m k u).length = m.length + 1 ∧ ∀ i, ments κ vf (mput m k u) i = ments κ vf m i ++ [⟨.int κ k, vf u, i + m.length⟩] := by
  induction m with
  | nil => exact ⟨rfl, fun i => rfl⟩
  | cons p m ih =>
    rw [mfind] at h
    by_cases c : p.1 = k
    · rw [if_pos c] at h; cases h
    · rw [if_neg c] at h
      obtain ⟨h1, h2⟩ := ih h
      refine ⟨by rw [mput, if_neg c, List.length_cons, h1, List.length_cons], fun i => ?_⟩
      rw [mput, if_neg c, ments, ments, h2, List.length_cons, show i + 1 + m.length = i + (m.length + 1) by omega]
      rfl
theorem mput_some {m : List (Int × α)} {k : Int} {v : α} (h : mfind m k = some v) (u : α) : (mput m k u).length = m.length := by
  induction m with
  | nil => rw [mfind] at h; cases h
  | cons p m ih =>
    rw [mfind] at h
    by_cases c : p.1 = k
    · rw [mput, if_pos c]; rfl
    · rw [if_neg c] at h
      rw [mput, if_neg c, List.length_cons, ih h, List.length_cons]
theorem run_lookup {T kt E : TypeId} {x y : Operand} {b : Nat} {m : List (Int × α)} {k : Int} {z : α} (ho : o.op = .lookup T x y false) (hT : P.underlying T = some (.map kt E)) (hk : P.underlying kt = some (.int κ))
    (hz : (P.info? E).bind (·.zero) = some (vf z)) (hx : a.eval x = .map (some b)) (hy : a.eval y = .int κ k) (hS : w.heap[b]? = some (mobj κ vf m)) :
    (execOp a.eval o).run P w = .ok (.value (vf (mget z m k))) w := by
  have hkey : IsKey (.int κ) (.int κ k) := by simp [IsKey]
  have hzero : (zeroValue E).run P w = .ok (vf z) w := by
    cases hi : P.info? E with
    | none => rw [hi] at hz; cases hz
    | some i =>
      rw [hi] at hz
      have hz' : i.zero = some (vf z) := hz
      simp [zeroValue, typeInfo, hi, hz']
  have hr : (Instr.lookup T (.map (some b)) (.int κ k) false).run P w = .ok (vf (mget z m k)) w := by
    unfold mget
    cases hf : mfind m k with
    | none =>
      have h1 : Instr.findNow (.int κ) (.int κ k) (ments κ vf m 0).toArray.toList 0 = some none := findNow_none hf 0 0
      simp only [Option.getD_none]
      simp [Instr.lookup, run_underlying hT, MapKept.run_getObj_map hS, MapKept.run_checkKey hk hkey, MapKept.run_findKey hk h1, hzero, Result.andThen]
    | some v =>
      obtain ⟨q, hq, hr⟩ := findNow_some (κ := κ) (vf := vf) hf
      have h1 : Instr.findNow (.int κ) (.int κ k) (ments κ vf m 0).toArray.toList 0 = some (some (0 + q, vf v)) := (hr 0).1 0
      simp only [Option.getD_some]
      simp [Instr.lookup, run_underlying hT, MapKept.run_getObj_map hS, MapKept.run_checkKey hk hkey, MapKept.run_findKey hk h1, Result.andThen]
  simp [execOp, ho, hx, hy, hr]
theorem does_makeMap {T : TypeId} (κ : IntKind) (vf : α → Value) (ho : o.op = .makeMap T none) (hS : St t w f H)
    (hK : ∀ b w', St t w' f ([(b, mobj κ vf ([] : List (Int × α)))] :: H) → K' (.map (some b)) w') : Does P a w o K' := by
  refine does_run (v := .map (some w.heap.size)) (w' := w.alloc (.map #[] 0)) ?_ (hK _ _ (hS.alloc _))
  simp [execOp, ho, Instr.makeMap, alloc_eq]
theorem does_mapUpdate {T kt E : TypeId} {x y u : Operand} {b : Nat} {m : List (Int × α)} {k : Int} {v : α} (ho : o.op = .mapUpdate T x y u) (hT : P.underlying T = some (.map kt E)) (hk : P.underlying kt = some (.int κ))
    (hx : a.eval x = .map (some b)) (hy : a.eval y = .int κ k) (hu : a.eval u = vf v) (hS : St t w f ([(b, mobj κ vf m)] :: H))
    (hK : ∀ w', St t w' f ([(b, mobj κ vf (mput m k v))] :: H) → K' undef w') : Does P a w o K' := by
  have hkey : IsKey (.int κ) (.int κ k) := by simp [IsKey]
  have hb : w.heap[b]? = some (mobj κ vf m) := hS.blk
  have hr : (Instr.mapUpdate T (.map (some b)) (.int κ k) (vf v)).run P w = .ok () { w with heap := w.heap.setIfInBounds b (mobj κ vf (mput m k v)) } := by
    cases hf : mfind m k with
    | none =>
      have h1 : Instr.findNow (.int κ) (.int κ k) (ments κ vf m 0).toArray.toList 0 = some none := findNow_none hf 0 0
      obtain ⟨h2, h3⟩ := mput_none (κ := κ) (vf := vf) hf v
      have e : mobj κ vf (mput m k v) = .map ((ments κ vf m 0).toArray.push ⟨.int κ k, vf v, m.length⟩) (m.length + 1) := by
        unfold mobj
        rw [h2, h3 0, Nat.zero_add]
        simp
      rw [e]
      simp [Instr.mapUpdate, run_underlying hT, MapKept.run_getObj_map hb, MapKept.run_checkKey hk hkey, MapKept.run_findKey hk h1, MapKept.run_setObj_map _ hb, Result.andThen]
    | some v0 =>
      obtain ⟨q, hq, hr⟩ := findNow_some (κ := κ) (vf := vf) hf
      obtain ⟨h1, ⟨e0, h2, h3⟩, h4⟩ := hr 0
      have h1' : Instr.findNow (.int κ) (.int κ k) (ments κ vf m 0).toArray.toList 0 = some (some (q, vf v0)) := by rw [← Nat.zero_add q]; exact h1 0
      have hj : (ments κ vf m 0).toArray[q]? = some e0 := by simpa using h2
      have e : mobj κ vf (mput m k v) = .map ((ments κ vf m 0).toArray.modify q fun e => { e with key := .int κ k, val := vf v }) m.length := by
        unfold mobj
        rw [mput_some hf, ← h4 v, List.modify_toArray]
      rw [e]
      simp [Instr.mapUpdate, run_underlying hT, MapKept.run_getObj_map hb, MapKept.run_checkKey hk hkey, MapKept.run_findKey hk h1', hj, h2, h3, run_keyThatStays hkey, MapKept.run_setObj_map _ hb, Result.andThen]
  have hlt := lt_of_some hb
  refine does_skip (w' := { w with heap := w.heap.setIfInBounds b (mobj κ vf (mput m k v)) }) ?_ (hK _ ?_)
  · simp [execOp, ho, hx, hy, hu, hr]
  · exact hS.turn rfl rfl rfl (fun j hj x hx => by
      rw [← hx]; exact (heap_set (o' := mobj κ vf (mput m k v)) hb).2 j hj) (heap_set hb).1
end Go.Sp
