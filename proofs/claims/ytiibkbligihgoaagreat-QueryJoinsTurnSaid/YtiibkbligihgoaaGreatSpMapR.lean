/- Maps with whole numbers as keys and structs as values, of the walk's own: a block of its own; what its entries hold is told as of a row's elements. -/
import Derived.Test.YtiibkbligihgoaaGreatSpMap
namespace Go.Sp
open Go Go.MapKept
set_option linter.unusedVariables false
set_option linter.unusedSimpArgs false
def mb (A : Option Addr) : Option Nat := A.map (·.block)
section
variable {α : Type} {κ : IntKind} {e : Ty α} {P : Program} {t w : World} {f g : FM} {H : List Seg} {a : Act} {o : Oper} {K' : Value → World → Prop} {A : Option Addr} {c : Nat} {s : Seg}
def merase : List (Int × α) → Int → List (Int × α)
  | [], _ => []
  | p :: m, k => if p.1 = k then m else p :: merase m k
def sortedKeys (m : List (Int × α)) : Option (List Int) :=
  if (m.all fun p => (Lit.int .i64 p.1).wf) = true then (if m.length * 8 ≤ 140737488355328 then some ((m.map fun p => p.1).mergeSort fun x y => decide (x ≤ y)) else none) else none
def ERep (κ : IntKind) (e : Ty α) (f : FM) : List MapEntry → List (Int × α) → Prop
  | [], [] => True
  | x :: es, p :: m => x.key = .int κ p.1 ∧ (∃ cs, x.val = .agg cs ∧ e.rep f cs.toList p.2) ∧ ERep κ e f es m
  | _, _ => False
theorem ERep.mono (hl : FM.le f g) : ∀ {es : List MapEntry} {m : List (Int × α)}, ERep κ e f es m → ERep κ e g es m
  | [], [], _ => trivial
  | x :: es, p :: m, h => ⟨h.1, by obtain ⟨cs, h1, h2⟩ := h.2.1; exact ⟨cs, h1, e.mono hl h2⟩, ERep.mono hl h.2.2⟩
  | [], _ :: _, h => h.elim
  | _ :: _, [], h => h.elim
theorem ERep.len : ∀ {es : List MapEntry} {m : List (Int × α)}, ERep κ e f es m → es.length = m.length
  | [], [], _ => rfl
  | x :: es, p :: m, h => by simp [ERep.len h.2.2]
  | [], _ :: _, h => h.elim
  | _ :: _, [], h => h.elim
theorem e_none {k : Int} : ∀ {es : List MapEntry} {m : List (Int × α)}, ERep κ e f es m → mfind m k = none → (∀ j, Instr.findNow (.int κ) (.int κ k) es j = some none) ∧ (∀ x ∈ es, x.key ≠ .int κ k) ∧ merase m k = m
  | [], [], _, _ => ⟨fun _ => rfl, by simp, rfl⟩
  | x :: es, p :: m, h, hf => by
    rw [mfind] at hf
    by_cases c : p.1 = k
    · rw [if_pos c] at hf; cases hf
    · rw [if_neg c] at hf
      obtain ⟨h1, h2, h3⟩ := e_none h.2.2 hf
      refine ⟨fun j => ?_, fun y hy => ?_, by rw [merase, if_neg c, h3]⟩
      · rw [Instr.findNow, h.1, sameNow_int, beq_eq_false_iff_ne.mpr (fun q => c q.symm)]
        exact h1 _
      · rcases List.mem_cons.mp hy with rfl | hy
        · rw [h.1]; intro q; injection q with _ q; exact c q
        · exact h2 y hy
  | [], _ :: _, h, _ => h.elim
  | _ :: _, [], h, _ => h.elim
theorem e_some {k : Int} {v : α} : ∀ {es : List MapEntry} {m : List (Int × α)}, ERep κ e f es m → mfind m k = some v → ∃ q x cs, es[q]? = some x ∧ x.key = .int κ k ∧ x.val = .agg cs ∧ e.rep f cs.toList v ∧ (∀ j, Instr.findNow (.int κ) (.int κ k) es j = some (some (j + q, .agg cs))) ∧
    (∀ u cs', e.rep f cs'.toList u → ERep κ e f (es.modify q fun y => { y with key := .int κ k, val := .agg cs' }) (mput m k u)) ∧ ERep κ e f (es.eraseIdx q) (merase m k)
  | [], [], _, hf => by rw [mfind] at hf; cases hf
  | x :: es, p :: m, h, hf => by
    rw [mfind] at hf
    by_cases c : p.1 = k
    · rw [if_pos c] at hf
      injection hf with hf
      obtain ⟨hk, ⟨cs, h1, h2⟩, hr⟩ := h
      rw [hf] at h2
      refine ⟨0, x, cs, rfl, by rw [hk, c], h1, h2, fun j => ?_, fun u cs' hu => ?_, ?_⟩
      · rw [Instr.findNow, hk, sameNow_int, beq_iff_eq.mpr c.symm, h1]; rfl
      · rw [mput, if_pos c]
        exact ⟨rfl, ⟨cs', rfl, hu⟩, hr⟩
      · rw [merase, if_pos c]; exact hr
    · rw [if_neg c] at hf
      obtain ⟨q, y, cs, h1, h2, h3, h4, h5, h6, h7⟩ := e_some h.2.2 hf
      refine ⟨q + 1, y, cs, h1, h2, h3, h4, fun j => ?_, fun u cs' hu => ?_, ?_⟩
      · rw [Instr.findNow, h.1, sameNow_int, beq_eq_false_iff_ne.mpr (fun q => c q.symm)]
        show Instr.findNow _ _ _ (j + 1) = _
        rw [h5, show j + 1 + q = j + (q + 1) by omega]
      · rw [mput, if_neg c, List.modify_succ_cons]
        exact ⟨h.1, h.2.1, h6 u cs' hu⟩
      · rw [merase, if_neg c, List.eraseIdx_cons_succ]
        exact ⟨h.1, h.2.1, h7⟩
  | [], _ :: _, h, _ => h.elim
  | _ :: _, [], h, _ => h.elim
def OwnM (e : Ty α) (E : Nat) (f : FM) (A : Option Addr) (c : Nat) (s : Seg) (m : List (Int × α)) : Prop :=
  ∃ b es clock, A = some ⟨b, 0, none⟩ ∧ s = [(b, .map es clock)] ∧ ERep .i64 e f es.toList m ∧ Stamped es clock
theorem OwnM.mono {E : Nat} {m : List (Int × α)} (h : OwnM e E f A c s m) (hl : FM.le f g) : OwnM e E g A c s m := by
  obtain ⟨b, es, cl, h1, h2, h3, h4⟩ := h
  exact ⟨b, es, cl, h1, h2, h3.mono hl, h4⟩
theorem OwnM.look {E : Nat} {m : List (Int × α)} {z : α} {zc : Array Value} (h : OwnM e E f A c s m) (k : Int) (hz : e.rep f zc.toList z) : ∃ cs : List Value, e.rep f cs (mget z m k) ∧ ∀ {T kt Et : TypeId} {x y : Operand} {ok : Bool} {o : Oper} {a : Act} {t w : World} {g : FM} {H : List Seg}, o.op = .lookup T x y ok → P.underlying T = some (.map kt Et) → P.underlying kt = some (.int .i64) →
    (P.info? Et).bind (·.zero) = some (.agg zc) → a.eval x = .map (mb A) → a.eval y = .int .i64 k → St t w g (s :: H) → (execOp a.eval o).run P w = .ok (.value (if ok then .tuple #[.agg cs.toArray, .bool (mfind m k).isSome] else .agg cs.toArray)) w := by
  obtain ⟨b, es, cl, rfl, rfl, hr, _⟩ := h
  unfold mget
  have hkey : IsKey (.int .i64) (.int .i64 k) := by simp [IsKey]
  have hzero : ∀ (Et : TypeId) (w : World), (P.info? Et).bind (·.zero) = some (.agg zc) → (zeroValue Et).run P w = .ok (.agg zc) w := by
    intro Et w hz
    cases hi : P.info? Et with
    | none => rw [hi] at hz; cases hz
    | some i =>
      rw [hi] at hz
      have hz' : i.zero = some (.agg zc) := hz
      simp [zeroValue, typeInfo, hi, hz']
  cases hf : mfind m k with
  | none =>
    obtain ⟨h1, _, _⟩ := e_none hr hf
    refine ⟨zc.toList, hz, fun {T kt Et x y ok o a t w g H} ho hT hk hzz hx hy hS => ?_⟩
    have hb := hS.blk
    have hl : (Instr.lookup T (.map (some b)) (.int .i64 k) ok).run P w = .ok (if ok then .tuple #[.agg zc, .bool false] else .agg zc) w := by
      cases ok <;> simp [Instr.lookup, run_underlying hT, MapKept.run_getObj_map hb, MapKept.run_checkKey hk hkey, MapKept.run_findKey hk (h1 0), hzero Et w hzz, Result.andThen]
    simp [execOp, ho, hx, hy, mb, hl]
  | some v =>
    obtain ⟨q, x0, cs, _, _, _, h4, h5, _⟩ := e_some hr hf
    refine ⟨cs.toList, h4, fun {T kt Et x y ok o a t w g H} ho hT hk hzz hx hy hS => ?_⟩
    have hb := hS.blk
    have hl : (Instr.lookup T (.map (some b)) (.int .i64 k) ok).run P w = .ok (if ok then .tuple #[.agg cs, .bool true] else .agg cs) w := by
      cases ok <;> simp [Instr.lookup, run_underlying hT, MapKept.run_getObj_map hb, MapKept.run_checkKey hk hkey, MapKept.run_findKey hk (h5 0), Result.andThen]
    simp [execOp, ho, hx, hy, mb, hl]
theorem set_turn {b : Nat} {o1 o2 : Obj} (hS : St t w f ([(b, o1)] :: H)) : St t { w with heap := w.heap.setIfInBounds b o2 } f ([(b, o2)] :: H) :=
  hS.turn rfl rfl rfl (fun j hj x hx => by rw [← hx]; exact (heap_set (o' := o2) hS.blk).2 j hj) (heap_set hS.blk).1
end
end Go.Sp
