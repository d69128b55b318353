/- Operations of a region that draws its order: the condition is handed on under a name. -/
import Derived.Test.YtblgjdbiccjfdaaSpCopy
namespace Go.Sp
open Go
set_option linter.unusedVariables false
def un : Nat → List Value → List Value
  | 0, r => r
  | n + 1, r => undef :: un n r
def jr (j : Nat → Value) (a : Nat) : Nat → List Value → List Value
  | 0, r => r
  | n + 1, r => j a :: jr j (a + 1) n r
abbrev bA (n m : Nat) : Array Bool := ⟨(List.range n).map fun i => m.testBit i⟩
section
variable {P : Program} {md : Region.Mode} {ops : Array Oper} {Q : Exit → Act → World → Prop} {a : Act} {t w : World} {f : FM} {H : List Seg} {gs : List (Nat × Seg)}
theorem takeOps_up : ∀ {is : List Nat} {listed l' : Array Bool} {a a' : Act} {w : World}, takeOps P md ops is listed a = some (l', a') → Sg t f H gs listed w → Sg t f H gs l' w
  | [], _, _, _, _, _, h, hS => by simp only [takeOps, Option.some.injEq, Prod.mk.injEq] at h; obtain ⟨rfl, rfl⟩ := h; exact hS
  | i :: is, _, _, _, _, _, h, hS => by
    simp only [takeOps] at h
    split at h
    · split at h
      · split at h
        · split at h
          · exact takeOps_up h (hS.up i)
          · cases h
        · exact takeOps_up h (hS.up i)
      · cases h
    · cases h
theorem gL (is : List Nat) {n fuel : Nat} {listed : Array Bool} (l' : Array Bool) (hn : n = fuel + is.length) (hd : (is.all fun i => gs.all fun p => p.1 != i) = true) (hs : Region.noSelect ops = true) (h : (takeOps P md ops is listed a).map (·.1) = some l') (hQ : ∀ ch a w, ¬ Q (.panic ch) a w) (hS : Sg t f H gs listed w)
    (hk : Sg t f H gs l' w → AnyL P md ops Q (Sg t f H gs) fuel l' (tkA P md ops is listed a) w) : AnyL P md ops Q (Sg t f H gs) n listed a w := by
  refine takeGL is l' hn hd hs h hQ hS (hk ?_)
  cases e : takeOps P md ops is listed a with
  | none => rw [e] at h; cases h
  | some r =>
    rw [e] at h
    injection h with h
    subst h
    exact takeOps_up (a' := r.2) e hS
theorem gQ (i : Nat) {o : Oper} {v : Value} {fuel : Nat} {listed : Array Bool} (ho : ops[i]? = some o) (hd : (gs.all fun p => p.1 != i) = true) (hs : Region.noSelect ops = true) (hf : Region.free md ops listed i = true) (hr : (Region.ready md ops listed).contains i = true)
    (hw : Region.wanted o (yielded ops a.tmps) = true) (hQ : ∀ ch a w, ¬ Q (.panic ch) a w) (hS : Sg t f H gs listed w) (hy : ∀ {w : World} {g : FM}, FM.le f g → St t w g H → (execOp a.eval o).run P w = .ok (.value v) w)
    (hk : Sg t f H gs (listed.setIfInBounds i true) w → AnyL P md ops Q (Sg t f H gs) fuel (listed.setIfInBounds i true) (a.put o.dst v) w) : AnyL P md ops Q (Sg t f H gs) (fuel + 1) listed a w :=
  takeGQ i [] ho hd hs hf hr rfl hw hQ hS (fun w hw => by obtain ⟨g, hl, h⟩ := hw.st; exact hy hl h) (hk (hS.up i))
theorem gQs (i j : Nat) {s : Seg} {o : Oper} {v : Value} {fuel : Nat} {listed : Array Bool} (ho : ops[i]? = some o) (hd : (gs.all fun p => p.1 != i) = true) (hs : Region.noSelect ops = true) (hf : Region.free md ops listed i = true) (hr : (Region.ready md ops listed).contains i = true)
    (hgt : gated md ops listed i [j] = true) (hp : (j, s) ∈ gs) (hw : Region.wanted o (yielded ops a.tmps) = true) (hQ : ∀ ch a w, ¬ Q (.panic ch) a w) (hS : Sg t f H gs listed w) (hy : ∀ {w : World} {g : FM}, FM.le f g → St t w g [s] → (execOp a.eval o).run P w = .ok (.value v) w)
    (hk : Sg t f H gs (listed.setIfInBounds i true) w → AnyL P md ops Q (Sg t f H gs) fuel (listed.setIfInBounds i true) (a.put o.dst v) w) : AnyL P md ops Q (Sg t f H gs) (fuel + 1) listed a w :=
  takeGQ i [j] ho hd hs hf hr hgt hw hQ hS (fun w hw => by obtain ⟨g, hl, h⟩ := hw.seg (by simp) hp; exact hy hl h) (hk (hS.up i))
end
theorem kB {p q : Prop} (h : p) (k : p → q) : p ∧ q := ⟨h, k h⟩
end Go.Sp
