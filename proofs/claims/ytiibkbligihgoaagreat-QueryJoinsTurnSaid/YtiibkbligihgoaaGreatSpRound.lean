/- Ranges over a function: control in a round's frame, and the statement's own law, in this memory logic. -/
import Derived.Test.YtiibkbligihgoaaGreatSpCopy
import Derived.RangeFuncStops
import Derived.LoopN
import Derived.OrdersIn
import Derived.Sort.LoopGhostIn
import Derived.TacticsIn
namespace Go.Sp
open Go Go.RowKit
set_option linter.unusedVariables false
section
variable {r : Option Nat} {n : Nat} {P : Program} {Q : Exit → Act → World → Prop} {a : Act} {w : World} {o : Oper} {K : Act → World → Prop} {ops : Array Oper} {rest : List Oper} {t : World} {f : FM} {H : List Seg}
end
theorem St.put {t w : World} {f : FM} {pre H : List Seg} {b : Nat} {o : Obj} (o' : Obj) (h : St t w f (pre ++ [(b, o)] :: H)) : St t (w.putObj b o') f (pre ++ [(b, o')] :: H) := by
  refine St.fromFront pre ((St.toFront pre h).turn rfl rfl rfl (fun k hk x hx => ?_) ?_)
  · rw [World.putObj_heap_other hk]; exact hx
  · exact World.putObj_heap_same (lt_of_some (St.toFront pre h).blk)
theorem St.apart {t w : World} {f : FM} {HI Hk tl : List Seg} (h : St t w f (HI ++ (Hk ++ tl))) : St t w f (Hk ++ (tl ++ HI)) :=
  h.perm (flat_perm (by rw [← List.append_assoc Hk tl HI]; exact List.perm_append_comm))
theorem St.fcell {t w : World} {f g : FM} {H : List Seg} {b : Nat} {cs : Array Value} {E : TypeId} {fr : Nat × Nat} (h : St t w g H) (hb : f b = some (.cells cs E fr)) (hl : FM.le f g) (j : Nat) : w.cell? ⟨b, j, none⟩ = cs[j]? :=
  cell_of_row w b j cs E fr (h.fz b _ (hl b _ hb))
theorem St.fcells {t w : World} {f g : FM} {H : List Seg} {b : Nat} {cs : Array Value} {E : TypeId} {fr : Nat × Nat} (h : St t w g H) (hb : f b = some (.cells cs E fr)) (hl : FM.le f g) (off n : Nat) (l : List Value) (e : l = (cs.toList.drop off).take n) : ∀ j, j < n → w.cell? ⟨b, off + j, none⟩ = l[j]? := by
  intro j hj
  rw [h.fcell hb hl, e, take_drop_get hj, Array.getElem?_toList]
def mark (D : Nat) : Deferred := { target := .collected D, args := #[] }
section
variable {r : Option Nat} {n : Nat} {P : Program} {Q : Exit → Act → World → Prop} {a : Act} {w : World} {o : Oper} {ops : Array Oper} {rest : List Oper}
end
theorem SlR.cap {α : Type} {e : Ty α} {f : FM} {A : Option Addr} {c c' : Nat} {xs : List α} (h : SlR e f A c xs) (hl : xs.length ≤ c') : SlR e f A c' xs := ⟨hl, h.2⟩
section
variable {α : Type} {e : Ty α} {P : Program} {a : Act} {w : World} {o : Oper} {K : Value → World → Prop} {f : FM}
end
theorem loopStepK {P : Program} {Q : Exit → Act → World → Prop} {a : Act} {w : World} {c : Code} {n : Nat} (h : ∀ K : Act → World → Prop, (∀ a w, Code.rounds P c Q n a w → K a w) → c.wp P (Exit.then K Q) a w) : Code.rounds P c Q (n + 1) a w :=
  h _ fun _ _ h => h
end Go.Sp
