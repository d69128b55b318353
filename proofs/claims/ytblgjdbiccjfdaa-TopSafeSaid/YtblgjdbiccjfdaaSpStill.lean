/- Operations that neither look at memory nor turn it: reckoned by Lean itself. -/
import Derived.Test.YtblgjdbiccjfdaaSpBase
namespace Go.Sp
open Go
def still (P : Program) {α : Type} : Sem α → Option α
  | .pure a => some a
  | .program k => still P (k P)
  | .mark _ k => still P k
  | _ => none
theorem still_run {P : Program} {α : Type} {s : Sem α} {a : α} (h : still P s = some a) (w : World) : s.run P w = .ok a w := by
  induction s with
  | pure b => simp [still] at h; subst h; rfl
  | program k ih => simp only [still] at h; simp only [Sem.run]; exact ih P h
  | mark m k ih => simp only [still] at h; simp only [Sem.run]; exact ih h
  | _ => simp [still] at h
def Does (P : Program) (a : Act) (w : World) (o : Oper) (K : Value → World → Prop) : Prop :=
  ∀ (K' : Act → World → Prop) (Q : Exit → Act → World → Prop), (∀ v w', K v w' → K' (a.put o.dst v) w') → o.wp P a w K' Q
section
variable {P : Program} {a : Act} {w : World} {o : Oper} {K : Value → World → Prop} {ops : Array Oper} {Q : Exit → Act → World → Prop} {rest : List Oper}
theorem does_run {v : Value} {w' : World} (h : (execOp a.eval o).run P w = .ok (.value v) w') (hK : K v w') : Does P a w o K := by
  intro K' Q hk
  unfold Oper.wp
  rw [h]
  exact hk v w' hK
theorem does_skip {w' : World} (h : (execOp a.eval o).run P w = .ok .skip w') (hK : K undef w') : Does P a w o K := by
  intro K' Q hk
  unfold Oper.wp
  rw [h]
  exact hk undef w' hK
theorem does_still {v : Value} (h : still P (execOp a.eval o) = some (.value v)) (hK : K v w) : Does P a w o K := does_run (still_run h w) hK
theorem does_call {f : FuncId} {args : Array Value} {R : Ending → World → Prop} (h : still P (execOp a.eval o) = some (.enter f args)) (hc : Calls P f args w R)
    (hR : ∀ e w', R e w' → ∃ v, e = .returned v ∧ K v w') : Does P a w o K := by
  intro K' Q hk
  unfold Oper.wp
  rw [still_run h w]
  refine Calls.mono hc ?_
  intro e w' hr
  obtain ⟨v, rfl, hv⟩ := hR e w' hr
  exact hk v w' hv
theorem seqK (hg : o.guard = none) (h : Does P a w o (fun v w' => wpList P ops Q rest (a.put o.dst v) w')) : wpList P ops Q (o :: rest) a w :=
  wpList_plain hg fun K hK => h K Q fun v w' hv => hK _ _ hv
theorem seqG (hw : Region.wanted o (yielded ops a.tmps) = true) (h : Does P a w o (fun v w' => wpList P ops Q rest (a.put o.dst v) w')) : wpList P ops Q (o :: rest) a w :=
  wpList_step fun K hK => by rw [if_pos hw]; exact h K Q fun v w' hv => hK _ _ hv
theorem seqN (hw : Region.wanted o (yielded ops a.tmps) = false) (h : wpList P ops Q rest (a.put o.dst undef) w) : wpList P ops Q (o :: rest) a w :=
  wpList_step fun K hK => by rw [if_neg (by rw [hw]; exact Bool.false_ne_true)]; exact hK _ _ h
def stillOps (P : Program) (ops : Array Oper) : Nat → List Oper → Act → Option Act
  | 0, _, a => some a
  | n + 1, o :: rest, a =>
    match Region.wanted o (yielded ops a.tmps) with
    | true => match still P (execOp a.eval o) with
      | some (.value v) => stillOps P ops n rest (a.put o.dst v)
      | _ => none
    | false => stillOps P ops n rest (a.put o.dst undef)
  | _ + 1, [], _ => none
theorem seqS (n : Nat) {l : List Oper} {a' : Act} (h : stillOps P ops n l a = some a') (hk : wpList P ops Q (l.drop n) a' w) : wpList P ops Q l a w := by
  induction n generalizing l a with
  | zero => simp [stillOps] at h; subst h; exact hk
  | succ n ih =>
    cases l with
    | nil => simp [stillOps] at h
    | cons o rest =>
      simp only [stillOps] at h
      split at h
      · rename_i hw
        split at h
        · rename_i v hv
          exact seqG hw (does_still hv (ih h hk))
        · cases h
      · rename_i hw
        exact seqN hw (ih h hk)
end
end Go.Sp
