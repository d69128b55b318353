/- '==' of structs as one Bool. -/
import Derived.Test.YtblgjdbiccjfdaaSpMore
import Derived.Laws.StructEq
namespace Go.Sp
open Go Go.RowKit
set_option linter.unusedVariables false
def eqFs (e : TypeId → Value → Value → Option Bool) (P : Program) (xs ys : Array Value) : List Field → Option Bool
  | [] => some true
  | f :: fs =>
    match f.name == "_" with
    | true => eqFs e P xs ys fs
    | false =>
      match still P (part f.type xs f.offset), still P (part f.type ys f.offset) with
      | some a, some b =>
        match e f.type a b, eqFs e P xs ys fs with
        | some r, some s => some (r && s)
        | _, _ => none
      | _, _ => none
def eqB (P : Program) : Nat → TypeId → Value → Value → Option Bool
  | 0, _, _, _ => none
  | d + 1, t, x, y =>
    match P.underlying t, x, y with
    | some .bool, .bool a, .bool b => some (a == b)
    | some (.int _), .int k a, .int k' b => match decide (k = k') with | true => some (a == b) | false => none
    | some .string, .string a, .string b => some (a.toList == b.toList)
    | some (.struct fs), .agg xs, .agg ys => match P.stoodInHeld t with | false => eqFs (eqB P d) P xs ys fs.toList | true => none
    | _, _, _ => none
theorem eqFs_run {P : Program} {e : TypeId → Value → Value → Option Bool} {d : Nat} {w : World} (he : ∀ t x y b, e t x y = some b → (Op.equalIn d t x y).run P w = .ok b w) (xs ys : Array Value) : ∀ (fs : List Field) (b : Bool), eqFs e P xs ys fs = some b → (Op.eqFields d xs ys fs).run P w = .ok b w := by
  intro fs
  induction fs with
  | nil => intro b h; simp [eqFs] at h; subst h; rfl
  | cons f fs ih =>
    intro b h
    unfold eqFs at h
    split at h
    · rename_i hn
      have hn' : ¬ (f.name ≠ "_") := by simpa using hn
      rw [Op.eqFields, if_neg hn']
      exact ih b h
    · rename_i hn
      have hn' : f.name ≠ "_" := by simpa using hn
      split at h
      · rename_i a a' h1 h2
        split at h
        · rename_i r s h3 h4
          injection h with h
          subst h
          rw [Op.eqFields, if_pos hn']
          simp only [Sem.run_bind, still_run h1, still_run h2, he _ _ _ _ h3, Result.andThen_ok]
          cases r
          · simp
          · simpa using ih s h4
        · cases h
      · cases h
theorem eqB_run {P : Program} {w : World} : ∀ (d D : Nat) (t : TypeId) (x y : Value) (b : Bool), d ≤ D → eqB P d t x y = some b → (Op.equalIn D t x y).run P w = .ok b w := by
  intro d
  induction d with
  | zero => intro D t x y b _ h; simp [eqB] at h
  | succ d ih =>
    intro D t x y b hD h
    obtain ⟨D, rfl⟩ : ∃ j, D = j + 1 := ⟨D - 1, by omega⟩
    unfold eqB at h
    split at h
    · rename_i hu
      injection h with h; subst h
      simp [Op.equalIn, run_underlying hu]
    · rename_i k k' hu
      split at h
      · rename_i hk
        injection h with h; subst h
        have hk := of_decide_eq_true hk
        simp [Op.equalIn, run_underlying hu, hk]
      · cases h
    · rename_i hu
      injection h with h; subst h
      simp [Op.equalIn, run_underlying hu, beq_toListBytes]
    · rename_i fs xs ys hu
      split at h
      · rename_i hp
        have hf : P.fieldsOf t = fs := by simp [Program.fieldsOf, hu]
        rw [run_equalIn_struct (P := P) w D t xs ys (by rw [hf]; exact hu) hp, hf]
        exact eqFs_run (fun t x y b hb => ih D t x y b (by omega) hb) xs ys fs.toList b h
      · cases h
    · cases h
theorem run_eqS {P : Program} {a : Act} {o : Oper} {T T' : TypeId} {x y : Operand} {xs ys : Array Value} {b : Bool} (ho : o.op = .binOp .eql T x y T') (hx : a.eval x = .agg xs) (hy : a.eval y = .agg ys) (hm : P.eqGuardType P.depth T = false) (h : eqB P 9 T (.agg xs) (.agg ys) = some b) (w : World) :
    (execOp a.eval o).run P w = .ok (.value (.bool b)) w := by
  simp only [execOp, ho, hx, hy, Sem.run_bind, run_eqGuard_agg w .eql T x y xs ys hm, run_eql_struct, Result.andThen_ok, eqB_run 9 10000 T _ _ b (by omega) h]
  rfl
section
variable {f : FM} {s : Seg} {α : Type} {e : Ty α} {P : Program} {a : Act} {o : Oper}
end
end Go.Sp
