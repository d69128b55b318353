/- '==' of structs as one Bool. -/
import Derived.Test.YtiibkbligihgoaaGreatSpMore
import Derived.Laws.StructEq
namespace Go.Sp
open Go Go.RowKit
set_option linter.unusedVariables false
def eqFs (e : TypeId → Value → Value → Option Bool) (P : Program) (xs ys : Array Value) : List Field → Option Bool
  | [] => some true
  | f :: fs =>
    match f.name == "_" with
    | true => eqFs e P xs ys fs
    | false =>
      match still P (part f.type xs f.offset), still P (part f.type ys f.offset) with
      | some a, some b =>
        match e f.type a b, eqFs e P xs ys fs with
        | some r, some s => some (r && s)
        | _, _ => none
      | _, _ => none
def eqB (P : Program) : Nat → TypeId → Value → Value → Option Bool
  | 0, _, _, _ => none
  | d + 1, t, x, y =>
    match P.underlying t, x, y with
    | some .bool, .bool a, .bool b => some (a == b)
    | some (.int _), .int k a, .int k' b => match decide (k = k') with | true => some (a == b) | false => none
    | some .string, .string a, .string b => some (a.toList == b.toList)
    | some (.struct fs), .agg xs, .agg ys => match P.stoodInHeld t with | false => eqFs (eqB P d) P xs ys fs.toList | true => none
    | _, _, _ => none
theorem eqFs_run {P : Program} {e : TypeId → Value → Value → Option Bool} {d : Nat} {w : World} (he : ∀ t x y b, e t x y = some b → (Op.equalIn d t x y).run P w = .ok b w) (xs ys : Array Value) : ∀ (fs : List Field) (b : Bool), eqFs e P xs ys fs = some b → (Op.eqFields d xs ys fs).run P w = .ok b w := by
  intro fs
  induction fs with
  | nil => intro b h; simp [eqFs] at h; subst h; rfl
  | cons f fs ih =>
    intro b h
    unfold eqFs at h
    split at h
    · rename_i hn
      have hn' : ¬ (f.name ≠ "_") := by simpa using hn
      rw [Op.eqFields, if_neg hn']
      exact ih b h
    · rename_i hn
      have hn' : f.name ≠ "_" := by simpa using hn
      split at h
      · rename_i a a' h1 h2
        split at h
        · rename_i r s h3 h4
          injection h with h
          subst h
          rw [Op.eqFields, if_pos hn']
          simp only [Sem.run_bind, still_run h1, still_run h2, he _ _ _ _ h3, Result.andThen_ok]
          cases r
          · simp
          · simpa using ih s h4
        · cases h
      · cases h
theorem eqB_run {P : Program} {w : World} : ∀ (d D : Nat) (t : TypeId) (x y : Value) (b : Bool), d ≤ D → eqB P d t x y = some b → (Op.equalIn D t x y).run P w = .ok b w := by
  intro d
  induction d with
  | zero => intro D t x y b _ h; simp [eqB] at h
  | succ d ih =>
    intro D t x y b hD h
    obtain ⟨D, rfl⟩ : ∃ j, D = j + 1 := ⟨D - 1, by omega⟩
    unfold eqB at h
    split at h
    · rename_i hu
      injection h with h; subst h
      simp [Op.equalIn, run_underlying hu]
    · rename_i k k' hu
      split at h
      · rename_i hk
        injection h with h; subst h
        have hk := of_decide_eq_true hk
        simp [Op.equalIn, run_underlying hu, hk]
      · cases h
    · rename_i hu
      injection h with h; subst h
      simp [Op.equalIn, run_underlying hu, beq_toListBytes]
    · rename_i fs xs ys hu
      split at h
      · rename_i hp
        have hf : P.fieldsOf t = fs := by simp [Program.fieldsOf, hu]
        rw [run_equalIn_struct (P := P) w D t xs ys (by rw [hf]; exact hu) hp, hf]
        exact eqFs_run (fun t x y b hb => ih D t x y b (by omega) hb) xs ys fs.toList b h
      · cases h
    · cases h
theorem run_eqS {P : Program} {a : Act} {o : Oper} {T T' : TypeId} {x y : Operand} {xs ys : Array Value} {b : Bool} (ho : o.op = .binOp .eql T x y T') (hx : a.eval x = .agg xs) (hy : a.eval y = .agg ys) (hm : P.eqGuardType P.depth T = false) (h : eqB P 9 T (.agg xs) (.agg ys) = some b) (w : World) :
    (execOp a.eval o).run P w = .ok (.value (.bool b)) w := by
  simp only [execOp, ho, hx, hy, Sem.run_bind, run_eqGuard_agg w .eql T x y xs ys hm, run_eql_struct, Result.andThen_ok, eqB_run 9 10000 T _ _ b (by omega) h]
  rfl
theorem run_neS {P : Program} {a : Act} {o : Oper} {T T' : TypeId} {x y : Operand} {xs ys : Array Value} {b : Bool} (ho : o.op = .binOp .neq T x y T') (hx : a.eval x = .agg xs) (hy : a.eval y = .agg ys) (hm : P.eqGuardType P.depth T = false) (h : eqB P 9 T (.agg xs) (.agg ys) = some b) (w : World) :
    (execOp a.eval o).run P w = .ok (.value (.bool (!b))) w := by
  simp only [execOp, ho, hx, hy, Sem.run_bind, run_eqGuard_agg w .neq T x y xs ys hm, run_neq_struct, Result.andThen_ok, eqB_run 9 10000 T _ _ b (by omega) h]
  rfl
/-! A cut with a capacity. -/
section
variable {f : FM} {s : Seg} {α : Type} {e : Ty α} {P : Program} {a : Act} {o : Oper}
theorem Own.takeC {E : TypeId} {A : Option Addr} {c : Nat} {xs : List α} (h : Own e E f A c s xs) (n : Nat) (hn : n ≤ xs.length) : Own e E f A n s (xs.take n) := by
  have h' := h.take n
  rcases h' with ⟨rfl, rfl, rfl, h4⟩ | ⟨b, arr, rfl, ⟨fr, hz, rfl⟩, h1, h2, h3, hr⟩
  · have hx : xs = [] := by
      rcases h with ⟨_, _, _, hx⟩ | ⟨b, arr, hA, _⟩
      · exact hx
      · cases hA
    subst hx
    have : n = 0 := by simpa using hn
    subst this
    exact Own.nil _
  · have hl : (xs.take n).length = n := by rw [List.length_take]; omega
    rw [hl] at h1
    refine .inr ⟨b, arr, rfl, ⟨fr, hz, rfl⟩, by omega, by omega, Nat.le_trans (Nat.mul_le_mul_right _ h1) h3, hr⟩
theorem run_cutHM {T E c : Nat} {x y z : Operand} {A : Option Addr} {k k' : IntKind} {j : Int} {xs : List α} (ho : o.op = .slice T x none (some y) (some z)) (hT : P.underlying T = some (.slice E)) (hE : (P.info? E).map (·.size) = some e.sz)
    (hx : a.eval x = .slice A xs.length c) (hy : a.eval y = .int k j) (hz : a.eval z = .int k' j) (h0 : 0 ≤ j) (h1 : j ≤ (xs.length : Int)) (hc : xs.length ≤ c) (w : World) : (execOp a.eval o).run P w = .ok (.value (.slice A (xs.take j.toNat).length j.toNat)) w := by
  have hs : (sizeOf E).run P w = .ok e.sz w := run_sizeOf_of hE w
  have bound : ∀ (k : IntKind) (n y : Nat) (code : BoundsCode), n ≤ y → (Instr.sliceBound (.int k (n : Int)) y code).run P w = .ok n w := by
    intro k n y code hn
    simp [Instr.sliceBound, asIntOf, hn]
  have hl : (xs.take j.toNat).length = j.toNat := by rw [List.length_take]; omega
  obtain ⟨n, rfl⟩ := Int.eq_ofNat_of_zero_le h0
  have b1 := bound k n n
  have b2 := bound k' n c
  simp only [execOp, ho, hx, hy, hz, Option.map_none, Option.map_some, Sem.run_bind, hl]
  simp [Instr.sliceAt, run_underlying hT, Instr.slice, Instr.sliceBounds, bound, hs, show n ≤ c by omega]
  rcases Nat.eq_zero_or_pos n with rfl | hp
  · simp
  · simp [Addr.add, show n ≠ 0 by omega]
end
end Go.Sp
