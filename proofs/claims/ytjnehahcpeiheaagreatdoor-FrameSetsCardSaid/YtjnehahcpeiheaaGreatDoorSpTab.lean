/- A table that a row lists, out of the row's condition. -/
import Derived.Test.YtjnehahcpeiheaaGreatDoorSpStr
import Derived.Test.YtjnehahcpeiheaaGreatDoorSpLaw
namespace Go.Sp
open Go Go.RowKit Go.Sort Go.Lib
set_option linter.unusedVariables false
theorem tab_start {P : Program} {W : World} {name : String} {k : IntKind} {zs : List Int} (h : TabIs P W name k zs) : TabF P name k zs (FM.of W) := by
  unfold TabIs World.var? at h
  obtain ⟨b, h1, h2⟩ := Option.bind_eq_some_iff.mp h
  cases hb : W.heap[b]? with
  | none => rw [hb] at h2; cases h2
  | some ob =>
    rw [hb] at h2
    cases ob with
    | cells cs E fr =>
      injection h2 with h2
      subst h2
      exact ⟨b, E, fr, h1, hb⟩
    | _ => cases h2
theorem tab_laid {P : Program} {W : World} {name : String} {k : IntKind} {zs : List Int} {rest : List (String × DataW Unit)} {g : Nat} {t e : TypeId} {n : Nat}
    (hg : P.globalNamed name = some g) (hty : (P.globals[g]?).map (·.type) = some t) (ht : P.underlying t = some (.array n e)) (he : P.underlying e = some (.int k)) (hce : P.cellsOf e = 1) (hct : P.cellsOf t = n) :
    ∀ (pre : List (String × DataW Unit)) (ps : List MemPlace), DataW.LaidVars P W (pre ++ (name, tabData k zs) :: rest) ps → TabIs P W name k zs
  | [], ps, ⟨g', t', cs, fuel, p, q, hg', ht', hvar, hd, _, _⟩ => by
    obtain rfl := Option.some.inj (hg.symm.trans hg')
    obtain rfl := Option.some.inj (hty.symm.trans ht')
    unfold TabIs
    rw [hvar, ← cells_of_tab ht he hce hct hd]
  | x :: pre, ps, ⟨g', t', cs, fuel, p, q, hg', ht', hvar, hd, h, _⟩ => tab_laid hg hty ht he hce hct pre q h
end Go.Sp
