/- slices.Sorted(maps.Keys(m)) of a map of one's own: the kit's contracts, told in this memory logic. -/
import Derived.Test.YtiibkbligihgoaaGreatSpMapR
import Derived.Test.YtiibkbligihgoaaGreatSpRepS
import Derived.Shelf.SlIterI.Sorted
namespace Go.Sp
open Go Go.RowKit Go.Maps Go.Sort Go.Proofs Go.MapKept Go.Shelf
open Go.WideElems (Fit rg)
set_option linter.unusedVariables false
section
variable {α : Type} {e : Ty α} {P : Program} {t w : World} {f : FM} {H : List Seg} {A : Option Addr} {c E : Nat} {s : Seg} {m : List (Int × α)}
abbrev rd0 : Value → Option (DataW Unit × List MemPlace) := fun _ => some (.nil, [])
theorem keyOf_int {K : TypeId} {a : Int} (hk : P.underlying K = some (.int .i64)) (hw : (Lit.int .i64 a).wf = true) : keyOf P K (.int .i64 a) = some (.int .i64 a) := by
  simp [keyOf, hk, mapKey, hw]
theorem ERep.reads {K : TypeId} (hk : P.underlying K = some (.int .i64)) : ∀ {es : List MapEntry} {m : List (Int × α)}, ERep .i64 e f es m → (m.all fun p => (Lit.int .i64 p.1).wf) = true →
    (∀ x ∈ es, ∃ y, Go.WideElems.rd P K rd0 x = some y) ∧ es.map (rg P K rd0) = m.map fun p => (Lit.int .i64 p.1, DataW.nil)
  | [], [], _, _ => ⟨by simp, rfl⟩
  | x :: es, p :: m, h, hw => by
    rw [List.all_cons, Bool.and_eq_true] at hw
    obtain ⟨h1, h2⟩ := ERep.reads hk h.2.2 hw.2
    have hr : Go.WideElems.rd P K rd0 x = some (Lit.int .i64 p.1, DataW.nil) := by
      rw [Go.WideElems.rd, h.1, keyOf_int hk hw.1]; rfl
    refine ⟨fun y hy => ?_, ?_⟩
    · rcases List.mem_cons.mp hy with rfl | hy
      · exact ⟨_, hr⟩
      · exact h1 y hy
    · rw [List.map_cons, List.map_cons, h2, rg, hr]; rfl
  | [], _ :: _, h, _ => h.elim
  | _ :: _, [], h, _ => h.elim
def keysD (m : List (Int × α)) : DataW Unit := .map ((m.map fun p => (Lit.int .i64 p.1, (DataW.nil : DataW Unit))).foldr DataW.insert [])
theorem keysD_size : Maps.size (keysD m) = m.length := by
  show ((m.map fun p => (Lit.int .i64 p.1, (DataW.nil : DataW Unit))).foldr DataW.insert []).length = _
  rw [(Go.WideShapes.sorted_perm _).length_eq, List.length_map]
theorem keysD_keys : (intKeys (keysD m)).Perm (m.map fun p => p.1) := by
  show ((((m.map fun p => (Lit.int .i64 p.1, (DataW.nil : DataW Unit))).foldr DataW.insert [])).map fun p => intOf p.1).Perm _
  refine ((Go.WideShapes.sorted_perm _).map _).trans ?_
  rw [List.map_map]
  exact List.Perm.refl _
theorem St.rowOf {w' : World} {v : Value} {E : TypeId} {xs : List Int} (HS : St t w f H) (hb : Below w.heap.size w w') (hr : w'.ownsRow w.heap.size E 1 v xs.length (xs.map encZ)) :
    ∃ (A : Option Addr) (c : Nat) (s : Seg), v = .slice A xs.length c ∧ St t w' f (s :: H) ∧ Own (tInt .i64) E f A c s xs := by
  have hS := HS.below hb
  rcases hr.2 with ⟨rfl, h0⟩ | ⟨g, cap, cur, rfl, hg, hc, h1, h2, h3, h4⟩
  · have hx : xs = [] := List.eq_nil_of_length_eq_zero h0
    subst hx
    exact ⟨none, 0, [], rfl, hS.cons_nil, .inl ⟨rfl, rfl, rfl, rfl⟩⟩
  · refine ⟨some ⟨g, 0, none⟩, cap, [(g, .cells cur E (0, 0))], rfl, ?_, .inr ⟨g, cur, rfl, ⟨_, noFz0, rfl⟩, h1, h2, ?_, ?_⟩⟩
    · have hno : ∀ b o, w.heap[b]? = some o → b ≠ g := fun b o h hbg => by have := lt_of_some h; omega
      refine ⟨hS.os, hS.tape, hS.out, hS.fz, ?_, ?_⟩
      · intro p hp
        rw [flat_cons] at hp
        rcases List.mem_append.mp hp with hp | hp
        · simp only [List.mem_singleton] at hp
          subst hp
          refine ⟨hc, ?_⟩
          cases hf : f g with
          | none => rfl
          | some o => exact absurd rfl (hno g o (HS.fz g o hf))
        · exact hS.own p hp
      · rw [flat_cons]
        simp only [List.map_append, List.map_cons, List.map_nil, List.singleton_append, List.nodup_cons]
        refine ⟨?_, hS.nd⟩
        intro hm
        obtain ⟨p, hp, e⟩ := List.mem_map.mp hm
        exact hno p.1 p.2 (HS.own p hp).1 e
    · show cap * 1 ≤ cur.size
      omega
    · rw [reps_sorted, show (tInt .i64).sz = 1 from rfl]; exact h4
theorem keys_calls {ρ : Ren} {κ g M : Nat} {mb0 : Option Nat} (L : SlLaysZI.n7 P ρ) (h7 : ρ.f 7 = κ) (h10 : ρ.f 10 = g) (h23 : ρ.t 23 = M) (HS : St t w f H) :
    Calls P κ #[.map mb0] w fun e w' => ∃ (b : Nat), e = .returned (.func (.func g) #[] #[.pointer (some ⟨b, 0, none⟩)]) ∧ St t w' f ([(b, .cells #[.map mb0] M (0, 0))] :: H) := by
  subst h7 h10 h23
  refine callsIn_wide.1 ((AnyZI.keys_in L Fence.wide 5 trivial rfl mb0 w).mono ?_)
  rintro e w' ⟨rfl, rfl⟩
  exact ⟨_, rfl, HS.alloc _⟩
end
end Go.Sp
