/- maps.Keys and slices.SortedFunc of a map of one's own with keys [2]int, in this memory logic. -/
import Derived.Test.YtcnhbfdkediodaaSpSortA
import Derived.WideKeyElems
namespace Go.Sp
open Go Go.RowKit Go.Maps Go.Sort Go.Proofs Go.MapKept Go.Shelf
open Go.WideElems (Fit rg)
set_option linter.unusedVariables false
section
variable {α : Type} {vf : α → Value} {t w : World} {f : FM} {H : List Seg} {m : List ((Int × Int) × α)}
abbrev rdN : Value → Option (DataW Unit × List MemPlace) := fun _ => some (.nil, [])
theorem ments_reads (hw : ∀ p ∈ m, KW p.1) : ∀ i, (∀ x ∈ mentsA vf m i, ∃ y, Go.WideElems.rd Try.prog 73 rdN x = some y) ∧ (mentsA vf m i).map (rg Try.prog 73 rdN) = m.map fun p => (Lit.string (bytesA p.1), (DataW.nil : DataW Unit)) := by
  induction m with
  | nil => intro i; exact ⟨by simp [mentsA], rfl⟩
  | cons p m ih =>
    intro i
    obtain ⟨h1, h2⟩ := ih (fun q hq => hw q (List.mem_cons_of_mem _ hq)) (i + 1)
    have hk := arrL.keyOf (hw p (List.mem_cons_self ..))
    have hr : Go.WideElems.rd Try.prog 73 rdN ⟨kA p.1, vf p.2, i⟩ = some (Lit.string (bytesA p.1), DataW.nil) := by
      rw [Go.WideElems.rd, hk]; rfl
    refine ⟨fun y hy => ?_, ?_⟩
    · rcases List.mem_cons.mp hy with rfl | hy
      · exact ⟨_, hr⟩
      · exact h1 y hy
    · rw [mentsA, List.map_cons, List.map_cons, h2, rg, hr]; rfl
theorem ments_len : ∀ (m : List ((Int × Int) × α)) (i : Nat), (mentsA vf m i).length = m.length
  | [], _ => rfl
  | _ :: m, i => by rw [mentsA, List.length_cons, List.length_cons, ments_len m]
theorem ments_born : ∀ (m : List ((Int × Int) × α)) (i : Nat), (mentsA vf m i).map (·.born) = List.range' i m.length
  | [], _ => rfl
  | _ :: m, i => by rw [mentsA, List.map_cons, ments_born m, List.length_cons, List.range'_succ]
theorem ments_key : ∀ (m : List ((Int × Int) × α)) (i : Nat), (mentsA vf m i).map (·.key) = (m.map fun p => p.1).map kA
  | [], _ => rfl
  | _ :: m, i => by rw [mentsA, List.map_cons, ments_key m]; rfl
theorem ments_stamped (hn : (m.map fun p => p.1).Nodup) : Stamped (mentsA vf m 0).toArray m.length := by
  rw [stamped_iff]
  simp only [List.toList_toArray]
  refine ⟨fun x hx => ?_, ?_, ?_⟩
  · have : x.born ∈ (mentsA vf m 0).map (·.born) := List.mem_map.mpr ⟨x, hx, rfl⟩
    rw [ments_born, List.mem_range'] at this
    omega
  · rw [ments_born]; exact List.nodup_range'
  · have h : ((mentsA vf m 0).map (·.key)).Nodup := by
      rw [ments_key]
      exact List.pairwise_map.mpr (hn.imp fun {a b} hne e => hne (kA_inj e))
    exact List.pairwise_map.mp h
def keysDA (m : List ((Int × Int) × α)) : DataW Unit := .map ((m.map fun p => (Lit.string (bytesA p.1), (DataW.nil : DataW Unit))).foldr DataW.insert [])
theorem keysDA_size : Maps.size (keysDA m) = m.length := by
  show ((m.map fun p => (Lit.string (bytesA p.1), (DataW.nil : DataW Unit))).foldr DataW.insert []).length = _
  rw [(Go.WideShapes.sorted_perm _).length_eq, List.length_map]
theorem keysDA_keys : (strKeys (keysDA m)).Perm ((m.map fun p => p.1).map bytesA) := by
  show ((((m.map fun p => (Lit.string (bytesA p.1), (DataW.nil : DataW Unit))).foldr DataW.insert [])).map fun p => strOf p.1).Perm _
  refine ((Go.WideShapes.sorted_perm _).map _).trans ?_
  rw [List.map_map, List.map_map]
  exact List.Perm.refl _
theorem keysDA_owns {b : Nat} (hb : w.heap[b]? = some (mobjA vf m)) (hw : ∀ p ∈ m, KW p.1) (hn : (m.map fun p => p.1).Nodup) (hl : m.length ≤ maxLen) : w.ownsMap Try.prog 73 rdN b m.length (keysDA m) := by
  obtain ⟨h1, h2⟩ := ments_reads (vf := vf) hw 0
  have hle := ments_len (vf := vf) m 0
  have hsz : (mentsA vf m 0).toArray.size = m.length := by rw [List.size_toArray, hle]
  exact ⟨_, m.length, hb, ⟨by omega, ments_stamped hn, by simpa using h1⟩, by omega, by rw [keysDA, List.toList_toArray, h2]⟩
theorem reps_pairs : ∀ (rs : List (Int × Int)), Reps (tArrI 2 (by decide) .i64) f (rs.flatMap cA) (rs.map fun x => [x.1, x.2])
  | [] => rfl
  | x :: rs => ⟨cA x, rs.flatMap cA, rfl, rfl, reps_pairs rs⟩
/-- What a call has made: a row of pairs of one's own. -/
theorem St.rowOfA {w' : World} {v : Value} {E : TypeId} {rs : List (Int × Int)} {k : Nat} (hk : k = rs.length) (HS : St t w f H) (hb : Below w.heap.size w w') (hr : w'.ownsRow w.heap.size E 2 v k (rs.flatMap cA)) :
    ∃ (A : Option Addr) (c : Nat) (s : Seg), v = .slice A (rs.map fun x => [x.1, x.2]).length c ∧ St t w' f (s :: H) ∧ Own (tArrI 2 (by decide) .i64) E f A c s (rs.map fun x => [x.1, x.2]) := by
  subst hk
  have hS := HS.below hb
  rcases hr.2 with ⟨rfl, h0⟩ | ⟨g, cap, cur, rfl, hg, hc, h1, h2, h3, h4⟩
  · have hx : rs = [] := List.eq_nil_of_length_eq_zero h0
    subst hx
    exact ⟨none, 0, [], rfl, hS.cons_nil, .inl ⟨rfl, rfl, rfl, rfl⟩⟩
  · refine ⟨some ⟨g, 0, none⟩, cap, [(g, .cells cur E (0, 0))], by rw [List.length_map], ?_, .inr ⟨g, cur, rfl, ⟨_, noFz0, rfl⟩, by rw [List.length_map]; exact h1, h2, ?_, ?_⟩⟩
    · have hno : ∀ b o, w.heap[b]? = some o → b ≠ g := fun b o h hbg => by have := lt_of_some h; omega
      refine ⟨hS.os, hS.tape, hS.out, hS.fz, ?_, ?_⟩
      · intro p hp
        rw [flat_cons] at hp
        rcases List.mem_append.mp hp with hp | hp
        · simp only [List.mem_singleton] at hp
          subst hp
          refine ⟨hc, ?_⟩
          cases hf : f g with
          | none => rfl
          | some o => exact absurd rfl (hno g o (HS.fz g o hf))
        · exact hS.own p hp
      · rw [flat_cons]
        simp only [List.map_append, List.map_cons, List.map_nil, List.singleton_append, List.nodup_cons]
        refine ⟨?_, hS.nd⟩
        intro hm
        obtain ⟨p, hp, e⟩ := List.mem_map.mp hm
        exact hno p.1 p.2 (HS.own p hp).1 e
    · show cap * 2 ≤ cur.size
      omega
    · rw [List.length_map, show (tArrI 2 (by decide) .i64).sz = 2 from rfl, h4]; exact reps_pairs rs
/-- maps.Keys(m). -/
theorem keysA_calls {mb0 : Option Nat} (HS : St t w f H) :
    Calls Try.prog 34 #[.map mb0] w fun e w' => ∃ (b : Nat), e = .returned (.func (.func 47) #[] #[.pointer (some ⟨b, 0, none⟩)]) ∧ St t w' f ([(b, .cells #[.map mb0] 71 (0, 0))] :: H) := by
  refine callsIn_wide.1 ((keysA_in Fence.wide 5 trivial rfl mb0 w).mono ?_)
  rintro e w' ⟨rfl, rfl⟩
  exact ⟨_, rfl, HS.alloc _⟩
/-- slices.SortedFunc at what maps.Keys has handed back. -/
theorem sortedA_calls {b bx : Nat} (HS : St t w f ([(bx, .cells #[.map (some b)] 71 (0, 0))] :: [(b, mobjA vf m)] :: H)) (r : List (List Int)) (h : sortedKeysA m = some r) :
    Calls Try.prog 33 #[.func (.func 47) #[] #[.pointer (some ⟨bx, 0, none⟩)], .func (.func 35) #[] #[]] w fun e w' => ∃ (A' : Option Addr) (c' : Nat) (s' : Seg), e = .returned (.slice A' r.length c') ∧ St t w' f (s' :: [(bx, .cells #[.map (some b)] 71 (0, 0))] :: [(b, mobjA vf m)] :: H) ∧ Own (tArrI 2 (by decide) .i64) 73 f A' c' s' r := by
  unfold sortedKeysA at h
  have hq_ := guard_some h; clear h; obtain ⟨hw, h⟩ := hq_
  have hq_ := guard_some h; clear h; obtain ⟨hn, h⟩ := hq_
  have hq_ := guard_some h; clear h; obtain ⟨hl, h⟩ := hq_
  injection h with h
  have hbm : w.heap[b]? = some (mobjA vf m) := HS.swap.blk
  have hlm : m.length ≤ maxLen := by unfold maxLen; omega
  have hkw : ∀ p ∈ m, KW p.1 := fun p hp => by
    have := List.all_eq_true.mp hw p hp
    rw [Bool.and_eq_true] at this
    exact this
  have hown := keysDA_owns hbm hkw hn hlm
  have hseq := keysA_gives Fence.wide 2 trivial rfl (by omega) bx b m.length (keysDA m) w (lt_of_some HS.blk) (by
      have h0 := HS.blk
      simp [World.cell?, h0]) hown
  refine callsIn_wide.1 ((sortedA_in Fence.wide 5 trivial trivial trivial trivial rfl (by omega) (sortsA_wide _) 47 _ trivial (Go.Proofs.enters_of Try.func47 (by kernel_rfl) rfl) _ _ (by rw [keysDA_size]; exact hlm) (by rw [keysDA_size]; exact hl) w hseq).mono ?_)
  rintro e w' ⟨v, ss, rfl, ⟨hS, hSw⟩, hrow, _, hb⟩
  have hp : ss.Perm (m.map fun p => p.1) := arrL.perm hSw (fun y hy => by obtain ⟨p, hp, rfl⟩ := List.mem_map.mp hy; exact hkw p hp) (hS.trans keysDA_keys)
  obtain ⟨A', c', s', hv, h1, h2⟩ := HS.rowOfA (by simp) hb hrow
  rw [leA_perm hp, h] at hv h2
  exact ⟨A', c', s', by rw [hv], h1, h2⟩
end
end Go.Sp
