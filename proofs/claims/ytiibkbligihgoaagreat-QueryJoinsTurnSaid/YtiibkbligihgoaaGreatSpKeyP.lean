/- slices.Sorted(maps.Keys(m)) of a map to records that stay: as in SpKeys. -/
import Derived.Test.YtiibkbligihgoaaGreatSpKeys
import Derived.Test.YtiibkbligihgoaaGreatSpNode
namespace Go.Sp
open Go Go.RowKit Go.Maps Go.Sort Go.Proofs Go.MapKept Go.Shelf
open Go.WideElems (Fit rg)
set_option linter.unusedVariables false
section
variable {α : Type} {e : Ty α} {P : Program} {t w : World} {f : FM} {H : List Seg} {A : Option Addr} {c E : Nat} {s : Seg} {m : List (Int × α)}
theorem ERepP.reads {K : TypeId} (hk : P.underlying K = some (.int .i64)) : ∀ {es : List MapEntry} {m : List (Int × α)}, ERepP e f es m → (m.all fun p => (Lit.int .i64 p.1).wf) = true →
    (∀ x ∈ es, ∃ y, Go.WideElems.rd P K rd0 x = some y) ∧ es.map (rg P K rd0) = m.map fun p => (Lit.int .i64 p.1, DataW.nil)
  | [], [], _, _ => ⟨by simp, rfl⟩
  | x :: es, p :: m, h, hw => by
    rw [List.all_cons, Bool.and_eq_true] at hw
    obtain ⟨h1, h2⟩ := ERepP.reads hk h.2.2 hw.2
    have hr : Go.WideElems.rd P K rd0 x = some (Lit.int .i64 p.1, DataW.nil) := by
      rw [Go.WideElems.rd, h.1, keyOf_int hk hw.1]; rfl
    refine ⟨fun y hy => ?_, ?_⟩
    · rcases List.mem_cons.mp hy with rfl | hy
      · exact ⟨_, hr⟩
      · exact h1 y hy
    · rw [List.map_cons, List.map_cons, h2, rg, hr]; rfl
  | [], _ :: _, h, _ => h.elim
  | _ :: _, [], h, _ => h.elim
theorem keysD_ownsP {K b : TypeId} {es : Array MapEntry} {clock : Nat} (hk : P.underlying K = some (.int .i64)) (hb : w.heap[b]? = some (.map es clock)) (hE : ERepP e f es.toList m) (hst : Stamped es clock)
    (hw : (m.all fun p => (Lit.int .i64 p.1).wf) = true) (hl : m.length ≤ maxLen) : w.ownsMap P K rd0 b m.length (keysD m) := by
  obtain ⟨h1, h2⟩ := hE.reads hk hw
  have hle := hE.len
  rw [Array.length_toList] at hle
  exact ⟨es, clock, hb, ⟨by omega, hst, h1⟩, by omega, by rw [keysD, h2]⟩
theorem sorted_callsP {ρ ρ2 : Ren} {g M b fn srt_ K : Nat} (L7 : SlLaysZI.n7 P ρ) (L6 : SlLaysZI.n6 P ρ2) (h10 : ρ.f 10 = g) (h6 : ρ2.f 6 = fn) (h9 : ρ2.f 9 = srt_) (hK : ρ.t 26 = K) (hK2 : ρ2.t 26 = K) (hk : P.underlying K = some (.int .i64))
    (hsort : ∀ (blk off cap : Nat) (zs : List Int) (w : World), Holds (Value.int .i64) w blk off zs.toArray → blk < w.heap.size → zs.length < 4611686018427387904 → Calls P srt_ #[.slice (some ⟨blk, off, none⟩) zs.length cap] w fun e w' =>
      e = .returned (.tuple #[]) ∧ ∃ n os, w' = grow (putRow (Value.int .i64) (Sort.ahead w n) blk off (zs.mergeSort fun x y => decide (x ≤ y)).toArray) os)
    (hnone : ∀ (p : Option Addr) (cap : Nat) (w : World), Calls P srt_ #[.slice p 0 cap] w fun e w' => e = .returned (.tuple #[]) ∧ w' = w)
    (e9 : ∀ args w, (callFunc srt_ args).run P w = .ok (.enter srt_ args) w) (eg : ∀ args w, (callFunc g args).run P w = .ok (.enter g args) w)
    (HO : OwnMF e E f A c s m) (HS : St t w f ([(b, .cells #[.map (mb A)] M (0, 0))] :: s :: H)) (r : List Int) (h : sortedKeys m = some r) :
    Calls P fn #[.func (.func g) #[] #[.pointer (some ⟨b, 0, none⟩)]] w fun e w' => ∃ (A' : Option Addr) (c' : Nat) (s' : Seg), e = .returned (.slice A' r.length c') ∧ St t w' f (s' :: [(b, .cells #[.map (mb A)] M (0, 0))] :: s :: H) ∧ Own (tInt .i64) K f A' c' s' r := by
  unfold sortedKeys at h
  have hq_ := guard_some h; clear h; obtain ⟨hw, h⟩ := hq_
  have hq_ := guard_some h; clear h; obtain ⟨hl, h⟩ := hq_
  injection h with h
  obtain ⟨bm, es, clock, rfl, rfl, hE, hst⟩ := HO
  subst h10 h6 h9 hK
  have hbm : w.heap[bm]? = some (.map es clock) := HS.swap.blk
  have hlm : m.length ≤ maxLen := by unfold maxLen; omega
  have hown := keysD_ownsP hk hbm hE hst hw hlm
  have hseq : SeqGives Fence.wide 2 P (ρ.f 10) #[.pointer (some ⟨b, 0, none⟩)] encZ (fun ss => ss.Perm (intKeys (keysD m))) (Maps.size (keysD m)) w :=
    AnyZI.keys_gives { L7 with } Fence.wide _ trivial rfl (by omega) b bm m.length (keysD m) w (lt_of_some HS.blk) (by
      have h0 := HS.blk
      simp [World.cell?, h0, mb]) hown
  have hss : AnyZI.SortsIn P ρ2 Fence.wide 4 := ⟨fun blk off cap ss W hH hblk hsz => callsIn_wide.2 (hsort blk off cap ss W hH hblk hsz), fun p cap W => callsIn_wide.2 (hnone p cap W)⟩
  refine callsIn_wide.1 ((AnyZI.sorted_in L6 Fence.wide 5 trivial trivial trivial trivial rfl (by omega) hss e9 (ρ.f 10) _ trivial eg _ _ (by rw [keysD_size]; exact hlm) (by rw [keysD_size]; exact hl) w hseq).mono ?_)
  rintro e w' ⟨v, ss, rfl, hS, hrow, _, hb⟩
  have hr : (ss.mergeSort fun x y => decide (x ≤ y)) = r := by
    rw [← h]
    exact mergeSort_of_perm_i (hS.trans keysD_keys)
  have hsl : ss.length = r.length := by rw [← hr, List.length_mergeSort]
  rw [hr, hsl, hK2] at hrow
  obtain ⟨A', c', s', rfl, h1, h2⟩ := HS.rowOf hb hrow
  exact ⟨A', c', s', rfl, h1, h2⟩
end
end Go.Sp
