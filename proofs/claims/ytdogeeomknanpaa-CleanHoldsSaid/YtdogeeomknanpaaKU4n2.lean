import Derived.Test.YtdogeeomknanpaaProg
import Derived.Test.YtdogeeomknanpaaSpCopy
import Derived.Test.YtdogeeomknanpaaFU4
import Derived.Test.YtdogeeomknanpaaSpNest
import Derived.Test.YtdogeeomknanpaaKU4n0
import Derived.Test.YtdogeeomknanpaaKU4n1
namespace Go.Sp.U4
open Go Go.Sp Go.Proofs
set_option linter.unusedVariables false
attribute [local irreducible] wpList AnyL Code.wp Calls Does
set_option maxRecDepth 100000 in
set_option maxHeartbeats 4000000 in
theorem clean_Combine.calls (k : Nat) (A2 : Option Addr) (c3 : Nat) (l1 : List S_Cells) (vf5 : Int) {t w : World} {f : FM} {H : List Seg} (HS : St t w f (H)) (HR4 : SlR ty_Cells f A2 c3 l1) (r1 : S_Cells) (r2 : Int) (h : clean_Combine k l1 vf5 = some (r1, r2)) :
    Calls Try.prog 13 #[.slice A2 l1.length c3, .int .i64 vf5] w (fun e w' => ∃ (g : FM) (A446 : Option Addr) (c447 : Nat) (s448 : Seg), e = .returned (Value.tuple #[.agg #[.int .i64 r1.W, .int .i64 r1.H, .slice A446 r1.At.length c447], .int .i64 r2]) ∧ FM.le f g ∧ St t w' g (s448 :: H) ∧ Own ty_Bound 44 g A446 c447 s448 r1.At) := by
  unfold clean_Combine at h
  refine enter Try.func13 rfl (tm := #[.slice A2 l1.length c3, iV vf5, uV, uV, uV, uV, uV, uV, uV, uV, uV, uV, uV, uV, uV, uV, uV, uV, uV, uV, uV, uV, uV, uV, uV, uV, uV, uV, uV, uV, uV, uV, uV, uV, uV, uV, uV, uV, uV, uV, uV, uV, uV, uV, uV, uV, uV, uV, uV, uV, uV, uV, uV, uV, uV, uV, uV, uV, uV, uV, uV]) (by kernel_rfl) ?_
  intro B hret hnor hnp
  refine wp_seq_k (fun K6 hK7 => ?_)
  refine wp_region_lit ?_
  refine seqK rfl (does_alloc (z := Value.agg #[.int .i64 0, .int .i64 0, .slice none 0 0]) (cs := #[.int .i64 0, .int .i64 0, .slice none 0 0]) rfl (by kernel_rfl) rfl HS ?_)
  intro b8 W9 HS10
  refine seqS1 (a' := ⟨#[.slice A2 l1.length c3, iV vf5, uV, uV, .pointer (some ⟨b8, 0, none⟩), iV 0, uV, uV, uV, uV, uV, uV, uV, uV, uV, uV, uV, uV, uV, uV, uV, uV, uV, uV, uV, uV, uV, uV, uV, uV, uV, uV, uV, uV, uV, uV, uV, uV, uV, uV, uV, uV, uV, uV, uV, uV, uV, uV, uV, uV, uV, uV, uV, uV, uV, uV, uV, uV, uV, uV, uV], []⟩) (by kernel_rfl) ?_
  refine wpList_nil ?_
  refine hK7 _ _ ?_
  refine wp_seq_k (fun K12 hK13 => ?_)
  refine wp_seq_k (fun K14 hK15 => ?_)
  refine wp_region_lit ?_
  have hq_ := bind_some h; clear h; obtain ⟨vt16, hc17, h⟩ := hq_
  refine seqL2 (by kernel_rfl) ?_
  refine seqK rfl (does_call (f := 40) (args := #[.slice A2 l1.length c3, .int .i64 vf5]) (by kernel_rfl) (clean_valid.calls k A2 c3 l1 vf5 HS10 HR4 vt16 hc17) ?_)
  rintro _ W20 ⟨f18, rfl, L19, HS21⟩
  refine ⟨_, rfl, ?_⟩
  refine seqS1 (a' := ⟨#[.slice A2 l1.length c3, iV vf5, uV, uV, .pointer (some ⟨b8, 0, none⟩), iV 0, iV vt16, uV, uV, uV, uV, uV, .slice A2 l1.length c3, iV vf5, iV vt16, uV, uV, uV, uV, uV, uV, uV, uV, uV, uV, uV, uV, uV, uV, uV, uV, uV, uV, uV, uV, uV, uV, uV, uV, uV, uV, uV, uV, uV, uV, uV, uV, uV, uV, uV, uV, uV, uV, uV, uV, uV, uV, uV, uV, uV, uV], []⟩) (by kernel_rfl) ?_
  refine wpList_nil ?_
  refine hK15 _ _ ?_
  refine wp_seq_k (fun K22 hK23 => ?_)
  refine wp_region_lit ?_
  refine seqS2 (a' := ⟨#[.slice A2 l1.length c3, iV vf5, uV, uV, .pointer (some ⟨b8, 0, none⟩), iV 0, iV vt16, uV, uV, uV, uV, uV, .slice A2 l1.length c3, iV vf5, iV vt16, iV vt16, .bool (vt16 != 0), uV, uV, uV, uV, uV, uV, uV, uV, uV, uV, uV, uV, uV, uV, uV, uV, uV, uV, uV, uV, uV, uV, uV, uV, uV, uV, uV, uV, uV, uV, uV, uV, uV, uV, uV, uV, uV, uV, uV, uV, uV, uV, uV, uV], []⟩) (by kernel_rfl) ?_
  refine wpList_nil ?_
  refine hK23 _ _ ?_
  have hq_ := ite_some h; clear h; rcases hq_ with ⟨c25, h⟩ | ⟨c25, h⟩
  · have c25 : vt16 ≠ 0 := c25
    refine wpRwI 16 (x := (vt16 != 0)) (v := true) (by kernel_rfl) (bne_iff_ne.mpr c25) ?_
    refine condT (by kernel_rfl) ?_
    refine wp_seq_k (fun K26 hK27 => ?_)
    refine wp_region_lit ?_
    refine seqL2 (by kernel_rfl) ?_
    refine seqK rfl (does_store (n := 3) (vs := [.int .i64 0, .int .i64 0, .slice none 0 0]) (cs' := #[.int .i64 0, .int .i64 0, .slice none 0 0]) rfl (by kernel_rfl) (by kernel_rfl : _ = Value.pointer (some ⟨b8, 0, none⟩)) (by kernel_rfl : _ = Value.agg #[.int .i64 0, .int .i64 0, .slice none 0 0]) rfl rfl (by intro u_ hu_; simp only [List.mem_cons, List.not_mem_nil, or_false] at hu_; rcases hu_ with rfl | rfl | rfl <;> rfl) HS21 (Nat.le_of_ble_eq_true rfl) (by kernel_rfl) ?_)
    intro W28 HS29
    refine seqS1 (a' := ⟨#[.slice A2 l1.length c3, iV vf5, uV, uV, .pointer (some ⟨b8, 0, none⟩), iV vt16, iV vt16, uV, uV, uV, uV, uV, .slice A2 l1.length c3, iV vf5, iV vt16, iV vt16, .bool true, .agg #[iV 0, iV 0, .slice none 0 0], iV vt16, uV, uV, uV, uV, uV, uV, uV, uV, uV, uV, uV, uV, uV, uV, uV, uV, uV, uV, uV, uV, uV, uV, uV, uV, uV, uV, uV, uV, uV, uV, uV, uV, uV, uV, uV, uV, uV, uV, uV, uV, uV, uV], []⟩) (by kernel_rfl) ?_
    refine wpList_nil ?_
    refine hK27 _ _ ?_
    refine wp_ret ?_
    refine hret _ _ ?_
    have HS437 := HS29.cons_nil
    refine ends (v := Value.tuple #[.agg #[.int .i64 0, .int .i64 0, .slice none 0 0], .int .i64 vt16]) (results2 (q1 := .cell 4 34) (q2 := .tmp 5) (by kernel_rfl) (resN (n := 3) (cs := [.int .i64 0, .int .i64 0, .slice none 0 0]) (by kernel_rfl : _ = Value.pointer (some ⟨b8, 0, none⟩)) Try.underlying34 rfl (by kernel_rfl) rfl (HS437.u1.cells 0 3 _ rfl)) (resT (by kernel_rfl : _ = Value.int .i64 vt16))) (by kernel_rfl) ?_
    have HS439 := HS437.u1
    have HS440 := HS439.drop
    injection h with h
    injection h with h0_ h
    subst h0_ h
    exact ⟨f18, none, 0, [], rfl, L19, HS440, (Own.nil _)⟩
  · have c25 : ¬ (vt16 ≠ 0) := c25
    refine wpRwI 16 (x := (vt16 != 0)) (v := false) (by kernel_rfl) (bne_eq_false_iff_eq.mpr (Decidable.of_not_not c25)) ?_
    refine condF (by kernel_rfl) ?_
    refine wp_skip ?_
    refine hK13 _ _ ?_
    refine wp_seq_k (fun K30 hK31 => ?_)
    refine heldG (S := Sg t f18 ([(b8, .cells #[.int .i64 0, .int .i64 0, .slice none 0 0] 34 (0, 0))] :: H) []) (n := 11) (by kernel_rfl) rfl HS21 ?_
    intro W32 HS33
    have hq_ := guard_some h; clear h; obtain ⟨c34, h⟩ := hq_
    have c34 : 0 < (l1.length : Int) := c34
    obtain ⟨b38, of39, cs35, hA40, hr36, hc37⟩ := (HR4.mono L19).at (i := 0) (by decide) c34
    obtain ⟨A41, c41, rfl, HR41⟩ := hr36
    refine takeG [0] (n := 11) (fuel := 10) (l' := #[true, false, false, false, false, false, false, false, false, false, false]) (a' := ⟨#[.slice A2 l1.length c3, iV vf5, uV, uV, .pointer (some ⟨b8, 0, none⟩), iV 0, iV vt16, uV, uV, uV, uV, uV, .slice A2 l1.length c3, iV vf5, iV vt16, iV vt16, .bool false, uV, uV, .slice A2 l1.length c3, uV, uV, uV, uV, uV, uV, uV, uV, uV, uV, uV, uV, uV, uV, uV, uV, uV, uV, uV, uV, uV, uV, uV, uV, uV, uV, uV, uV, uV, uV, uV, uV, uV, uV, uV, uV, uV, uV, uV, uV, uV], []⟩) rfl (by kernel_rfl) (by kernel_rfl) (by kernel_rfl) hnp (Sg.g0 (Sx.of [] (FM.le.refl _) HS33)) ?_
    refine takeGQ 1 [] rfl (by kernel_rfl) (by kernel_rfl) (by kernel_rfl) (by kernel_rfl) (by kernel_rfl) (by kernel_rfl) hnp (Sg.g0 (Sx.of [] (FM.le.refl _) HS33)) (fun w_ hw_ => by obtain ⟨g_, hl_, hS_⟩ := hw_.st; exact run_indexE hA40 (sz := 3) rfl Try.underlying27 (by kernel_rfl) (by kernel_rfl : _ = Value.slice A2 l1.length c3) (by kernel_rfl : _ = Value.int .i64 0) (by decide) c34 w_) ?_
    refine takeG [2] (n := 9) (fuel := 8) (l' := #[true, true, true, false, false, false, false, false, false, false, false]) (a' := ⟨#[.slice A2 l1.length c3, iV vf5, uV, uV, .pointer (some ⟨b8, 0, none⟩), iV 0, iV vt16, uV, uV, uV, uV, uV, .slice A2 l1.length c3, iV vf5, iV vt16, iV vt16, .bool false, uV, uV, .slice A2 l1.length c3, .pointer (some ⟨b38, of39 + (0 : Int).toNat * 3, none⟩), .pointer (some ⟨b38, of39 + (0 : Int).toNat * 3, none⟩), uV, uV, uV, uV, uV, uV, uV, uV, uV, uV, uV, uV, uV, uV, uV, uV, uV, uV, uV, uV, uV, uV, uV, uV, uV, uV, uV, uV, uV, uV, uV, uV, uV, uV, uV, uV, uV, uV, uV], []⟩) rfl (by kernel_rfl) (by kernel_rfl) (by kernel_rfl) hnp (Sg.g0 (Sx.of [] (FM.le.refl _) HS33)) ?_
    refine takeGQ 3 [] rfl (by kernel_rfl) (by kernel_rfl) (by kernel_rfl) (by kernel_rfl) (by kernel_rfl) (by kernel_rfl) hnp (Sg.g0 (Sx.of [] (FM.le.refl _) HS33)) (fun w_ hw_ => by obtain ⟨g_, hl_, hS_⟩ := hw_.st; exact run_load rfl Try.underlying3 rfl (by kernel_rfl : _ = Value.pointer (some ⟨b38, of39 + (0 : Int).toNat * 3, none⟩)) ((hc37 hl_ hS_) 0 (by decide))) ?_
    refine takeG [4] (n := 7) (fuel := 6) (l' := #[true, true, true, true, true, false, false, false, false, false, false]) (a' := ⟨#[.slice A2 l1.length c3, iV vf5, uV, uV, .pointer (some ⟨b8, 0, none⟩), iV 0, iV vt16, uV, uV, uV, uV, uV, .slice A2 l1.length c3, iV vf5, iV vt16, iV vt16, .bool false, uV, uV, .slice A2 l1.length c3, .pointer (some ⟨b38, of39 + (0 : Int).toNat * 3, none⟩), .pointer (some ⟨b38, of39 + (0 : Int).toNat * 3, none⟩), iV ((rd l1 0).W), .slice A2 l1.length c3, uV, uV, uV, uV, uV, uV, uV, uV, uV, uV, uV, uV, uV, uV, uV, uV, uV, uV, uV, uV, uV, uV, uV, uV, uV, uV, uV, uV, uV, uV, uV, uV, uV, uV, uV, uV, uV], []⟩) rfl (by kernel_rfl) (by kernel_rfl) (by kernel_rfl) hnp (Sg.g0 (Sx.of [] (FM.le.refl _) HS33)) ?_
    refine takeGQ 5 [] rfl (by kernel_rfl) (by kernel_rfl) (by kernel_rfl) (by kernel_rfl) (by kernel_rfl) (by kernel_rfl) hnp (Sg.g0 (Sx.of [] (FM.le.refl _) HS33)) (fun w_ hw_ => by obtain ⟨g_, hl_, hS_⟩ := hw_.st; exact run_indexE hA40 (sz := 3) rfl Try.underlying27 (by kernel_rfl) (by kernel_rfl : _ = Value.slice A2 l1.length c3) (by kernel_rfl : _ = Value.int .i64 0) (by decide) c34 w_) ?_
    refine takeG [6] (n := 5) (fuel := 4) (l' := #[true, true, true, true, true, true, true, false, false, false, false]) (a' := ⟨#[.slice A2 l1.length c3, iV vf5, uV, uV, .pointer (some ⟨b8, 0, none⟩), iV 0, iV vt16, uV, uV, uV, uV, uV, .slice A2 l1.length c3, iV vf5, iV vt16, iV vt16, .bool false, uV, uV, .slice A2 l1.length c3, .pointer (some ⟨b38, of39 + (0 : Int).toNat * 3, none⟩), .pointer (some ⟨b38, of39 + (0 : Int).toNat * 3, none⟩), iV ((rd l1 0).W), .slice A2 l1.length c3, .pointer (some ⟨b38, of39 + (0 : Int).toNat * 3, none⟩), .pointer (some ⟨b38, of39 + (0 : Int).toNat * 3 + 1, none⟩), uV, uV, uV, uV, uV, uV, uV, uV, uV, uV, uV, uV, uV, uV, uV, uV, uV, uV, uV, uV, uV, uV, uV, uV, uV, uV, uV, uV, uV, uV, uV, uV, uV, uV, uV], []⟩) rfl (by kernel_rfl) (by kernel_rfl) (by kernel_rfl) hnp (Sg.g0 (Sx.of [] (FM.le.refl _) HS33)) ?_
    refine takeGQ 7 [] rfl (by kernel_rfl) (by kernel_rfl) (by kernel_rfl) (by kernel_rfl) (by kernel_rfl) (by kernel_rfl) hnp (Sg.g0 (Sx.of [] (FM.le.refl _) HS33)) (fun w_ hw_ => by obtain ⟨g_, hl_, hS_⟩ := hw_.st; exact run_load rfl Try.underlying3 rfl (by kernel_rfl : _ = Value.pointer (some ⟨b38, of39 + (0 : Int).toNat * 3 + 1, none⟩)) ((hc37 hl_ hS_) 1 (by decide))) ?_
    refine takeG [8] (n := 3) (fuel := 2) (l' := #[true, true, true, true, true, true, true, true, true, false, false]) (a' := ⟨#[.slice A2 l1.length c3, iV vf5, uV, uV, .pointer (some ⟨b8, 0, none⟩), iV 0, iV vt16, uV, uV, uV, uV, uV, .slice A2 l1.length c3, iV vf5, iV vt16, iV vt16, .bool false, uV, uV, .slice A2 l1.length c3, .pointer (some ⟨b38, of39 + (0 : Int).toNat * 3, none⟩), .pointer (some ⟨b38, of39 + (0 : Int).toNat * 3, none⟩), iV ((rd l1 0).W), .slice A2 l1.length c3, .pointer (some ⟨b38, of39 + (0 : Int).toNat * 3, none⟩), .pointer (some ⟨b38, of39 + (0 : Int).toNat * 3 + 1, none⟩), iV ((rd l1 0).H), .agg #[iV ((rd l1 0).W), iV ((rd l1 0).H), .slice none 0 0], uV, uV, uV, uV, uV, uV, uV, uV, uV, uV, uV, uV, uV, uV, uV, uV, uV, uV, uV, uV, uV, uV, uV, uV, uV, uV, uV, uV, uV, uV, uV, uV, uV], []⟩) rfl (by kernel_rfl) (by kernel_rfl) (by kernel_rfl) hnp (Sg.g0 (Sx.of [] (FM.le.refl _) HS33)) ?_
    refine takeGE 9 (by kernel_rfl) rfl (by kernel_rfl) (does_alloc (z := Value.agg #[.int .i64 0, .int .i64 0, .slice none 0 0]) (cs := #[.int .i64 0, .int .i64 0, .slice none 0 0]) rfl (by kernel_rfl) rfl HS33 ?_)
    intro b42 W43 HS44
    refine ⟨(Sg.g0 (Sx.of [[(b42, .cells #[.int .i64 0, .int .i64 0, .slice none 0 0] 34 (0, 0))]] (FM.le.refl _) HS44)), ?_⟩
    refine takeGE 10 (by kernel_rfl) rfl (by kernel_rfl) (does_store (n := 3) (vs := [.int .i64 ((rd l1 0).W), .int .i64 ((rd l1 0).H), .slice none 0 0]) (cs' := #[.int .i64 ((rd l1 0).W), .int .i64 ((rd l1 0).H), .slice none 0 0]) rfl (by kernel_rfl) (by kernel_rfl : _ = Value.pointer (some ⟨b42, 0, none⟩)) (by kernel_rfl : _ = Value.agg #[.int .i64 ((rd l1 0).W), .int .i64 ((rd l1 0).H), .slice none 0 0]) rfl rfl (by intro u_ hu_; simp only [List.mem_cons, List.not_mem_nil, or_false] at hu_; rcases hu_ with rfl | rfl | rfl <;> rfl) HS44 (Nat.le_of_ble_eq_true rfl) (by kernel_rfl) ?_)
    intro W46 HS47
    refine ⟨(Sg.g0 (Sx.of [[(b42, .cells #[.int .i64 ((rd l1 0).W), .int .i64 ((rd l1 0).H), .slice none 0 0] 34 (0, 0))]] (FM.le.refl _) HS47)), ?_⟩
    refine doneG (by kernel_rfl) ?_ _
    refine hK31 _ _ ?_
    refine wp_seq_k (fun K48 hK49 => ?_)
    refine wp_seq_k (fun K50 hK51 => ?_)
    refine wp_region_lit ?_
    refine seqL1 (by kernel_rfl) ?_
    refine seqK rfl (does_run (run_indexE hA40 (sz := 3) rfl Try.underlying27 (by kernel_rfl) (by kernel_rfl : _ = Value.slice A2 l1.length c3) (by kernel_rfl : _ = Value.int .i64 0) (by decide) c34 W46) ?_)
    refine seqL1 (by kernel_rfl) ?_
    refine seqK rfl (does_run (run_load rfl Try.underlying32 rfl (by kernel_rfl : _ = Value.pointer (some ⟨b38, of39 + (0 : Int).toNat * 3 + 2, none⟩)) ((hc37 (FM.le.refl _) HS47) 2 (by decide))) ?_)
    refine seqS2 (a' := ⟨#[.slice A2 l1.length c3, iV vf5, uV, uV, .pointer (some ⟨b8, 0, none⟩), iV 0, iV vt16, .pointer (some ⟨b42, 0, none⟩), uV, uV, uV, uV, .slice A2 l1.length c3, iV vf5, iV vt16, iV vt16, .bool false, uV, uV, .slice A2 l1.length c3, .pointer (some ⟨b38, of39 + (0 : Int).toNat * 3, none⟩), .pointer (some ⟨b38, of39 + (0 : Int).toNat * 3, none⟩), iV ((rd l1 0).W), .slice A2 l1.length c3, .pointer (some ⟨b38, of39 + (0 : Int).toNat * 3, none⟩), .pointer (some ⟨b38, of39 + (0 : Int).toNat * 3 + 1, none⟩), iV ((rd l1 0).H), .agg #[iV ((rd l1 0).W), iV ((rd l1 0).H), .slice none 0 0], .slice A2 l1.length c3, .pointer (some ⟨b38, of39 + (0 : Int).toNat * 3, none⟩), .pointer (some ⟨b38, of39 + (0 : Int).toNat * 3 + 2, none⟩), .slice A41 ((rd l1 0).At).length c41, iV (((rd l1 0).At).length : Int), iV 0, uV, uV, uV, uV, uV, uV, uV, uV, uV, uV, uV, uV, uV, uV, uV, uV, uV, uV, uV, uV, uV, uV, uV, uV, uV, uV, uV], []⟩) (by kernel_rfl) ?_
    refine wpList_nil ?_
    refine hK51 _ _ ?_
    refine blockK (fun B52 hx53 hn54 hr55 ho56 hp57 => ?_)
    have hq_ := bind_some h; clear h; obtain ⟨o231, hv422, h⟩ := hq_
    have J423 : ∀ (f411 : FM) (A417 : Option Addr) (c418 : Nat) (s419 : Seg) (x416 : List S_Bound) (j415 : Nat → Value) (W413 : World) (a_ : Act), FM.le f18 f411 → some (x416) = some o231 → St t W413 f411 (s419 :: [(b42, .cells #[.int .i64 ((rd l1 0).W), .int .i64 ((rd l1 0).H), .slice A417 x416.length c418] 34 (0, 0))] :: [(b8, .cells #[.int .i64 0, .int .i64 0, .slice none 0 0] 34 (0, 0))] :: H) → Own ty_Bound 44 f411 A417 c418 s419 x416 → a_ = ⟨#[.slice A2 l1.length c3, iV vf5, uV, uV, .pointer (some ⟨b8, 0, none⟩), iV 0, iV vt16, .pointer (some ⟨b42, 0, none⟩), (j415 0), (j415 1), uV, (j415 2), .slice A2 l1.length c3, iV vf5, iV vt16, iV vt16, .bool false, uV, uV, .slice A2 l1.length c3, .pointer (some ⟨b38, of39 + (0 : Int).toNat * 3, none⟩), .pointer (some ⟨b38, of39 + (0 : Int).toNat * 3, none⟩), iV ((rd l1 0).W), .slice A2 l1.length c3, .pointer (some ⟨b38, of39 + (0 : Int).toNat * 3, none⟩), .pointer (some ⟨b38, of39 + (0 : Int).toNat * 3 + 1, none⟩), iV ((rd l1 0).H), .agg #[iV ((rd l1 0).W), iV ((rd l1 0).H), .slice none 0 0], .slice A2 l1.length c3, .pointer (some ⟨b38, of39 + (0 : Int).toNat * 3, none⟩), .pointer (some ⟨b38, of39 + (0 : Int).toNat * 3 + 2, none⟩), .slice A41 ((rd l1 0).At).length c41, iV (((rd l1 0).At).length : Int), (j415 3), (j415 4), (j415 5), (j415 6), (j415 7), (j415 8), (j415 9), (j415 10), (j415 11), (j415 12), (j415 13), (j415 14), (j415 15), (j415 16), (j415 17), (j415 18), (j415 19), (j415 20), (j415 21), (j415 22), (j415 23), (j415 24), (j415 25), (j415 26), (j415 27), (j415 28), (j415 29), uV], []⟩ → K48 a_ W413 := by
      intro f411 A417 c418 s419 x416 j415 W413 a_ L412 hj424 HS414 HO420 hfr_; subst hfr_
      injection hj424 with hj424; subst hj424; try dsimp only at h
      refine hK49 _ _ ?_
      refine wp_seq_k (fun K432 hK433 => ?_)
      refine wp_region_lit ?_
      refine seqK rfl (does_run (run_loadN (n := 3) rfl Try.underlying34 rfl (by kernel_rfl) (by kernel_rfl : _ = Value.pointer (some ⟨b42, 0, none⟩)) (cs := [.int .i64 ((rd l1 0).W), .int .i64 ((rd l1 0).H), .slice A417 x416.length c418]) rfl (HS414.u1.cells 0 3 _ rfl)) ?_)
      have HS434 := HS414.u2
      refine seqK rfl (does_store (n := 3) (vs := [.int .i64 ((rd l1 0).W), .int .i64 ((rd l1 0).H), .slice A417 x416.length c418]) (cs' := #[.int .i64 ((rd l1 0).W), .int .i64 ((rd l1 0).H), .slice A417 x416.length c418]) rfl (by kernel_rfl) (by kernel_rfl : _ = Value.pointer (some ⟨b8, 0, none⟩)) (by kernel_rfl : _ = Value.agg #[.int .i64 ((rd l1 0).W), .int .i64 ((rd l1 0).H), .slice A417 x416.length c418]) rfl rfl (by intro u_ hu_; simp only [List.mem_cons, List.not_mem_nil, or_false] at hu_; rcases hu_ with rfl | rfl | rfl <;> rfl) HS434 (Nat.le_of_ble_eq_true rfl) (by kernel_rfl) ?_)
      intro W435 HS436
      refine seqS1 (a' := ⟨#[.slice A2 l1.length c3, iV vf5, uV, uV, .pointer (some ⟨b8, 0, none⟩), iV 0, iV vt16, .pointer (some ⟨b42, 0, none⟩), (j415 0), (j415 1), uV, (j415 2), .slice A2 l1.length c3, iV vf5, iV vt16, iV vt16, .bool false, uV, uV, .slice A2 l1.length c3, .pointer (some ⟨b38, of39 + (0 : Int).toNat * 3, none⟩), .pointer (some ⟨b38, of39 + (0 : Int).toNat * 3, none⟩), iV ((rd l1 0).W), .slice A2 l1.length c3, .pointer (some ⟨b38, of39 + (0 : Int).toNat * 3, none⟩), .pointer (some ⟨b38, of39 + (0 : Int).toNat * 3 + 1, none⟩), iV ((rd l1 0).H), .agg #[iV ((rd l1 0).W), iV ((rd l1 0).H), .slice none 0 0], .slice A2 l1.length c3, .pointer (some ⟨b38, of39 + (0 : Int).toNat * 3, none⟩), .pointer (some ⟨b38, of39 + (0 : Int).toNat * 3 + 2, none⟩), .slice A41 ((rd l1 0).At).length c41, iV (((rd l1 0).At).length : Int), (j415 3), (j415 4), (j415 5), (j415 6), (j415 7), (j415 8), (j415 9), (j415 10), (j415 11), (j415 12), (j415 13), (j415 14), (j415 15), (j415 16), (j415 17), (j415 18), (j415 19), (j415 20), (j415 21), (j415 22), (j415 23), (j415 24), (j415 25), (j415 26), (j415 27), (j415 28), (j415 29), .agg #[iV ((rd l1 0).W), iV ((rd l1 0).H), .slice A417 x416.length c418]], []⟩) (by kernel_rfl) ?_
      refine wpList_nil ?_
      refine hK433 _ _ ?_
      refine wp_ret ?_
      refine hret _ _ ?_
      refine ends (v := Value.tuple #[.agg #[.int .i64 ((rd l1 0).W), .int .i64 ((rd l1 0).H), .slice A417 x416.length c418], .int .i64 0]) (results2 (q1 := .cell 4 34) (q2 := .tmp 5) (by kernel_rfl) (resN (n := 3) (cs := [.int .i64 ((rd l1 0).W), .int .i64 ((rd l1 0).H), .slice A417 x416.length c418]) (by kernel_rfl : _ = Value.pointer (some ⟨b8, 0, none⟩)) Try.underlying34 rfl (by kernel_rfl) rfl (HS436.cells 0 3 _ rfl)) (resT (by kernel_rfl : _ = Value.int .i64 0))) (by kernel_rfl) ?_
      have HS441 := HS436.u1
      have HS442 := HS441.u2
      have HS443 := HS442.u2
      have HS444 := HS443.drop
      have HS445 := HS444.drop
      injection h with h
      injection h with h0_ h
      subst h0_ h
      exact ⟨f411, A417, c418, s419, rfl, (L19.trans L412), HS445, HO420⟩
    clear h; have h := hv422; clear hv422
    have HS425 := HS47.cons_nil
    refine loopK (fun n_ a_ w_ => ∃ (f235 : FM) (A242 : Option Addr) (c243 : Nat) (s244 : Seg) (x240 : Int) (x241 : List S_Bound) (j239 : Nat → Value), FM.le f18 f235 ∧ St t w_ f235 (s244 :: [(b42, .cells #[.int .i64 ((rd l1 0).W), .int .i64 ((rd l1 0).H), .slice A242 x241.length c243] 34 (0, 0))] :: [(b8, .cells #[.int .i64 0, .int .i64 0, .slice none 0 0] 34 (0, 0))] :: H) ∧ Own ty_Bound 44 f235 A242 c243 s244 x241 ∧ clean_Combine.l0 k l1 vf5 n_ x240 x241 = some o231 ∧ a_ = ⟨#[.slice A2 l1.length c3, iV vf5, uV, uV, .pointer (some ⟨b8, 0, none⟩), iV 0, iV vt16, .pointer (some ⟨b42, 0, none⟩), (j239 0), (j239 1), uV, (j239 2), .slice A2 l1.length c3, iV vf5, iV vt16, iV vt16, .bool false, uV, uV, .slice A2 l1.length c3, .pointer (some ⟨b38, of39 + (0 : Int).toNat * 3, none⟩), .pointer (some ⟨b38, of39 + (0 : Int).toNat * 3, none⟩), iV ((rd l1 0).W), .slice A2 l1.length c3, .pointer (some ⟨b38, of39 + (0 : Int).toNat * 3, none⟩), .pointer (some ⟨b38, of39 + (0 : Int).toNat * 3 + 1, none⟩), iV ((rd l1 0).H), .agg #[iV ((rd l1 0).W), iV ((rd l1 0).H), .slice none 0 0], .slice A2 l1.length c3, .pointer (some ⟨b38, of39 + (0 : Int).toNat * 3, none⟩), .pointer (some ⟨b38, of39 + (0 : Int).toNat * 3 + 2, none⟩), .slice A41 ((rd l1 0).At).length c41, iV (((rd l1 0).At).length : Int), iV x240, (j239 3), (j239 4), (j239 5), (j239 6), (j239 7), (j239 8), (j239 9), (j239 10), (j239 11), (j239 12), (j239 13), (j239 14), (j239 15), (j239 16), (j239 17), (j239 18), (j239 19), (j239 20), (j239 21), (j239 22), (j239 23), (j239 24), (j239 25), (j239 26), (j239 27), (j239 28), uV], []⟩) k ⟨f18, none, 0, [], 0, ([] : List S_Bound), (fun i_ => [undef, undef, undef, undef, undef, undef, undef, undef, undef, undef, undef, undef, undef, undef, undef, undef, undef, undef, undef, undef, undef, undef, undef, undef, undef, undef, undef, undef, undef].getD i_ undef), (FM.le.refl _), HS425, (Own.nil _), h, (by kernel_rfl)⟩ ?_
    clear h
    rintro n234 _ W237 ⟨f235, A242, c243, s244, x240, x241, j239, L236, HS238, HO245, h, rfl⟩ K232 hK233
    obtain _ | n234 := n234
    · exact nomatch h
    simp only [clean_Combine.l0] at h
    refine wp_seq_k (fun K247 hK248 => ?_)
    refine wp_region_lit ?_
    refine seqS1 (a' := ⟨#[.slice A2 l1.length c3, iV vf5, uV, uV, .pointer (some ⟨b8, 0, none⟩), iV 0, iV vt16, .pointer (some ⟨b42, 0, none⟩), (j239 0), (j239 1), uV, (j239 2), .slice A2 l1.length c3, iV vf5, iV vt16, iV vt16, .bool false, uV, uV, .slice A2 l1.length c3, .pointer (some ⟨b38, of39 + (0 : Int).toNat * 3, none⟩), .pointer (some ⟨b38, of39 + (0 : Int).toNat * 3, none⟩), iV ((rd l1 0).W), .slice A2 l1.length c3, .pointer (some ⟨b38, of39 + (0 : Int).toNat * 3, none⟩), .pointer (some ⟨b38, of39 + (0 : Int).toNat * 3 + 1, none⟩), iV ((rd l1 0).H), .agg #[iV ((rd l1 0).W), iV ((rd l1 0).H), .slice none 0 0], .slice A2 l1.length c3, .pointer (some ⟨b38, of39 + (0 : Int).toNat * 3, none⟩), .pointer (some ⟨b38, of39 + (0 : Int).toNat * 3 + 2, none⟩), .slice A41 ((rd l1 0).At).length c41, iV (((rd l1 0).At).length : Int), iV x240, .bool (decide (x240 < (((rd l1 0).At).length : Int))), (j239 4), (j239 5), (j239 6), (j239 7), (j239 8), (j239 9), (j239 10), (j239 11), (j239 12), (j239 13), (j239 14), (j239 15), (j239 16), (j239 17), (j239 18), (j239 19), (j239 20), (j239 21), (j239 22), (j239 23), (j239 24), (j239 25), (j239 26), (j239 27), (j239 28), uV], []⟩) (by kernel_rfl) ?_
    refine wpList_nil ?_
    refine hK248 _ _ ?_
    refine wp_seq_k (fun K249 hK250 => ?_)
    have hq_ := ite_some h; clear h; rcases hq_ with ⟨c252, h⟩ | ⟨c252, h⟩
    · have c252 : x240 < (((rd l1 0).At).length : Int) := c252
      refine wpRwI 34 (x := (decide (x240 < (((rd l1 0).At).length : Int)))) (v := true) (by kernel_rfl) (decide_eq_true c252) ?_
      refine condT (by kernel_rfl) ?_
      refine wp_skip ?_
      refine hK250 _ _ ?_
      refine wp_seq_k (fun K253 hK254 => ?_)
      refine blockK (fun B255 hx256 hn257 hr258 ho259 hp260 => ?_)
      refine wp_seq_k (fun K262 hK263 => ?_)
      refine wp_region_lit ?_
      refine seqS2 (a' := ⟨#[.slice A2 l1.length c3, iV vf5, uV, uV, .pointer (some ⟨b8, 0, none⟩), iV 0, iV vt16, .pointer (some ⟨b42, 0, none⟩), iV x240, (j239 1), uV, (j239 2), .slice A2 l1.length c3, iV vf5, iV vt16, iV vt16, .bool false, uV, uV, .slice A2 l1.length c3, .pointer (some ⟨b38, of39 + (0 : Int).toNat * 3, none⟩), .pointer (some ⟨b38, of39 + (0 : Int).toNat * 3, none⟩), iV ((rd l1 0).W), .slice A2 l1.length c3, .pointer (some ⟨b38, of39 + (0 : Int).toNat * 3, none⟩), .pointer (some ⟨b38, of39 + (0 : Int).toNat * 3 + 1, none⟩), iV ((rd l1 0).H), .agg #[iV ((rd l1 0).W), iV ((rd l1 0).H), .slice none 0 0], .slice A2 l1.length c3, .pointer (some ⟨b38, of39 + (0 : Int).toNat * 3, none⟩), .pointer (some ⟨b38, of39 + (0 : Int).toNat * 3 + 2, none⟩), .slice A41 ((rd l1 0).At).length c41, iV (((rd l1 0).At).length : Int), iV x240, .bool true, iV x240, (j239 5), (j239 6), (j239 7), (j239 8), (j239 9), (j239 10), (j239 11), (j239 12), (j239 13), (j239 14), (j239 15), (j239 16), (j239 17), (j239 18), (j239 19), (j239 20), (j239 21), (j239 22), (j239 23), (j239 24), (j239 25), (j239 26), (j239 27), (j239 28), uV], []⟩) (by kernel_rfl) ?_
      refine wpList_nil ?_
      refine hK263 _ _ ?_
      refine wp_seq_k (fun K264 hK265 => ?_)
      refine wp_region_lit ?_
      refine seqS1 (a' := ⟨#[.slice A2 l1.length c3, iV vf5, uV, uV, .pointer (some ⟨b8, 0, none⟩), iV 0, iV vt16, .pointer (some ⟨b42, 0, none⟩), iV x240, .slice none 0 0, uV, (j239 2), .slice A2 l1.length c3, iV vf5, iV vt16, iV vt16, .bool false, uV, uV, .slice A2 l1.length c3, .pointer (some ⟨b38, of39 + (0 : Int).toNat * 3, none⟩), .pointer (some ⟨b38, of39 + (0 : Int).toNat * 3, none⟩), iV ((rd l1 0).W), .slice A2 l1.length c3, .pointer (some ⟨b38, of39 + (0 : Int).toNat * 3, none⟩), .pointer (some ⟨b38, of39 + (0 : Int).toNat * 3 + 1, none⟩), iV ((rd l1 0).H), .agg #[iV ((rd l1 0).W), iV ((rd l1 0).H), .slice none 0 0], .slice A2 l1.length c3, .pointer (some ⟨b38, of39 + (0 : Int).toNat * 3, none⟩), .pointer (some ⟨b38, of39 + (0 : Int).toNat * 3 + 2, none⟩), .slice A41 ((rd l1 0).At).length c41, iV (((rd l1 0).At).length : Int), iV x240, .bool true, iV x240, (j239 5), (j239 6), (j239 7), (j239 8), (j239 9), (j239 10), (j239 11), (j239 12), (j239 13), (j239 14), (j239 15), (j239 16), (j239 17), (j239 18), (j239 19), (j239 20), (j239 21), (j239 22), (j239 23), (j239 24), (j239 25), (j239 26), (j239 27), (j239 28), uV], []⟩) (by kernel_rfl) ?_
      refine wpList_nil ?_
      refine hK265 _ _ ?_
      refine wp_seq_k (fun K266 hK267 => ?_)
      refine wp_seq_k (fun K268 hK269 => ?_)
      refine wp_region_lit ?_
      refine seqS3 (a' := ⟨#[.slice A2 l1.length c3, iV vf5, uV, uV, .pointer (some ⟨b8, 0, none⟩), iV 0, iV vt16, .pointer (some ⟨b42, 0, none⟩), iV x240, .slice none 0 0, uV, (j239 2), .slice A2 l1.length c3, iV vf5, iV vt16, iV vt16, .bool false, uV, uV, .slice A2 l1.length c3, .pointer (some ⟨b38, of39 + (0 : Int).toNat * 3, none⟩), .pointer (some ⟨b38, of39 + (0 : Int).toNat * 3, none⟩), iV ((rd l1 0).W), .slice A2 l1.length c3, .pointer (some ⟨b38, of39 + (0 : Int).toNat * 3, none⟩), .pointer (some ⟨b38, of39 + (0 : Int).toNat * 3 + 1, none⟩), iV ((rd l1 0).H), .agg #[iV ((rd l1 0).W), iV ((rd l1 0).H), .slice none 0 0], .slice A2 l1.length c3, .pointer (some ⟨b38, of39 + (0 : Int).toNat * 3, none⟩), .pointer (some ⟨b38, of39 + (0 : Int).toNat * 3 + 2, none⟩), .slice A41 ((rd l1 0).At).length c41, iV (((rd l1 0).At).length : Int), iV x240, .bool true, iV x240, .slice A2 l1.length c3, iV (l1.length : Int), iV 0, (j239 8), (j239 9), (j239 10), (j239 11), (j239 12), (j239 13), (j239 14), (j239 15), (j239 16), (j239 17), (j239 18), (j239 19), (j239 20), (j239 21), (j239 22), (j239 23), (j239 24), (j239 25), (j239 26), (j239 27), (j239 28), uV], []⟩) (by kernel_rfl) ?_
      refine wpList_nil ?_
      refine hK269 _ _ ?_
      refine blockK (fun B270 hx271 hn272 hr273 ho274 hp275 => ?_)
      have hq_ := bind_some h; clear h; obtain ⟨o276, hv357, h⟩ := hq_
      have J358 : ∀ (f346 : FM) (A352 : Option Addr) (c353 : Nat) (s354 : Seg) (cell351 : List S_Bound) (j350 : Nat → Value) (W348 : World) (a_ : Act), FM.le f235 f346 → some (cell351) = some o276 → St t W348 f346 (s354 :: s244 :: [(b42, .cells #[.int .i64 ((rd l1 0).W), .int .i64 ((rd l1 0).H), .slice A242 x241.length c243] 34 (0, 0))] :: [(b8, .cells #[.int .i64 0, .int .i64 0, .slice none 0 0] 34 (0, 0))] :: H) → Own ty_Bound 44 f346 A352 c353 s354 cell351 → a_ = ⟨#[.slice A2 l1.length c3, iV vf5, uV, uV, .pointer (some ⟨b8, 0, none⟩), iV 0, iV vt16, .pointer (some ⟨b42, 0, none⟩), iV x240, .slice A352 cell351.length c353, uV, (j350 0), .slice A2 l1.length c3, iV vf5, iV vt16, iV vt16, .bool false, uV, uV, .slice A2 l1.length c3, .pointer (some ⟨b38, of39 + (0 : Int).toNat * 3, none⟩), .pointer (some ⟨b38, of39 + (0 : Int).toNat * 3, none⟩), iV ((rd l1 0).W), .slice A2 l1.length c3, .pointer (some ⟨b38, of39 + (0 : Int).toNat * 3, none⟩), .pointer (some ⟨b38, of39 + (0 : Int).toNat * 3 + 1, none⟩), iV ((rd l1 0).H), .agg #[iV ((rd l1 0).W), iV ((rd l1 0).H), .slice none 0 0], .slice A2 l1.length c3, .pointer (some ⟨b38, of39 + (0 : Int).toNat * 3, none⟩), .pointer (some ⟨b38, of39 + (0 : Int).toNat * 3 + 2, none⟩), .slice A41 ((rd l1 0).At).length c41, iV (((rd l1 0).At).length : Int), iV x240, .bool true, iV x240, .slice A2 l1.length c3, iV (l1.length : Int), (j350 1), (j350 2), (j350 3), (j350 4), (j350 5), (j350 6), (j350 7), (j350 8), (j350 9), (j350 10), (j350 11), (j350 12), (j350 13), (j239 20), (j239 21), (j239 22), (j239 23), (j239 24), (j239 25), (j239 26), (j239 27), (j239 28), uV], []⟩ → K266 a_ W348 := by
        intro f346 A352 c353 s354 cell351 j350 W348 a_ L347 hj359 HS349 HO355 hfr_; subst hfr_
        injection hj359 with hj359; subst hj359; try dsimp only at h
        refine hK267 _ _ ?_
        have HS368 := HS349.u3
        have HS369 := HS368.u1
        have HS370 := HS369.u3
        have HS371 := HS370.u3
        refine heldG (S := Sg t f346 (s354 :: [(b8, .cells #[.int .i64 0, .int .i64 0, .slice none 0 0] 34 (0, 0))] :: H) [(6, s244), (8, [(b42, .cells #[.int .i64 ((rd l1 0).W), .int .i64 ((rd l1 0).H), .slice A242 x241.length c243] 34 (0, 0))])]) (n := 9) (by kernel_rfl) rfl HS371 ?_
        intro W372 HS373
        refine takeG [0] (n := 9) (fuel := 8) (l' := #[true, false, false, false, false, false, false, false, false]) (a' := ⟨#[.slice A2 l1.length c3, iV vf5, uV, uV, .pointer (some ⟨b8, 0, none⟩), iV 0, iV vt16, .pointer (some ⟨b42, 0, none⟩), iV x240, .slice A352 cell351.length c353, uV, (j350 0), .slice A2 l1.length c3, iV vf5, iV vt16, iV vt16, .bool false, uV, uV, .slice A2 l1.length c3, .pointer (some ⟨b38, of39 + (0 : Int).toNat * 3, none⟩), .pointer (some ⟨b38, of39 + (0 : Int).toNat * 3, none⟩), iV ((rd l1 0).W), .slice A2 l1.length c3, .pointer (some ⟨b38, of39 + (0 : Int).toNat * 3, none⟩), .pointer (some ⟨b38, of39 + (0 : Int).toNat * 3 + 1, none⟩), iV ((rd l1 0).H), .agg #[iV ((rd l1 0).W), iV ((rd l1 0).H), .slice none 0 0], .slice A2 l1.length c3, .pointer (some ⟨b38, of39 + (0 : Int).toNat * 3, none⟩), .pointer (some ⟨b38, of39 + (0 : Int).toNat * 3 + 2, none⟩), .slice A41 ((rd l1 0).At).length c41, iV (((rd l1 0).At).length : Int), iV x240, .bool true, iV x240, .slice A2 l1.length c3, iV (l1.length : Int), (j350 1), (j350 2), (j350 3), (j350 4), (j350 5), (j350 6), (j350 7), (j350 8), (j350 9), (j350 10), (j350 11), (j350 12), (j350 13), .pointer (some ⟨b42, 2, none⟩), (j239 21), (j239 22), (j239 23), (j239 24), (j239 25), (j239 26), (j239 27), (j239 28), uV], []⟩) rfl (by kernel_rfl) (by kernel_rfl) (by kernel_rfl) (fun ch_ a_ w_ q_ => (fun ch_ a_ w_ q_ => hnp ch_ a_ w_ (hp57 ch_ a_ w_ q_)) ch_ a_ w_ (hp260 ch_ a_ w_ q_)) (Sg.g2 (Sx.of [s244, [(b42, .cells #[.int .i64 ((rd l1 0).W), .int .i64 ((rd l1 0).H), .slice A242 x241.length c243] 34 (0, 0))]] (FM.le.refl _) HS373) (fun _ => St.only [] HS373 (FM.le.refl _)) (fun _ => St.only [s244] HS373 (FM.le.refl _))) ?_
        refine takeGQ 1 [8] rfl (by kernel_rfl) (by kernel_rfl) (by kernel_rfl) (by kernel_rfl) (by kernel_rfl) (by kernel_rfl) (fun ch_ a_ w_ q_ => (fun ch_ a_ w_ q_ => hnp ch_ a_ w_ (hp57 ch_ a_ w_ q_)) ch_ a_ w_ (hp260 ch_ a_ w_ q_)) (Sg.g2 (Sx.of [s244, [(b42, .cells #[.int .i64 ((rd l1 0).W), .int .i64 ((rd l1 0).H), .slice A242 x241.length c243] 34 (0, 0))]] (FM.le.refl _) HS373) (fun _ => St.only [] HS373 (FM.le.refl _)) (fun _ => St.only [s244] HS373 (FM.le.refl _))) (fun w_ hw_ => by obtain ⟨g_, hl_, hS_⟩ := hw_.seg (j := 8) (s := [(b42, .cells #[.int .i64 ((rd l1 0).W), .int .i64 ((rd l1 0).H), .slice A242 x241.length c243] 34 (0, 0))]) (by simp) (by simp); exact run_load rfl Try.underlying32 rfl (by kernel_rfl : _ = Value.pointer (some ⟨b42, 2, none⟩)) (hS_.cell 2)) ?_
        refine takeG [2, 3] (n := 7) (fuel := 5) (l' := #[true, true, true, true, false, false, false, false, false]) (a' := ⟨#[.slice A2 l1.length c3, iV vf5, uV, uV, .pointer (some ⟨b8, 0, none⟩), iV 0, iV vt16, .pointer (some ⟨b42, 0, none⟩), iV x240, .slice A352 cell351.length c353, uV, (j350 0), .slice A2 l1.length c3, iV vf5, iV vt16, iV vt16, .bool false, uV, uV, .slice A2 l1.length c3, .pointer (some ⟨b38, of39 + (0 : Int).toNat * 3, none⟩), .pointer (some ⟨b38, of39 + (0 : Int).toNat * 3, none⟩), iV ((rd l1 0).W), .slice A2 l1.length c3, .pointer (some ⟨b38, of39 + (0 : Int).toNat * 3, none⟩), .pointer (some ⟨b38, of39 + (0 : Int).toNat * 3 + 1, none⟩), iV ((rd l1 0).H), .agg #[iV ((rd l1 0).W), iV ((rd l1 0).H), .slice none 0 0], .slice A2 l1.length c3, .pointer (some ⟨b38, of39 + (0 : Int).toNat * 3, none⟩), .pointer (some ⟨b38, of39 + (0 : Int).toNat * 3 + 2, none⟩), .slice A41 ((rd l1 0).At).length c41, iV (((rd l1 0).At).length : Int), iV x240, .bool true, iV x240, .slice A2 l1.length c3, iV (l1.length : Int), (j350 1), (j350 2), (j350 3), (j350 4), (j350 5), (j350 6), (j350 7), (j350 8), (j350 9), (j350 10), (j350 11), (j350 12), (j350 13), .pointer (some ⟨b42, 2, none⟩), .slice A242 x241.length c243, .slice A352 cell351.length c353, iV vf5, (j239 24), (j239 25), (j239 26), (j239 27), (j239 28), uV], []⟩) rfl (by kernel_rfl) (by kernel_rfl) (by kernel_rfl) (fun ch_ a_ w_ q_ => (fun ch_ a_ w_ q_ => hnp ch_ a_ w_ (hp57 ch_ a_ w_ q_)) ch_ a_ w_ (hp260 ch_ a_ w_ q_)) (Sg.g2 (Sx.of [s244, [(b42, .cells #[.int .i64 ((rd l1 0).W), .int .i64 ((rd l1 0).H), .slice A242 x241.length c243] 34 (0, 0))]] (FM.le.refl _) HS373) (fun _ => St.only [] HS373 (FM.le.refl _)) (fun _ => St.only [s244] HS373 (FM.le.refl _))) ?_
        have HS374 := HS373.u2
        obtain ⟨f375, L376, HS377, HR378, th379⟩ := HO355.lend HS374
        have hq_ := bind_some h; clear h; obtain ⟨vt380, hc381, h⟩ := hq_
        refine takeGE 4 (by kernel_rfl) rfl (by kernel_rfl) (does_call (f := 41) (args := #[.slice A352 cell351.length c353, .int .i64 vf5]) (by kernel_rfl) (bound_Fuse_Quanta.calls k A352 c353 cell351 vf5 HS377 HR378 vt380 hc381) ?_)
        rintro _ W384 ⟨f382, rfl, L383, HS385⟩
        refine ⟨_, rfl, ?_⟩
        obtain ⟨f386, L387, HS388⟩ := th379 L383 HS385
        have HS389 := HS388.u3
        have HS390 := HS389.u1
        have HS391 := HS390.u3
        have HS392 := HS391.u3
        refine ⟨(Sg.g2 (Sx.of [s244, [(b42, .cells #[.int .i64 ((rd l1 0).W), .int .i64 ((rd l1 0).H), .slice A242 x241.length c243] 34 (0, 0))]] L387 HS392) (fun _ => St.only [] HS392 L387) (fun _ => St.only [s244] HS392 L387)), ?_⟩
        refine takeGE 5 (by kernel_rfl) rfl (by kernel_rfl) (does_lit (e := ty_Bound) (E := 44) (vs := #[(0, Value.agg #[.int .i64 vt380.Lo, .int .i64 vt380.Hi, .bool vt380.Unknown])]) (cs := #[.int .i64 vt380.Lo, .int .i64 vt380.Hi, .bool vt380.Unknown]) (xs := ([vt380] : List S_Bound)) rfl Try.underlying32 (by kernel_rfl) (by kernel_rfl) ⟨[.int .i64 vt380.Lo, .int .i64 vt380.Hi, .bool vt380.Unknown], _, rfl, rfl, rfl⟩ rfl HS392 ?_ (by decide))
        intro b393 W394 s395 HS396 _ HO397
        refine ⟨(Sg.g2 (Sx.of [s395, s244, [(b42, .cells #[.int .i64 ((rd l1 0).W), .int .i64 ((rd l1 0).H), .slice A242 x241.length c243] 34 (0, 0))]] L387 HS396) (fun _ => St.only [s395] HS396 L387) (fun _ => St.only [s395, s244] HS396 L387)), ?_⟩
        have hq_ := guard_some h; clear h; obtain ⟨c399, h⟩ := hq_
        have c399 : (x241.length + 1) * 24 ≤ 140737488355328 := c399
        have HS400 := HS396.u1
        have HS401 := HS400.u1
        refine takeGE 6 (by kernel_rfl) rfl (by kernel_rfl) (does_append1 (e := ty_Bound) (E := 44) (xs := x241) (ys := ([vt380] : List S_Bound)) rfl (by kernel_rfl : _ = Value.slice A242 x241.length c243) (by kernel_rfl : _ = Value.slice (some ⟨b393, 0, none⟩) ([vt380] : List S_Bound).length 1) Try.underlying32 inf44 (HO245.mono (L347.trans L387)) HO397 HS401 c399 (lim63 c399 (by decide)) ?_)
        intro A402 c403 s404 W405 HS406 HO407
        refine ⟨(Sg.g2 (Sx.of [s404, [(b42, .cells #[.int .i64 ((rd l1 0).W), .int .i64 ((rd l1 0).H), .slice A242 x241.length c243] 34 (0, 0))]] L387 HS406) (fun hl_ => Bool.noConfusion (show true = false from hl_)) (fun _ => St.only [s404] HS406 L387)), ?_⟩
        refine takeG [7] (n := 2) (fuel := 1) (l' := #[true, true, true, true, true, true, true, true, false]) (a' := ⟨#[.slice A2 l1.length c3, iV vf5, uV, uV, .pointer (some ⟨b8, 0, none⟩), iV 0, iV vt16, .pointer (some ⟨b42, 0, none⟩), iV x240, .slice A352 cell351.length c353, uV, (j350 0), .slice A2 l1.length c3, iV vf5, iV vt16, iV vt16, .bool false, uV, uV, .slice A2 l1.length c3, .pointer (some ⟨b38, of39 + (0 : Int).toNat * 3, none⟩), .pointer (some ⟨b38, of39 + (0 : Int).toNat * 3, none⟩), iV ((rd l1 0).W), .slice A2 l1.length c3, .pointer (some ⟨b38, of39 + (0 : Int).toNat * 3, none⟩), .pointer (some ⟨b38, of39 + (0 : Int).toNat * 3 + 1, none⟩), iV ((rd l1 0).H), .agg #[iV ((rd l1 0).W), iV ((rd l1 0).H), .slice none 0 0], .slice A2 l1.length c3, .pointer (some ⟨b38, of39 + (0 : Int).toNat * 3, none⟩), .pointer (some ⟨b38, of39 + (0 : Int).toNat * 3 + 2, none⟩), .slice A41 ((rd l1 0).At).length c41, iV (((rd l1 0).At).length : Int), iV x240, .bool true, iV x240, .slice A2 l1.length c3, iV (l1.length : Int), (j350 1), (j350 2), (j350 3), (j350 4), (j350 5), (j350 6), (j350 7), (j350 8), (j350 9), (j350 10), (j350 11), (j350 12), (j350 13), .pointer (some ⟨b42, 2, none⟩), .slice A242 x241.length c243, .slice A352 cell351.length c353, iV vf5, .agg #[iV vt380.Lo, iV vt380.Hi, .bool vt380.Unknown], .slice (some ⟨b393, 0, none⟩) ([vt380] : List S_Bound).length 1, .slice A402 (x241 ++ ([vt380] : List S_Bound)).length c403, .pointer (some ⟨b42, 2, none⟩), (j239 28), uV], []⟩) rfl (by kernel_rfl) (by kernel_rfl) (by kernel_rfl) (fun ch_ a_ w_ q_ => (fun ch_ a_ w_ q_ => hnp ch_ a_ w_ (hp57 ch_ a_ w_ q_)) ch_ a_ w_ (hp260 ch_ a_ w_ q_)) (Sg.g2 (Sx.of [s404, [(b42, .cells #[.int .i64 ((rd l1 0).W), .int .i64 ((rd l1 0).H), .slice A242 x241.length c243] 34 (0, 0))]] L387 HS406) (fun hl_ => Bool.noConfusion (show true = false from hl_)) (fun _ => St.only [s404] HS406 L387)) ?_
        have HS408 := HS406.u1
        refine takeGE 8 (by kernel_rfl) rfl (by kernel_rfl) (does_store (n := 1) (vs := [.slice A402 (x241 ++ ([vt380] : List S_Bound)).length c403]) (cs' := #[.int .i64 ((rd l1 0).W), .int .i64 ((rd l1 0).H), .slice A402 (x241 ++ ([vt380] : List S_Bound)).length c403]) rfl (by kernel_rfl) (by kernel_rfl : _ = Value.pointer (some ⟨b42, 2, none⟩)) (by kernel_rfl : _ = Value.slice A402 (x241 ++ ([vt380] : List S_Bound)).length c403) rfl rfl (by intro u_ hu_; simp only [List.mem_cons, List.not_mem_nil, or_false] at hu_; subst hu_; rfl) HS408 (Nat.le_of_ble_eq_true rfl) (by kernel_rfl) ?_)
        intro W409 HS410
        refine ⟨(Sg.g2 (Sx.of [[(b42, .cells #[.int .i64 ((rd l1 0).W), .int .i64 ((rd l1 0).H), .slice A402 (x241 ++ ([vt380] : List S_Bound)).length c403] 34 (0, 0))], s404] L387 HS410) (fun hl_ => Bool.noConfusion (show true = false from hl_)) (fun hl_ => Bool.noConfusion (show true = false from hl_))), ?_⟩
        refine doneG (by kernel_rfl) ?_ _
        refine hn257 _ _ ?_
        refine hK254 _ _ ?_
        refine wp_region_lit ?_
        refine seqS2 (a' := ⟨#[.slice A2 l1.length c3, iV vf5, uV, uV, .pointer (some ⟨b8, 0, none⟩), iV 0, iV vt16, .pointer (some ⟨b42, 0, none⟩), iV x240, .slice A352 cell351.length c353, uV, (j350 0), .slice A2 l1.length c3, iV vf5, iV vt16, iV vt16, .bool false, uV, uV, .slice A2 l1.length c3, .pointer (some ⟨b38, of39 + (0 : Int).toNat * 3, none⟩), .pointer (some ⟨b38, of39 + (0 : Int).toNat * 3, none⟩), iV ((rd l1 0).W), .slice A2 l1.length c3, .pointer (some ⟨b38, of39 + (0 : Int).toNat * 3, none⟩), .pointer (some ⟨b38, of39 + (0 : Int).toNat * 3 + 1, none⟩), iV ((rd l1 0).H), .agg #[iV ((rd l1 0).W), iV ((rd l1 0).H), .slice none 0 0], .slice A2 l1.length c3, .pointer (some ⟨b38, of39 + (0 : Int).toNat * 3, none⟩), .pointer (some ⟨b38, of39 + (0 : Int).toNat * 3 + 2, none⟩), .slice A41 ((rd l1 0).At).length c41, iV (((rd l1 0).At).length : Int), iV (w64 (x240 + 1)), .bool true, iV x240, .slice A2 l1.length c3, iV (l1.length : Int), (j350 1), (j350 2), (j350 3), (j350 4), (j350 5), (j350 6), (j350 7), (j350 8), (j350 9), (j350 10), (j350 11), (j350 12), (j350 13), .pointer (some ⟨b42, 2, none⟩), .slice A242 x241.length c243, .slice A352 cell351.length c353, iV vf5, .agg #[iV vt380.Lo, iV vt380.Hi, .bool vt380.Unknown], .slice (some ⟨b393, 0, none⟩) ([vt380] : List S_Bound).length 1, .slice A402 (x241 ++ ([vt380] : List S_Bound)).length c403, .pointer (some ⟨b42, 2, none⟩), iV (w64 (x240 + 1)), uV], []⟩) (by kernel_rfl) ?_
        refine wpList_nil ?_
        refine hK233 n234 _ _ (Nat.lt_succ_self _) ?_
        have HS427 := HS410.u3
        have HS428 := HS427.u1
        have HS429 := HS428.u2
        have HS430 := HS429.u3
        have HS431 := HS430.drop
        exact ⟨f386, A402, c403, s404, (w64 (x240 + 1)), (x241 ++ ([vt380] : List S_Bound)), (fun i_ => [Value.int .i64 x240, Value.slice A352 cell351.length c353, (j350 0), Value.bool true, Value.int .i64 x240, Value.slice A2 l1.length c3, Value.int .i64 (l1.length : Int), (j350 1), (j350 2), (j350 3), (j350 4), (j350 5), (j350 6), (j350 7), (j350 8), (j350 9), (j350 10), (j350 11), (j350 12), (j350 13), Value.pointer (some ⟨b42, 2, none⟩), Value.slice A242 x241.length c243, Value.slice A352 cell351.length c353, Value.int .i64 vf5, Value.agg #[.int .i64 vt380.Lo, .int .i64 vt380.Hi, .bool vt380.Unknown], Value.slice (some ⟨b393, 0, none⟩) ([vt380] : List S_Bound).length 1, Value.slice A402 (x241 ++ ([vt380] : List S_Bound)).length c403, Value.pointer (some ⟨b42, 2, none⟩), Value.int .i64 (w64 (x240 + 1))].getD i_ undef), (L236.trans (L347.trans L387)), HS431, HO407, h, (by kernel_rfl)⟩
      clear h; have h := hv357; clear hv357
      have HS360 := HS238.cons_nil
      refine loopK (fun n_ a_ w_ => ∃ (f280 : FM) (A286 : Option Addr) (c287 : Nat) (s288 : Seg) (cell285 : List S_Bound) (x291 : Int) (j284 : Nat → Value), FM.le f235 f280 ∧ St t w_ f280 (s288 :: s244 :: [(b42, .cells #[.int .i64 ((rd l1 0).W), .int .i64 ((rd l1 0).H), .slice A242 x241.length c243] 34 (0, 0))] :: [(b8, .cells #[.int .i64 0, .int .i64 0, .slice none 0 0] 34 (0, 0))] :: H) ∧ Own ty_Bound 44 f280 A286 c287 s288 cell285 ∧ clean_Combine.l1 k l1 x240 n_ cell285 x291 = some o276 ∧ a_ = ⟨#[.slice A2 l1.length c3, iV vf5, uV, uV, .pointer (some ⟨b8, 0, none⟩), iV 0, iV vt16, .pointer (some ⟨b42, 0, none⟩), iV x240, .slice A286 cell285.length c287, uV, (j284 0), .slice A2 l1.length c3, iV vf5, iV vt16, iV vt16, .bool false, uV, uV, .slice A2 l1.length c3, .pointer (some ⟨b38, of39 + (0 : Int).toNat * 3, none⟩), .pointer (some ⟨b38, of39 + (0 : Int).toNat * 3, none⟩), iV ((rd l1 0).W), .slice A2 l1.length c3, .pointer (some ⟨b38, of39 + (0 : Int).toNat * 3, none⟩), .pointer (some ⟨b38, of39 + (0 : Int).toNat * 3 + 1, none⟩), iV ((rd l1 0).H), .agg #[iV ((rd l1 0).W), iV ((rd l1 0).H), .slice none 0 0], .slice A2 l1.length c3, .pointer (some ⟨b38, of39 + (0 : Int).toNat * 3, none⟩), .pointer (some ⟨b38, of39 + (0 : Int).toNat * 3 + 2, none⟩), .slice A41 ((rd l1 0).At).length c41, iV (((rd l1 0).At).length : Int), iV x240, .bool true, iV x240, .slice A2 l1.length c3, iV (l1.length : Int), iV x291, (j284 1), (j284 2), (j284 3), (j284 4), (j284 5), (j284 6), (j284 7), (j284 8), (j284 9), (j284 10), (j284 11), (j284 12), (j239 20), (j239 21), (j239 22), (j239 23), (j239 24), (j239 25), (j239 26), (j239 27), (j239 28), uV], []⟩) k ⟨f235, none, 0, [], ([] : List S_Bound), 0, (fun i_ => [(j239 2), (j239 8), (j239 9), (j239 10), (j239 11), (j239 12), (j239 13), (j239 14), (j239 15), (j239 16), (j239 17), (j239 18), (j239 19)].getD i_ undef), (FM.le.refl _), HS360, (Own.nil _), h, (by kernel_rfl)⟩ ?_
      clear h
      rintro n279 _ W282 ⟨f280, A286, c287, s288, cell285, x291, j284, L281, HS283, HO289, h, rfl⟩ K277 hK278
      obtain _ | n279 := n279
      · exact nomatch h
      simp only [clean_Combine.l1] at h
      refine wp_seq_k (fun K292 hK293 => ?_)
      refine wp_region_lit ?_
      refine seqS1 (a' := ⟨#[.slice A2 l1.length c3, iV vf5, uV, uV, .pointer (some ⟨b8, 0, none⟩), iV 0, iV vt16, .pointer (some ⟨b42, 0, none⟩), iV x240, .slice A286 cell285.length c287, uV, (j284 0), .slice A2 l1.length c3, iV vf5, iV vt16, iV vt16, .bool false, uV, uV, .slice A2 l1.length c3, .pointer (some ⟨b38, of39 + (0 : Int).toNat * 3, none⟩), .pointer (some ⟨b38, of39 + (0 : Int).toNat * 3, none⟩), iV ((rd l1 0).W), .slice A2 l1.length c3, .pointer (some ⟨b38, of39 + (0 : Int).toNat * 3, none⟩), .pointer (some ⟨b38, of39 + (0 : Int).toNat * 3 + 1, none⟩), iV ((rd l1 0).H), .agg #[iV ((rd l1 0).W), iV ((rd l1 0).H), .slice none 0 0], .slice A2 l1.length c3, .pointer (some ⟨b38, of39 + (0 : Int).toNat * 3, none⟩), .pointer (some ⟨b38, of39 + (0 : Int).toNat * 3 + 2, none⟩), .slice A41 ((rd l1 0).At).length c41, iV (((rd l1 0).At).length : Int), iV x240, .bool true, iV x240, .slice A2 l1.length c3, iV (l1.length : Int), iV x291, .bool (decide (x291 < (l1.length : Int))), (j284 2), (j284 3), (j284 4), (j284 5), (j284 6), (j284 7), (j284 8), (j284 9), (j284 10), (j284 11), (j284 12), (j239 20), (j239 21), (j239 22), (j239 23), (j239 24), (j239 25), (j239 26), (j239 27), (j239 28), uV], []⟩) (by kernel_rfl) ?_
      refine wpList_nil ?_
      refine hK293 _ _ ?_
      refine wp_seq_k (fun K294 hK295 => ?_)
      have hq_ := ite_some h; clear h; rcases hq_ with ⟨c297, h⟩ | ⟨c297, h⟩
      · have c297 : x291 < (l1.length : Int) := c297
        refine wpRwI 39 (x := (decide (x291 < (l1.length : Int)))) (v := true) (by kernel_rfl) (decide_eq_true c297) ?_
        refine condT (by kernel_rfl) ?_
        refine wp_skip ?_
        refine hK295 _ _ ?_
        refine wp_seq_k (fun K298 hK299 => ?_)
        refine blockK (fun B300 hx301 hn302 hr303 ho304 hp305 => ?_)
        refine wp_seq_k (fun K307 hK308 => ?_)
        refine wp_region_lit ?_
        have hq_ := guard_some h; clear h; obtain ⟨c309, h⟩ := hq_
        have c309 : 0 ≤ x291 := c309
        obtain ⟨b313, of314, cs310, hA315, hr311, hc312⟩ := (HR4.mono (L19.trans (L236.trans L281))).at (i := x291) c309 c297
        obtain ⟨A316, c316, rfl, HR316⟩ := hr311
        refine seqK rfl (does_run (run_indexE hA315 (sz := 3) rfl Try.underlying27 (by kernel_rfl) (by kernel_rfl : _ = Value.slice A2 l1.length c3) (by kernel_rfl : _ = Value.int .i64 x291) c309 c297 W282) ?_)
        refine seqK rfl (does_run (run_loadN (n := 3) rfl Try.underlying34 rfl (by kernel_rfl) (by kernel_rfl : _ = Value.pointer (some ⟨b313, of314 + (x291 : Int).toNat * 3, none⟩)) (cs := [.int .i64 ((rd l1 x291).W), .int .i64 ((rd l1 x291).H), .slice A316 ((rd l1 x291).At).length c316]) rfl (fun j_ hj_ => ((hc312 (FM.le.refl _) HS283) j_ hj_))) ?_)
        refine seqK rfl (does_alloc (z := Value.agg #[.int .i64 0, .int .i64 0, .slice none 0 0]) (cs := #[.int .i64 0, .int .i64 0, .slice none 0 0]) rfl (by kernel_rfl) rfl HS283 ?_)
        intro b317 W318 HS319
        refine seqK rfl (does_store (n := 3) (vs := [.int .i64 ((rd l1 x291).W), .int .i64 ((rd l1 x291).H), .slice A316 ((rd l1 x291).At).length c316]) (cs' := #[.int .i64 ((rd l1 x291).W), .int .i64 ((rd l1 x291).H), .slice A316 ((rd l1 x291).At).length c316]) rfl (by kernel_rfl) (by kernel_rfl : _ = Value.pointer (some ⟨b317, 0, none⟩)) (by kernel_rfl : _ = Value.agg #[.int .i64 ((rd l1 x291).W), .int .i64 ((rd l1 x291).H), .slice A316 ((rd l1 x291).At).length c316]) rfl rfl (by intro u_ hu_; simp only [List.mem_cons, List.not_mem_nil, or_false] at hu_; rcases hu_ with rfl | rfl | rfl <;> rfl) HS319 (Nat.le_of_ble_eq_true rfl) (by kernel_rfl) ?_)
        intro W321 HS322
        refine wpList_nil ?_
        refine hK308 _ _ ?_
        refine wp_region_lit ?_
        refine seqL2 (by kernel_rfl) ?_
        refine seqK rfl (does_run (run_load rfl Try.underlying32 rfl (by kernel_rfl : _ = Value.pointer (some ⟨b317, 2, none⟩)) (HS322.cell 2)) ?_)
        have hq_ := guard_some h; clear h; obtain ⟨c323, h⟩ := hq_
        have c323 : 0 ≤ x240 := c323
        have hq_ := guard_some h; clear h; obtain ⟨c324, h⟩ := hq_
        have c324 : x240 < (((rd l1 x291).At).length : Int) := c324
        obtain ⟨b328, of329, cs325, hA330, hr326, hc327⟩ := HR316.at (i := x240) c323 c324
        obtain rfl := hr326
        refine seqL1 (by kernel_rfl) ?_
        refine seqK rfl (does_run (run_indexE hA330 (sz := 3) rfl Try.underlying32 (by kernel_rfl) (by kernel_rfl : _ = Value.slice A316 ((rd l1 x291).At).length c316) (by kernel_rfl : _ = Value.int .i64 x240) c323 c324 W321) ?_)
        refine seqK rfl (does_run (run_loadN (n := 3) rfl Try.underlying44 rfl (by kernel_rfl) (by kernel_rfl : _ = Value.pointer (some ⟨b328, of329 + (x240 : Int).toNat * 3, none⟩)) (cs := [.int .i64 ((rd ((rd l1 x291).At) x240).Lo), .int .i64 ((rd ((rd l1 x291).At) x240).Hi), .bool ((rd ((rd l1 x291).At) x240).Unknown)]) rfl (fun j_ hj_ => ((hc327 (FM.le.refl _) HS322) j_ hj_))) ?_)
        refine seqK rfl (does_lit (e := ty_Bound) (E := 44) (vs := #[(0, Value.agg #[.int .i64 ((rd ((rd l1 x291).At) x240).Lo), .int .i64 ((rd ((rd l1 x291).At) x240).Hi), .bool ((rd ((rd l1 x291).At) x240).Unknown)])]) (cs := #[.int .i64 ((rd ((rd l1 x291).At) x240).Lo), .int .i64 ((rd ((rd l1 x291).At) x240).Hi), .bool ((rd ((rd l1 x291).At) x240).Unknown)]) (xs := ([(rd ((rd l1 x291).At) x240)] : List S_Bound)) rfl Try.underlying32 (by kernel_rfl) (by kernel_rfl) ⟨[.int .i64 ((rd ((rd l1 x291).At) x240).Lo), .int .i64 ((rd ((rd l1 x291).At) x240).Hi), .bool ((rd ((rd l1 x291).At) x240).Unknown)], _, rfl, rfl, rfl⟩ rfl HS322 ?_ (by decide))
        intro b331 W332 s333 HS334 _ HO335
        have hq_ := guard_some h; clear h; obtain ⟨c337, h⟩ := hq_
        have c337 : (cell285.length + 1) * 24 ≤ 140737488355328 := c337
        have HS338 := HS334.u2
        have HS339 := HS338.u1
        refine seqK rfl (does_append1 (e := ty_Bound) (E := 44) (xs := cell285) (ys := ([(rd ((rd l1 x291).At) x240)] : List S_Bound)) rfl (by kernel_rfl : _ = Value.slice A286 cell285.length c287) (by kernel_rfl : _ = Value.slice (some ⟨b331, 0, none⟩) ([(rd ((rd l1 x291).At) x240)] : List S_Bound).length 1) Try.underlying32 inf44 HO289 HO335 HS339 c337 (lim63 c337 (by decide)) ?_)
        intro A340 c341 s342 W343 HS344 HO345
        refine seqS1 (a' := ⟨#[.slice A2 l1.length c3, iV vf5, uV, uV, .pointer (some ⟨b8, 0, none⟩), iV 0, iV vt16, .pointer (some ⟨b42, 0, none⟩), iV x240, .slice A340 (cell285 ++ ([(rd ((rd l1 x291).At) x240)] : List S_Bound)).length c341, uV, .pointer (some ⟨b317, 0, none⟩), .slice A2 l1.length c3, iV vf5, iV vt16, iV vt16, .bool false, uV, uV, .slice A2 l1.length c3, .pointer (some ⟨b38, of39 + (0 : Int).toNat * 3, none⟩), .pointer (some ⟨b38, of39 + (0 : Int).toNat * 3, none⟩), iV ((rd l1 0).W), .slice A2 l1.length c3, .pointer (some ⟨b38, of39 + (0 : Int).toNat * 3, none⟩), .pointer (some ⟨b38, of39 + (0 : Int).toNat * 3 + 1, none⟩), iV ((rd l1 0).H), .agg #[iV ((rd l1 0).W), iV ((rd l1 0).H), .slice none 0 0], .slice A2 l1.length c3, .pointer (some ⟨b38, of39 + (0 : Int).toNat * 3, none⟩), .pointer (some ⟨b38, of39 + (0 : Int).toNat * 3 + 2, none⟩), .slice A41 ((rd l1 0).At).length c41, iV (((rd l1 0).At).length : Int), iV x240, .bool true, iV x240, .slice A2 l1.length c3, iV (l1.length : Int), iV x291, .bool true, .pointer (some ⟨b313, of314 + (x291 : Int).toNat * 3, none⟩), .agg #[iV ((rd l1 x291).W), iV ((rd l1 x291).H), .slice A316 ((rd l1 x291).At).length c316], .slice A286 cell285.length c287, .pointer (some ⟨b317, 2, none⟩), .slice A316 ((rd l1 x291).At).length c316, iV x240, .pointer (some ⟨b328, of329 + (x240 : Int).toNat * 3, none⟩), .agg #[iV ((rd ((rd l1 x291).At) x240).Lo), iV ((rd ((rd l1 x291).At) x240).Hi), .bool ((rd ((rd l1 x291).At) x240).Unknown)], .slice (some ⟨b331, 0, none⟩) ([(rd ((rd l1 x291).At) x240)] : List S_Bound).length 1, .slice A340 (cell285 ++ ([(rd ((rd l1 x291).At) x240)] : List S_Bound)).length c341, (j284 12), (j239 20), (j239 21), (j239 22), (j239 23), (j239 24), (j239 25), (j239 26), (j239 27), (j239 28), uV], []⟩) (by kernel_rfl) ?_
        refine wpList_nil ?_
        refine hn302 _ _ ?_
        refine hK299 _ _ ?_
        refine wp_region_lit ?_
        refine seqS2 (a' := ⟨#[.slice A2 l1.length c3, iV vf5, uV, uV, .pointer (some ⟨b8, 0, none⟩), iV 0, iV vt16, .pointer (some ⟨b42, 0, none⟩), iV x240, .slice A340 (cell285 ++ ([(rd ((rd l1 x291).At) x240)] : List S_Bound)).length c341, uV, .pointer (some ⟨b317, 0, none⟩), .slice A2 l1.length c3, iV vf5, iV vt16, iV vt16, .bool false, uV, uV, .slice A2 l1.length c3, .pointer (some ⟨b38, of39 + (0 : Int).toNat * 3, none⟩), .pointer (some ⟨b38, of39 + (0 : Int).toNat * 3, none⟩), iV ((rd l1 0).W), .slice A2 l1.length c3, .pointer (some ⟨b38, of39 + (0 : Int).toNat * 3, none⟩), .pointer (some ⟨b38, of39 + (0 : Int).toNat * 3 + 1, none⟩), iV ((rd l1 0).H), .agg #[iV ((rd l1 0).W), iV ((rd l1 0).H), .slice none 0 0], .slice A2 l1.length c3, .pointer (some ⟨b38, of39 + (0 : Int).toNat * 3, none⟩), .pointer (some ⟨b38, of39 + (0 : Int).toNat * 3 + 2, none⟩), .slice A41 ((rd l1 0).At).length c41, iV (((rd l1 0).At).length : Int), iV x240, .bool true, iV x240, .slice A2 l1.length c3, iV (l1.length : Int), iV (w64 (x291 + 1)), .bool true, .pointer (some ⟨b313, of314 + (x291 : Int).toNat * 3, none⟩), .agg #[iV ((rd l1 x291).W), iV ((rd l1 x291).H), .slice A316 ((rd l1 x291).At).length c316], .slice A286 cell285.length c287, .pointer (some ⟨b317, 2, none⟩), .slice A316 ((rd l1 x291).At).length c316, iV x240, .pointer (some ⟨b328, of329 + (x240 : Int).toNat * 3, none⟩), .agg #[iV ((rd ((rd l1 x291).At) x240).Lo), iV ((rd ((rd l1 x291).At) x240).Hi), .bool ((rd ((rd l1 x291).At) x240).Unknown)], .slice (some ⟨b331, 0, none⟩) ([(rd ((rd l1 x291).At) x240)] : List S_Bound).length 1, .slice A340 (cell285 ++ ([(rd ((rd l1 x291).At) x240)] : List S_Bound)).length c341, iV (w64 (x291 + 1)), (j239 20), (j239 21), (j239 22), (j239 23), (j239 24), (j239 25), (j239 26), (j239 27), (j239 28), uV], []⟩) (by kernel_rfl) ?_
        refine wpList_nil ?_
        refine hK278 n279 _ _ (Nat.lt_succ_self _) ?_
        have HS362 := HS344.u4
        have HS363 := HS362.u4
        have HS364 := HS363.u4
        have HS365 := HS364.u3
        have HS366 := HS365.u4
        have HS367 := HS366.drop
        exact ⟨f280, A340, c341, s342, (cell285 ++ ([(rd ((rd l1 x291).At) x240)] : List S_Bound)), (w64 (x291 + 1)), (fun i_ => [Value.pointer (some ⟨b317, 0, none⟩), Value.bool true, Value.pointer (some ⟨b313, of314 + (x291 : Int).toNat * 3, none⟩), Value.agg #[.int .i64 ((rd l1 x291).W), .int .i64 ((rd l1 x291).H), .slice A316 ((rd l1 x291).At).length c316], Value.slice A286 cell285.length c287, Value.pointer (some ⟨b317, 2, none⟩), Value.slice A316 ((rd l1 x291).At).length c316, Value.int .i64 x240, Value.pointer (some ⟨b328, of329 + (x240 : Int).toNat * 3, none⟩), Value.agg #[.int .i64 ((rd ((rd l1 x291).At) x240).Lo), .int .i64 ((rd ((rd l1 x291).At) x240).Hi), .bool ((rd ((rd l1 x291).At) x240).Unknown)], Value.slice (some ⟨b331, 0, none⟩) ([(rd ((rd l1 x291).At) x240)] : List S_Bound).length 1, Value.slice A340 (cell285 ++ ([(rd ((rd l1 x291).At) x240)] : List S_Bound)).length c341, Value.int .i64 (w64 (x291 + 1))].getD i_ undef), L281, HS367, HO345, h, (by kernel_rfl)⟩
      · have c297 : ¬ (x291 < (l1.length : Int)) := c297
        refine wpRwI 39 (x := (decide (x291 < (l1.length : Int)))) (v := false) (by kernel_rfl) (decide_eq_false c297) ?_
        refine condF (by kernel_rfl) ?_
        refine wp_exit ?_
        refine hx271 _ _ ?_
        exact J358 f280 A286 c287 s288 cell285 (fun i_ => [(j284 0), Value.int .i64 x291, Value.bool false, (j284 2), (j284 3), (j284 4), (j284 5), (j284 6), (j284 7), (j284 8), (j284 9), (j284 10), (j284 11), (j284 12)].getD i_ undef) W282 _ L281 h HS283 HO289 (by kernel_rfl)
    · have c252 : ¬ (x240 < (((rd l1 0).At).length : Int)) := c252
      refine wpRwI 34 (x := (decide (x240 < (((rd l1 0).At).length : Int)))) (v := false) (by kernel_rfl) (decide_eq_false c252) ?_
      refine condF (by kernel_rfl) ?_
      refine wp_exit ?_
      refine hx53 _ _ ?_
      exact J423 f235 A242 c243 s244 x241 (fun i_ => [(j239 0), (j239 1), (j239 2), Value.int .i64 x240, Value.bool false, (j239 4), (j239 5), (j239 6), (j239 7), (j239 8), (j239 9), (j239 10), (j239 11), (j239 12), (j239 13), (j239 14), (j239 15), (j239 16), (j239 17), (j239 18), (j239 19), (j239 20), (j239 21), (j239 22), (j239 23), (j239 24), (j239 25), (j239 26), (j239 27), (j239 28)].getD i_ undef) W237 _ L236 h HS238 HO245 (by kernel_rfl)

set_option maxRecDepth 100000 in
set_option maxHeartbeats 4000000 in
theorem bound_Meet_Quanta.calls (k : Nat)  (a1 : S_Bound) (b2 : S_Bound) {t w : World} {f : FM} {H : List Seg} (HS : St t w f (H)) (r1 : S_Bound) (r2 : Bool) (h : bound_Meet_Quanta k a1 b2 = some (r1, r2)) :
    Calls Try.prog 43 #[.agg #[.int .i64 a1.Lo, .int .i64 a1.Hi, .bool a1.Unknown], .agg #[.int .i64 b2.Lo, .int .i64 b2.Hi, .bool b2.Unknown]] w (fun e w' => ∃ (g : FM), e = .returned (Value.tuple #[.agg #[.int .i64 r1.Lo, .int .i64 r1.Hi, .bool r1.Unknown], .bool r2]) ∧ FM.le f g ∧ St t w' g (H)) := by
  unfold bound_Meet_Quanta at h
  refine enter Try.func43 rfl (tm := #[.agg #[iV a1.Lo, iV a1.Hi, .bool a1.Unknown], .agg #[iV b2.Lo, iV b2.Hi, .bool b2.Unknown], uV, uV, uV, uV, uV, uV, uV, uV, uV, uV, uV, uV, uV, uV, uV, uV, uV, uV, uV, uV, uV, uV, uV, uV, uV, uV, uV, uV, uV, uV, uV, uV, uV, uV, uV, uV, uV, uV, uV, uV]) (by kernel_rfl) ?_
  intro B hret hnor hnp
  refine wp_seq_k (fun K3 hK4 => ?_)
  refine wp_region_lit ?_
  refine seqK rfl (does_box (cs := #[.int .i64 a1.Lo, .int .i64 a1.Hi, .bool a1.Unknown]) rfl (by kernel_rfl : _ = Value.agg #[.int .i64 a1.Lo, .int .i64 a1.Hi, .bool a1.Unknown]) rfl HS ?_)
  intro b5 W6 HS7
  refine seqK rfl (does_box (cs := #[.int .i64 b2.Lo, .int .i64 b2.Hi, .bool b2.Unknown]) rfl (by kernel_rfl : _ = Value.agg #[.int .i64 b2.Lo, .int .i64 b2.Hi, .bool b2.Unknown]) rfl HS7 ?_)
  intro b9 W10 HS11
  refine seqK rfl (does_alloc (z := Value.agg #[.int .i64 0, .int .i64 0, .bool false]) (cs := #[.int .i64 0, .int .i64 0, .bool false]) rfl (by kernel_rfl) rfl HS11 ?_)
  intro b13 W14 HS15
  refine seqS1 (a' := ⟨#[.agg #[iV a1.Lo, iV a1.Hi, .bool a1.Unknown], .agg #[iV b2.Lo, iV b2.Hi, .bool b2.Unknown], .pointer (some ⟨b5, 0, none⟩), .pointer (some ⟨b9, 0, none⟩), .pointer (some ⟨b13, 0, none⟩), .bool false, uV, uV, uV, uV, uV, uV, uV, uV, uV, uV, uV, uV, uV, uV, uV, uV, uV, uV, uV, uV, uV, uV, uV, uV, uV, uV, uV, uV, uV, uV, uV, uV, uV, uV, uV, uV], []⟩) (by kernel_rfl) ?_
  refine wpList_nil ?_
  refine hK4 _ _ ?_
  refine wp_seq_k (fun K17 hK18 => ?_)
  have HS19 := HS15.u2
  have HS20 := HS19.u2
  refine heldG (S := Sg t f ([(b13, .cells #[.int .i64 0, .int .i64 0, .bool false] 44 (0, 0))] :: H) [(5, [(b9, .cells #[.int .i64 b2.Lo, .int .i64 b2.Hi, .bool b2.Unknown] 44 (0, 0))]), (4, [(b5, .cells #[.int .i64 a1.Lo, .int .i64 a1.Hi, .bool a1.Unknown] 44 (0, 0))])]) (n := 6) (by kernel_rfl) rfl HS20 ?_
  intro W21 HS22
  refine takeGQ 0 [4] rfl (by kernel_rfl) (by kernel_rfl) (by kernel_rfl) (by kernel_rfl) (by kernel_rfl) (by kernel_rfl) hnp (Sg.g2 (Sx.of [[(b9, .cells #[.int .i64 b2.Lo, .int .i64 b2.Hi, .bool b2.Unknown] 44 (0, 0))], [(b5, .cells #[.int .i64 a1.Lo, .int .i64 a1.Hi, .bool a1.Unknown] 44 (0, 0))]] (FM.le.refl _) HS22) (fun _ => St.only [] HS22 (FM.le.refl _)) (fun _ => St.only [[(b9, .cells #[.int .i64 b2.Lo, .int .i64 b2.Hi, .bool b2.Unknown] 44 (0, 0))]] HS22 (FM.le.refl _))) (fun w_ hw_ => by obtain ⟨g_, hl_, hS_⟩ := hw_.seg (j := 4) (s := [(b5, .cells #[.int .i64 a1.Lo, .int .i64 a1.Hi, .bool a1.Unknown] 44 (0, 0))]) (by simp) (by simp); exact run_loadN (n := 3) rfl Try.underlying44 rfl (by kernel_rfl) (by kernel_rfl : _ = Value.pointer (some ⟨b5, 0, none⟩)) (cs := [.int .i64 a1.Lo, .int .i64 a1.Hi, .bool a1.Unknown]) rfl (hS_.cells 0 3 _ rfl)) ?_
  refine takeGQ 2 [5] rfl (by kernel_rfl) (by kernel_rfl) (by kernel_rfl) (by kernel_rfl) (by kernel_rfl) (by kernel_rfl) hnp (Sg.g2 (Sx.of [[(b9, .cells #[.int .i64 b2.Lo, .int .i64 b2.Hi, .bool b2.Unknown] 44 (0, 0))], [(b5, .cells #[.int .i64 a1.Lo, .int .i64 a1.Hi, .bool a1.Unknown] 44 (0, 0))]] (FM.le.refl _) HS22) (fun _ => St.only [] HS22 (FM.le.refl _)) (fun _ => St.only [[(b9, .cells #[.int .i64 b2.Lo, .int .i64 b2.Hi, .bool b2.Unknown] 44 (0, 0))]] HS22 (FM.le.refl _))) (fun w_ hw_ => by obtain ⟨g_, hl_, hS_⟩ := hw_.seg (j := 5) (s := [(b9, .cells #[.int .i64 b2.Lo, .int .i64 b2.Hi, .bool b2.Unknown] 44 (0, 0))]) (by simp) (by simp); exact run_loadN (n := 3) rfl Try.underlying44 rfl (by kernel_rfl) (by kernel_rfl : _ = Value.pointer (some ⟨b9, 0, none⟩)) (cs := [.int .i64 b2.Lo, .int .i64 b2.Hi, .bool b2.Unknown]) rfl (hS_.cells 0 3 _ rfl)) ?_
  have hq_ := bind_some h; clear h; obtain ⟨vt23, hc24, h⟩ := hq_
  refine takeGE 1 (by kernel_rfl) rfl (by kernel_rfl) (does_call (f := 45) (args := #[.agg #[.int .i64 a1.Lo, .int .i64 a1.Hi, .bool a1.Unknown]]) (by kernel_rfl) (bound_Norm_Quanta.calls k a1 HS22 vt23 hc24) ?_)
  rintro _ W27 ⟨f25, rfl, L26, HS28⟩
  refine ⟨_, rfl, ?_⟩
  refine ⟨(Sg.g2 (Sx.of [[(b9, .cells #[.int .i64 b2.Lo, .int .i64 b2.Hi, .bool b2.Unknown] 44 (0, 0))], [(b5, .cells #[.int .i64 a1.Lo, .int .i64 a1.Hi, .bool a1.Unknown] 44 (0, 0))]] L26 HS28) (fun _ => St.only [] HS28 L26) (fun _ => St.only [[(b9, .cells #[.int .i64 b2.Lo, .int .i64 b2.Hi, .bool b2.Unknown] 44 (0, 0))]] HS28 L26)), ?_⟩
  have hq_ := bind_some h; clear h; obtain ⟨vt29, hc30, h⟩ := hq_
  refine takeGE 3 (by kernel_rfl) rfl (by kernel_rfl) (does_call (f := 45) (args := #[.agg #[.int .i64 b2.Lo, .int .i64 b2.Hi, .bool b2.Unknown]]) (by kernel_rfl) (bound_Norm_Quanta.calls k b2 HS28 vt29 hc30) ?_)
  rintro _ W33 ⟨f31, rfl, L32, HS34⟩
  refine ⟨_, rfl, ?_⟩
  refine ⟨(Sg.g2 (Sx.of [[(b9, .cells #[.int .i64 b2.Lo, .int .i64 b2.Hi, .bool b2.Unknown] 44 (0, 0))], [(b5, .cells #[.int .i64 a1.Lo, .int .i64 a1.Hi, .bool a1.Unknown] 44 (0, 0))]] (L26.trans L32) HS34) (fun _ => St.only [] HS34 (L26.trans L32)) (fun _ => St.only [[(b9, .cells #[.int .i64 b2.Lo, .int .i64 b2.Hi, .bool b2.Unknown] 44 (0, 0))]] HS34 (L26.trans L32))), ?_⟩
  have HS35 := HS34.u1
  refine takeGE 4 (by kernel_rfl) rfl (by kernel_rfl) (does_store (n := 3) (vs := [.int .i64 vt23.Lo, .int .i64 vt23.Hi, .bool vt23.Unknown]) (cs' := #[.int .i64 vt23.Lo, .int .i64 vt23.Hi, .bool vt23.Unknown]) rfl (by kernel_rfl) (by kernel_rfl : _ = Value.pointer (some ⟨b5, 0, none⟩)) (by kernel_rfl : _ = Value.agg #[.int .i64 vt23.Lo, .int .i64 vt23.Hi, .bool vt23.Unknown]) rfl rfl (by intro u_ hu_; simp only [List.mem_cons, List.not_mem_nil, or_false] at hu_; rcases hu_ with rfl | rfl | rfl <;> rfl) HS35 (Nat.le_of_ble_eq_true rfl) (by kernel_rfl) ?_)
  intro W36 HS37
  refine ⟨(Sg.g2 (Sx.of [[(b5, .cells #[.int .i64 vt23.Lo, .int .i64 vt23.Hi, .bool vt23.Unknown] 44 (0, 0))], [(b9, .cells #[.int .i64 b2.Lo, .int .i64 b2.Hi, .bool b2.Unknown] 44 (0, 0))]] (L26.trans L32) HS37) (fun _ => St.only [[(b5, .cells #[.int .i64 vt23.Lo, .int .i64 vt23.Hi, .bool vt23.Unknown] 44 (0, 0))]] HS37 (L26.trans L32)) (fun hl_ => Bool.noConfusion (show true = false from hl_))), ?_⟩
  have HS38 := HS37.u1
  refine takeGE 5 (by kernel_rfl) rfl (by kernel_rfl) (does_store (n := 3) (vs := [.int .i64 vt29.Lo, .int .i64 vt29.Hi, .bool vt29.Unknown]) (cs' := #[.int .i64 vt29.Lo, .int .i64 vt29.Hi, .bool vt29.Unknown]) rfl (by kernel_rfl) (by kernel_rfl : _ = Value.pointer (some ⟨b9, 0, none⟩)) (by kernel_rfl : _ = Value.agg #[.int .i64 vt29.Lo, .int .i64 vt29.Hi, .bool vt29.Unknown]) rfl rfl (by intro u_ hu_; simp only [List.mem_cons, List.not_mem_nil, or_false] at hu_; rcases hu_ with rfl | rfl | rfl <;> rfl) HS38 (Nat.le_of_ble_eq_true rfl) (by kernel_rfl) ?_)
  intro W39 HS40
  refine ⟨(Sg.g2 (Sx.of [[(b9, .cells #[.int .i64 vt29.Lo, .int .i64 vt29.Hi, .bool vt29.Unknown] 44 (0, 0))], [(b5, .cells #[.int .i64 vt23.Lo, .int .i64 vt23.Hi, .bool vt23.Unknown] 44 (0, 0))]] (L26.trans L32) HS40) (fun hl_ => Bool.noConfusion (show true = false from hl_)) (fun hl_ => Bool.noConfusion (show true = false from hl_))), ?_⟩
  refine doneG (by kernel_rfl) ?_ _
  refine hK18 _ _ ?_
  refine wp_seq_k (fun K41 hK42 => ?_)
  refine blockK (fun B43 hx44 hn45 hr46 ho47 hp48 => ?_)
  refine wp_seq_k (fun K50 hK51 => ?_)
  refine wp_region_lit ?_
  refine seqL1 (by kernel_rfl) ?_
  refine seqK rfl (does_run (run_load rfl Try.underlying4 rfl (by kernel_rfl : _ = Value.pointer (some ⟨b5, 2, none⟩)) (HS40.u1.cell 2)) ?_)
  refine seqS1 (a' := ⟨#[.agg #[iV a1.Lo, iV a1.Hi, .bool a1.Unknown], .agg #[iV b2.Lo, iV b2.Hi, .bool b2.Unknown], .pointer (some ⟨b5, 0, none⟩), .pointer (some ⟨b9, 0, none⟩), .pointer (some ⟨b13, 0, none⟩), .bool false, .agg #[iV a1.Lo, iV a1.Hi, .bool a1.Unknown], .agg #[iV vt23.Lo, iV vt23.Hi, .bool vt23.Unknown], .agg #[iV b2.Lo, iV b2.Hi, .bool b2.Unknown], .agg #[iV vt29.Lo, iV vt29.Hi, .bool vt29.Unknown], .bool vt23.Unknown, .pointer (some ⟨b5, 2, none⟩), .bool vt23.Unknown, uV, uV, uV, uV, uV, uV, uV, uV, uV, uV, uV, uV, uV, uV, uV, uV, uV, uV, uV, uV, uV, uV, uV, uV, uV, uV, uV, uV, uV], []⟩) (by kernel_rfl) ?_
  refine wpList_nil ?_
  refine hK51 _ _ ?_
  have hq_ := ite_some h; clear h; rcases hq_ with ⟨c53, h⟩ | ⟨c53, h⟩
  · have c53 : vt23.Unknown = true := c53
    refine wpRwI 10 (x := vt23.Unknown) (v := true) (by kernel_rfl) c53 ?_
    refine wpRwI 12 (x := vt23.Unknown) (v := true) (by kernel_rfl) c53 ?_
    refine condT (by kernel_rfl) ?_
    refine wp_seq_k (fun K54 hK55 => ?_)
    refine wp_region_lit ?_
    refine seqK rfl (does_run (run_loadN (n := 3) rfl Try.underlying44 rfl (by kernel_rfl) (by kernel_rfl : _ = Value.pointer (some ⟨b9, 0, none⟩)) (cs := [.int .i64 vt29.Lo, .int .i64 vt29.Hi, .bool vt29.Unknown]) rfl (HS40.cells 0 3 _ rfl)) ?_)
    have HS56 := HS40.u2
    refine seqK rfl (does_store (n := 3) (vs := [.int .i64 vt29.Lo, .int .i64 vt29.Hi, .bool vt29.Unknown]) (cs' := #[.int .i64 vt29.Lo, .int .i64 vt29.Hi, .bool vt29.Unknown]) rfl (by kernel_rfl) (by kernel_rfl : _ = Value.pointer (some ⟨b13, 0, none⟩)) (by kernel_rfl : _ = Value.agg #[.int .i64 vt29.Lo, .int .i64 vt29.Hi, .bool vt29.Unknown]) rfl rfl (by intro u_ hu_; simp only [List.mem_cons, List.not_mem_nil, or_false] at hu_; rcases hu_ with rfl | rfl | rfl <;> rfl) HS56 (Nat.le_of_ble_eq_true rfl) (by kernel_rfl) ?_)
    intro W57 HS58
    refine seqS1 (a' := ⟨#[.agg #[iV a1.Lo, iV a1.Hi, .bool a1.Unknown], .agg #[iV b2.Lo, iV b2.Hi, .bool b2.Unknown], .pointer (some ⟨b5, 0, none⟩), .pointer (some ⟨b9, 0, none⟩), .pointer (some ⟨b13, 0, none⟩), .bool true, .agg #[iV a1.Lo, iV a1.Hi, .bool a1.Unknown], .agg #[iV vt23.Lo, iV vt23.Hi, .bool vt23.Unknown], .agg #[iV b2.Lo, iV b2.Hi, .bool b2.Unknown], .agg #[iV vt29.Lo, iV vt29.Hi, .bool vt29.Unknown], .bool true, .pointer (some ⟨b5, 2, none⟩), .bool true, .agg #[iV vt29.Lo, iV vt29.Hi, .bool vt29.Unknown], uV, uV, uV, uV, uV, uV, uV, uV, uV, uV, uV, uV, uV, uV, uV, uV, uV, uV, uV, uV, uV, uV, uV, uV, uV, uV, uV, uV], []⟩) (by kernel_rfl) ?_
    refine wpList_nil ?_
    refine hK55 _ _ ?_
    refine wp_ret ?_
    refine hr46 _ _ ?_
    refine hret _ _ ?_
    refine ends (v := Value.tuple #[.agg #[.int .i64 vt29.Lo, .int .i64 vt29.Hi, .bool vt29.Unknown], .bool true]) (results2 (q1 := .cell 4 44) (q2 := .tmp 5) (by kernel_rfl) (resN (n := 3) (cs := [.int .i64 vt29.Lo, .int .i64 vt29.Hi, .bool vt29.Unknown]) (by kernel_rfl : _ = Value.pointer (some ⟨b13, 0, none⟩)) Try.underlying44 rfl (by kernel_rfl) rfl (HS58.cells 0 3 _ rfl)) (resT (by kernel_rfl : _ = Value.bool true))) (by kernel_rfl) ?_
    have HS88 := HS58.drop
    have HS89 := HS88.drop
    have HS90 := HS89.drop
    injection h with h
    injection h with h0_ h
    subst h0_ h
    exact ⟨f31, rfl, (L26.trans L32), HS90⟩
  · have c53 : ¬ (vt23.Unknown = true) := c53
    refine wpRwI 10 (x := vt23.Unknown) (v := false) (by kernel_rfl) (Bool.eq_false_iff.mpr c53) ?_
    refine wpRwI 12 (x := vt23.Unknown) (v := false) (by kernel_rfl) (Bool.eq_false_iff.mpr c53) ?_
    refine condF (by kernel_rfl) ?_
    refine wp_seq_k (fun K59 hK60 => ?_)
    refine wp_region_lit ?_
    refine seqL1 (by kernel_rfl) ?_
    refine seqK rfl (does_run (run_load rfl Try.underlying4 rfl (by kernel_rfl : _ = Value.pointer (some ⟨b9, 2, none⟩)) (HS40.cell 2)) ?_)
    refine seqS1 (a' := ⟨#[.agg #[iV a1.Lo, iV a1.Hi, .bool a1.Unknown], .agg #[iV b2.Lo, iV b2.Hi, .bool b2.Unknown], .pointer (some ⟨b5, 0, none⟩), .pointer (some ⟨b9, 0, none⟩), .pointer (some ⟨b13, 0, none⟩), .bool false, .agg #[iV a1.Lo, iV a1.Hi, .bool a1.Unknown], .agg #[iV vt23.Lo, iV vt23.Hi, .bool vt23.Unknown], .agg #[iV b2.Lo, iV b2.Hi, .bool b2.Unknown], .agg #[iV vt29.Lo, iV vt29.Hi, .bool vt29.Unknown], .bool false, .pointer (some ⟨b5, 2, none⟩), .bool false, uV, .bool vt29.Unknown, .pointer (some ⟨b9, 2, none⟩), .bool vt29.Unknown, uV, uV, uV, uV, uV, uV, uV, uV, uV, uV, uV, uV, uV, uV, uV, uV, uV, uV, uV, uV, uV, uV, uV, uV, uV], []⟩) (by kernel_rfl) ?_
    refine wpList_nil ?_
    refine hK60 _ _ ?_
    have hq_ := ite_some h; clear h; rcases hq_ with ⟨c62, h⟩ | ⟨c62, h⟩
    · have c62 : vt29.Unknown = true := c62
      refine wpRwI 14 (x := vt29.Unknown) (v := true) (by kernel_rfl) c62 ?_
      refine wpRwI 16 (x := vt29.Unknown) (v := true) (by kernel_rfl) c62 ?_
      refine condT (by kernel_rfl) ?_
      refine wp_seq_k (fun K63 hK64 => ?_)
      refine wp_region_lit ?_
      refine seqK rfl (does_run (run_loadN (n := 3) rfl Try.underlying44 rfl (by kernel_rfl) (by kernel_rfl : _ = Value.pointer (some ⟨b5, 0, none⟩)) (cs := [.int .i64 vt23.Lo, .int .i64 vt23.Hi, .bool vt23.Unknown]) rfl (HS40.u1.cells 0 3 _ rfl)) ?_)
      have HS65 := HS40.u2
      refine seqK rfl (does_store (n := 3) (vs := [.int .i64 vt23.Lo, .int .i64 vt23.Hi, .bool vt23.Unknown]) (cs' := #[.int .i64 vt23.Lo, .int .i64 vt23.Hi, .bool vt23.Unknown]) rfl (by kernel_rfl) (by kernel_rfl : _ = Value.pointer (some ⟨b13, 0, none⟩)) (by kernel_rfl : _ = Value.agg #[.int .i64 vt23.Lo, .int .i64 vt23.Hi, .bool vt23.Unknown]) rfl rfl (by intro u_ hu_; simp only [List.mem_cons, List.not_mem_nil, or_false] at hu_; rcases hu_ with rfl | rfl | rfl <;> rfl) HS65 (Nat.le_of_ble_eq_true rfl) (by kernel_rfl) ?_)
      intro W66 HS67
      refine seqS1 (a' := ⟨#[.agg #[iV a1.Lo, iV a1.Hi, .bool a1.Unknown], .agg #[iV b2.Lo, iV b2.Hi, .bool b2.Unknown], .pointer (some ⟨b5, 0, none⟩), .pointer (some ⟨b9, 0, none⟩), .pointer (some ⟨b13, 0, none⟩), .bool true, .agg #[iV a1.Lo, iV a1.Hi, .bool a1.Unknown], .agg #[iV vt23.Lo, iV vt23.Hi, .bool vt23.Unknown], .agg #[iV b2.Lo, iV b2.Hi, .bool b2.Unknown], .agg #[iV vt29.Lo, iV vt29.Hi, .bool vt29.Unknown], .bool false, .pointer (some ⟨b5, 2, none⟩), .bool false, uV, .bool true, .pointer (some ⟨b9, 2, none⟩), .bool true, .agg #[iV vt23.Lo, iV vt23.Hi, .bool vt23.Unknown], uV, uV, uV, uV, uV, uV, uV, uV, uV, uV, uV, uV, uV, uV, uV, uV, uV, uV, uV, uV, uV, uV, uV, uV], []⟩) (by kernel_rfl) ?_
      refine wpList_nil ?_
      refine hK64 _ _ ?_
      refine wp_ret ?_
      refine hr46 _ _ ?_
      refine hret _ _ ?_
      refine ends (v := Value.tuple #[.agg #[.int .i64 vt23.Lo, .int .i64 vt23.Hi, .bool vt23.Unknown], .bool true]) (results2 (q1 := .cell 4 44) (q2 := .tmp 5) (by kernel_rfl) (resN (n := 3) (cs := [.int .i64 vt23.Lo, .int .i64 vt23.Hi, .bool vt23.Unknown]) (by kernel_rfl : _ = Value.pointer (some ⟨b13, 0, none⟩)) Try.underlying44 rfl (by kernel_rfl) rfl (HS67.cells 0 3 _ rfl)) (resT (by kernel_rfl : _ = Value.bool true))) (by kernel_rfl) ?_
      have HS91 := HS67.drop
      have HS92 := HS91.drop
      have HS93 := HS92.drop
      injection h with h
      injection h with h0_ h
      subst h0_ h
      exact ⟨f31, rfl, (L26.trans L32), HS93⟩
    · have c62 : ¬ (vt29.Unknown = true) := c62
      refine wpRwI 14 (x := vt29.Unknown) (v := false) (by kernel_rfl) (Bool.eq_false_iff.mpr c62) ?_
      refine wpRwI 16 (x := vt29.Unknown) (v := false) (by kernel_rfl) (Bool.eq_false_iff.mpr c62) ?_
      refine condF (by kernel_rfl) ?_
      refine wp_seq_k (fun K68 hK69 => ?_)
      refine wp_region_lit ?_
      refine seqL1 (by kernel_rfl) ?_
      refine seqK rfl (does_run (run_load rfl Try.underlying42 rfl (by kernel_rfl : _ = Value.pointer (some ⟨b5, 0, none⟩)) (HS40.u1.cell 0)) ?_)
      refine seqL1 (by kernel_rfl) ?_
      refine seqK rfl (does_run (run_load rfl Try.underlying42 rfl (by kernel_rfl : _ = Value.pointer (some ⟨b9, 0, none⟩)) (HS40.cell 0)) ?_)
      refine seqL2 (by kernel_rfl) ?_
      refine seqK rfl (does_run (run_load rfl Try.underlying42 rfl (by kernel_rfl : _ = Value.pointer (some ⟨b5, 1, none⟩)) (HS40.u1.cell 1)) ?_)
      refine seqL1 (by kernel_rfl) ?_
      refine seqK rfl (does_run (run_load rfl Try.underlying42 rfl (by kernel_rfl : _ = Value.pointer (some ⟨b9, 1, none⟩)) (HS40.cell 1)) ?_)
      refine seqS3 (a' := ⟨#[.agg #[iV a1.Lo, iV a1.Hi, .bool a1.Unknown], .agg #[iV b2.Lo, iV b2.Hi, .bool b2.Unknown], .pointer (some ⟨b5, 0, none⟩), .pointer (some ⟨b9, 0, none⟩), .pointer (some ⟨b13, 0, none⟩), .bool false, .agg #[iV a1.Lo, iV a1.Hi, .bool a1.Unknown], .agg #[iV vt23.Lo, iV vt23.Hi, .bool vt23.Unknown], .agg #[iV b2.Lo, iV b2.Hi, .bool b2.Unknown], .agg #[iV vt29.Lo, iV vt29.Hi, .bool vt29.Unknown], .bool false, .pointer (some ⟨b5, 2, none⟩), .bool false, uV, .bool false, .pointer (some ⟨b9, 2, none⟩), .bool false, uV, .bool (decide ((mx vt23.Lo vt29.Lo) > (mn vt23.Hi vt29.Hi))), .pointer (some ⟨b5, 0, none⟩), iV vt23.Lo, .pointer (some ⟨b9, 0, none⟩), iV vt29.Lo, iV (mx vt23.Lo vt29.Lo), .pointer (some ⟨b5, 1, none⟩), iV vt23.Hi, .pointer (some ⟨b9, 1, none⟩), iV vt29.Hi, iV (mn vt23.Hi vt29.Hi), .bool (decide ((mx vt23.Lo vt29.Lo) > (mn vt23.Hi vt29.Hi))), uV, uV, uV, uV, uV, uV, uV, uV, uV, uV, uV, uV], []⟩) (by kernel_rfl) ?_
      refine wpList_nil ?_
      refine hK69 _ _ ?_
      have hq_ := ite_some h; clear h; rcases hq_ with ⟨c71, h⟩ | ⟨c71, h⟩
      · have c71 : (mx vt23.Lo vt29.Lo) > (mn vt23.Hi vt29.Hi) := c71
        refine wpRwI 18 (x := (decide ((mx vt23.Lo vt29.Lo) > (mn vt23.Hi vt29.Hi)))) (v := true) (by kernel_rfl) (decide_eq_true c71) ?_
        refine wpRwI 29 (x := (decide ((mx vt23.Lo vt29.Lo) > (mn vt23.Hi vt29.Hi)))) (v := true) (by kernel_rfl) (decide_eq_true c71) ?_
        refine condT (by kernel_rfl) ?_
        refine wp_seq_k (fun K72 hK73 => ?_)
        refine wp_region_lit ?_
        have HS74 := HS40.u2
        refine seqL1 (by kernel_rfl) ?_
        refine seqK rfl (does_store (n := 3) (vs := [.int .i64 0, .int .i64 0, .bool false]) (cs' := #[.int .i64 0, .int .i64 0, .bool false]) rfl (by kernel_rfl) (by kernel_rfl : _ = Value.pointer (some ⟨b13, 0, none⟩)) (by kernel_rfl : _ = Value.agg #[.int .i64 0, .int .i64 0, .bool false]) rfl rfl (by intro u_ hu_; simp only [List.mem_cons, List.not_mem_nil, or_false] at hu_; rcases hu_ with rfl | rfl | rfl <;> rfl) HS74 (Nat.le_of_ble_eq_true rfl) (by kernel_rfl) ?_)
        intro W75 HS76
        refine seqS1 (a' := ⟨#[.agg #[iV a1.Lo, iV a1.Hi, .bool a1.Unknown], .agg #[iV b2.Lo, iV b2.Hi, .bool b2.Unknown], .pointer (some ⟨b5, 0, none⟩), .pointer (some ⟨b9, 0, none⟩), .pointer (some ⟨b13, 0, none⟩), .bool false, .agg #[iV a1.Lo, iV a1.Hi, .bool a1.Unknown], .agg #[iV vt23.Lo, iV vt23.Hi, .bool vt23.Unknown], .agg #[iV b2.Lo, iV b2.Hi, .bool b2.Unknown], .agg #[iV vt29.Lo, iV vt29.Hi, .bool vt29.Unknown], .bool false, .pointer (some ⟨b5, 2, none⟩), .bool false, uV, .bool false, .pointer (some ⟨b9, 2, none⟩), .bool false, uV, .bool true, .pointer (some ⟨b5, 0, none⟩), iV vt23.Lo, .pointer (some ⟨b9, 0, none⟩), iV vt29.Lo, iV (mx vt23.Lo vt29.Lo), .pointer (some ⟨b5, 1, none⟩), iV vt23.Hi, .pointer (some ⟨b9, 1, none⟩), iV vt29.Hi, iV (mn vt23.Hi vt29.Hi), .bool true, .agg #[iV 0, iV 0, .bool false], uV, uV, uV, uV, uV, uV, uV, uV, uV, uV, uV], []⟩) (by kernel_rfl) ?_
        refine wpList_nil ?_
        refine hK73 _ _ ?_
        refine wp_ret ?_
        refine hr46 _ _ ?_
        refine hret _ _ ?_
        refine ends (v := Value.tuple #[.agg #[.int .i64 0, .int .i64 0, .bool false], .bool false]) (results2 (q1 := .cell 4 44) (q2 := .tmp 5) (by kernel_rfl) (resN (n := 3) (cs := [.int .i64 0, .int .i64 0, .bool false]) (by kernel_rfl : _ = Value.pointer (some ⟨b13, 0, none⟩)) Try.underlying44 rfl (by kernel_rfl) rfl (HS76.cells 0 3 _ rfl)) (resT (by kernel_rfl : _ = Value.bool false))) (by kernel_rfl) ?_
        have HS94 := HS76.drop
        have HS95 := HS94.drop
        have HS96 := HS95.drop
        injection h with h
        injection h with h0_ h
        subst h0_ h
        exact ⟨f31, rfl, (L26.trans L32), HS96⟩
      · have c71 : ¬ ((mx vt23.Lo vt29.Lo) > (mn vt23.Hi vt29.Hi)) := c71
        refine wpRwI 18 (x := (decide ((mx vt23.Lo vt29.Lo) > (mn vt23.Hi vt29.Hi)))) (v := false) (by kernel_rfl) (decide_eq_false c71) ?_
        refine wpRwI 29 (x := (decide ((mx vt23.Lo vt29.Lo) > (mn vt23.Hi vt29.Hi)))) (v := false) (by kernel_rfl) (decide_eq_false c71) ?_
        refine condF (by kernel_rfl) ?_
        refine wp_skip ?_
        refine hn45 _ _ ?_
        refine hK42 _ _ ?_
        refine wp_seq_k (fun K77 hK78 => ?_)
        refine wp_region_lit ?_
        refine seqL1 (by kernel_rfl) ?_
        refine seqK rfl (does_run (run_load rfl Try.underlying42 rfl (by kernel_rfl : _ = Value.pointer (some ⟨b5, 0, none⟩)) (HS40.u1.cell 0)) ?_)
        refine seqL1 (by kernel_rfl) ?_
        refine seqK rfl (does_run (run_load rfl Try.underlying42 rfl (by kernel_rfl : _ = Value.pointer (some ⟨b9, 0, none⟩)) (HS40.cell 0)) ?_)
        refine seqL2 (by kernel_rfl) ?_
        refine seqK rfl (does_run (run_load rfl Try.underlying42 rfl (by kernel_rfl : _ = Value.pointer (some ⟨b5, 1, none⟩)) (HS40.u1.cell 1)) ?_)
        refine seqL1 (by kernel_rfl) ?_
        refine seqK rfl (does_run (run_load rfl Try.underlying42 rfl (by kernel_rfl : _ = Value.pointer (some ⟨b9, 1, none⟩)) (HS40.cell 1)) ?_)
        have hq_ := bind_some h; clear h; obtain ⟨vt79, hc80, h⟩ := hq_
        refine seqL1 (by kernel_rfl) ?_
        refine seqK rfl (does_call (f := 22) (args := #[.int .i64 (mx vt23.Lo vt29.Lo), .int .i64 (mn vt23.Hi vt29.Hi)]) (by kernel_rfl) (bound_Of_Quanta.calls k (mx vt23.Lo vt29.Lo) (mn vt23.Hi vt29.Hi) HS40 vt79 hc80) ?_)
        rintro _ W83 ⟨f81, rfl, L82, HS84⟩
        refine ⟨_, rfl, ?_⟩
        have HS85 := HS84.u2
        refine seqK rfl (does_store (n := 3) (vs := [.int .i64 vt79.Lo, .int .i64 vt79.Hi, .bool vt79.Unknown]) (cs' := #[.int .i64 vt79.Lo, .int .i64 vt79.Hi, .bool vt79.Unknown]) rfl (by kernel_rfl) (by kernel_rfl : _ = Value.pointer (some ⟨b13, 0, none⟩)) (by kernel_rfl : _ = Value.agg #[.int .i64 vt79.Lo, .int .i64 vt79.Hi, .bool vt79.Unknown]) rfl rfl (by intro u_ hu_; simp only [List.mem_cons, List.not_mem_nil, or_false] at hu_; rcases hu_ with rfl | rfl | rfl <;> rfl) HS85 (Nat.le_of_ble_eq_true rfl) (by kernel_rfl) ?_)
        intro W86 HS87
        refine seqS1 (a' := ⟨#[.agg #[iV a1.Lo, iV a1.Hi, .bool a1.Unknown], .agg #[iV b2.Lo, iV b2.Hi, .bool b2.Unknown], .pointer (some ⟨b5, 0, none⟩), .pointer (some ⟨b9, 0, none⟩), .pointer (some ⟨b13, 0, none⟩), .bool true, .agg #[iV a1.Lo, iV a1.Hi, .bool a1.Unknown], .agg #[iV vt23.Lo, iV vt23.Hi, .bool vt23.Unknown], .agg #[iV b2.Lo, iV b2.Hi, .bool b2.Unknown], .agg #[iV vt29.Lo, iV vt29.Hi, .bool vt29.Unknown], .bool false, .pointer (some ⟨b5, 2, none⟩), .bool false, uV, .bool false, .pointer (some ⟨b9, 2, none⟩), .bool false, uV, .bool false, .pointer (some ⟨b5, 0, none⟩), iV vt23.Lo, .pointer (some ⟨b9, 0, none⟩), iV vt29.Lo, iV (mx vt23.Lo vt29.Lo), .pointer (some ⟨b5, 1, none⟩), iV vt23.Hi, .pointer (some ⟨b9, 1, none⟩), iV vt29.Hi, iV (mn vt23.Hi vt29.Hi), .bool false, uV, .pointer (some ⟨b5, 0, none⟩), iV vt23.Lo, .pointer (some ⟨b9, 0, none⟩), iV vt29.Lo, iV (mx vt23.Lo vt29.Lo), .pointer (some ⟨b5, 1, none⟩), iV vt23.Hi, .pointer (some ⟨b9, 1, none⟩), iV vt29.Hi, iV (mn vt23.Hi vt29.Hi), .agg #[iV vt79.Lo, iV vt79.Hi, .bool vt79.Unknown]], []⟩) (by kernel_rfl) ?_
        refine wpList_nil ?_
        refine hK78 _ _ ?_
        refine wp_ret ?_
        refine hret _ _ ?_
        refine ends (v := Value.tuple #[.agg #[.int .i64 vt79.Lo, .int .i64 vt79.Hi, .bool vt79.Unknown], .bool true]) (results2 (q1 := .cell 4 44) (q2 := .tmp 5) (by kernel_rfl) (resN (n := 3) (cs := [.int .i64 vt79.Lo, .int .i64 vt79.Hi, .bool vt79.Unknown]) (by kernel_rfl : _ = Value.pointer (some ⟨b13, 0, none⟩)) Try.underlying44 rfl (by kernel_rfl) rfl (HS87.cells 0 3 _ rfl)) (resT (by kernel_rfl : _ = Value.bool true))) (by kernel_rfl) ?_
        have HS97 := HS87.drop
        have HS98 := HS97.drop
        have HS99 := HS98.drop
        injection h with h
        injection h with h0_ h
        subst h0_ h
        exact ⟨f81, rfl, (L26.trans (L32.trans L82)), HS99⟩

set_option maxRecDepth 100000 in
set_option maxHeartbeats 4000000 in
theorem clean_Struck.calls (k : Nat) (A2 : Option Addr) (c3 : Nat) (l1 : List S_Cells) (vf5 : Int) {t w : World} {f : FM} {H : List Seg} (HS : St t w f (H)) (HR4 : SlR ty_Cells f A2 c3 l1) (r1 : List (List Int)) (r2 : Int) (h : clean_Struck k l1 vf5 = some (r1, r2)) :
    Calls Try.prog 19 #[.slice A2 l1.length c3, .int .i64 vf5] w (fun e w' => ∃ (g : FM) (A757 : Option Addr) (c758 : Nat), e = .returned (Value.tuple #[.slice A757 r1.length c758, .int .i64 r2]) ∧ FM.le f g ∧ St t w' g (H) ∧ SlR (tSl (tInt .i64)) g A757 c758 r1) := by
  unfold clean_Struck at h
  refine enter Try.func19 rfl (tm := #[.slice A2 l1.length c3, iV vf5, uV, uV, uV, uV, uV, uV, uV, uV, uV, uV, uV, uV, uV, uV, uV, uV, uV, uV, uV, uV, uV, uV, uV, uV, uV, uV, uV, uV, uV, uV, uV, uV, uV, uV, uV, uV, uV, uV, uV, uV, uV, uV, uV, uV, uV, uV, uV, uV, uV, uV, uV, uV, uV, uV, uV, uV, uV, uV, uV, uV, uV, uV, uV, uV, uV]) (by kernel_rfl) ?_
  intro B hret hnor hnp
  refine wp_seq_k (fun K6 hK7 => ?_)
  refine wp_region_lit ?_
  refine seqS2 (a' := ⟨#[.slice A2 l1.length c3, iV vf5, uV, uV, .slice none 0 0, iV 0, uV, uV, uV, uV, uV, uV, uV, uV, uV, uV, uV, uV, uV, uV, uV, uV, uV, uV, uV, uV, uV, uV, uV, uV, uV, uV, uV, uV, uV, uV, uV, uV, uV, uV, uV, uV, uV, uV, uV, uV, uV, uV, uV, uV, uV, uV, uV, uV, uV, uV, uV, uV, uV, uV, uV, uV, uV, uV, uV, uV, uV], []⟩) (by kernel_rfl) ?_
  refine wpList_nil ?_
  refine hK7 _ _ ?_
  refine wp_seq_k (fun K8 hK9 => ?_)
  refine wp_region_lit ?_
  have hq_ := bind_some h; clear h; obtain ⟨⟨vt10, vt11⟩, hc12, h⟩ := hq_
  refine seqL2 (by kernel_rfl) ?_
  refine seqK rfl (does_call (f := 13) (args := #[.slice A2 l1.length c3, .int .i64 vf5]) (by kernel_rfl) (clean_Combine.calls k A2 c3 l1 vf5 HS HR4 vt10 vt11 hc12) ?_)
  rintro _ W15 ⟨f13, A17, c18, s19, rfl, L14, HS16, HO20⟩
  refine ⟨_, rfl, ?_⟩
  refine seqL3 (by kernel_rfl) ?_
  refine seqK rfl (does_alloc (z := Value.agg #[.int .i64 0, .int .i64 0, .slice none 0 0]) (cs := #[.int .i64 0, .int .i64 0, .slice none 0 0]) rfl (by kernel_rfl) rfl HS16 ?_)
  intro b22 W23 HS24
  refine seqK rfl (does_store (n := 3) (vs := [.int .i64 vt10.W, .int .i64 vt10.H, .slice A17 vt10.At.length c18]) (cs' := #[.int .i64 vt10.W, .int .i64 vt10.H, .slice A17 vt10.At.length c18]) rfl (by kernel_rfl) (by kernel_rfl : _ = Value.pointer (some ⟨b22, 0, none⟩)) (by kernel_rfl : _ = Value.agg #[.int .i64 vt10.W, .int .i64 vt10.H, .slice A17 vt10.At.length c18]) rfl rfl (by intro u_ hu_; simp only [List.mem_cons, List.not_mem_nil, or_false] at hu_; rcases hu_ with rfl | rfl | rfl <;> rfl) HS24 (Nat.le_of_ble_eq_true rfl) (by kernel_rfl) ?_)
  intro W26 HS27
  refine seqS1 (a' := ⟨#[.slice A2 l1.length c3, iV vf5, uV, uV, .slice none 0 0, iV 0, .pointer (some ⟨b22, 0, none⟩), iV vt11, uV, uV, uV, uV, uV, uV, uV, .tuple #[.agg #[iV vt10.W, iV vt10.H, .slice A17 vt10.At.length c18], iV vt11], .slice A2 l1.length c3, iV vf5, .tuple #[.agg #[iV vt10.W, iV vt10.H, .slice A17 vt10.At.length c18], iV vt11], .agg #[iV vt10.W, iV vt10.H, .slice A17 vt10.At.length c18], iV vt11, uV, uV, uV, uV, uV, uV, uV, uV, uV, uV, uV, uV, uV, uV, uV, uV, uV, uV, uV, uV, uV, uV, uV, uV, uV, uV, uV, uV, uV, uV, uV, uV, uV, uV, uV, uV, uV, uV, uV, uV, uV, uV, uV, uV, uV, uV], []⟩) (by kernel_rfl) ?_
  refine wpList_nil ?_
  refine hK9 _ _ ?_
  refine wp_seq_k (fun K28 hK29 => ?_)
  refine wp_seq_k (fun K30 hK31 => ?_)
  refine wp_region_lit ?_
  refine seqS2 (a' := ⟨#[.slice A2 l1.length c3, iV vf5, uV, uV, .slice none 0 0, iV 0, .pointer (some ⟨b22, 0, none⟩), iV vt11, uV, uV, uV, uV, uV, uV, uV, .tuple #[.agg #[iV vt10.W, iV vt10.H, .slice A17 vt10.At.length c18], iV vt11], .slice A2 l1.length c3, iV vf5, .tuple #[.agg #[iV vt10.W, iV vt10.H, .slice A17 vt10.At.length c18], iV vt11], .agg #[iV vt10.W, iV vt10.H, .slice A17 vt10.At.length c18], iV vt11, iV vt11, .bool (vt11 != 0), uV, uV, uV, uV, uV, uV, uV, uV, uV, uV, uV, uV, uV, uV, uV, uV, uV, uV, uV, uV, uV, uV, uV, uV, uV, uV, uV, uV, uV, uV, uV, uV, uV, uV, uV, uV, uV, uV, uV, uV, uV, uV, uV, uV], []⟩) (by kernel_rfl) ?_
  refine wpList_nil ?_
  refine hK31 _ _ ?_
  have hq_ := ite_some h; clear h; rcases hq_ with ⟨c33, h⟩ | ⟨c33, h⟩
  · have c33 : vt11 ≠ 0 := c33
    refine wpRwI 22 (x := (vt11 != 0)) (v := true) (by kernel_rfl) (bne_iff_ne.mpr c33) ?_
    refine condT (by kernel_rfl) ?_
    refine wp_seq_k (fun K34 hK35 => ?_)
    refine wp_region_lit ?_
    refine seqS3 (a' := ⟨#[.slice A2 l1.length c3, iV vf5, uV, uV, .slice none 0 0, iV vt11, .pointer (some ⟨b22, 0, none⟩), iV vt11, uV, uV, uV, uV, uV, uV, uV, .tuple #[.agg #[iV vt10.W, iV vt10.H, .slice A17 vt10.At.length c18], iV vt11], .slice A2 l1.length c3, iV vf5, .tuple #[.agg #[iV vt10.W, iV vt10.H, .slice A17 vt10.At.length c18], iV vt11], .agg #[iV vt10.W, iV vt10.H, .slice A17 vt10.At.length c18], iV vt11, iV vt11, .bool true, iV vt11, uV, uV, uV, uV, uV, uV, uV, uV, uV, uV, uV, uV, uV, uV, uV, uV, uV, uV, uV, uV, uV, uV, uV, uV, uV, uV, uV, uV, uV, uV, uV, uV, uV, uV, uV, uV, uV, uV, uV, uV, uV, uV, uV], []⟩) (by kernel_rfl) ?_
    refine wpList_nil ?_
    refine hK35 _ _ ?_
    refine wp_ret ?_
    refine hret _ _ ?_
    refine ends_still (v := Value.tuple #[.slice none 0 0, .int .i64 vt11]) (by kernel_rfl) (by kernel_rfl) ?_
    have HS749 := HS27.drop
    have HS750 := HS749.drop
    injection h with h
    injection h with h0_ h
    subst h0_ h
    exact ⟨f13, none, 0, rfl, L14, HS750, (SlR.nil _ _)⟩
  · have c33 : ¬ (vt11 ≠ 0) := c33
    refine wpRwI 22 (x := (vt11 != 0)) (v := false) (by kernel_rfl) (bne_eq_false_iff_eq.mpr (Decidable.of_not_not c33)) ?_
    refine condF (by kernel_rfl) ?_
    refine wp_skip ?_
    refine hK29 _ _ ?_
    refine wp_seq_k (fun K36 hK37 => ?_)
    refine wp_region_lit ?_
    have hq_ := guard_some h; clear h; obtain ⟨c38, h⟩ := hq_
    have c38 : 0 ≤ (l1.length : Int) := c38
    have hq_ := guard_some h; clear h; obtain ⟨c39, h⟩ := hq_
    have c39 : (l1.length : Int) * 24 ≤ 140737488355328 := c39
    refine seqL2 (by kernel_rfl) ?_
    refine seqK rfl (does_makeN (e := (tInt .i64)) (et := 3) (E := 22) (n := (l1.length : Int)) rfl (by kernel_rfl : _ = Value.int .i64 (l1.length : Int)) (by kernel_rfl : _ = Value.int .i64 (l1.length : Int)) Try.underlying47 inf22 c38 c39 (by omega) HS27 ?_)
    intro b40 W41 s42 HS43 HO44
    refine seqS1 (a' := ⟨#[.slice A2 l1.length c3, iV vf5, uV, uV, .slice none 0 0, iV 0, .pointer (some ⟨b22, 0, none⟩), iV vt11, .slice (some ⟨b40, 0, none⟩) (List.replicate ((l1.length : Int)).toNat (([] : List Int) : List Int)).length ((l1.length : Int)).toNat, uV, uV, uV, uV, uV, uV, .tuple #[.agg #[iV vt10.W, iV vt10.H, .slice A17 vt10.At.length c18], iV vt11], .slice A2 l1.length c3, iV vf5, .tuple #[.agg #[iV vt10.W, iV vt10.H, .slice A17 vt10.At.length c18], iV vt11], .agg #[iV vt10.W, iV vt10.H, .slice A17 vt10.At.length c18], iV vt11, iV vt11, .bool false, uV, .slice A2 l1.length c3, iV (l1.length : Int), .slice (some ⟨b40, 0, none⟩) (List.replicate ((l1.length : Int)).toNat (([] : List Int) : List Int)).length ((l1.length : Int)).toNat, uV, uV, uV, uV, uV, uV, uV, uV, uV, uV, uV, uV, uV, uV, uV, uV, uV, uV, uV, uV, uV, uV, uV, uV, uV, uV, uV, uV, uV, uV, uV, uV, uV, uV, uV, uV, uV, uV, uV, uV], []⟩) (by kernel_rfl) ?_
    refine wpList_nil ?_
    refine hK37 _ _ ?_
    refine wp_seq_k (fun K46 hK47 => ?_)
    refine wp_seq_k (fun K48 hK49 => ?_)
    refine wp_region_lit ?_
    refine seqS3 (a' := ⟨#[.slice A2 l1.length c3, iV vf5, uV, uV, .slice none 0 0, iV 0, .pointer (some ⟨b22, 0, none⟩), iV vt11, .slice (some ⟨b40, 0, none⟩) (List.replicate ((l1.length : Int)).toNat (([] : List Int) : List Int)).length ((l1.length : Int)).toNat, uV, uV, uV, uV, uV, uV, .tuple #[.agg #[iV vt10.W, iV vt10.H, .slice A17 vt10.At.length c18], iV vt11], .slice A2 l1.length c3, iV vf5, .tuple #[.agg #[iV vt10.W, iV vt10.H, .slice A17 vt10.At.length c18], iV vt11], .agg #[iV vt10.W, iV vt10.H, .slice A17 vt10.At.length c18], iV vt11, iV vt11, .bool false, uV, .slice A2 l1.length c3, iV (l1.length : Int), .slice (some ⟨b40, 0, none⟩) (List.replicate ((l1.length : Int)).toNat (([] : List Int) : List Int)).length ((l1.length : Int)).toNat, .slice A2 l1.length c3, iV (l1.length : Int), iV 0, uV, uV, uV, uV, uV, uV, uV, uV, uV, uV, uV, uV, uV, uV, uV, uV, uV, uV, uV, uV, uV, uV, uV, uV, uV, uV, uV, uV, uV, uV, uV, uV, uV, uV, uV, uV, uV], []⟩) (by kernel_rfl) ?_
    refine wpList_nil ?_
    refine hK49 _ _ ?_
    refine blockK (fun B50 hx51 hn52 hr53 ho54 hp55 => ?_)
    have hq_ := bind_some h; clear h; obtain ⟨o391, hv739, h⟩ := hq_
    have J740 : ∀ (f730 : FM) (s736 : Seg) (out735 : List (List Int)) (j734 : Nat → Value) (W732 : World) (a_ : Act), FM.le f13 f730 → some (out735) = some o391 → St t W732 f730 (s736 :: [(b22, .cells #[.int .i64 vt10.W, .int .i64 vt10.H, .slice A17 vt10.At.length c18] 34 (0, 0))] :: s19 :: H) → OwnN (tInt .i64) 3 22 f730 (some ⟨b40, 0, none⟩) ((l1.length : Int)).toNat s736 out735 → out735.length = (List.replicate ((l1.length : Int)).toNat (([] : List Int) : List Int)).length → a_ = ⟨#[.slice A2 l1.length c3, iV vf5, uV, uV, .slice none 0 0, iV 0, .pointer (some ⟨b22, 0, none⟩), iV vt11, .slice (some ⟨b40, 0, none⟩) out735.length ((l1.length : Int)).toNat, (j734 0), (j734 1), (j734 2), (j734 3), (j734 4), (j734 5), .tuple #[.agg #[iV vt10.W, iV vt10.H, .slice A17 vt10.At.length c18], iV vt11], .slice A2 l1.length c3, iV vf5, .tuple #[.agg #[iV vt10.W, iV vt10.H, .slice A17 vt10.At.length c18], iV vt11], .agg #[iV vt10.W, iV vt10.H, .slice A17 vt10.At.length c18], iV vt11, iV vt11, .bool false, uV, .slice A2 l1.length c3, iV (l1.length : Int), (j734 6), .slice A2 l1.length c3, iV (l1.length : Int), (j734 7), (j734 8), (j734 9), (j734 10), (j734 11), (j734 12), (j734 13), (j734 14), (j734 15), (j734 16), (j734 17), (j734 18), (j734 19), (j734 20), (j734 21), (j734 22), (j734 23), (j734 24), (j734 25), (j734 26), (j734 27), (j734 28), (j734 29), (j734 30), (j734 31), (j734 32), (j734 33), (j734 34), (j734 35), (j734 36), (j734 37), (j734 38), (j734 39), (j734 40), (j734 41), (j734 42), (j734 43), uV], []⟩ → K46 a_ W732 := by
      intro f730 s736 out735 j734 W732 a_ L731 hj741 HS733 HO737 HL738 hfr_; subst hfr_
      injection hj741 with hj741; subst hj741; try dsimp only at h
      refine hK47 _ _ ?_
      refine wp_seq_k (fun K747 hK748 => ?_)
      refine wp_region_lit ?_
      refine seqS3 (a' := ⟨#[.slice A2 l1.length c3, iV vf5, uV, uV, .slice (some ⟨b40, 0, none⟩) out735.length ((l1.length : Int)).toNat, iV 0, .pointer (some ⟨b22, 0, none⟩), iV vt11, .slice (some ⟨b40, 0, none⟩) out735.length ((l1.length : Int)).toNat, (j734 0), (j734 1), (j734 2), (j734 3), (j734 4), (j734 5), .tuple #[.agg #[iV vt10.W, iV vt10.H, .slice A17 vt10.At.length c18], iV vt11], .slice A2 l1.length c3, iV vf5, .tuple #[.agg #[iV vt10.W, iV vt10.H, .slice A17 vt10.At.length c18], iV vt11], .agg #[iV vt10.W, iV vt10.H, .slice A17 vt10.At.length c18], iV vt11, iV vt11, .bool false, uV, .slice A2 l1.length c3, iV (l1.length : Int), (j734 6), .slice A2 l1.length c3, iV (l1.length : Int), (j734 7), (j734 8), (j734 9), (j734 10), (j734 11), (j734 12), (j734 13), (j734 14), (j734 15), (j734 16), (j734 17), (j734 18), (j734 19), (j734 20), (j734 21), (j734 22), (j734 23), (j734 24), (j734 25), (j734 26), (j734 27), (j734 28), (j734 29), (j734 30), (j734 31), (j734 32), (j734 33), (j734 34), (j734 35), (j734 36), (j734 37), (j734 38), (j734 39), (j734 40), (j734 41), (j734 42), (j734 43), .slice (some ⟨b40, 0, none⟩) out735.length ((l1.length : Int)).toNat], []⟩) (by kernel_rfl) ?_
      refine wpList_nil ?_
      refine hK748 _ _ ?_
      refine wp_ret ?_
      refine hret _ _ ?_
      obtain ⟨f751, L752, HS753, HR754⟩ := HO737.freeze HS733
      refine ends_still (v := Value.tuple #[.slice (some ⟨b40, 0, none⟩) out735.length ((l1.length : Int)).toNat, .int .i64 0]) (by kernel_rfl) (by kernel_rfl) ?_
      have HS755 := HS753.drop
      have HS756 := HS755.drop
      injection h with h
      injection h with h0_ h
      subst h0_ h
      exact ⟨f751, (some ⟨b40, 0, none⟩), (((l1.length : Int)).toNat), rfl, (L14.trans (L731.trans L752)), HS756, HR754⟩
    clear h; have h := hv739; clear hv739
    refine loopK (fun n_ a_ w_ => ∃ (f395 : FM) (s401 : Seg) (out400 : List (List Int)) (x404 : Int) (j399 : Nat → Value), FM.le f13 f395 ∧ St t w_ f395 (s401 :: [(b22, .cells #[.int .i64 vt10.W, .int .i64 vt10.H, .slice A17 vt10.At.length c18] 34 (0, 0))] :: s19 :: H) ∧ OwnN (tInt .i64) 3 22 f395 (some ⟨b40, 0, none⟩) ((l1.length : Int)).toNat s401 out400 ∧ out400.length = (List.replicate ((l1.length : Int)).toNat (([] : List Int) : List Int)).length ∧ clean_Struck.l0 k l1 vt10 n_ out400 x404 = some o391 ∧ a_ = ⟨#[.slice A2 l1.length c3, iV vf5, uV, uV, .slice none 0 0, iV 0, .pointer (some ⟨b22, 0, none⟩), iV vt11, .slice (some ⟨b40, 0, none⟩) out400.length ((l1.length : Int)).toNat, (j399 0), (j399 1), (j399 2), (j399 3), (j399 4), (j399 5), .tuple #[.agg #[iV vt10.W, iV vt10.H, .slice A17 vt10.At.length c18], iV vt11], .slice A2 l1.length c3, iV vf5, .tuple #[.agg #[iV vt10.W, iV vt10.H, .slice A17 vt10.At.length c18], iV vt11], .agg #[iV vt10.W, iV vt10.H, .slice A17 vt10.At.length c18], iV vt11, iV vt11, .bool false, uV, .slice A2 l1.length c3, iV (l1.length : Int), .slice (some ⟨b40, 0, none⟩) (List.replicate ((l1.length : Int)).toNat (([] : List Int) : List Int)).length ((l1.length : Int)).toNat, .slice A2 l1.length c3, iV (l1.length : Int), iV x404, (j399 6), (j399 7), (j399 8), (j399 9), (j399 10), (j399 11), (j399 12), (j399 13), (j399 14), (j399 15), (j399 16), (j399 17), (j399 18), (j399 19), (j399 20), (j399 21), (j399 22), (j399 23), (j399 24), (j399 25), (j399 26), (j399 27), (j399 28), (j399 29), (j399 30), (j399 31), (j399 32), (j399 33), (j399 34), (j399 35), (j399 36), (j399 37), (j399 38), (j399 39), (j399 40), (j399 41), uV], []⟩) k ⟨f13, s42, (List.replicate ((l1.length : Int)).toNat (([] : List Int) : List Int)), 0, (fun i_ => [undef, undef, undef, undef, undef, undef, undef, undef, undef, undef, undef, undef, undef, undef, undef, undef, undef, undef, undef, undef, undef, undef, undef, undef, undef, undef, undef, undef, undef, undef, undef, undef, undef, undef, undef, undef, undef, undef, undef, undef, undef, undef].getD i_ undef), (FM.le.refl _), HS43, HO44, rfl, h, (by kernel_rfl)⟩ ?_
    clear h
    rintro n394 _ W397 ⟨f395, s401, out400, x404, j399, L396, HS398, HO402, HL403, h, rfl⟩ K392 hK393
    obtain _ | n394 := n394
    · exact nomatch h
    simp only [clean_Struck.l0] at h
    refine wp_seq_k (fun K405 hK406 => ?_)
    refine wp_region_lit ?_
    refine seqS1 (a' := ⟨#[.slice A2 l1.length c3, iV vf5, uV, uV, .slice none 0 0, iV 0, .pointer (some ⟨b22, 0, none⟩), iV vt11, .slice (some ⟨b40, 0, none⟩) out400.length ((l1.length : Int)).toNat, (j399 0), (j399 1), (j399 2), (j399 3), (j399 4), (j399 5), .tuple #[.agg #[iV vt10.W, iV vt10.H, .slice A17 vt10.At.length c18], iV vt11], .slice A2 l1.length c3, iV vf5, .tuple #[.agg #[iV vt10.W, iV vt10.H, .slice A17 vt10.At.length c18], iV vt11], .agg #[iV vt10.W, iV vt10.H, .slice A17 vt10.At.length c18], iV vt11, iV vt11, .bool false, uV, .slice A2 l1.length c3, iV (l1.length : Int), .slice (some ⟨b40, 0, none⟩) (List.replicate ((l1.length : Int)).toNat (([] : List Int) : List Int)).length ((l1.length : Int)).toNat, .slice A2 l1.length c3, iV (l1.length : Int), iV x404, .bool (decide (x404 < (l1.length : Int))), (j399 7), (j399 8), (j399 9), (j399 10), (j399 11), (j399 12), (j399 13), (j399 14), (j399 15), (j399 16), (j399 17), (j399 18), (j399 19), (j399 20), (j399 21), (j399 22), (j399 23), (j399 24), (j399 25), (j399 26), (j399 27), (j399 28), (j399 29), (j399 30), (j399 31), (j399 32), (j399 33), (j399 34), (j399 35), (j399 36), (j399 37), (j399 38), (j399 39), (j399 40), (j399 41), uV], []⟩) (by kernel_rfl) ?_
    refine wpList_nil ?_
    refine hK406 _ _ ?_
    refine wp_seq_k (fun K407 hK408 => ?_)
    have hq_ := ite_some h; clear h; rcases hq_ with ⟨c410, h⟩ | ⟨c410, h⟩
    · have c410 : x404 < (l1.length : Int) := c410
      refine wpRwI 30 (x := (decide (x404 < (l1.length : Int)))) (v := true) (by kernel_rfl) (decide_eq_true c410) ?_
      refine condT (by kernel_rfl) ?_
      refine wp_skip ?_
      refine hK408 _ _ ?_
      refine wp_seq_k (fun K411 hK412 => ?_)
      refine blockK (fun B413 hx414 hn415 hr416 ho417 hp418 => ?_)
      refine wp_seq_k (fun K420 hK421 => ?_)
      refine wp_region_lit ?_
      have hq_ := guard_some h; clear h; obtain ⟨c422, h⟩ := hq_
      have c422 : 0 ≤ x404 := c422
      obtain ⟨b426, of427, cs423, hA428, hr424, hc425⟩ := (HR4.mono (L14.trans L396)).at (i := x404) c422 c410
      obtain ⟨A429, c429, rfl, HR429⟩ := hr424
      refine seqL1 (by kernel_rfl) ?_
      refine seqK rfl (does_run (run_indexE hA428 (sz := 3) rfl Try.underlying27 (by kernel_rfl) (by kernel_rfl : _ = Value.slice A2 l1.length c3) (by kernel_rfl : _ = Value.int .i64 x404) c422 c410 W397) ?_)
      refine seqK rfl (does_run (run_loadN (n := 3) rfl Try.underlying34 rfl (by kernel_rfl) (by kernel_rfl : _ = Value.pointer (some ⟨b426, of427 + (x404 : Int).toNat * 3, none⟩)) (cs := [.int .i64 ((rd l1 x404).W), .int .i64 ((rd l1 x404).H), .slice A429 ((rd l1 x404).At).length c429]) rfl (fun j_ hj_ => ((hc425 (FM.le.refl _) HS398) j_ hj_))) ?_)
      refine seqK rfl (does_alloc (z := Value.agg #[.int .i64 0, .int .i64 0, .slice none 0 0]) (cs := #[.int .i64 0, .int .i64 0, .slice none 0 0]) rfl (by kernel_rfl) rfl HS398 ?_)
      intro b430 W431 HS432
      refine seqL1 (by kernel_rfl) ?_
      refine seqK rfl (does_store (n := 3) (vs := [.int .i64 ((rd l1 x404).W), .int .i64 ((rd l1 x404).H), .slice A429 ((rd l1 x404).At).length c429]) (cs' := #[.int .i64 ((rd l1 x404).W), .int .i64 ((rd l1 x404).H), .slice A429 ((rd l1 x404).At).length c429]) rfl (by kernel_rfl) (by kernel_rfl : _ = Value.pointer (some ⟨b430, 0, none⟩)) (by kernel_rfl : _ = Value.agg #[.int .i64 ((rd l1 x404).W), .int .i64 ((rd l1 x404).H), .slice A429 ((rd l1 x404).At).length c429]) rfl rfl (by intro u_ hu_; simp only [List.mem_cons, List.not_mem_nil, or_false] at hu_; rcases hu_ with rfl | rfl | rfl <;> rfl) HS432 (Nat.le_of_ble_eq_true rfl) (by kernel_rfl) ?_)
      intro W434 HS435
      refine wpList_nil ?_
      refine hK421 _ _ ?_
      refine wp_seq_k (fun K436 hK437 => ?_)
      refine wp_region_lit ?_
      refine seqL1 (by kernel_rfl) ?_
      refine seqK rfl (does_run (run_load rfl Try.underlying32 rfl (by kernel_rfl : _ = Value.pointer (some ⟨b430, 2, none⟩)) (HS435.cell 2)) ?_)
      refine seqS2 (a' := ⟨#[.slice A2 l1.length c3, iV vf5, uV, uV, .slice none 0 0, iV 0, .pointer (some ⟨b22, 0, none⟩), iV vt11, .slice (some ⟨b40, 0, none⟩) out400.length ((l1.length : Int)).toNat, iV x404, .pointer (some ⟨b430, 0, none⟩), (j399 2), (j399 3), (j399 4), (j399 5), .tuple #[.agg #[iV vt10.W, iV vt10.H, .slice A17 vt10.At.length c18], iV vt11], .slice A2 l1.length c3, iV vf5, .tuple #[.agg #[iV vt10.W, iV vt10.H, .slice A17 vt10.At.length c18], iV vt11], .agg #[iV vt10.W, iV vt10.H, .slice A17 vt10.At.length c18], iV vt11, iV vt11, .bool false, uV, .slice A2 l1.length c3, iV (l1.length : Int), .slice (some ⟨b40, 0, none⟩) (List.replicate ((l1.length : Int)).toNat (([] : List Int) : List Int)).length ((l1.length : Int)).toNat, .slice A2 l1.length c3, iV (l1.length : Int), iV x404, .bool true, iV x404, .pointer (some ⟨b426, of427 + (x404 : Int).toNat * 3, none⟩), .agg #[iV ((rd l1 x404).W), iV ((rd l1 x404).H), .slice A429 ((rd l1 x404).At).length c429], .pointer (some ⟨b430, 2, none⟩), .slice A429 ((rd l1 x404).At).length c429, iV (((rd l1 x404).At).length : Int), iV 0, (j399 14), (j399 15), (j399 16), (j399 17), (j399 18), (j399 19), (j399 20), (j399 21), (j399 22), (j399 23), (j399 24), (j399 25), (j399 26), (j399 27), (j399 28), (j399 29), (j399 30), (j399 31), (j399 32), (j399 33), (j399 34), (j399 35), (j399 36), (j399 37), (j399 38), (j399 39), (j399 40), (j399 41), uV], []⟩) (by kernel_rfl) ?_
      refine wpList_nil ?_
      refine hK437 _ _ ?_
      refine blockK (fun B438 hx439 hn440 hr441 ho442 hp443 => ?_)
      have hq_ := bind_some h; clear h; obtain ⟨o571, hv711, h⟩ := hq_
      have J712 : ∀ (f702 : FM) (s708 : Seg) (out707 : List (List Int)) (j706 : Nat → Value) (W704 : World) (a_ : Act), FM.le f395 f702 → some (out707) = some o571 → St t W704 f702 ([(b430, .cells #[.int .i64 ((rd l1 x404).W), .int .i64 ((rd l1 x404).H), .slice A429 ((rd l1 x404).At).length c429] 34 (0, 0))] :: s708 :: [(b22, .cells #[.int .i64 vt10.W, .int .i64 vt10.H, .slice A17 vt10.At.length c18] 34 (0, 0))] :: s19 :: H) → OwnN (tInt .i64) 3 22 f702 (some ⟨b40, 0, none⟩) ((l1.length : Int)).toNat s708 out707 → out707.length = out400.length → a_ = ⟨#[.slice A2 l1.length c3, iV vf5, uV, uV, .slice none 0 0, iV 0, .pointer (some ⟨b22, 0, none⟩), iV vt11, .slice (some ⟨b40, 0, none⟩) out707.length ((l1.length : Int)).toNat, iV x404, .pointer (some ⟨b430, 0, none⟩), (j706 0), (j706 1), (j706 2), (j706 3), .tuple #[.agg #[iV vt10.W, iV vt10.H, .slice A17 vt10.At.length c18], iV vt11], .slice A2 l1.length c3, iV vf5, .tuple #[.agg #[iV vt10.W, iV vt10.H, .slice A17 vt10.At.length c18], iV vt11], .agg #[iV vt10.W, iV vt10.H, .slice A17 vt10.At.length c18], iV vt11, iV vt11, .bool false, uV, .slice A2 l1.length c3, iV (l1.length : Int), .slice (some ⟨b40, 0, none⟩) (List.replicate ((l1.length : Int)).toNat (([] : List Int) : List Int)).length ((l1.length : Int)).toNat, .slice A2 l1.length c3, iV (l1.length : Int), iV x404, .bool true, iV x404, .pointer (some ⟨b426, of427 + (x404 : Int).toNat * 3, none⟩), .agg #[iV ((rd l1 x404).W), iV ((rd l1 x404).H), .slice A429 ((rd l1 x404).At).length c429], .pointer (some ⟨b430, 2, none⟩), .slice A429 ((rd l1 x404).At).length c429, iV (((rd l1 x404).At).length : Int), (j706 4), (j706 5), (j706 6), (j706 7), (j706 8), (j706 9), (j706 10), (j706 11), (j706 12), (j706 13), (j706 14), (j706 15), (j706 16), (j706 17), (j706 18), (j706 19), (j706 20), (j706 21), (j706 22), (j706 23), (j706 24), (j706 25), (j706 26), (j706 27), (j706 28), (j706 29), (j706 30), (j706 31), (j399 41), uV], []⟩ → B413 Exit.normal a_ W704 := by
        intro f702 s708 out707 j706 W704 a_ L703 hj713 HS705 HO709 HL710 hfr_; subst hfr_
        injection hj713 with hj713; subst hj713; try dsimp only at h
        refine hn415 _ _ ?_
        refine hK412 _ _ ?_
        refine wp_region_lit ?_
        refine seqS2 (a' := ⟨#[.slice A2 l1.length c3, iV vf5, uV, uV, .slice none 0 0, iV 0, .pointer (some ⟨b22, 0, none⟩), iV vt11, .slice (some ⟨b40, 0, none⟩) out707.length ((l1.length : Int)).toNat, iV x404, .pointer (some ⟨b430, 0, none⟩), (j706 0), (j706 1), (j706 2), (j706 3), .tuple #[.agg #[iV vt10.W, iV vt10.H, .slice A17 vt10.At.length c18], iV vt11], .slice A2 l1.length c3, iV vf5, .tuple #[.agg #[iV vt10.W, iV vt10.H, .slice A17 vt10.At.length c18], iV vt11], .agg #[iV vt10.W, iV vt10.H, .slice A17 vt10.At.length c18], iV vt11, iV vt11, .bool false, uV, .slice A2 l1.length c3, iV (l1.length : Int), .slice (some ⟨b40, 0, none⟩) (List.replicate ((l1.length : Int)).toNat (([] : List Int) : List Int)).length ((l1.length : Int)).toNat, .slice A2 l1.length c3, iV (l1.length : Int), iV (w64 (x404 + 1)), .bool true, iV x404, .pointer (some ⟨b426, of427 + (x404 : Int).toNat * 3, none⟩), .agg #[iV ((rd l1 x404).W), iV ((rd l1 x404).H), .slice A429 ((rd l1 x404).At).length c429], .pointer (some ⟨b430, 2, none⟩), .slice A429 ((rd l1 x404).At).length c429, iV (((rd l1 x404).At).length : Int), (j706 4), (j706 5), (j706 6), (j706 7), (j706 8), (j706 9), (j706 10), (j706 11), (j706 12), (j706 13), (j706 14), (j706 15), (j706 16), (j706 17), (j706 18), (j706 19), (j706 20), (j706 21), (j706 22), (j706 23), (j706 24), (j706 25), (j706 26), (j706 27), (j706 28), (j706 29), (j706 30), (j706 31), iV (w64 (x404 + 1)), uV], []⟩) (by kernel_rfl) ?_
        refine wpList_nil ?_
        refine hK393 n394 _ _ (Nat.lt_succ_self _) ?_
        have HS742 := HS705.u3
        have HS743 := HS742.u3
        have HS744 := HS743.u3
        have HS745 := HS744.u3
        have HS746 := HS745.drop
        exact ⟨f702, s708, out707, (w64 (x404 + 1)), (fun i_ => [Value.int .i64 x404, Value.pointer (some ⟨b430, 0, none⟩), (j706 0), (j706 1), (j706 2), (j706 3), Value.bool true, Value.int .i64 x404, Value.pointer (some ⟨b426, of427 + (x404 : Int).toNat * 3, none⟩), Value.agg #[.int .i64 ((rd l1 x404).W), .int .i64 ((rd l1 x404).H), .slice A429 ((rd l1 x404).At).length c429], Value.pointer (some ⟨b430, 2, none⟩), Value.slice A429 ((rd l1 x404).At).length c429, Value.int .i64 (((rd l1 x404).At).length : Int), (j706 4), (j706 5), (j706 6), (j706 7), (j706 8), (j706 9), (j706 10), (j706 11), (j706 12), (j706 13), (j706 14), (j706 15), (j706 16), (j706 17), (j706 18), (j706 19), (j706 20), (j706 21), (j706 22), (j706 23), (j706 24), (j706 25), (j706 26), (j706 27), (j706 28), (j706 29), (j706 30), (j706 31), Value.int .i64 (w64 (x404 + 1))].getD i_ undef), (L396.trans L703), HS746, HO709, (HL710.trans HL403), h, (by kernel_rfl)⟩
      clear h; have h := hv711; clear hv711
      refine loopK (fun n_ a_ w_ => ∃ (f575 : FM) (s581 : Seg) (out580 : List (List Int)) (x584 : Int) (j579 : Nat → Value), FM.le f395 f575 ∧ St t w_ f575 ([(b430, .cells #[.int .i64 ((rd l1 x404).W), .int .i64 ((rd l1 x404).H), .slice A429 ((rd l1 x404).At).length c429] 34 (0, 0))] :: s581 :: [(b22, .cells #[.int .i64 vt10.W, .int .i64 vt10.H, .slice A17 vt10.At.length c18] 34 (0, 0))] :: s19 :: H) ∧ OwnN (tInt .i64) 3 22 f575 (some ⟨b40, 0, none⟩) ((l1.length : Int)).toNat s581 out580 ∧ out580.length = out400.length ∧ clean_Struck.l1 k l1 x404 vt10 n_ out580 x584 = some o571 ∧ a_ = ⟨#[.slice A2 l1.length c3, iV vf5, uV, uV, .slice none 0 0, iV 0, .pointer (some ⟨b22, 0, none⟩), iV vt11, .slice (some ⟨b40, 0, none⟩) out580.length ((l1.length : Int)).toNat, iV x404, .pointer (some ⟨b430, 0, none⟩), (j579 0), (j579 1), (j579 2), (j579 3), .tuple #[.agg #[iV vt10.W, iV vt10.H, .slice A17 vt10.At.length c18], iV vt11], .slice A2 l1.length c3, iV vf5, .tuple #[.agg #[iV vt10.W, iV vt10.H, .slice A17 vt10.At.length c18], iV vt11], .agg #[iV vt10.W, iV vt10.H, .slice A17 vt10.At.length c18], iV vt11, iV vt11, .bool false, uV, .slice A2 l1.length c3, iV (l1.length : Int), .slice (some ⟨b40, 0, none⟩) (List.replicate ((l1.length : Int)).toNat (([] : List Int) : List Int)).length ((l1.length : Int)).toNat, .slice A2 l1.length c3, iV (l1.length : Int), iV x404, .bool true, iV x404, .pointer (some ⟨b426, of427 + (x404 : Int).toNat * 3, none⟩), .agg #[iV ((rd l1 x404).W), iV ((rd l1 x404).H), .slice A429 ((rd l1 x404).At).length c429], .pointer (some ⟨b430, 2, none⟩), .slice A429 ((rd l1 x404).At).length c429, iV (((rd l1 x404).At).length : Int), iV x584, (j579 4), (j579 5), (j579 6), (j579 7), (j579 8), (j579 9), (j579 10), (j579 11), (j579 12), (j579 13), (j579 14), (j579 15), (j579 16), (j579 17), (j579 18), (j579 19), (j579 20), (j579 21), (j579 22), (j579 23), (j579 24), (j579 25), (j579 26), (j579 27), (j579 28), (j579 29), (j579 30), (j399 41), uV], []⟩) k ⟨f395, s401, out400, 0, (fun i_ => [(j399 2), (j399 3), (j399 4), (j399 5), (j399 14), (j399 15), (j399 16), (j399 17), (j399 18), (j399 19), (j399 20), (j399 21), (j399 22), (j399 23), (j399 24), (j399 25), (j399 26), (j399 27), (j399 28), (j399 29), (j399 30), (j399 31), (j399 32), (j399 33), (j399 34), (j399 35), (j399 36), (j399 37), (j399 38), (j399 39), (j399 40)].getD i_ undef), (FM.le.refl _), HS435, HO402, rfl, h, (by kernel_rfl)⟩ ?_
      clear h
      rintro n574 _ W577 ⟨f575, s581, out580, x584, j579, L576, HS578, HO582, HL583, h, rfl⟩ K572 hK573
      obtain _ | n574 := n574
      · exact nomatch h
      simp only [clean_Struck.l1] at h
      refine wp_seq_k (fun K585 hK586 => ?_)
      refine wp_region_lit ?_
      refine seqS1 (a' := ⟨#[.slice A2 l1.length c3, iV vf5, uV, uV, .slice none 0 0, iV 0, .pointer (some ⟨b22, 0, none⟩), iV vt11, .slice (some ⟨b40, 0, none⟩) out580.length ((l1.length : Int)).toNat, iV x404, .pointer (some ⟨b430, 0, none⟩), (j579 0), (j579 1), (j579 2), (j579 3), .tuple #[.agg #[iV vt10.W, iV vt10.H, .slice A17 vt10.At.length c18], iV vt11], .slice A2 l1.length c3, iV vf5, .tuple #[.agg #[iV vt10.W, iV vt10.H, .slice A17 vt10.At.length c18], iV vt11], .agg #[iV vt10.W, iV vt10.H, .slice A17 vt10.At.length c18], iV vt11, iV vt11, .bool false, uV, .slice A2 l1.length c3, iV (l1.length : Int), .slice (some ⟨b40, 0, none⟩) (List.replicate ((l1.length : Int)).toNat (([] : List Int) : List Int)).length ((l1.length : Int)).toNat, .slice A2 l1.length c3, iV (l1.length : Int), iV x404, .bool true, iV x404, .pointer (some ⟨b426, of427 + (x404 : Int).toNat * 3, none⟩), .agg #[iV ((rd l1 x404).W), iV ((rd l1 x404).H), .slice A429 ((rd l1 x404).At).length c429], .pointer (some ⟨b430, 2, none⟩), .slice A429 ((rd l1 x404).At).length c429, iV (((rd l1 x404).At).length : Int), iV x584, .bool (decide (x584 < (((rd l1 x404).At).length : Int))), (j579 5), (j579 6), (j579 7), (j579 8), (j579 9), (j579 10), (j579 11), (j579 12), (j579 13), (j579 14), (j579 15), (j579 16), (j579 17), (j579 18), (j579 19), (j579 20), (j579 21), (j579 22), (j579 23), (j579 24), (j579 25), (j579 26), (j579 27), (j579 28), (j579 29), (j579 30), (j399 41), uV], []⟩) (by kernel_rfl) ?_
      refine wpList_nil ?_
      refine hK586 _ _ ?_
      refine wp_seq_k (fun K587 hK588 => ?_)
      have hq_ := ite_some h; clear h; rcases hq_ with ⟨c590, h⟩ | ⟨c590, h⟩
      · have c590 : x584 < (((rd l1 x404).At).length : Int) := c590
        refine wpRwI 38 (x := (decide (x584 < (((rd l1 x404).At).length : Int)))) (v := true) (by kernel_rfl) (decide_eq_true c590) ?_
        refine condT (by kernel_rfl) ?_
        refine wp_skip ?_
        refine hK588 _ _ ?_
        refine wp_seq_k (fun K591 hK592 => ?_)
        refine blockK (fun B593 hx594 hn595 hr596 ho597 hp598 => ?_)
        refine wp_seq_k (fun K600 hK601 => ?_)
        refine wp_region_lit ?_
        have hq_ := guard_some h; clear h; obtain ⟨c602, h⟩ := hq_
        have c602 : 0 ≤ x584 := c602
        obtain ⟨b606, of607, cs603, hA608, hr604, hc605⟩ := (HR429.mono L576).at (i := x584) c602 c590
        obtain rfl := hr604
        refine seqL1 (by kernel_rfl) ?_
        refine seqK rfl (does_run (run_indexE hA608 (sz := 3) rfl Try.underlying32 (by kernel_rfl) (by kernel_rfl : _ = Value.slice A429 ((rd l1 x404).At).length c429) (by kernel_rfl : _ = Value.int .i64 x584) c602 c590 W577) ?_)
        refine seqK rfl (does_run (run_loadN (n := 3) rfl Try.underlying44 rfl (by kernel_rfl) (by kernel_rfl : _ = Value.pointer (some ⟨b606, of607 + (x584 : Int).toNat * 3, none⟩)) (cs := [.int .i64 ((rd ((rd l1 x404).At) x584).Lo), .int .i64 ((rd ((rd l1 x404).At) x584).Hi), .bool ((rd ((rd l1 x404).At) x584).Unknown)]) rfl (fun j_ hj_ => ((hc605 (FM.le.refl _) HS578) j_ hj_))) ?_)
        refine seqK rfl (does_alloc (z := Value.agg #[.int .i64 0, .int .i64 0, .bool false]) (cs := #[.int .i64 0, .int .i64 0, .bool false]) rfl (by kernel_rfl) rfl HS578 ?_)
        intro b609 W610 HS611
        refine seqL1 (by kernel_rfl) ?_
        refine seqK rfl (does_store (n := 3) (vs := [.int .i64 ((rd ((rd l1 x404).At) x584).Lo), .int .i64 ((rd ((rd l1 x404).At) x584).Hi), .bool ((rd ((rd l1 x404).At) x584).Unknown)]) (cs' := #[.int .i64 ((rd ((rd l1 x404).At) x584).Lo), .int .i64 ((rd ((rd l1 x404).At) x584).Hi), .bool ((rd ((rd l1 x404).At) x584).Unknown)]) rfl (by kernel_rfl) (by kernel_rfl : _ = Value.pointer (some ⟨b609, 0, none⟩)) (by kernel_rfl : _ = Value.agg #[.int .i64 ((rd ((rd l1 x404).At) x584).Lo), .int .i64 ((rd ((rd l1 x404).At) x584).Hi), .bool ((rd ((rd l1 x404).At) x584).Unknown)]) rfl rfl (by intro u_ hu_; simp only [List.mem_cons, List.not_mem_nil, or_false] at hu_; rcases hu_ with rfl | rfl | rfl <;> rfl) HS611 (Nat.le_of_ble_eq_true rfl) (by kernel_rfl) ?_)
        intro W613 HS614
        refine wpList_nil ?_
        refine hK601 _ _ ?_
        refine wp_seq_k (fun K615 hK616 => ?_)
        refine heldG (S := Sg t f575 ([(b609, .cells #[.int .i64 ((rd ((rd l1 x404).At) x584).Lo), .int .i64 ((rd ((rd l1 x404).At) x584).Hi), .bool ((rd ((rd l1 x404).At) x584).Unknown)] 44 (0, 0))] :: [(b430, .cells #[.int .i64 ((rd l1 x404).W), .int .i64 ((rd l1 x404).H), .slice A429 ((rd l1 x404).At).length c429] 34 (0, 0))] :: s581 :: [(b22, .cells #[.int .i64 vt10.W, .int .i64 vt10.H, .slice A17 vt10.At.length c18] 34 (0, 0))] :: s19 :: H) []) (n := 13) (by kernel_rfl) rfl HS614 ?_
        intro W617 HS618
        refine takeGQ 0 [] rfl (by kernel_rfl) (by kernel_rfl) (by kernel_rfl) (by kernel_rfl) (by kernel_rfl) (by kernel_rfl) (fun ch_ a_ w_ q_ => (fun ch_ a_ w_ q_ => (fun ch_ a_ w_ q_ => (fun ch_ a_ w_ q_ => hnp ch_ a_ w_ (hp55 ch_ a_ w_ q_)) ch_ a_ w_ (hp418 ch_ a_ w_ q_)) ch_ a_ w_ (hp443 ch_ a_ w_ q_)) ch_ a_ w_ (hp598 ch_ a_ w_ q_)) (Sg.g0 (Sx.of [] (FM.le.refl _) HS618)) (fun w_ hw_ => by obtain ⟨g_, hl_, hS_⟩ := hw_.st; exact run_loadN (n := 3) rfl Try.underlying44 rfl (by kernel_rfl) (by kernel_rfl : _ = Value.pointer (some ⟨b609, 0, none⟩)) (cs := [.int .i64 ((rd ((rd l1 x404).At) x584).Lo), .int .i64 ((rd ((rd l1 x404).At) x584).Hi), .bool ((rd ((rd l1 x404).At) x584).Unknown)]) rfl (hS_.cells 0 3 _ rfl)) ?_
        refine takeG [1] (n := 12) (fuel := 11) (l' := #[true, true, false, false, false, false, false, false, false, false, false, false, false]) (a' := ⟨#[.slice A2 l1.length c3, iV vf5, uV, uV, .slice none 0 0, iV 0, .pointer (some ⟨b22, 0, none⟩), iV vt11, .slice (some ⟨b40, 0, none⟩) out580.length ((l1.length : Int)).toNat, iV x404, .pointer (some ⟨b430, 0, none⟩), iV x584, .pointer (some ⟨b609, 0, none⟩), (j579 2), (j579 3), .tuple #[.agg #[iV vt10.W, iV vt10.H, .slice A17 vt10.At.length c18], iV vt11], .slice A2 l1.length c3, iV vf5, .tuple #[.agg #[iV vt10.W, iV vt10.H, .slice A17 vt10.At.length c18], iV vt11], .agg #[iV vt10.W, iV vt10.H, .slice A17 vt10.At.length c18], iV vt11, iV vt11, .bool false, uV, .slice A2 l1.length c3, iV (l1.length : Int), .slice (some ⟨b40, 0, none⟩) (List.replicate ((l1.length : Int)).toNat (([] : List Int) : List Int)).length ((l1.length : Int)).toNat, .slice A2 l1.length c3, iV (l1.length : Int), iV x404, .bool true, iV x404, .pointer (some ⟨b426, of427 + (x404 : Int).toNat * 3, none⟩), .agg #[iV ((rd l1 x404).W), iV ((rd l1 x404).H), .slice A429 ((rd l1 x404).At).length c429], .pointer (some ⟨b430, 2, none⟩), .slice A429 ((rd l1 x404).At).length c429, iV (((rd l1 x404).At).length : Int), iV x584, .bool true, iV x584, .pointer (some ⟨b606, of607 + (x584 : Int).toNat * 3, none⟩), .agg #[iV ((rd ((rd l1 x404).At) x584).Lo), iV ((rd ((rd l1 x404).At) x584).Hi), .bool ((rd ((rd l1 x404).At) x584).Unknown)], (j579 8), .agg #[iV ((rd ((rd l1 x404).At) x584).Lo), iV ((rd ((rd l1 x404).At) x584).Hi), .bool ((rd ((rd l1 x404).At) x584).Unknown)], .pointer (some ⟨b22, 2, none⟩), (j579 11), (j579 12), (j579 13), (j579 14), (j579 15), (j579 16), (j579 17), (j579 18), (j579 19), (j579 20), (j579 21), (j579 22), (j579 23), (j579 24), (j579 25), (j579 26), (j579 27), (j579 28), (j579 29), (j579 30), (j399 41), uV], []⟩) rfl (by kernel_rfl) (by kernel_rfl) (by kernel_rfl) (fun ch_ a_ w_ q_ => (fun ch_ a_ w_ q_ => (fun ch_ a_ w_ q_ => (fun ch_ a_ w_ q_ => hnp ch_ a_ w_ (hp55 ch_ a_ w_ q_)) ch_ a_ w_ (hp418 ch_ a_ w_ q_)) ch_ a_ w_ (hp443 ch_ a_ w_ q_)) ch_ a_ w_ (hp598 ch_ a_ w_ q_)) (Sg.g0 (Sx.of [] (FM.le.refl _) HS618)) ?_
        refine takeGQ 2 [] rfl (by kernel_rfl) (by kernel_rfl) (by kernel_rfl) (by kernel_rfl) (by kernel_rfl) (by kernel_rfl) (fun ch_ a_ w_ q_ => (fun ch_ a_ w_ q_ => (fun ch_ a_ w_ q_ => (fun ch_ a_ w_ q_ => hnp ch_ a_ w_ (hp55 ch_ a_ w_ q_)) ch_ a_ w_ (hp418 ch_ a_ w_ q_)) ch_ a_ w_ (hp443 ch_ a_ w_ q_)) ch_ a_ w_ (hp598 ch_ a_ w_ q_)) (Sg.g0 (Sx.of [] (FM.le.refl _) HS618)) (fun w_ hw_ => by obtain ⟨g_, hl_, hS_⟩ := hw_.st; exact run_load rfl Try.underlying32 rfl (by kernel_rfl : _ = Value.pointer (some ⟨b22, 2, none⟩)) (hS_.u3.cell 2)) ?_
        have hq_ := guard_some h; clear h; obtain ⟨c619, h⟩ := hq_
        have c619 : x584 < (vt10.At.length : Int) := c619
        obtain ⟨b623, of624, cs620, hA625, hr621, hc622⟩ := (HO20.mono (L396.trans L576)).at (i := x584) c602 c619
        obtain rfl := hr621
        refine takeG [3] (n := 10) (fuel := 9) (l' := #[true, true, true, true, false, false, false, false, false, false, false, false, false]) (a' := ⟨#[.slice A2 l1.length c3, iV vf5, uV, uV, .slice none 0 0, iV 0, .pointer (some ⟨b22, 0, none⟩), iV vt11, .slice (some ⟨b40, 0, none⟩) out580.length ((l1.length : Int)).toNat, iV x404, .pointer (some ⟨b430, 0, none⟩), iV x584, .pointer (some ⟨b609, 0, none⟩), (j579 2), (j579 3), .tuple #[.agg #[iV vt10.W, iV vt10.H, .slice A17 vt10.At.length c18], iV vt11], .slice A2 l1.length c3, iV vf5, .tuple #[.agg #[iV vt10.W, iV vt10.H, .slice A17 vt10.At.length c18], iV vt11], .agg #[iV vt10.W, iV vt10.H, .slice A17 vt10.At.length c18], iV vt11, iV vt11, .bool false, uV, .slice A2 l1.length c3, iV (l1.length : Int), .slice (some ⟨b40, 0, none⟩) (List.replicate ((l1.length : Int)).toNat (([] : List Int) : List Int)).length ((l1.length : Int)).toNat, .slice A2 l1.length c3, iV (l1.length : Int), iV x404, .bool true, iV x404, .pointer (some ⟨b426, of427 + (x404 : Int).toNat * 3, none⟩), .agg #[iV ((rd l1 x404).W), iV ((rd l1 x404).H), .slice A429 ((rd l1 x404).At).length c429], .pointer (some ⟨b430, 2, none⟩), .slice A429 ((rd l1 x404).At).length c429, iV (((rd l1 x404).At).length : Int), iV x584, .bool true, iV x584, .pointer (some ⟨b606, of607 + (x584 : Int).toNat * 3, none⟩), .agg #[iV ((rd ((rd l1 x404).At) x584).Lo), iV ((rd ((rd l1 x404).At) x584).Hi), .bool ((rd ((rd l1 x404).At) x584).Unknown)], (j579 8), .agg #[iV ((rd ((rd l1 x404).At) x584).Lo), iV ((rd ((rd l1 x404).At) x584).Hi), .bool ((rd ((rd l1 x404).At) x584).Unknown)], .pointer (some ⟨b22, 2, none⟩), .slice A17 vt10.At.length c18, iV x584, (j579 13), (j579 14), (j579 15), (j579 16), (j579 17), (j579 18), (j579 19), (j579 20), (j579 21), (j579 22), (j579 23), (j579 24), (j579 25), (j579 26), (j579 27), (j579 28), (j579 29), (j579 30), (j399 41), uV], []⟩) rfl (by kernel_rfl) (by kernel_rfl) (by kernel_rfl) (fun ch_ a_ w_ q_ => (fun ch_ a_ w_ q_ => (fun ch_ a_ w_ q_ => (fun ch_ a_ w_ q_ => hnp ch_ a_ w_ (hp55 ch_ a_ w_ q_)) ch_ a_ w_ (hp418 ch_ a_ w_ q_)) ch_ a_ w_ (hp443 ch_ a_ w_ q_)) ch_ a_ w_ (hp598 ch_ a_ w_ q_)) (Sg.g0 (Sx.of [] (FM.le.refl _) HS618)) ?_
        refine takeGQ 4 [] rfl (by kernel_rfl) (by kernel_rfl) (by kernel_rfl) (by kernel_rfl) (by kernel_rfl) (by kernel_rfl) (fun ch_ a_ w_ q_ => (fun ch_ a_ w_ q_ => (fun ch_ a_ w_ q_ => (fun ch_ a_ w_ q_ => hnp ch_ a_ w_ (hp55 ch_ a_ w_ q_)) ch_ a_ w_ (hp418 ch_ a_ w_ q_)) ch_ a_ w_ (hp443 ch_ a_ w_ q_)) ch_ a_ w_ (hp598 ch_ a_ w_ q_)) (Sg.g0 (Sx.of [] (FM.le.refl _) HS618)) (fun w_ hw_ => by obtain ⟨g_, hl_, hS_⟩ := hw_.st; exact run_indexE hA625 (sz := 3) rfl Try.underlying32 (by kernel_rfl) (by kernel_rfl : _ = Value.slice A17 vt10.At.length c18) (by kernel_rfl : _ = Value.int .i64 x584) c602 c619 w_) ?_
        refine takeGQ 5 [] rfl (by kernel_rfl) (by kernel_rfl) (by kernel_rfl) (by kernel_rfl) (by kernel_rfl) (by kernel_rfl) (fun ch_ a_ w_ q_ => (fun ch_ a_ w_ q_ => (fun ch_ a_ w_ q_ => (fun ch_ a_ w_ q_ => hnp ch_ a_ w_ (hp55 ch_ a_ w_ q_)) ch_ a_ w_ (hp418 ch_ a_ w_ q_)) ch_ a_ w_ (hp443 ch_ a_ w_ q_)) ch_ a_ w_ (hp598 ch_ a_ w_ q_)) (Sg.g0 (Sx.of [] (FM.le.refl _) HS618)) (fun w_ hw_ => by obtain ⟨g_, hl_, hS_⟩ := hw_.st; exact run_loadN (n := 3) rfl Try.underlying44 rfl (by kernel_rfl) (by kernel_rfl : _ = Value.pointer (some ⟨b623, of624 + (x584 : Int).toNat * 3, none⟩)) (cs := [.int .i64 ((rd vt10.At x584).Lo), .int .i64 ((rd vt10.At x584).Hi), .bool ((rd vt10.At x584).Unknown)]) rfl (fun j_ hj_ => ((hc622 hS_.u4) j_ hj_))) ?_
        have hq_ := bind_some h; clear h; obtain ⟨⟨vt626, vt627⟩, hc628, h⟩ := hq_
        refine withR #[true, true, true, true, true, true, true, true, true, true, true, true, true] ?_
        intro R639 hR640 hR641
        have J642 : ∀ (f629 : FM) (b633 : Nat) (W643 : World) (a_ : Act), FM.le f575 f629 → St t W643 f629 ([(b633, .cells #[.int .i64 vt626.Lo, .int .i64 vt626.Hi, .bool vt626.Unknown] 44 (0, 0))] :: [(b609, .cells #[.int .i64 ((rd ((rd l1 x404).At) x584).Lo), .int .i64 ((rd ((rd l1 x404).At) x584).Hi), .bool ((rd ((rd l1 x404).At) x584).Unknown)] 44 (0, 0))] :: [(b430, .cells #[.int .i64 ((rd l1 x404).W), .int .i64 ((rd l1 x404).H), .slice A429 ((rd l1 x404).At).length c429] 34 (0, 0))] :: s581 :: [(b22, .cells #[.int .i64 vt10.W, .int .i64 vt10.H, .slice A17 vt10.At.length c18] 34 (0, 0))] :: s19 :: H) → a_ = ⟨#[.slice A2 l1.length c3, iV vf5, uV, uV, .slice none 0 0, iV 0, .pointer (some ⟨b22, 0, none⟩), iV vt11, .slice (some ⟨b40, 0, none⟩) out580.length ((l1.length : Int)).toNat, iV x404, .pointer (some ⟨b430, 0, none⟩), iV x584, .pointer (some ⟨b609, 0, none⟩), .pointer (some ⟨b633, 0, none⟩), .bool vt627, .tuple #[.agg #[iV vt10.W, iV vt10.H, .slice A17 vt10.At.length c18], iV vt11], .slice A2 l1.length c3, iV vf5, .tuple #[.agg #[iV vt10.W, iV vt10.H, .slice A17 vt10.At.length c18], iV vt11], .agg #[iV vt10.W, iV vt10.H, .slice A17 vt10.At.length c18], iV vt11, iV vt11, .bool false, uV, .slice A2 l1.length c3, iV (l1.length : Int), .slice (some ⟨b40, 0, none⟩) (List.replicate ((l1.length : Int)).toNat (([] : List Int) : List Int)).length ((l1.length : Int)).toNat, .slice A2 l1.length c3, iV (l1.length : Int), iV x404, .bool true, iV x404, .pointer (some ⟨b426, of427 + (x404 : Int).toNat * 3, none⟩), .agg #[iV ((rd l1 x404).W), iV ((rd l1 x404).H), .slice A429 ((rd l1 x404).At).length c429], .pointer (some ⟨b430, 2, none⟩), .slice A429 ((rd l1 x404).At).length c429, iV (((rd l1 x404).At).length : Int), iV x584, .bool true, iV x584, .pointer (some ⟨b606, of607 + (x584 : Int).toNat * 3, none⟩), .agg #[iV ((rd ((rd l1 x404).At) x584).Lo), iV ((rd ((rd l1 x404).At) x584).Hi), .bool ((rd ((rd l1 x404).At) x584).Unknown)], .tuple #[.agg #[iV vt626.Lo, iV vt626.Hi, .bool vt626.Unknown], .bool vt627], .agg #[iV ((rd ((rd l1 x404).At) x584).Lo), iV ((rd ((rd l1 x404).At) x584).Hi), .bool ((rd ((rd l1 x404).At) x584).Unknown)], .pointer (some ⟨b22, 2, none⟩), .slice A17 vt10.At.length c18, iV x584, .pointer (some ⟨b623, of624 + (x584 : Int).toNat * 3, none⟩), .agg #[iV ((rd vt10.At x584).Lo), iV ((rd vt10.At x584).Hi), .bool ((rd vt10.At x584).Unknown)], .tuple #[.agg #[iV vt626.Lo, iV vt626.Hi, .bool vt626.Unknown], .bool vt627], .agg #[iV vt626.Lo, iV vt626.Hi, .bool vt626.Unknown], .bool vt627, (j579 18), (j579 19), (j579 20), (j579 21), (j579 22), (j579 23), (j579 24), (j579 25), (j579 26), (j579 27), (j579 28), (j579 29), (j579 30), (j399 41), uV], []⟩ → R639 a_ W643 := by
          intro f629 b633 W643 a_ L630 HS644 hfr_; subst hfr_
          refine hR640 _ _ ?_
          refine doneG (by kernel_rfl) ?_ _
          refine hK616 _ _ ?_
          refine wp_seq_k (fun K665 hK666 => ?_)
          refine wp_region_lit ?_
          refine seqS2 (a' := ⟨#[.slice A2 l1.length c3, iV vf5, uV, uV, .slice none 0 0, iV 0, .pointer (some ⟨b22, 0, none⟩), iV vt11, .slice (some ⟨b40, 0, none⟩) out580.length ((l1.length : Int)).toNat, iV x404, .pointer (some ⟨b430, 0, none⟩), iV x584, .pointer (some ⟨b609, 0, none⟩), .pointer (some ⟨b633, 0, none⟩), .bool vt627, .tuple #[.agg #[iV vt10.W, iV vt10.H, .slice A17 vt10.At.length c18], iV vt11], .slice A2 l1.length c3, iV vf5, .tuple #[.agg #[iV vt10.W, iV vt10.H, .slice A17 vt10.At.length c18], iV vt11], .agg #[iV vt10.W, iV vt10.H, .slice A17 vt10.At.length c18], iV vt11, iV vt11, .bool false, uV, .slice A2 l1.length c3, iV (l1.length : Int), .slice (some ⟨b40, 0, none⟩) (List.replicate ((l1.length : Int)).toNat (([] : List Int) : List Int)).length ((l1.length : Int)).toNat, .slice A2 l1.length c3, iV (l1.length : Int), iV x404, .bool true, iV x404, .pointer (some ⟨b426, of427 + (x404 : Int).toNat * 3, none⟩), .agg #[iV ((rd l1 x404).W), iV ((rd l1 x404).H), .slice A429 ((rd l1 x404).At).length c429], .pointer (some ⟨b430, 2, none⟩), .slice A429 ((rd l1 x404).At).length c429, iV (((rd l1 x404).At).length : Int), iV x584, .bool true, iV x584, .pointer (some ⟨b606, of607 + (x584 : Int).toNat * 3, none⟩), .agg #[iV ((rd ((rd l1 x404).At) x584).Lo), iV ((rd ((rd l1 x404).At) x584).Hi), .bool ((rd ((rd l1 x404).At) x584).Unknown)], .tuple #[.agg #[iV vt626.Lo, iV vt626.Hi, .bool vt626.Unknown], .bool vt627], .agg #[iV ((rd ((rd l1 x404).At) x584).Lo), iV ((rd ((rd l1 x404).At) x584).Hi), .bool ((rd ((rd l1 x404).At) x584).Unknown)], .pointer (some ⟨b22, 2, none⟩), .slice A17 vt10.At.length c18, iV x584, .pointer (some ⟨b623, of624 + (x584 : Int).toNat * 3, none⟩), .agg #[iV ((rd vt10.At x584).Lo), iV ((rd vt10.At x584).Hi), .bool ((rd vt10.At x584).Unknown)], .tuple #[.agg #[iV vt626.Lo, iV vt626.Hi, .bool vt626.Unknown], .bool vt627], .agg #[iV vt626.Lo, iV vt626.Hi, .bool vt626.Unknown], .bool vt627, .bool vt627, .bool (!vt627), (j579 20), (j579 21), (j579 22), (j579 23), (j579 24), (j579 25), (j579 26), (j579 27), (j579 28), (j579 29), (j579 30), (j399 41), uV], []⟩) (by kernel_rfl) ?_
          refine wpList_nil ?_
          refine hK666 _ _ ?_
          have hq_ := ite_some h; clear h; rcases hq_ with ⟨c668, h⟩ | ⟨c668, h⟩
          · have c668 : ¬ (vt627 = true) := c668
            refine wpRwI 53 (x := (!vt627)) (v := true) (by kernel_rfl) (congrArg (fun b_ => !b_) (show vt627 = false from (Bool.eq_false_iff.mpr c668)) : (!vt627) = true) ?_
            refine condT (by kernel_rfl) ?_
            refine wp_region_lit ?_
            have hq_ := guard_some h; clear h; obtain ⟨c669, h⟩ := hq_
            have c669 : x404 < (out580.length : Int) := c669
            have HS670 := HS644.u3
            obtain ⟨b671, A672, c673, s674, s675, hA676, HS677, HO678, HH679⟩ := (HO582.mono L630).open HS670 (i := x404) c422 c669
            refine seqL4 (by kernel_rfl) ?_
            refine seqK rfl (does_run (run_indexE hA676 (sz := 1) rfl Try.underlying47 (by kernel_rfl) (by kernel_rfl : _ = Value.slice (some ⟨b40, 0, none⟩) out580.length ((l1.length : Int)).toNat) (by kernel_rfl : _ = Value.int .i64 x404) c422 c669 W643) ?_)
            refine seqK rfl (does_run (run_load rfl Try.underlying22 rfl (by kernel_rfl : _ = Value.pointer (some ⟨b671, 0 + (x404 : Int).toNat * 1, none⟩)) (((HH679.cell c422 c669) HS677.u1) 0 (by decide))) ?_)
            refine seqL1 (by kernel_rfl) ?_
            refine seqK rfl (does_lit (e := (tInt .i64)) (E := 3) (vs := #[(0, Value.int .i64 x584)]) (cs := #[.int .i64 x584]) (xs := ([x584] : List Int)) rfl Try.underlying22 (by kernel_rfl) (by kernel_rfl) ⟨[.int .i64 x584], _, rfl, rfl, rfl⟩ rfl HS677 ?_ (by decide))
            intro b681 W682 s683 HS684 _ HO685
            have hq_ := guard_some h; clear h; obtain ⟨c687, h⟩ := hq_
            have c687 : ((rd out580 x404).length + 1) * 8 ≤ 140737488355328 := c687
            have HS688 := HS684.u1
            have HS689 := HS688.u1
            refine seqK rfl (does_append1 (e := (tInt .i64)) (E := 3) (xs := (rd out580 x404)) (ys := ([x584] : List Int)) rfl (by kernel_rfl : _ = Value.slice A672 (rd out580 x404).length c673) (by kernel_rfl : _ = Value.slice (some ⟨b681, 0, none⟩) ([x584] : List Int).length 1) Try.underlying22 inf3 HO678 HO685 HS689 c687 (lim63 c687 (by decide)) ?_)
            intro A690 c691 s692 W693 HS694 HO695
            refine seqK rfl (does_run (run_indexE hA676 (sz := 1) rfl Try.underlying47 (by kernel_rfl) (by kernel_rfl : _ = Value.slice (some ⟨b40, 0, none⟩) out580.length ((l1.length : Int)).toNat) (by kernel_rfl : _ = Value.int .i64 x404) c422 c669 W693) ?_)
            have HS696 := HS694.u1
            have HS697 := HS696.u1
            refine seqK rfl (does_putN (i := x404) rfl (by kernel_rfl) HH679 HO695 HS697 (by kernel_rfl : _ = Value.pointer (some ⟨b671, 0 + (x404 : Int).toNat * 1, none⟩)) (by kernel_rfl : _ = Value.slice A690 ((rd out580 x404) ++ ([x584] : List Int)).length c691) c422 c669 ?_)
            intro W698 s699 HS700 HO701
            refine seqRwS 8 (A := (some ⟨b40, 0, none⟩)) (m := out580.length) (n := (out580.set (x404).toNat ((rd out580 x404) ++ ([x584] : List Int))).length) (c := ((l1.length : Int)).toNat) (by kernel_rfl) (List.length_set).symm ?_
            refine seqRwS 54 (A := (some ⟨b40, 0, none⟩)) (m := out580.length) (n := (out580.set (x404).toNat ((rd out580 x404) ++ ([x584] : List Int))).length) (c := ((l1.length : Int)).toNat) (by kernel_rfl) (List.length_set).symm ?_
            refine seqRwS 56 (A := (some ⟨b40, 0, none⟩)) (m := out580.length) (n := (out580.set (x404).toNat ((rd out580 x404) ++ ([x584] : List Int))).length) (c := ((l1.length : Int)).toNat) (by kernel_rfl) (List.length_set).symm ?_
            refine wpList_nil ?_
            refine hn595 _ _ ?_
            refine hK592 _ _ ?_
            refine wp_region_lit ?_
            refine seqS2 (a' := ⟨#[.slice A2 l1.length c3, iV vf5, uV, uV, .slice none 0 0, iV 0, .pointer (some ⟨b22, 0, none⟩), iV vt11, .slice (some ⟨b40, 0, none⟩) (out580.set (x404).toNat ((rd out580 x404) ++ ([x584] : List Int))).length ((l1.length : Int)).toNat, iV x404, .pointer (some ⟨b430, 0, none⟩), iV x584, .pointer (some ⟨b609, 0, none⟩), .pointer (some ⟨b633, 0, none⟩), .bool vt627, .tuple #[.agg #[iV vt10.W, iV vt10.H, .slice A17 vt10.At.length c18], iV vt11], .slice A2 l1.length c3, iV vf5, .tuple #[.agg #[iV vt10.W, iV vt10.H, .slice A17 vt10.At.length c18], iV vt11], .agg #[iV vt10.W, iV vt10.H, .slice A17 vt10.At.length c18], iV vt11, iV vt11, .bool false, uV, .slice A2 l1.length c3, iV (l1.length : Int), .slice (some ⟨b40, 0, none⟩) (List.replicate ((l1.length : Int)).toNat (([] : List Int) : List Int)).length ((l1.length : Int)).toNat, .slice A2 l1.length c3, iV (l1.length : Int), iV x404, .bool true, iV x404, .pointer (some ⟨b426, of427 + (x404 : Int).toNat * 3, none⟩), .agg #[iV ((rd l1 x404).W), iV ((rd l1 x404).H), .slice A429 ((rd l1 x404).At).length c429], .pointer (some ⟨b430, 2, none⟩), .slice A429 ((rd l1 x404).At).length c429, iV (((rd l1 x404).At).length : Int), iV (w64 (x584 + 1)), .bool true, iV x584, .pointer (some ⟨b606, of607 + (x584 : Int).toNat * 3, none⟩), .agg #[iV ((rd ((rd l1 x404).At) x584).Lo), iV ((rd ((rd l1 x404).At) x584).Hi), .bool ((rd ((rd l1 x404).At) x584).Unknown)], .tuple #[.agg #[iV vt626.Lo, iV vt626.Hi, .bool vt626.Unknown], .bool vt627], .agg #[iV ((rd ((rd l1 x404).At) x584).Lo), iV ((rd ((rd l1 x404).At) x584).Hi), .bool ((rd ((rd l1 x404).At) x584).Unknown)], .pointer (some ⟨b22, 2, none⟩), .slice A17 vt10.At.length c18, iV x584, .pointer (some ⟨b623, of624 + (x584 : Int).toNat * 3, none⟩), .agg #[iV ((rd vt10.At x584).Lo), iV ((rd vt10.At x584).Hi), .bool ((rd vt10.At x584).Unknown)], .tuple #[.agg #[iV vt626.Lo, iV vt626.Hi, .bool vt626.Unknown], .bool vt627], .agg #[iV vt626.Lo, iV vt626.Hi, .bool vt626.Unknown], .bool vt627, .bool vt627, .bool true, .slice (some ⟨b40, 0, none⟩) (out580.set (x404).toNat ((rd out580 x404) ++ ([x584] : List Int))).length ((l1.length : Int)).toNat, iV x404, .slice (some ⟨b40, 0, none⟩) (out580.set (x404).toNat ((rd out580 x404) ++ ([x584] : List Int))).length ((l1.length : Int)).toNat, iV x404, .pointer (some ⟨b671, 0 + (x404 : Int).toNat * 1, none⟩), .slice A672 (rd out580 x404).length c673, iV x584, .slice (some ⟨b681, 0, none⟩) ([x584] : List Int).length 1, .slice A690 ((rd out580 x404) ++ ([x584] : List Int)).length c691, .pointer (some ⟨b671, 0 + (x404 : Int).toNat * 1, none⟩), iV (w64 (x584 + 1)), (j399 41), uV], []⟩) (by kernel_rfl) ?_
            refine wpList_nil ?_
            refine hK573 n574 _ _ (Nat.lt_succ_self _) ?_
            have HS714 := HS700.u5
            have HS715 := HS714.u5
            have HS716 := HS715.u2
            have HS717 := HS716.u5
            have HS718 := HS717.u5
            have HS719 := HS718.u5
            have HS720 := HS719.drop
            have HS721 := HS720.drop
            exact ⟨f629, s699, (out580.set (x404).toNat ((rd out580 x404) ++ ([x584] : List Int))), (w64 (x584 + 1)), (fun i_ => [Value.int .i64 x584, Value.pointer (some ⟨b609, 0, none⟩), Value.pointer (some ⟨b633, 0, none⟩), Value.bool vt627, Value.bool true, Value.int .i64 x584, Value.pointer (some ⟨b606, of607 + (x584 : Int).toNat * 3, none⟩), Value.agg #[.int .i64 ((rd ((rd l1 x404).At) x584).Lo), .int .i64 ((rd ((rd l1 x404).At) x584).Hi), .bool ((rd ((rd l1 x404).At) x584).Unknown)], Value.tuple #[.agg #[.int .i64 vt626.Lo, .int .i64 vt626.Hi, .bool vt626.Unknown], .bool vt627], Value.agg #[.int .i64 ((rd ((rd l1 x404).At) x584).Lo), .int .i64 ((rd ((rd l1 x404).At) x584).Hi), .bool ((rd ((rd l1 x404).At) x584).Unknown)], Value.pointer (some ⟨b22, 2, none⟩), Value.slice A17 vt10.At.length c18, Value.int .i64 x584, Value.pointer (some ⟨b623, of624 + (x584 : Int).toNat * 3, none⟩), Value.agg #[.int .i64 ((rd vt10.At x584).Lo), .int .i64 ((rd vt10.At x584).Hi), .bool ((rd vt10.At x584).Unknown)], Value.tuple #[.agg #[.int .i64 vt626.Lo, .int .i64 vt626.Hi, .bool vt626.Unknown], .bool vt627], Value.agg #[.int .i64 vt626.Lo, .int .i64 vt626.Hi, .bool vt626.Unknown], Value.bool vt627, Value.bool vt627, Value.bool true, Value.slice (some ⟨b40, 0, none⟩) (out580.set (x404).toNat ((rd out580 x404) ++ ([x584] : List Int))).length ((l1.length : Int)).toNat, Value.int .i64 x404, Value.slice (some ⟨b40, 0, none⟩) (out580.set (x404).toNat ((rd out580 x404) ++ ([x584] : List Int))).length ((l1.length : Int)).toNat, Value.int .i64 x404, Value.pointer (some ⟨b671, 0 + (x404 : Int).toNat * 1, none⟩), Value.slice A672 (rd out580 x404).length c673, Value.int .i64 x584, Value.slice (some ⟨b681, 0, none⟩) ([x584] : List Int).length 1, Value.slice A690 ((rd out580 x404) ++ ([x584] : List Int)).length c691, Value.pointer (some ⟨b671, 0 + (x404 : Int).toNat * 1, none⟩), Value.int .i64 (w64 (x584 + 1))].getD i_ undef), (L576.trans L630), HS721, HO701, (List.length_set.trans HL583), h, (by kernel_rfl)⟩
          · have c668 : ¬ (¬ (vt627 = true)) := c668
            refine wpRwI 53 (x := (!vt627)) (v := false) (by kernel_rfl) (congrArg (fun b_ => !b_) (show vt627 = true from (Decidable.of_not_not c668)) : (!vt627) = false) ?_
            refine condF (by kernel_rfl) ?_
            refine wp_skip ?_
            refine hn595 _ _ ?_
            refine hK592 _ _ ?_
            refine wp_region_lit ?_
            refine seqS2 (a' := ⟨#[.slice A2 l1.length c3, iV vf5, uV, uV, .slice none 0 0, iV 0, .pointer (some ⟨b22, 0, none⟩), iV vt11, .slice (some ⟨b40, 0, none⟩) out580.length ((l1.length : Int)).toNat, iV x404, .pointer (some ⟨b430, 0, none⟩), iV x584, .pointer (some ⟨b609, 0, none⟩), .pointer (some ⟨b633, 0, none⟩), .bool vt627, .tuple #[.agg #[iV vt10.W, iV vt10.H, .slice A17 vt10.At.length c18], iV vt11], .slice A2 l1.length c3, iV vf5, .tuple #[.agg #[iV vt10.W, iV vt10.H, .slice A17 vt10.At.length c18], iV vt11], .agg #[iV vt10.W, iV vt10.H, .slice A17 vt10.At.length c18], iV vt11, iV vt11, .bool false, uV, .slice A2 l1.length c3, iV (l1.length : Int), .slice (some ⟨b40, 0, none⟩) (List.replicate ((l1.length : Int)).toNat (([] : List Int) : List Int)).length ((l1.length : Int)).toNat, .slice A2 l1.length c3, iV (l1.length : Int), iV x404, .bool true, iV x404, .pointer (some ⟨b426, of427 + (x404 : Int).toNat * 3, none⟩), .agg #[iV ((rd l1 x404).W), iV ((rd l1 x404).H), .slice A429 ((rd l1 x404).At).length c429], .pointer (some ⟨b430, 2, none⟩), .slice A429 ((rd l1 x404).At).length c429, iV (((rd l1 x404).At).length : Int), iV (w64 (x584 + 1)), .bool true, iV x584, .pointer (some ⟨b606, of607 + (x584 : Int).toNat * 3, none⟩), .agg #[iV ((rd ((rd l1 x404).At) x584).Lo), iV ((rd ((rd l1 x404).At) x584).Hi), .bool ((rd ((rd l1 x404).At) x584).Unknown)], .tuple #[.agg #[iV vt626.Lo, iV vt626.Hi, .bool vt626.Unknown], .bool vt627], .agg #[iV ((rd ((rd l1 x404).At) x584).Lo), iV ((rd ((rd l1 x404).At) x584).Hi), .bool ((rd ((rd l1 x404).At) x584).Unknown)], .pointer (some ⟨b22, 2, none⟩), .slice A17 vt10.At.length c18, iV x584, .pointer (some ⟨b623, of624 + (x584 : Int).toNat * 3, none⟩), .agg #[iV ((rd vt10.At x584).Lo), iV ((rd vt10.At x584).Hi), .bool ((rd vt10.At x584).Unknown)], .tuple #[.agg #[iV vt626.Lo, iV vt626.Hi, .bool vt626.Unknown], .bool vt627], .agg #[iV vt626.Lo, iV vt626.Hi, .bool vt626.Unknown], .bool vt627, .bool vt627, .bool false, (j579 20), (j579 21), (j579 22), (j579 23), (j579 24), (j579 25), (j579 26), (j579 27), (j579 28), (j579 29), iV (w64 (x584 + 1)), (j399 41), uV], []⟩) (by kernel_rfl) ?_
            refine wpList_nil ?_
            refine hK573 n574 _ _ (Nat.lt_succ_self _) ?_
            have HS722 := HS644.u5
            have HS723 := HS722.u5
            have HS724 := HS723.u5
            have HS725 := HS724.u5
            have HS726 := HS725.u5
            have HS727 := HS726.u5
            have HS728 := HS727.drop
            have HS729 := HS728.drop
            exact ⟨f629, s581, out580, (w64 (x584 + 1)), (fun i_ => [Value.int .i64 x584, Value.pointer (some ⟨b609, 0, none⟩), Value.pointer (some ⟨b633, 0, none⟩), Value.bool vt627, Value.bool true, Value.int .i64 x584, Value.pointer (some ⟨b606, of607 + (x584 : Int).toNat * 3, none⟩), Value.agg #[.int .i64 ((rd ((rd l1 x404).At) x584).Lo), .int .i64 ((rd ((rd l1 x404).At) x584).Hi), .bool ((rd ((rd l1 x404).At) x584).Unknown)], Value.tuple #[.agg #[.int .i64 vt626.Lo, .int .i64 vt626.Hi, .bool vt626.Unknown], .bool vt627], Value.agg #[.int .i64 ((rd ((rd l1 x404).At) x584).Lo), .int .i64 ((rd ((rd l1 x404).At) x584).Hi), .bool ((rd ((rd l1 x404).At) x584).Unknown)], Value.pointer (some ⟨b22, 2, none⟩), Value.slice A17 vt10.At.length c18, Value.int .i64 x584, Value.pointer (some ⟨b623, of624 + (x584 : Int).toNat * 3, none⟩), Value.agg #[.int .i64 ((rd vt10.At x584).Lo), .int .i64 ((rd vt10.At x584).Hi), .bool ((rd vt10.At x584).Unknown)], Value.tuple #[.agg #[.int .i64 vt626.Lo, .int .i64 vt626.Hi, .bool vt626.Unknown], .bool vt627], Value.agg #[.int .i64 vt626.Lo, .int .i64 vt626.Hi, .bool vt626.Unknown], Value.bool vt627, Value.bool vt627, Value.bool false, (j579 20), (j579 21), (j579 22), (j579 23), (j579 24), (j579 25), (j579 26), (j579 27), (j579 28), (j579 29), Value.int .i64 (w64 (x584 + 1))].getD i_ undef), (L576.trans L630), HS729, (HO582.mono L630), HL583, h, (by kernel_rfl)⟩
        refine takeEither 6 10 (by kernel_rfl) rfl rfl rfl rfl ?_ ?_
        · refine does_call (f := 43) (args := #[.agg #[.int .i64 ((rd ((rd l1 x404).At) x584).Lo), .int .i64 ((rd ((rd l1 x404).At) x584).Hi), .bool ((rd ((rd l1 x404).At) x584).Unknown)], .agg #[.int .i64 ((rd vt10.At x584).Lo), .int .i64 ((rd vt10.At x584).Hi), .bool ((rd vt10.At x584).Unknown)]]) (by kernel_rfl) (bound_Meet_Quanta.calls k (rd ((rd l1 x404).At) x584) (rd vt10.At x584) HS618 vt626 vt627 hc628) ?_
          rintro _ W647 ⟨f645, rfl, L646, HS648⟩
          refine ⟨_, rfl, ?_⟩
          refine ⟨(Sg.g0 (Sx.of [] L646 HS648)), ?_⟩
          refine takeG [7, 8, 9] (n := 6) (fuel := 3) (l' := #[true, true, true, true, true, true, true, true, true, true, false, false, false]) (a' := ⟨#[.slice A2 l1.length c3, iV vf5, uV, uV, .slice none 0 0, iV 0, .pointer (some ⟨b22, 0, none⟩), iV vt11, .slice (some ⟨b40, 0, none⟩) out580.length ((l1.length : Int)).toNat, iV x404, .pointer (some ⟨b430, 0, none⟩), iV x584, .pointer (some ⟨b609, 0, none⟩), (j579 2), (j579 3), .tuple #[.agg #[iV vt10.W, iV vt10.H, .slice A17 vt10.At.length c18], iV vt11], .slice A2 l1.length c3, iV vf5, .tuple #[.agg #[iV vt10.W, iV vt10.H, .slice A17 vt10.At.length c18], iV vt11], .agg #[iV vt10.W, iV vt10.H, .slice A17 vt10.At.length c18], iV vt11, iV vt11, .bool false, uV, .slice A2 l1.length c3, iV (l1.length : Int), .slice (some ⟨b40, 0, none⟩) (List.replicate ((l1.length : Int)).toNat (([] : List Int) : List Int)).length ((l1.length : Int)).toNat, .slice A2 l1.length c3, iV (l1.length : Int), iV x404, .bool true, iV x404, .pointer (some ⟨b426, of427 + (x404 : Int).toNat * 3, none⟩), .agg #[iV ((rd l1 x404).W), iV ((rd l1 x404).H), .slice A429 ((rd l1 x404).At).length c429], .pointer (some ⟨b430, 2, none⟩), .slice A429 ((rd l1 x404).At).length c429, iV (((rd l1 x404).At).length : Int), iV x584, .bool true, iV x584, .pointer (some ⟨b606, of607 + (x584 : Int).toNat * 3, none⟩), .agg #[iV ((rd ((rd l1 x404).At) x584).Lo), iV ((rd ((rd l1 x404).At) x584).Hi), .bool ((rd ((rd l1 x404).At) x584).Unknown)], .tuple #[.agg #[iV vt626.Lo, iV vt626.Hi, .bool vt626.Unknown], .bool vt627], .agg #[iV ((rd ((rd l1 x404).At) x584).Lo), iV ((rd ((rd l1 x404).At) x584).Hi), .bool ((rd ((rd l1 x404).At) x584).Unknown)], .pointer (some ⟨b22, 2, none⟩), .slice A17 vt10.At.length c18, iV x584, .pointer (some ⟨b623, of624 + (x584 : Int).toNat * 3, none⟩), .agg #[iV ((rd vt10.At x584).Lo), iV ((rd vt10.At x584).Hi), .bool ((rd vt10.At x584).Unknown)], .tuple #[.agg #[iV vt626.Lo, iV vt626.Hi, .bool vt626.Unknown], .bool vt627], .agg #[iV vt626.Lo, iV vt626.Hi, .bool vt626.Unknown], .bool vt627, (j579 18), (j579 19), (j579 20), (j579 21), (j579 22), (j579 23), (j579 24), (j579 25), (j579 26), (j579 27), (j579 28), (j579 29), (j579 30), (j399 41), uV], []⟩) rfl (by kernel_rfl) (by kernel_rfl) (by kernel_rfl) (fun ch_ a_ w_ q_ => (fun ch_ a_ w_ q_ => (fun ch_ a_ w_ q_ => (fun ch_ a_ w_ q_ => hnp ch_ a_ w_ (hp55 ch_ a_ w_ q_)) ch_ a_ w_ (hp418 ch_ a_ w_ q_)) ch_ a_ w_ (hp443 ch_ a_ w_ q_)) ch_ a_ w_ (hp598 ch_ a_ w_ q_)) (Sg.g0 (Sx.of [] L646 HS648)) ?_
          refine takeGE 10 (by kernel_rfl) rfl (by kernel_rfl) (does_alloc (z := Value.agg #[.int .i64 0, .int .i64 0, .bool false]) (cs := #[.int .i64 0, .int .i64 0, .bool false]) rfl (by kernel_rfl) rfl HS648 ?_)
          intro b649 W650 HS651
          refine ⟨(Sg.g0 (Sx.of [[(b649, .cells #[.int .i64 0, .int .i64 0, .bool false] 44 (0, 0))]] L646 HS651)), ?_⟩
          refine takeGE 11 (by kernel_rfl) rfl (by kernel_rfl) (does_store (n := 3) (vs := [.int .i64 vt626.Lo, .int .i64 vt626.Hi, .bool vt626.Unknown]) (cs' := #[.int .i64 vt626.Lo, .int .i64 vt626.Hi, .bool vt626.Unknown]) rfl (by kernel_rfl) (by kernel_rfl : _ = Value.pointer (some ⟨b649, 0, none⟩)) (by kernel_rfl : _ = Value.agg #[.int .i64 vt626.Lo, .int .i64 vt626.Hi, .bool vt626.Unknown]) rfl rfl (by intro u_ hu_; simp only [List.mem_cons, List.not_mem_nil, or_false] at hu_; rcases hu_ with rfl | rfl | rfl <;> rfl) HS651 (Nat.le_of_ble_eq_true rfl) (by kernel_rfl) ?_)
          intro W653 HS654
          refine ⟨(Sg.g0 (Sx.of [[(b649, .cells #[.int .i64 vt626.Lo, .int .i64 vt626.Hi, .bool vt626.Unknown] 44 (0, 0))]] L646 HS654)), ?_⟩
          refine takeG [12] (n := 1) (fuel := 0) (l' := #[true, true, true, true, true, true, true, true, true, true, true, true, true]) (a' := ⟨#[.slice A2 l1.length c3, iV vf5, uV, uV, .slice none 0 0, iV 0, .pointer (some ⟨b22, 0, none⟩), iV vt11, .slice (some ⟨b40, 0, none⟩) out580.length ((l1.length : Int)).toNat, iV x404, .pointer (some ⟨b430, 0, none⟩), iV x584, .pointer (some ⟨b609, 0, none⟩), .pointer (some ⟨b649, 0, none⟩), .bool vt627, .tuple #[.agg #[iV vt10.W, iV vt10.H, .slice A17 vt10.At.length c18], iV vt11], .slice A2 l1.length c3, iV vf5, .tuple #[.agg #[iV vt10.W, iV vt10.H, .slice A17 vt10.At.length c18], iV vt11], .agg #[iV vt10.W, iV vt10.H, .slice A17 vt10.At.length c18], iV vt11, iV vt11, .bool false, uV, .slice A2 l1.length c3, iV (l1.length : Int), .slice (some ⟨b40, 0, none⟩) (List.replicate ((l1.length : Int)).toNat (([] : List Int) : List Int)).length ((l1.length : Int)).toNat, .slice A2 l1.length c3, iV (l1.length : Int), iV x404, .bool true, iV x404, .pointer (some ⟨b426, of427 + (x404 : Int).toNat * 3, none⟩), .agg #[iV ((rd l1 x404).W), iV ((rd l1 x404).H), .slice A429 ((rd l1 x404).At).length c429], .pointer (some ⟨b430, 2, none⟩), .slice A429 ((rd l1 x404).At).length c429, iV (((rd l1 x404).At).length : Int), iV x584, .bool true, iV x584, .pointer (some ⟨b606, of607 + (x584 : Int).toNat * 3, none⟩), .agg #[iV ((rd ((rd l1 x404).At) x584).Lo), iV ((rd ((rd l1 x404).At) x584).Hi), .bool ((rd ((rd l1 x404).At) x584).Unknown)], .tuple #[.agg #[iV vt626.Lo, iV vt626.Hi, .bool vt626.Unknown], .bool vt627], .agg #[iV ((rd ((rd l1 x404).At) x584).Lo), iV ((rd ((rd l1 x404).At) x584).Hi), .bool ((rd ((rd l1 x404).At) x584).Unknown)], .pointer (some ⟨b22, 2, none⟩), .slice A17 vt10.At.length c18, iV x584, .pointer (some ⟨b623, of624 + (x584 : Int).toNat * 3, none⟩), .agg #[iV ((rd vt10.At x584).Lo), iV ((rd vt10.At x584).Hi), .bool ((rd vt10.At x584).Unknown)], .tuple #[.agg #[iV vt626.Lo, iV vt626.Hi, .bool vt626.Unknown], .bool vt627], .agg #[iV vt626.Lo, iV vt626.Hi, .bool vt626.Unknown], .bool vt627, (j579 18), (j579 19), (j579 20), (j579 21), (j579 22), (j579 23), (j579 24), (j579 25), (j579 26), (j579 27), (j579 28), (j579 29), (j579 30), (j399 41), uV], []⟩) rfl (by kernel_rfl) (by kernel_rfl) (by kernel_rfl) (fun ch_ a_ w_ q_ => (fun ch_ a_ w_ q_ => (fun ch_ a_ w_ q_ => (fun ch_ a_ w_ q_ => hnp ch_ a_ w_ (hp55 ch_ a_ w_ q_)) ch_ a_ w_ (hp418 ch_ a_ w_ q_)) ch_ a_ w_ (hp443 ch_ a_ w_ q_)) ch_ a_ w_ (hp598 ch_ a_ w_ q_)) (Sg.g0 (Sx.of [[(b649, .cells #[.int .i64 vt626.Lo, .int .i64 vt626.Hi, .bool vt626.Unknown] 44 (0, 0))]] L646 HS654)) ?_
          refine hR641 _ _ ?_
          exact J642 f645 b649 W653 _ L646 HS654 (by kernel_rfl)
        · refine does_alloc (z := Value.agg #[.int .i64 0, .int .i64 0, .bool false]) (cs := #[.int .i64 0, .int .i64 0, .bool false]) rfl (by kernel_rfl) rfl HS618 ?_
          intro b655 W656 HS657
          refine ⟨(Sg.g0 (Sx.of [[(b655, .cells #[.int .i64 0, .int .i64 0, .bool false] 44 (0, 0))]] (FM.le.refl _) HS657)), ?_⟩
          refine takeGE 6 (by kernel_rfl) rfl (by kernel_rfl) (does_call (f := 43) (args := #[.agg #[.int .i64 ((rd ((rd l1 x404).At) x584).Lo), .int .i64 ((rd ((rd l1 x404).At) x584).Hi), .bool ((rd ((rd l1 x404).At) x584).Unknown)], .agg #[.int .i64 ((rd vt10.At x584).Lo), .int .i64 ((rd vt10.At x584).Hi), .bool ((rd vt10.At x584).Unknown)]]) (by kernel_rfl) (bound_Meet_Quanta.calls k (rd ((rd l1 x404).At) x584) (rd vt10.At x584) HS657 vt626 vt627 hc628) ?_)
          rintro _ W661 ⟨f659, rfl, L660, HS662⟩
          refine ⟨_, rfl, ?_⟩
          refine ⟨(Sg.g0 (Sx.of [[(b655, .cells #[.int .i64 0, .int .i64 0, .bool false] 44 (0, 0))]] L660 HS662)), ?_⟩
          refine takeG [7, 8, 9] (n := 5) (fuel := 2) (l' := #[true, true, true, true, true, true, true, true, true, true, true, false, false]) (a' := ⟨#[.slice A2 l1.length c3, iV vf5, uV, uV, .slice none 0 0, iV 0, .pointer (some ⟨b22, 0, none⟩), iV vt11, .slice (some ⟨b40, 0, none⟩) out580.length ((l1.length : Int)).toNat, iV x404, .pointer (some ⟨b430, 0, none⟩), iV x584, .pointer (some ⟨b609, 0, none⟩), .pointer (some ⟨b655, 0, none⟩), (j579 3), .tuple #[.agg #[iV vt10.W, iV vt10.H, .slice A17 vt10.At.length c18], iV vt11], .slice A2 l1.length c3, iV vf5, .tuple #[.agg #[iV vt10.W, iV vt10.H, .slice A17 vt10.At.length c18], iV vt11], .agg #[iV vt10.W, iV vt10.H, .slice A17 vt10.At.length c18], iV vt11, iV vt11, .bool false, uV, .slice A2 l1.length c3, iV (l1.length : Int), .slice (some ⟨b40, 0, none⟩) (List.replicate ((l1.length : Int)).toNat (([] : List Int) : List Int)).length ((l1.length : Int)).toNat, .slice A2 l1.length c3, iV (l1.length : Int), iV x404, .bool true, iV x404, .pointer (some ⟨b426, of427 + (x404 : Int).toNat * 3, none⟩), .agg #[iV ((rd l1 x404).W), iV ((rd l1 x404).H), .slice A429 ((rd l1 x404).At).length c429], .pointer (some ⟨b430, 2, none⟩), .slice A429 ((rd l1 x404).At).length c429, iV (((rd l1 x404).At).length : Int), iV x584, .bool true, iV x584, .pointer (some ⟨b606, of607 + (x584 : Int).toNat * 3, none⟩), .agg #[iV ((rd ((rd l1 x404).At) x584).Lo), iV ((rd ((rd l1 x404).At) x584).Hi), .bool ((rd ((rd l1 x404).At) x584).Unknown)], .tuple #[.agg #[iV vt626.Lo, iV vt626.Hi, .bool vt626.Unknown], .bool vt627], .agg #[iV ((rd ((rd l1 x404).At) x584).Lo), iV ((rd ((rd l1 x404).At) x584).Hi), .bool ((rd ((rd l1 x404).At) x584).Unknown)], .pointer (some ⟨b22, 2, none⟩), .slice A17 vt10.At.length c18, iV x584, .pointer (some ⟨b623, of624 + (x584 : Int).toNat * 3, none⟩), .agg #[iV ((rd vt10.At x584).Lo), iV ((rd vt10.At x584).Hi), .bool ((rd vt10.At x584).Unknown)], .tuple #[.agg #[iV vt626.Lo, iV vt626.Hi, .bool vt626.Unknown], .bool vt627], .agg #[iV vt626.Lo, iV vt626.Hi, .bool vt626.Unknown], .bool vt627, (j579 18), (j579 19), (j579 20), (j579 21), (j579 22), (j579 23), (j579 24), (j579 25), (j579 26), (j579 27), (j579 28), (j579 29), (j579 30), (j399 41), uV], []⟩) rfl (by kernel_rfl) (by kernel_rfl) (by kernel_rfl) (fun ch_ a_ w_ q_ => (fun ch_ a_ w_ q_ => (fun ch_ a_ w_ q_ => (fun ch_ a_ w_ q_ => hnp ch_ a_ w_ (hp55 ch_ a_ w_ q_)) ch_ a_ w_ (hp418 ch_ a_ w_ q_)) ch_ a_ w_ (hp443 ch_ a_ w_ q_)) ch_ a_ w_ (hp598 ch_ a_ w_ q_)) (Sg.g0 (Sx.of [[(b655, .cells #[.int .i64 0, .int .i64 0, .bool false] 44 (0, 0))]] L660 HS662)) ?_
          refine takeGE 11 (by kernel_rfl) rfl (by kernel_rfl) (does_store (n := 3) (vs := [.int .i64 vt626.Lo, .int .i64 vt626.Hi, .bool vt626.Unknown]) (cs' := #[.int .i64 vt626.Lo, .int .i64 vt626.Hi, .bool vt626.Unknown]) rfl (by kernel_rfl) (by kernel_rfl : _ = Value.pointer (some ⟨b655, 0, none⟩)) (by kernel_rfl : _ = Value.agg #[.int .i64 vt626.Lo, .int .i64 vt626.Hi, .bool vt626.Unknown]) rfl rfl (by intro u_ hu_; simp only [List.mem_cons, List.not_mem_nil, or_false] at hu_; rcases hu_ with rfl | rfl | rfl <;> rfl) HS662 (Nat.le_of_ble_eq_true rfl) (by kernel_rfl) ?_)
          intro W663 HS664
          refine ⟨(Sg.g0 (Sx.of [[(b655, .cells #[.int .i64 vt626.Lo, .int .i64 vt626.Hi, .bool vt626.Unknown] 44 (0, 0))]] L660 HS664)), ?_⟩
          refine takeG [12] (n := 1) (fuel := 0) (l' := #[true, true, true, true, true, true, true, true, true, true, true, true, true]) (a' := ⟨#[.slice A2 l1.length c3, iV vf5, uV, uV, .slice none 0 0, iV 0, .pointer (some ⟨b22, 0, none⟩), iV vt11, .slice (some ⟨b40, 0, none⟩) out580.length ((l1.length : Int)).toNat, iV x404, .pointer (some ⟨b430, 0, none⟩), iV x584, .pointer (some ⟨b609, 0, none⟩), .pointer (some ⟨b655, 0, none⟩), .bool vt627, .tuple #[.agg #[iV vt10.W, iV vt10.H, .slice A17 vt10.At.length c18], iV vt11], .slice A2 l1.length c3, iV vf5, .tuple #[.agg #[iV vt10.W, iV vt10.H, .slice A17 vt10.At.length c18], iV vt11], .agg #[iV vt10.W, iV vt10.H, .slice A17 vt10.At.length c18], iV vt11, iV vt11, .bool false, uV, .slice A2 l1.length c3, iV (l1.length : Int), .slice (some ⟨b40, 0, none⟩) (List.replicate ((l1.length : Int)).toNat (([] : List Int) : List Int)).length ((l1.length : Int)).toNat, .slice A2 l1.length c3, iV (l1.length : Int), iV x404, .bool true, iV x404, .pointer (some ⟨b426, of427 + (x404 : Int).toNat * 3, none⟩), .agg #[iV ((rd l1 x404).W), iV ((rd l1 x404).H), .slice A429 ((rd l1 x404).At).length c429], .pointer (some ⟨b430, 2, none⟩), .slice A429 ((rd l1 x404).At).length c429, iV (((rd l1 x404).At).length : Int), iV x584, .bool true, iV x584, .pointer (some ⟨b606, of607 + (x584 : Int).toNat * 3, none⟩), .agg #[iV ((rd ((rd l1 x404).At) x584).Lo), iV ((rd ((rd l1 x404).At) x584).Hi), .bool ((rd ((rd l1 x404).At) x584).Unknown)], .tuple #[.agg #[iV vt626.Lo, iV vt626.Hi, .bool vt626.Unknown], .bool vt627], .agg #[iV ((rd ((rd l1 x404).At) x584).Lo), iV ((rd ((rd l1 x404).At) x584).Hi), .bool ((rd ((rd l1 x404).At) x584).Unknown)], .pointer (some ⟨b22, 2, none⟩), .slice A17 vt10.At.length c18, iV x584, .pointer (some ⟨b623, of624 + (x584 : Int).toNat * 3, none⟩), .agg #[iV ((rd vt10.At x584).Lo), iV ((rd vt10.At x584).Hi), .bool ((rd vt10.At x584).Unknown)], .tuple #[.agg #[iV vt626.Lo, iV vt626.Hi, .bool vt626.Unknown], .bool vt627], .agg #[iV vt626.Lo, iV vt626.Hi, .bool vt626.Unknown], .bool vt627, (j579 18), (j579 19), (j579 20), (j579 21), (j579 22), (j579 23), (j579 24), (j579 25), (j579 26), (j579 27), (j579 28), (j579 29), (j579 30), (j399 41), uV], []⟩) rfl (by kernel_rfl) (by kernel_rfl) (by kernel_rfl) (fun ch_ a_ w_ q_ => (fun ch_ a_ w_ q_ => (fun ch_ a_ w_ q_ => (fun ch_ a_ w_ q_ => hnp ch_ a_ w_ (hp55 ch_ a_ w_ q_)) ch_ a_ w_ (hp418 ch_ a_ w_ q_)) ch_ a_ w_ (hp443 ch_ a_ w_ q_)) ch_ a_ w_ (hp598 ch_ a_ w_ q_)) (Sg.g0 (Sx.of [[(b655, .cells #[.int .i64 vt626.Lo, .int .i64 vt626.Hi, .bool vt626.Unknown] 44 (0, 0))]] L660 HS664)) ?_
          refine hR641 _ _ ?_
          exact J642 f659 b655 W663 _ L660 HS664 (by kernel_rfl)
      · have c590 : ¬ (x584 < (((rd l1 x404).At).length : Int)) := c590
        refine wpRwI 38 (x := (decide (x584 < (((rd l1 x404).At).length : Int)))) (v := false) (by kernel_rfl) (decide_eq_false c590) ?_
        refine condF (by kernel_rfl) ?_
        refine wp_exit ?_
        refine hx439 _ _ ?_
        exact J712 f575 s581 out580 (fun i_ => [(j579 0), (j579 1), (j579 2), (j579 3), Value.int .i64 x584, Value.bool false, (j579 5), (j579 6), (j579 7), (j579 8), (j579 9), (j579 10), (j579 11), (j579 12), (j579 13), (j579 14), (j579 15), (j579 16), (j579 17), (j579 18), (j579 19), (j579 20), (j579 21), (j579 22), (j579 23), (j579 24), (j579 25), (j579 26), (j579 27), (j579 28), (j579 29), (j579 30)].getD i_ undef) W577 _ L576 h HS578 HO582 HL583 (by kernel_rfl)
    · have c410 : ¬ (x404 < (l1.length : Int)) := c410
      refine wpRwI 30 (x := (decide (x404 < (l1.length : Int)))) (v := false) (by kernel_rfl) (decide_eq_false c410) ?_
      refine condF (by kernel_rfl) ?_
      refine wp_exit ?_
      refine hx51 _ _ ?_
      exact J740 f395 s401 out400 (fun i_ => [(j399 0), (j399 1), (j399 2), (j399 3), (j399 4), (j399 5), Value.slice (some ⟨b40, 0, none⟩) (List.replicate ((l1.length : Int)).toNat (([] : List Int) : List Int)).length ((l1.length : Int)).toNat, Value.int .i64 x404, Value.bool false, (j399 7), (j399 8), (j399 9), (j399 10), (j399 11), (j399 12), (j399 13), (j399 14), (j399 15), (j399 16), (j399 17), (j399 18), (j399 19), (j399 20), (j399 21), (j399 22), (j399 23), (j399 24), (j399 25), (j399 26), (j399 27), (j399 28), (j399 29), (j399 30), (j399 31), (j399 32), (j399 33), (j399 34), (j399 35), (j399 36), (j399 37), (j399 38), (j399 39), (j399 40), (j399 41)].getD i_ undef) W397 _ L396 h HS398 HO402 HL403 (by kernel_rfl)

set_option maxRecDepth 100000 in
set_option maxHeartbeats 4000000 in
theorem spykeep3_combined.calls (k : Nat)   {t w : World} {f : FM} {H : List Seg} (HS : St t w f (H)) (r1 : Bool) (h : spykeep3_combined k = some r1) :
    Calls Try.prog 16 #[] w (fun e w' => ∃ (g : FM), e = .returned (Value.bool r1) ∧ FM.le f g ∧ St t w' g (H)) := by
  unfold spykeep3_combined at h
  refine enter Try.func16 rfl (tm := #[uV, uV, uV, uV, uV, uV, uV, uV, uV, uV, uV, uV, uV, uV, uV, uV, uV, uV, uV, uV, uV, uV, uV, uV, uV, uV, uV, uV, uV, uV, uV, uV]) (by kernel_rfl) ?_
  intro B hret hnor hnp
  refine wp_seq_k (fun K1 hK2 => ?_)
  refine wp_region_lit ?_
  refine seqS1 (a' := ⟨#[.bool false, uV, uV, uV, uV, uV, uV, uV, uV, uV, uV, uV, uV, uV, uV, uV, uV, uV, uV, uV, uV, uV, uV, uV, uV, uV, uV, uV, uV, uV, uV, uV], []⟩) (by kernel_rfl) ?_
  refine wpList_nil ?_
  refine hK2 _ _ ?_
  refine wp_seq_k (fun K3 hK4 => ?_)
  refine wp_region_lit ?_
  refine seqL1 (by kernel_rfl) ?_
  refine seqK rfl (does_lit (e := ty_Bound) (E := 44) (vs := #[(0, Value.agg #[.int .i64 3, .int .i64 5, .bool false])]) (cs := #[.int .i64 3, .int .i64 5, .bool false]) (xs := ([(⟨3, 5, false⟩ : S_Bound)] : List S_Bound)) rfl Try.underlying32 (by kernel_rfl) (by kernel_rfl) ⟨[.int .i64 3, .int .i64 5, .bool false], _, rfl, rfl, rfl⟩ rfl HS ?_ (by decide))
  intro b5 W6 s7 HS8 _ HO9
  refine seqL1 (by kernel_rfl) ?_
  refine seqK rfl (does_alloc (z := Value.agg #[.int .i64 0, .int .i64 0, .slice none 0 0]) (cs := #[.int .i64 0, .int .i64 0, .slice none 0 0]) rfl (by kernel_rfl) rfl HS8 ?_)
  intro b11 W12 HS13
  refine seqK rfl (does_store (n := 3) (vs := [.int .i64 1, .int .i64 1, .slice (some ⟨b5, 0, none⟩) ([(⟨3, 5, false⟩ : S_Bound)] : List S_Bound).length 1]) (cs' := #[.int .i64 1, .int .i64 1, .slice (some ⟨b5, 0, none⟩) ([(⟨3, 5, false⟩ : S_Bound)] : List S_Bound).length 1]) rfl (by kernel_rfl) (by kernel_rfl : _ = Value.pointer (some ⟨b11, 0, none⟩)) (by kernel_rfl : _ = Value.agg #[.int .i64 1, .int .i64 1, .slice (some ⟨b5, 0, none⟩) ([(⟨3, 5, false⟩ : S_Bound)] : List S_Bound).length 1]) rfl rfl (by intro u_ hu_; simp only [List.mem_cons, List.not_mem_nil, or_false] at hu_; rcases hu_ with rfl | rfl | rfl <;> rfl) HS13 (Nat.le_of_ble_eq_true rfl) (by kernel_rfl) ?_)
  intro W15 HS16
  refine wpList_nil ?_
  refine hK4 _ _ ?_
  refine wp_seq_k (fun K17 hK18 => ?_)
  refine wp_region_lit ?_
  refine seqK rfl (does_run (run_loadN (n := 3) rfl Try.underlying34 rfl (by kernel_rfl) (by kernel_rfl : _ = Value.pointer (some ⟨b11, 0, none⟩)) (cs := [.int .i64 1, .int .i64 1, .slice (some ⟨b5, 0, none⟩) ([(⟨3, 5, false⟩ : S_Bound)] : List S_Bound).length 1]) rfl (HS16.cells 0 3 _ rfl)) ?_)
  have HS19 := HS16.u1
  obtain ⟨f20, L21, HS22, HR23⟩ := HO9.freeze HS19
  refine seqK rfl (does_lit (e := ty_Cells) (E := 34) (vs := #[(0, Value.agg #[.int .i64 1, .int .i64 1, .slice (some ⟨b5, 0, none⟩) ([(⟨3, 5, false⟩ : S_Bound)] : List S_Bound).length 1])]) (cs := #[.int .i64 1, .int .i64 1, .slice (some ⟨b5, 0, none⟩) ([(⟨3, 5, false⟩ : S_Bound)] : List S_Bound).length 1]) (xs := ([(⟨1, 1, ([(⟨3, 5, false⟩ : S_Bound)] : List S_Bound)⟩ : S_Cells)] : List S_Cells)) rfl Try.underlying27 (by kernel_rfl) (by kernel_rfl) ⟨[.int .i64 1, .int .i64 1, .slice (some ⟨b5, 0, none⟩) ([(⟨3, 5, false⟩ : S_Bound)] : List S_Bound).length 1], _, rfl, ⟨(some ⟨b5, 0, none⟩), 1, rfl, HR23⟩, rfl⟩ rfl HS22 ?_ (by decide))
  intro b24 W25 s26 HS27 _ HO28
  obtain ⟨f30, L31, HS32, HR33, th34⟩ := HO28.lend HS27
  have hq_ := bind_some h; clear h; obtain ⟨⟨vt35, vt36⟩, hc37, h⟩ := hq_
  refine seqK rfl (does_call (f := 13) (args := #[.slice (some ⟨b24, 0, none⟩) ([(⟨1, 1, ([(⟨3, 5, false⟩ : S_Bound)] : List S_Bound)⟩ : S_Cells)] : List S_Cells).length 1, .int .i64 0]) (by kernel_rfl) (clean_Combine.calls k (some ⟨b24, 0, none⟩) 1 ([(⟨1, 1, ([(⟨3, 5, false⟩ : S_Bound)] : List S_Bound)⟩ : S_Cells)] : List S_Cells) 0 HS32 HR33 vt35 vt36 hc37) ?_)
  rintro _ W40 ⟨f38, A42, c43, s44, rfl, L39, HS41, HO45⟩
  refine ⟨_, rfl, ?_⟩
  obtain ⟨f47, L48, HS49⟩ := th34 L39 HS41
  replace HO45 := HO45.flat (g := f47) (fun _ _ _ _ h_ => h_)
  refine seqL3 (by kernel_rfl) ?_
  refine seqK rfl (does_alloc (z := Value.agg #[.int .i64 0, .int .i64 0, .slice none 0 0]) (cs := #[.int .i64 0, .int .i64 0, .slice none 0 0]) rfl (by kernel_rfl) rfl HS49 ?_)
  intro b50 W51 HS52
  refine seqK rfl (does_store (n := 3) (vs := [.int .i64 vt35.W, .int .i64 vt35.H, .slice A42 vt35.At.length c43]) (cs' := #[.int .i64 vt35.W, .int .i64 vt35.H, .slice A42 vt35.At.length c43]) rfl (by kernel_rfl) (by kernel_rfl : _ = Value.pointer (some ⟨b50, 0, none⟩)) (by kernel_rfl : _ = Value.agg #[.int .i64 vt35.W, .int .i64 vt35.H, .slice A42 vt35.At.length c43]) rfl rfl (by intro u_ hu_; simp only [List.mem_cons, List.not_mem_nil, or_false] at hu_; rcases hu_ with rfl | rfl | rfl <;> rfl) HS52 (Nat.le_of_ble_eq_true rfl) (by kernel_rfl) ?_)
  intro W54 HS55
  refine seqS1 (a' := ⟨#[.bool false, .pointer (some ⟨b11, 0, none⟩), .pointer (some ⟨b50, 0, none⟩), iV vt36, .agg #[iV 3, iV 5, .bool false], .slice (some ⟨b5, 0, none⟩) ([(⟨3, 5, false⟩ : S_Bound)] : List S_Bound).length 1, .agg #[iV 1, iV 1, .slice (some ⟨b5, 0, none⟩) ([(⟨3, 5, false⟩ : S_Bound)] : List S_Bound).length 1], .tuple #[.agg #[iV vt35.W, iV vt35.H, .slice A42 vt35.At.length c43], iV vt36], .agg #[iV 1, iV 1, .slice (some ⟨b5, 0, none⟩) ([(⟨3, 5, false⟩ : S_Bound)] : List S_Bound).length 1], .slice (some ⟨b24, 0, none⟩) ([(⟨1, 1, ([(⟨3, 5, false⟩ : S_Bound)] : List S_Bound)⟩ : S_Cells)] : List S_Cells).length 1, .tuple #[.agg #[iV vt35.W, iV vt35.H, .slice A42 vt35.At.length c43], iV vt36], .agg #[iV vt35.W, iV vt35.H, .slice A42 vt35.At.length c43], iV vt36, uV, uV, uV, uV, uV, uV, uV, uV, uV, uV, uV, uV, uV, uV, uV, uV, uV, uV, uV], []⟩) (by kernel_rfl) ?_
  refine wpList_nil ?_
  refine hK18 _ _ ?_
  refine wp_seq_k (fun K56 hK57 => ?_)
  refine heldG (S := Sg t f47 ([(b50, .cells #[.int .i64 vt35.W, .int .i64 vt35.H, .slice A42 vt35.At.length c43] 34 (0, 0))] :: s26 :: s44 :: [(b11, .cells #[.int .i64 1, .int .i64 1, .slice (some ⟨b5, 0, none⟩) ([(⟨3, 5, false⟩ : S_Bound)] : List S_Bound).length 1] 34 (0, 0))] :: H) []) (n := 20) (by kernel_rfl) rfl HS55 ?_
  intro W58 HS59
  refine takeG [0, 1, 2] (n := 20) (fuel := 17) (l' := #[true, true, true, false, false, false, false, false, false, false, false, false, false, false, false, false, false, false, false, false]) (a' := ⟨#[.bool false, .pointer (some ⟨b11, 0, none⟩), .pointer (some ⟨b50, 0, none⟩), iV vt36, .agg #[iV 3, iV 5, .bool false], .slice (some ⟨b5, 0, none⟩) ([(⟨3, 5, false⟩ : S_Bound)] : List S_Bound).length 1, .agg #[iV 1, iV 1, .slice (some ⟨b5, 0, none⟩) ([(⟨3, 5, false⟩ : S_Bound)] : List S_Bound).length 1], .tuple #[.agg #[iV vt35.W, iV vt35.H, .slice A42 vt35.At.length c43], iV vt36], .agg #[iV 1, iV 1, .slice (some ⟨b5, 0, none⟩) ([(⟨3, 5, false⟩ : S_Bound)] : List S_Bound).length 1], .slice (some ⟨b24, 0, none⟩) ([(⟨1, 1, ([(⟨3, 5, false⟩ : S_Bound)] : List S_Bound)⟩ : S_Cells)] : List S_Cells).length 1, .tuple #[.agg #[iV vt35.W, iV vt35.H, .slice A42 vt35.At.length c43], iV vt36], .agg #[iV vt35.W, iV vt35.H, .slice A42 vt35.At.length c43], iV vt36, iV vt36, .bool (vt36 == 0), .bool (vt36 == 0), uV, uV, uV, uV, uV, uV, uV, uV, uV, uV, uV, uV, uV, uV, uV, uV], []⟩) rfl (by kernel_rfl) (by kernel_rfl) (by kernel_rfl) hnp (Sg.g0 (Sx.of [] (FM.le.refl _) HS59)) ?_
  have hq_ := ite_some h; clear h; rcases hq_ with ⟨c60, h⟩ | ⟨c60, h⟩
  · have c60 : vt36 = 0 := c60
    refine gateRwI 14 (x := (vt36 == 0)) (v := true) (by kernel_rfl) (beq_iff_eq.mpr c60) ?_
    refine gateRwI 15 (x := (vt36 == 0)) (v := true) (by kernel_rfl) (beq_iff_eq.mpr c60) ?_
    refine takeG [3] (n := 17) (fuel := 16) (l' := #[true, true, true, true, false, false, false, false, false, false, false, false, false, false, false, false, false, false, false, false]) (a' := ⟨#[.bool false, .pointer (some ⟨b11, 0, none⟩), .pointer (some ⟨b50, 0, none⟩), iV vt36, .agg #[iV 3, iV 5, .bool false], .slice (some ⟨b5, 0, none⟩) ([(⟨3, 5, false⟩ : S_Bound)] : List S_Bound).length 1, .agg #[iV 1, iV 1, .slice (some ⟨b5, 0, none⟩) ([(⟨3, 5, false⟩ : S_Bound)] : List S_Bound).length 1], .tuple #[.agg #[iV vt35.W, iV vt35.H, .slice A42 vt35.At.length c43], iV vt36], .agg #[iV 1, iV 1, .slice (some ⟨b5, 0, none⟩) ([(⟨3, 5, false⟩ : S_Bound)] : List S_Bound).length 1], .slice (some ⟨b24, 0, none⟩) ([(⟨1, 1, ([(⟨3, 5, false⟩ : S_Bound)] : List S_Bound)⟩ : S_Cells)] : List S_Cells).length 1, .tuple #[.agg #[iV vt35.W, iV vt35.H, .slice A42 vt35.At.length c43], iV vt36], .agg #[iV vt35.W, iV vt35.H, .slice A42 vt35.At.length c43], iV vt36, iV vt36, .bool true, .bool true, .pointer (some ⟨b50, 2, none⟩), uV, uV, uV, uV, uV, uV, uV, uV, uV, uV, uV, uV, uV, uV, uV], []⟩) rfl (by kernel_rfl) (by kernel_rfl) (by kernel_rfl) hnp (Sg.g0 (Sx.of [] (FM.le.refl _) HS59)) ?_
    refine takeGQ 4 [] rfl (by kernel_rfl) (by kernel_rfl) (by kernel_rfl) (by kernel_rfl) (by kernel_rfl) (by kernel_rfl) hnp (Sg.g0 (Sx.of [] (FM.le.refl _) HS59)) (fun w_ hw_ => by obtain ⟨g_, hl_, hS_⟩ := hw_.st; exact run_load rfl Try.underlying32 rfl (by kernel_rfl : _ = Value.pointer (some ⟨b50, 2, none⟩)) (hS_.cell 2)) ?_
    refine takeG [5, 6, 7, 8] (n := 15) (fuel := 11) (l' := #[true, true, true, true, true, true, true, true, true, false, false, false, false, false, false, false, false, false, false, false]) (a' := ⟨#[.bool false, .pointer (some ⟨b11, 0, none⟩), .pointer (some ⟨b50, 0, none⟩), iV vt36, .agg #[iV 3, iV 5, .bool false], .slice (some ⟨b5, 0, none⟩) ([(⟨3, 5, false⟩ : S_Bound)] : List S_Bound).length 1, .agg #[iV 1, iV 1, .slice (some ⟨b5, 0, none⟩) ([(⟨3, 5, false⟩ : S_Bound)] : List S_Bound).length 1], .tuple #[.agg #[iV vt35.W, iV vt35.H, .slice A42 vt35.At.length c43], iV vt36], .agg #[iV 1, iV 1, .slice (some ⟨b5, 0, none⟩) ([(⟨3, 5, false⟩ : S_Bound)] : List S_Bound).length 1], .slice (some ⟨b24, 0, none⟩) ([(⟨1, 1, ([(⟨3, 5, false⟩ : S_Bound)] : List S_Bound)⟩ : S_Cells)] : List S_Cells).length 1, .tuple #[.agg #[iV vt35.W, iV vt35.H, .slice A42 vt35.At.length c43], iV vt36], .agg #[iV vt35.W, iV vt35.H, .slice A42 vt35.At.length c43], iV vt36, iV vt36, .bool true, .bool true, .pointer (some ⟨b50, 2, none⟩), .slice A42 vt35.At.length c43, iV (vt35.At.length : Int), .bool ((vt35.At.length : Int) == 1), .bool ((vt35.At.length : Int) == 1), .bool ((vt35.At.length : Int) == 1), uV, uV, uV, uV, uV, uV, uV, uV, uV, uV], []⟩) rfl (by kernel_rfl) (by kernel_rfl) (by kernel_rfl) hnp (Sg.g0 (Sx.of [] (FM.le.refl _) HS59)) ?_
    have hq_ := ite_some h; clear h; rcases hq_ with ⟨c61, h⟩ | ⟨c61, h⟩
    · have c61 : (vt35.At.length : Int) = 1 := c61
      refine gateRwI 19 (x := ((vt35.At.length : Int) == 1)) (v := true) (by kernel_rfl) (beq_iff_eq.mpr c61) ?_
      refine gateRwI 20 (x := ((vt35.At.length : Int) == 1)) (v := true) (by kernel_rfl) (beq_iff_eq.mpr c61) ?_
      refine gateRwI 21 (x := ((vt35.At.length : Int) == 1)) (v := true) (by kernel_rfl) (beq_iff_eq.mpr c61) ?_
      refine takeG [9] (n := 11) (fuel := 10) (l' := #[true, true, true, true, true, true, true, true, true, true, false, false, false, false, false, false, false, false, false, false]) (a' := ⟨#[.bool false, .pointer (some ⟨b11, 0, none⟩), .pointer (some ⟨b50, 0, none⟩), iV vt36, .agg #[iV 3, iV 5, .bool false], .slice (some ⟨b5, 0, none⟩) ([(⟨3, 5, false⟩ : S_Bound)] : List S_Bound).length 1, .agg #[iV 1, iV 1, .slice (some ⟨b5, 0, none⟩) ([(⟨3, 5, false⟩ : S_Bound)] : List S_Bound).length 1], .tuple #[.agg #[iV vt35.W, iV vt35.H, .slice A42 vt35.At.length c43], iV vt36], .agg #[iV 1, iV 1, .slice (some ⟨b5, 0, none⟩) ([(⟨3, 5, false⟩ : S_Bound)] : List S_Bound).length 1], .slice (some ⟨b24, 0, none⟩) ([(⟨1, 1, ([(⟨3, 5, false⟩ : S_Bound)] : List S_Bound)⟩ : S_Cells)] : List S_Cells).length 1, .tuple #[.agg #[iV vt35.W, iV vt35.H, .slice A42 vt35.At.length c43], iV vt36], .agg #[iV vt35.W, iV vt35.H, .slice A42 vt35.At.length c43], iV vt36, iV vt36, .bool true, .bool true, .pointer (some ⟨b50, 2, none⟩), .slice A42 vt35.At.length c43, iV (vt35.At.length : Int), .bool true, .bool true, .bool true, .pointer (some ⟨b50, 2, none⟩), uV, uV, uV, uV, uV, uV, uV, uV, uV], []⟩) rfl (by kernel_rfl) (by kernel_rfl) (by kernel_rfl) hnp (Sg.g0 (Sx.of [] (FM.le.refl _) HS59)) ?_
      refine takeGQ 10 [] rfl (by kernel_rfl) (by kernel_rfl) (by kernel_rfl) (by kernel_rfl) (by kernel_rfl) (by kernel_rfl) hnp (Sg.g0 (Sx.of [] (FM.le.refl _) HS59)) (fun w_ hw_ => by obtain ⟨g_, hl_, hS_⟩ := hw_.st; exact run_load rfl Try.underlying32 rfl (by kernel_rfl : _ = Value.pointer (some ⟨b50, 2, none⟩)) (hS_.cell 2)) ?_
      have hq_ := guard_some h; clear h; obtain ⟨c62, h⟩ := hq_
      have c62 : 0 < (vt35.At.length : Int) := c62
      obtain ⟨b66, of67, cs63, hA68, hr64, hc65⟩ := HO45.at (i := 0) (by decide) c62
      obtain rfl := hr64
      refine takeGQ 11 [] rfl (by kernel_rfl) (by kernel_rfl) (by kernel_rfl) (by kernel_rfl) (by kernel_rfl) (by kernel_rfl) hnp (Sg.g0 (Sx.of [] (FM.le.refl _) HS59)) (fun w_ hw_ => by obtain ⟨g_, hl_, hS_⟩ := hw_.st; exact run_indexE hA68 (sz := 3) rfl Try.underlying32 (by kernel_rfl) (by kernel_rfl : _ = Value.slice A42 vt35.At.length c43) (by kernel_rfl : _ = Value.int .i64 0) (by decide) c62 w_) ?_
      refine takeGQ 12 [] rfl (by kernel_rfl) (by kernel_rfl) (by kernel_rfl) (by kernel_rfl) (by kernel_rfl) (by kernel_rfl) hnp (Sg.g0 (Sx.of [] (FM.le.refl _) HS59)) (fun w_ hw_ => by obtain ⟨g_, hl_, hS_⟩ := hw_.st; exact run_loadN (n := 3) rfl Try.underlying44 rfl (by kernel_rfl) (by kernel_rfl : _ = Value.pointer (some ⟨b66, of67 + (0 : Int).toNat * 3, none⟩)) (cs := [.int .i64 ((rd vt35.At 0).Lo), .int .i64 ((rd vt35.At 0).Hi), .bool ((rd vt35.At 0).Unknown)]) rfl (fun j_ hj_ => ((hc65 hS_.u2) j_ hj_))) ?_
      refine takeG [13] (n := 7) (fuel := 6) (l' := #[true, true, true, true, true, true, true, true, true, true, true, true, true, true, false, false, false, false, false, false]) (a' := ⟨#[.bool false, .pointer (some ⟨b11, 0, none⟩), .pointer (some ⟨b50, 0, none⟩), iV vt36, .agg #[iV 3, iV 5, .bool false], .slice (some ⟨b5, 0, none⟩) ([(⟨3, 5, false⟩ : S_Bound)] : List S_Bound).length 1, .agg #[iV 1, iV 1, .slice (some ⟨b5, 0, none⟩) ([(⟨3, 5, false⟩ : S_Bound)] : List S_Bound).length 1], .tuple #[.agg #[iV vt35.W, iV vt35.H, .slice A42 vt35.At.length c43], iV vt36], .agg #[iV 1, iV 1, .slice (some ⟨b5, 0, none⟩) ([(⟨3, 5, false⟩ : S_Bound)] : List S_Bound).length 1], .slice (some ⟨b24, 0, none⟩) ([(⟨1, 1, ([(⟨3, 5, false⟩ : S_Bound)] : List S_Bound)⟩ : S_Cells)] : List S_Cells).length 1, .tuple #[.agg #[iV vt35.W, iV vt35.H, .slice A42 vt35.At.length c43], iV vt36], .agg #[iV vt35.W, iV vt35.H, .slice A42 vt35.At.length c43], iV vt36, iV vt36, .bool true, .bool true, .pointer (some ⟨b50, 2, none⟩), .slice A42 vt35.At.length c43, iV (vt35.At.length : Int), .bool true, .bool true, .bool true, .pointer (some ⟨b50, 2, none⟩), .slice A42 vt35.At.length c43, .pointer (some ⟨b66, of67 + (0 : Int).toNat * 3, none⟩), .agg #[iV ((rd vt35.At 0).Lo), iV ((rd vt35.At 0).Hi), .bool ((rd vt35.At 0).Unknown)], .pointer (some ⟨b11, 2, none⟩), uV, uV, uV, uV, uV], []⟩) rfl (by kernel_rfl) (by kernel_rfl) (by kernel_rfl) hnp (Sg.g0 (Sx.of [] (FM.le.refl _) HS59)) ?_
      refine takeGQ 14 [] rfl (by kernel_rfl) (by kernel_rfl) (by kernel_rfl) (by kernel_rfl) (by kernel_rfl) (by kernel_rfl) hnp (Sg.g0 (Sx.of [] (FM.le.refl _) HS59)) (fun w_ hw_ => by obtain ⟨g_, hl_, hS_⟩ := hw_.st; exact run_load rfl Try.underlying32 rfl (by kernel_rfl : _ = Value.pointer (some ⟨b11, 2, none⟩)) (hS_.u3.cell 2)) ?_
      have hq_ := guard_some h; clear h; obtain ⟨c69, h⟩ := hq_
      have c69 : 0 < (([(⟨3, 5, false⟩ : S_Bound)] : List S_Bound).length : Int) := c69
      obtain ⟨cs70, hr71, hc72⟩ := (HR23.mono L48).at' (i := 0) (by decide) c69
      obtain rfl := hr71
      refine takeGQ 15 [] rfl (by kernel_rfl) (by kernel_rfl) (by kernel_rfl) (by kernel_rfl) (by kernel_rfl) (by kernel_rfl) hnp (Sg.g0 (Sx.of [] (FM.le.refl _) HS59)) (fun w_ hw_ => by obtain ⟨g_, hl_, hS_⟩ := hw_.st; exact run_index (sz := 3) rfl Try.underlying32 (by kernel_rfl) (by kernel_rfl : _ = Value.slice (some ⟨b5, 0, none⟩) ([(⟨3, 5, false⟩ : S_Bound)] : List S_Bound).length 1) (by kernel_rfl : _ = Value.int .i64 0) (by decide) c69 w_) ?_
      refine takeGQ 16 [] rfl (by kernel_rfl) (by kernel_rfl) (by kernel_rfl) (by kernel_rfl) (by kernel_rfl) (by kernel_rfl) hnp (Sg.g0 (Sx.of [] (FM.le.refl _) HS59)) (fun w_ hw_ => by obtain ⟨g_, hl_, hS_⟩ := hw_.st; exact run_loadN (n := 3) rfl Try.underlying44 rfl (by kernel_rfl) (by kernel_rfl : _ = Value.pointer (some ⟨b5, 0 + (0 : Int).toNat * 3, none⟩)) (cs := [.int .i64 ((rd ([(⟨3, 5, false⟩ : S_Bound)] : List S_Bound) 0).Lo), .int .i64 ((rd ([(⟨3, 5, false⟩ : S_Bound)] : List S_Bound) 0).Hi), .bool ((rd ([(⟨3, 5, false⟩ : S_Bound)] : List S_Bound) 0).Unknown)]) rfl (fun j_ hj_ => ((hc72 hl_ hS_) j_ hj_))) ?_
      refine takeGQ 17 [] rfl (by kernel_rfl) (by kernel_rfl) (by kernel_rfl) (by kernel_rfl) (by kernel_rfl) (by kernel_rfl) hnp (Sg.g0 (Sx.of [] (FM.le.refl _) HS59)) (fun w_ hw_ => by obtain ⟨g_, hl_, hS_⟩ := hw_.st; exact run_eqS (b := ((((rd vt35.At 0).Lo) == ((rd ([(⟨3, 5, false⟩ : S_Bound)] : List S_Bound) 0).Lo)) && ((((rd vt35.At 0).Hi) == ((rd ([(⟨3, 5, false⟩ : S_Bound)] : List S_Bound) 0).Hi)) && ((((rd vt35.At 0).Unknown) == ((rd ([(⟨3, 5, false⟩ : S_Bound)] : List S_Bound) 0).Unknown)) && true)))) rfl (by kernel_rfl : _ = Value.agg #[.int .i64 ((rd vt35.At 0).Lo), .int .i64 ((rd vt35.At 0).Hi), .bool ((rd vt35.At 0).Unknown)]) (by kernel_rfl : _ = Value.agg #[.int .i64 ((rd ([(⟨3, 5, false⟩ : S_Bound)] : List S_Bound) 0).Lo), .int .i64 ((rd ([(⟨3, 5, false⟩ : S_Bound)] : List S_Bound) 0).Hi), .bool ((rd ([(⟨3, 5, false⟩ : S_Bound)] : List S_Bound) 0).Unknown)]) (by kernel_rfl) (by kernel_rfl) w_) ?_
      refine takeG [18, 19] (n := 2) (fuel := 0) (l' := #[true, true, true, true, true, true, true, true, true, true, true, true, true, true, true, true, true, true, true, true]) (a' := ⟨#[.bool ((((rd vt35.At 0).Lo) == ((rd ([(⟨3, 5, false⟩ : S_Bound)] : List S_Bound) 0).Lo)) && ((((rd vt35.At 0).Hi) == ((rd ([(⟨3, 5, false⟩ : S_Bound)] : List S_Bound) 0).Hi)) && ((((rd vt35.At 0).Unknown) == ((rd ([(⟨3, 5, false⟩ : S_Bound)] : List S_Bound) 0).Unknown)) && true))), .pointer (some ⟨b11, 0, none⟩), .pointer (some ⟨b50, 0, none⟩), iV vt36, .agg #[iV 3, iV 5, .bool false], .slice (some ⟨b5, 0, none⟩) ([(⟨3, 5, false⟩ : S_Bound)] : List S_Bound).length 1, .agg #[iV 1, iV 1, .slice (some ⟨b5, 0, none⟩) ([(⟨3, 5, false⟩ : S_Bound)] : List S_Bound).length 1], .tuple #[.agg #[iV vt35.W, iV vt35.H, .slice A42 vt35.At.length c43], iV vt36], .agg #[iV 1, iV 1, .slice (some ⟨b5, 0, none⟩) ([(⟨3, 5, false⟩ : S_Bound)] : List S_Bound).length 1], .slice (some ⟨b24, 0, none⟩) ([(⟨1, 1, ([(⟨3, 5, false⟩ : S_Bound)] : List S_Bound)⟩ : S_Cells)] : List S_Cells).length 1, .tuple #[.agg #[iV vt35.W, iV vt35.H, .slice A42 vt35.At.length c43], iV vt36], .agg #[iV vt35.W, iV vt35.H, .slice A42 vt35.At.length c43], iV vt36, iV vt36, .bool true, .bool true, .pointer (some ⟨b50, 2, none⟩), .slice A42 vt35.At.length c43, iV (vt35.At.length : Int), .bool true, .bool true, .bool true, .pointer (some ⟨b50, 2, none⟩), .slice A42 vt35.At.length c43, .pointer (some ⟨b66, of67 + (0 : Int).toNat * 3, none⟩), .agg #[iV ((rd vt35.At 0).Lo), iV ((rd vt35.At 0).Hi), .bool ((rd vt35.At 0).Unknown)], .pointer (some ⟨b11, 2, none⟩), .slice (some ⟨b5, 0, none⟩) ([(⟨3, 5, false⟩ : S_Bound)] : List S_Bound).length 1, .pointer (some ⟨b5, 0 + (0 : Int).toNat * 3, none⟩), .agg #[iV ((rd ([(⟨3, 5, false⟩ : S_Bound)] : List S_Bound) 0).Lo), iV ((rd ([(⟨3, 5, false⟩ : S_Bound)] : List S_Bound) 0).Hi), .bool ((rd ([(⟨3, 5, false⟩ : S_Bound)] : List S_Bound) 0).Unknown)], .bool ((((rd vt35.At 0).Lo) == ((rd ([(⟨3, 5, false⟩ : S_Bound)] : List S_Bound) 0).Lo)) && ((((rd vt35.At 0).Hi) == ((rd ([(⟨3, 5, false⟩ : S_Bound)] : List S_Bound) 0).Hi)) && ((((rd vt35.At 0).Unknown) == ((rd ([(⟨3, 5, false⟩ : S_Bound)] : List S_Bound) 0).Unknown)) && true))), .bool ((((rd vt35.At 0).Lo) == ((rd ([(⟨3, 5, false⟩ : S_Bound)] : List S_Bound) 0).Lo)) && ((((rd vt35.At 0).Hi) == ((rd ([(⟨3, 5, false⟩ : S_Bound)] : List S_Bound) 0).Hi)) && ((((rd vt35.At 0).Unknown) == ((rd ([(⟨3, 5, false⟩ : S_Bound)] : List S_Bound) 0).Unknown)) && true)))], []⟩) rfl (by kernel_rfl) (by kernel_rfl) (by kernel_rfl) hnp (Sg.g0 (Sx.of [] (FM.le.refl _) HS59)) ?_
      refine doneG (by kernel_rfl) ?_ _
      refine hK57 _ _ ?_
      refine wp_ret ?_
      refine hret _ _ ?_
      refine ends_still (v := Value.bool ((((rd vt35.At 0).Lo) == ((rd ([(⟨3, 5, false⟩ : S_Bound)] : List S_Bound) 0).Lo)) && ((((rd vt35.At 0).Hi) == ((rd ([(⟨3, 5, false⟩ : S_Bound)] : List S_Bound) 0).Hi)) && ((((rd vt35.At 0).Unknown) == ((rd ([(⟨3, 5, false⟩ : S_Bound)] : List S_Bound) 0).Unknown)) && true)))) (by kernel_rfl) (by kernel_rfl) ?_
      have HS73 := HS59.drop
      have HS74 := HS73.drop
      have HS75 := HS74.drop
      have HS76 := HS75.drop
      injection h with h
      subst h
      exact ⟨f47, rfl, (L21.trans L48), HS76⟩
    · have c61 : ¬ ((vt35.At.length : Int) = 1) := c61
      refine gateRwI 19 (x := ((vt35.At.length : Int) == 1)) (v := false) (by kernel_rfl) (beq_eq_false_iff_ne.mpr c61) ?_
      refine gateRwI 20 (x := ((vt35.At.length : Int) == 1)) (v := false) (by kernel_rfl) (beq_eq_false_iff_ne.mpr c61) ?_
      refine gateRwI 21 (x := ((vt35.At.length : Int) == 1)) (v := false) (by kernel_rfl) (beq_eq_false_iff_ne.mpr c61) ?_
      refine takeG [9, 10, 11, 12, 13, 14, 15, 16, 17, 18, 19] (n := 11) (fuel := 0) (l' := #[true, true, true, true, true, true, true, true, true, true, true, true, true, true, true, true, true, true, true, true]) (a' := ⟨#[.bool false, .pointer (some ⟨b11, 0, none⟩), .pointer (some ⟨b50, 0, none⟩), iV vt36, .agg #[iV 3, iV 5, .bool false], .slice (some ⟨b5, 0, none⟩) ([(⟨3, 5, false⟩ : S_Bound)] : List S_Bound).length 1, .agg #[iV 1, iV 1, .slice (some ⟨b5, 0, none⟩) ([(⟨3, 5, false⟩ : S_Bound)] : List S_Bound).length 1], .tuple #[.agg #[iV vt35.W, iV vt35.H, .slice A42 vt35.At.length c43], iV vt36], .agg #[iV 1, iV 1, .slice (some ⟨b5, 0, none⟩) ([(⟨3, 5, false⟩ : S_Bound)] : List S_Bound).length 1], .slice (some ⟨b24, 0, none⟩) ([(⟨1, 1, ([(⟨3, 5, false⟩ : S_Bound)] : List S_Bound)⟩ : S_Cells)] : List S_Cells).length 1, .tuple #[.agg #[iV vt35.W, iV vt35.H, .slice A42 vt35.At.length c43], iV vt36], .agg #[iV vt35.W, iV vt35.H, .slice A42 vt35.At.length c43], iV vt36, iV vt36, .bool true, .bool true, .pointer (some ⟨b50, 2, none⟩), .slice A42 vt35.At.length c43, iV (vt35.At.length : Int), .bool false, .bool false, .bool false, uV, uV, uV, uV, uV, uV, uV, uV, uV, .bool false], []⟩) rfl (by kernel_rfl) (by kernel_rfl) (by kernel_rfl) hnp (Sg.g0 (Sx.of [] (FM.le.refl _) HS59)) ?_
      refine doneG (by kernel_rfl) ?_ _
      refine hK57 _ _ ?_
      refine wp_ret ?_
      refine hret _ _ ?_
      refine ends_still (v := Value.bool false) (by kernel_rfl) (by kernel_rfl) ?_
      have HS77 := HS59.drop
      have HS78 := HS77.drop
      have HS79 := HS78.drop
      have HS80 := HS79.drop
      injection h with h
      subst h
      exact ⟨f47, rfl, (L21.trans L48), HS80⟩
  · have c60 : ¬ (vt36 = 0) := c60
    refine gateRwI 14 (x := (vt36 == 0)) (v := false) (by kernel_rfl) (beq_eq_false_iff_ne.mpr c60) ?_
    refine gateRwI 15 (x := (vt36 == 0)) (v := false) (by kernel_rfl) (beq_eq_false_iff_ne.mpr c60) ?_
    refine takeG [3, 4, 5, 6, 7, 8, 9, 10, 11, 12, 13, 14, 15, 16, 17, 18, 19] (n := 17) (fuel := 0) (l' := #[true, true, true, true, true, true, true, true, true, true, true, true, true, true, true, true, true, true, true, true]) (a' := ⟨#[.bool false, .pointer (some ⟨b11, 0, none⟩), .pointer (some ⟨b50, 0, none⟩), iV vt36, .agg #[iV 3, iV 5, .bool false], .slice (some ⟨b5, 0, none⟩) ([(⟨3, 5, false⟩ : S_Bound)] : List S_Bound).length 1, .agg #[iV 1, iV 1, .slice (some ⟨b5, 0, none⟩) ([(⟨3, 5, false⟩ : S_Bound)] : List S_Bound).length 1], .tuple #[.agg #[iV vt35.W, iV vt35.H, .slice A42 vt35.At.length c43], iV vt36], .agg #[iV 1, iV 1, .slice (some ⟨b5, 0, none⟩) ([(⟨3, 5, false⟩ : S_Bound)] : List S_Bound).length 1], .slice (some ⟨b24, 0, none⟩) ([(⟨1, 1, ([(⟨3, 5, false⟩ : S_Bound)] : List S_Bound)⟩ : S_Cells)] : List S_Cells).length 1, .tuple #[.agg #[iV vt35.W, iV vt35.H, .slice A42 vt35.At.length c43], iV vt36], .agg #[iV vt35.W, iV vt35.H, .slice A42 vt35.At.length c43], iV vt36, iV vt36, .bool false, .bool false, uV, uV, uV, uV, .bool false, .bool false, uV, uV, uV, uV, uV, uV, uV, uV, uV, .bool false], []⟩) rfl (by kernel_rfl) (by kernel_rfl) (by kernel_rfl) hnp (Sg.g0 (Sx.of [] (FM.le.refl _) HS59)) ?_
    refine doneG (by kernel_rfl) ?_ _
    refine hK57 _ _ ?_
    refine wp_ret ?_
    refine hret _ _ ?_
    refine ends_still (v := Value.bool false) (by kernel_rfl) (by kernel_rfl) ?_
    have HS81 := HS59.drop
    have HS82 := HS81.drop
    have HS83 := HS82.drop
    have HS84 := HS83.drop
    injection h with h
    subst h
    exact ⟨f47, rfl, (L21.trans L48), HS84⟩

set_option maxRecDepth 100000 in
set_option maxHeartbeats 4000000 in
theorem slices_Index_int.calls (k : Nat) (A2 : Option Addr) (c3 : Nat) (s1 : List Int) (v5 : Int) {t w : World} {f : FM} {H : List Seg} (HS : St t w f (H)) (HR4 : SlR (tInt .i64) f A2 c3 s1) (r1 : Int) (h : slices_Index_int k s1 v5 = some r1) :
    Calls Try.prog 44 #[.slice A2 s1.length c3, .int .i64 v5] w (fun e w' => ∃ (g : FM), e = .returned (Value.int .i64 r1) ∧ FM.le f g ∧ St t w' g (H)) := by
  unfold slices_Index_int at h
  refine enter Try.func44 rfl (tm := #[.slice A2 s1.length c3, iV v5, uV, uV, uV, uV, uV, uV, uV, uV, uV, uV, uV, uV, uV, uV, uV, uV, uV]) (by kernel_rfl) ?_
  intro B hret hnor hnp
  refine wp_seq_k (fun K6 hK7 => ?_)
  refine wp_region_lit ?_
  refine seqS1 (a' := ⟨#[.slice A2 s1.length c3, iV v5, uV, uV, iV 0, uV, uV, uV, uV, uV, uV, uV, uV, uV, uV, uV, uV, uV, uV], []⟩) (by kernel_rfl) ?_
  refine wpList_nil ?_
  refine hK7 _ _ ?_
  refine wp_seq_k (fun K8 hK9 => ?_)
  refine wp_seq_k (fun K10 hK11 => ?_)
  refine wp_region_lit ?_
  refine seqS3 (a' := ⟨#[.slice A2 s1.length c3, iV v5, uV, uV, iV 0, uV, .slice A2 s1.length c3, iV (s1.length : Int), iV 0, uV, uV, uV, uV, uV, uV, uV, uV, uV, uV], []⟩) (by kernel_rfl) ?_
  refine wpList_nil ?_
  refine hK11 _ _ ?_
  refine blockK (fun B12 hx13 hn14 hr15 ho16 hp17 => ?_)
  have hq_ := bind_some h; clear h; obtain ⟨o18, hv63, h⟩ := hq_
  have JR65 : ∀ z_, some (Sum.inl z_) = some o18 → some z_ = some r1 := by
    intro z_ e_; injection e_ with e_; subst e_; exact h
  have J64 : ∀ (f58 : FM) (j62 : Nat → Value) (W60 : World) (a_ : Act), FM.le f f58 → some (Sum.inr ()) = some o18 → St t W60 f58 (H) → a_ = ⟨#[.slice A2 s1.length c3, iV v5, uV, uV, (j62 0), (j62 1), .slice A2 s1.length c3, iV (s1.length : Int), (j62 2), (j62 3), (j62 4), (j62 5), (j62 6), (j62 7), (j62 8), (j62 9), (j62 10), (j62 11), (j62 12)], []⟩ → K8 a_ W60 := by
    intro f58 j62 W60 a_ L59 hj66 HS61  hfr_; subst hfr_
    injection hj66 with hj66; subst hj66; try dsimp only at h
    simp only [Sum.elim_inr] at h
    refine hK9 _ _ ?_
    refine wp_seq_k (fun K67 hK68 => ?_)
    refine wp_region_lit ?_
    refine seqS1 (a' := ⟨#[.slice A2 s1.length c3, iV v5, uV, uV, iV (-1), (j62 1), .slice A2 s1.length c3, iV (s1.length : Int), (j62 2), (j62 3), (j62 4), (j62 5), (j62 6), (j62 7), (j62 8), (j62 9), (j62 10), (j62 11), (j62 12)], []⟩) (by kernel_rfl) ?_
    refine wpList_nil ?_
    refine hK68 _ _ ?_
    refine wp_ret ?_
    refine hret _ _ ?_
    refine ends_still (v := Value.int .i64 (-1)) (by kernel_rfl) (by kernel_rfl) ?_
    injection h with h
    subst h
    exact ⟨f58, rfl, L59, HS61⟩
  clear h; have h := hv63; clear hv63
  refine loopK (fun n_ a_ w_ => ∃ (f22 : FM) (x27 : Int) (j26 : Nat → Value), FM.le f f22 ∧ St t w_ f22 (H) ∧ slices_Index_int.l0 k s1 v5 n_ x27 = some o18 ∧ a_ = ⟨#[.slice A2 s1.length c3, iV v5, uV, uV, (j26 0), (j26 1), .slice A2 s1.length c3, iV (s1.length : Int), iV x27, (j26 2), (j26 3), (j26 4), (j26 5), (j26 6), (j26 7), (j26 8), (j26 9), (j26 10), (j26 11)], []⟩) k ⟨f, 0, (fun i_ => [Value.int .i64 0, undef, undef, undef, undef, undef, undef, undef, undef, undef, undef, undef].getD i_ undef), (FM.le.refl _), HS, h, (by kernel_rfl)⟩ ?_
  clear h
  rintro n21 _ W24 ⟨f22, x27, j26, L23, HS25, h, rfl⟩ K19 hK20
  obtain _ | n21 := n21
  · exact nomatch h
  simp only [slices_Index_int.l0] at h
  refine wp_seq_k (fun K28 hK29 => ?_)
  refine wp_region_lit ?_
  refine seqS1 (a' := ⟨#[.slice A2 s1.length c3, iV v5, uV, uV, (j26 0), (j26 1), .slice A2 s1.length c3, iV (s1.length : Int), iV x27, .bool (decide (x27 < (s1.length : Int))), (j26 3), (j26 4), (j26 5), (j26 6), (j26 7), (j26 8), (j26 9), (j26 10), (j26 11)], []⟩) (by kernel_rfl) ?_
  refine wpList_nil ?_
  refine hK29 _ _ ?_
  refine wp_seq_k (fun K30 hK31 => ?_)
  have hq_ := ite_some h; clear h; rcases hq_ with ⟨c33, h⟩ | ⟨c33, h⟩
  · have c33 : x27 < (s1.length : Int) := c33
    refine wpRwI 9 (x := (decide (x27 < (s1.length : Int)))) (v := true) (by kernel_rfl) (decide_eq_true c33) ?_
    refine condT (by kernel_rfl) ?_
    refine wp_skip ?_
    refine hK31 _ _ ?_
    refine wp_seq_k (fun K34 hK35 => ?_)
    refine blockK (fun B36 hx37 hn38 hr39 ho40 hp41 => ?_)
    refine wp_seq_k (fun K43 hK44 => ?_)
    refine wp_region_lit ?_
    refine seqS2 (a' := ⟨#[.slice A2 s1.length c3, iV v5, uV, uV, (j26 0), iV x27, .slice A2 s1.length c3, iV (s1.length : Int), iV x27, .bool true, iV x27, (j26 4), (j26 5), (j26 6), (j26 7), (j26 8), (j26 9), (j26 10), (j26 11)], []⟩) (by kernel_rfl) ?_
    refine wpList_nil ?_
    refine hK44 _ _ ?_
    refine wp_seq_k (fun K45 hK46 => ?_)
    refine wp_region_lit ?_
    have hq_ := guard_some h; clear h; obtain ⟨c47, h⟩ := hq_
    have c47 : 0 ≤ x27 := c47
    obtain ⟨b51, of52, cs48, hA53, hr49, hc50⟩ := (HR4.mono L23).at (i := x27) c47 c33
    obtain rfl := hr49
    refine seqL3 (by kernel_rfl) ?_
    refine seqK rfl (does_run (run_indexE hA53 (sz := 1) rfl Try.underlying22 (by kernel_rfl) (by kernel_rfl : _ = Value.slice A2 s1.length c3) (by kernel_rfl : _ = Value.int .i64 x27) c47 c33 W24) ?_)
    refine seqK rfl (does_run (run_load rfl Try.underlying3 rfl (by kernel_rfl : _ = Value.pointer (some ⟨b51, of52 + (x27 : Int).toNat * 1, none⟩)) ((hc50 (FM.le.refl _) HS25) 0 (by decide))) ?_)
    refine seqS1 (a' := ⟨#[.slice A2 s1.length c3, iV v5, uV, uV, (j26 0), iV x27, .slice A2 s1.length c3, iV (s1.length : Int), iV x27, .bool true, iV x27, iV v5, .slice A2 s1.length c3, iV x27, .pointer (some ⟨b51, of52 + (x27 : Int).toNat * 1, none⟩), iV (rd s1 x27), .bool (v5 == (rd s1 x27)), (j26 10), (j26 11)], []⟩) (by kernel_rfl) ?_
    refine wpList_nil ?_
    refine hK46 _ _ ?_
    have hq_ := ite_some h; clear h; rcases hq_ with ⟨c55, h⟩ | ⟨c55, h⟩
    · have c55 : v5 = (rd s1 x27) := c55
      refine wpRwI 16 (x := (v5 == (rd s1 x27))) (v := true) (by kernel_rfl) (beq_iff_eq.mpr c55) ?_
      refine condT (by kernel_rfl) ?_
      refine wp_seq_k (fun K56 hK57 => ?_)
      refine wp_region_lit ?_
      refine seqS2 (a' := ⟨#[.slice A2 s1.length c3, iV v5, uV, uV, iV x27, iV x27, .slice A2 s1.length c3, iV (s1.length : Int), iV x27, .bool true, iV x27, iV v5, .slice A2 s1.length c3, iV x27, .pointer (some ⟨b51, of52 + (x27 : Int).toNat * 1, none⟩), iV (rd s1 x27), .bool true, iV x27, (j26 11)], []⟩) (by kernel_rfl) ?_
      refine wpList_nil ?_
      refine hK57 _ _ ?_
      refine wp_ret ?_
      refine hr39 _ _ ?_
      refine hr15 _ _ ?_
      refine hret _ _ ?_
      refine ends_still (v := Value.int .i64 x27) (by kernel_rfl) (by kernel_rfl) ?_
      replace h := JR65 _ h
      injection h with h
      subst h
      exact ⟨f22, rfl, L23, HS25⟩
    · have c55 : ¬ (v5 = (rd s1 x27)) := c55
      refine wpRwI 16 (x := (v5 == (rd s1 x27))) (v := false) (by kernel_rfl) (beq_eq_false_iff_ne.mpr c55) ?_
      refine condF (by kernel_rfl) ?_
      refine wp_skip ?_
      refine hn38 _ _ ?_
      refine hK35 _ _ ?_
      refine wp_region_lit ?_
      refine seqS2 (a' := ⟨#[.slice A2 s1.length c3, iV v5, uV, uV, (j26 0), iV x27, .slice A2 s1.length c3, iV (s1.length : Int), iV (w64 (x27 + 1)), .bool true, iV x27, iV v5, .slice A2 s1.length c3, iV x27, .pointer (some ⟨b51, of52 + (x27 : Int).toNat * 1, none⟩), iV (rd s1 x27), .bool false, (j26 10), iV (w64 (x27 + 1))], []⟩) (by kernel_rfl) ?_
      refine wpList_nil ?_
      refine hK20 n21 _ _ (Nat.lt_succ_self _) ?_
      exact ⟨f22, (w64 (x27 + 1)), (fun i_ => [(j26 0), Value.int .i64 x27, Value.bool true, Value.int .i64 x27, Value.int .i64 v5, Value.slice A2 s1.length c3, Value.int .i64 x27, Value.pointer (some ⟨b51, of52 + (x27 : Int).toNat * 1, none⟩), Value.int .i64 (rd s1 x27), Value.bool false, (j26 10), Value.int .i64 (w64 (x27 + 1))].getD i_ undef), L23, HS25, h, (by kernel_rfl)⟩
  · have c33 : ¬ (x27 < (s1.length : Int)) := c33
    refine wpRwI 9 (x := (decide (x27 < (s1.length : Int)))) (v := false) (by kernel_rfl) (decide_eq_false c33) ?_
    refine condF (by kernel_rfl) ?_
    refine wp_exit ?_
    refine hx13 _ _ ?_
    exact J64 f22 (fun i_ => [(j26 0), (j26 1), Value.int .i64 x27, Value.bool false, (j26 3), (j26 4), (j26 5), (j26 6), (j26 7), (j26 8), (j26 9), (j26 10), (j26 11)].getD i_ undef) W24 _ L23 h HS25 (by kernel_rfl)

set_option maxRecDepth 100000 in
set_option maxHeartbeats 4000000 in
theorem slices_Contains_int.calls (k : Nat) (A2 : Option Addr) (c3 : Nat) (s1 : List Int) (v5 : Int) {t w : World} {f : FM} {H : List Seg} (HS : St t w f (H)) (HR4 : SlR (tInt .i64) f A2 c3 s1) (r1 : Bool) (h : slices_Contains_int k s1 v5 = some r1) :
    Calls Try.prog 21 #[.slice A2 s1.length c3, .int .i64 v5] w (fun e w' => ∃ (g : FM), e = .returned (Value.bool r1) ∧ FM.le f g ∧ St t w' g (H)) := by
  unfold slices_Contains_int at h
  refine enter Try.func21 rfl (tm := #[.slice A2 s1.length c3, iV v5, uV, uV, uV, uV, uV, uV, uV]) (by kernel_rfl) ?_
  intro B hret hnor hnp
  refine wp_seq_k (fun K6 hK7 => ?_)
  refine wp_region_lit ?_
  refine seqS1 (a' := ⟨#[.slice A2 s1.length c3, iV v5, uV, uV, .bool false, uV, uV, uV, uV], []⟩) (by kernel_rfl) ?_
  refine wpList_nil ?_
  refine hK7 _ _ ?_
  refine wp_seq_k (fun K8 hK9 => ?_)
  refine wp_region_lit ?_
  have hq_ := bind_some h; clear h; obtain ⟨vt10, hc11, h⟩ := hq_
  refine seqL2 (by kernel_rfl) ?_
  refine seqK rfl (does_call (f := 44) (args := #[.slice A2 s1.length c3, .int .i64 v5]) (by kernel_rfl) (slices_Index_int.calls k A2 c3 s1 v5 HS HR4 vt10 hc11) ?_)
  rintro _ W14 ⟨f12, rfl, L13, HS15⟩
  refine ⟨_, rfl, ?_⟩
  refine seqS2 (a' := ⟨#[.slice A2 s1.length c3, iV v5, uV, uV, .bool (decide (vt10 ≥ 0)), .slice A2 s1.length c3, iV v5, iV vt10, .bool (decide (vt10 ≥ 0))], []⟩) (by kernel_rfl) ?_
  refine wpList_nil ?_
  refine hK9 _ _ ?_
  refine wp_ret ?_
  refine hret _ _ ?_
  refine ends_still (v := Value.bool (decide (vt10 ≥ 0))) (by kernel_rfl) (by kernel_rfl) ?_
  injection h with h
  subst h
  exact ⟨f12, rfl, L13, HS15⟩

end Go.Sp.U4
