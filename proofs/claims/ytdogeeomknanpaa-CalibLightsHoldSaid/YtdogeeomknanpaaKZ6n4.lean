import Derived.Test.YtdogeeomknanpaaProg
import Derived.Test.YtdogeeomknanpaaSpTwo
import Derived.Test.YtdogeeomknanpaaFZ6
import Derived.Test.YtdogeeomknanpaaKZ6n0
import Derived.Test.YtdogeeomknanpaaKZ6n1
import Derived.Test.YtdogeeomknanpaaKZ6n2
import Derived.Test.YtdogeeomknanpaaKZ6n3
namespace Go.Sp.Z6
open Go Go.Sp Go.Proofs
set_option linter.unusedVariables false
attribute [local irreducible] wpList AnyL Code.wp Calls Does
set_option maxRecDepth 100000 in
set_option maxHeartbeats 4000000 in
theorem bound_Scale_Light.calls (k : Nat)  (a1 : S_Bound) (n2 : Int) (d3 : Int) {t w : World} {f : FM} {H : List Seg} (HS : St t w f (H)) (r1 : S_Bound) (h : bound_Scale_Light k a1 n2 d3 = some r1) :
    Calls Try.prog 48 #[.agg #[.int .i64 a1.Lo, .int .i64 a1.Hi, .bool a1.Unknown], .int .i64 n2, .int .i64 d3] w (fun e w' => ∃ (g : FM), e = .returned (Value.agg #[.int .i64 r1.Lo, .int .i64 r1.Hi, .bool r1.Unknown]) ∧ FM.le f g ∧ St t w' g (H)) := by
  unfold bound_Scale_Light at h
  refine enter Try.func48 rfl (tm := #[.agg #[.int .i64 a1.Lo, .int .i64 a1.Hi, .bool a1.Unknown], .int .i64 n2, .int .i64 d3, undef, undef, undef, undef, undef, undef, undef, undef, undef]) (by kernel_rfl) ?_
  intro B hret hnor hnp
  refine wp_seq_k (fun K4 hK5 => ?_)
  refine wp_region_lit ?_
  refine seqK rfl (does_box (cs := #[.int .i64 a1.Lo, .int .i64 a1.Hi, .bool a1.Unknown]) rfl (by kernel_rfl : _ = Value.agg #[.int .i64 a1.Lo, .int .i64 a1.Hi, .bool a1.Unknown]) rfl HS ?_)
  intro b6 W7 HS8
  refine seqK rfl (does_alloc (z := Value.agg #[.int .i64 0, .int .i64 0, .bool false]) (cs := #[.int .i64 0, .int .i64 0, .bool false]) rfl (by kernel_rfl) rfl HS8 ?_)
  intro b10 W11 HS12
  refine wpList_nil ?_
  refine hK5 _ _ ?_
  refine wp_seq_k (fun K14 hK15 => ?_)
  have HS16 := HS12.u1
  have HS17 := HS16.u1
  refine heldG (S := Sg t f ([(b6, .cells #[.int .i64 a1.Lo, .int .i64 a1.Hi, .bool a1.Unknown] 54 (0, 0))] :: H) [(5, [(b10, .cells #[.int .i64 0, .int .i64 0, .bool false] 54 (0, 0))])]) (n := 6) (by kernel_rfl) rfl HS17 ?_
  intro W18 HS19
  refine takeGQ 0 [] rfl (by kernel_rfl) (by kernel_rfl) (by kernel_rfl) (by kernel_rfl) (by kernel_rfl) (by kernel_rfl) hnp (Sg.g1 (Sx.of [[(b10, .cells #[.int .i64 0, .int .i64 0, .bool false] 54 (0, 0))]] (FM.le.refl _) HS19) (fun _ => St.only [] HS19 (FM.le.refl _))) (fun w_ hw_ => by obtain ⟨g_, hl_, hS_⟩ := hw_.st; exact run_loadN (n := 3) rfl Try.underlying54 rfl (by kernel_rfl) (by kernel_rfl : _ = Value.pointer (some ⟨b6, 0, none⟩)) (cs := [.int .i64 a1.Lo, .int .i64 a1.Hi, .bool a1.Unknown]) rfl (hS_.cells 0 3 _ rfl)) ?_
  refine takeG [1, 3] (n := 5) (fuel := 3) (l' := #[true, true, false, true, false, false]) (a' := ⟨#[.agg #[.int .i64 a1.Lo, .int .i64 a1.Hi, .bool a1.Unknown], .int .i64 n2, .int .i64 d3, .pointer (some ⟨b6, 0, none⟩), undef, undef, .pointer (some ⟨b10, 0, none⟩), .agg #[.int .i64 a1.Lo, .int .i64 a1.Hi, .bool a1.Unknown], .int .i64 n2, undef, .int .i64 d3, undef], []⟩) rfl (by kernel_rfl) (by kernel_rfl) (by kernel_rfl) hnp (Sg.g1 (Sx.of [[(b10, .cells #[.int .i64 0, .int .i64 0, .bool false] 54 (0, 0))]] (FM.le.refl _) HS19) (fun _ => St.only [] HS19 (FM.le.refl _))) ?_
  have hq_ := bind_some h; clear h; obtain ⟨vt20, hc21, h⟩ := hq_
  refine takeGE 2 (by kernel_rfl) rfl (by kernel_rfl) (does_call (f := 31) (args := #[.int .i64 n2]) (by kernel_rfl) (bound_Exact_Light.calls k n2 HS19 vt20 hc21) ?_)
  rintro _ W24 ⟨f22, rfl, L23, HS25⟩
  refine ⟨_, rfl, ?_⟩
  refine ⟨(Sg.g1 (Sx.of [[(b10, .cells #[.int .i64 0, .int .i64 0, .bool false] 54 (0, 0))]] L23 HS25) (fun _ => St.only [] HS25 L23)), ?_⟩
  have hq_ := bind_some h; clear h; obtain ⟨vt26, hc27, h⟩ := hq_
  refine takeGE 4 (by kernel_rfl) rfl (by kernel_rfl) (does_call (f := 85) (args := #[.agg #[.int .i64 a1.Lo, .int .i64 a1.Hi, .bool a1.Unknown], .agg #[.int .i64 vt20.Lo, .int .i64 vt20.Hi, .bool vt20.Unknown], .int .i64 d3]) (by kernel_rfl) (bound_Mul_Light.calls k a1 vt20 d3 HS25 vt26 hc27) ?_)
  rintro _ W30 ⟨f28, rfl, L29, HS31⟩
  refine ⟨_, rfl, ?_⟩
  refine ⟨(Sg.g1 (Sx.of [[(b10, .cells #[.int .i64 0, .int .i64 0, .bool false] 54 (0, 0))]] (L23.trans L29) HS31) (fun _ => St.only [] HS31 (L23.trans L29))), ?_⟩
  refine takeGE 5 (by kernel_rfl) rfl (by kernel_rfl) (does_store (n := 3) (vs := [.int .i64 vt26.Lo, .int .i64 vt26.Hi, .bool vt26.Unknown]) (cs' := #[.int .i64 vt26.Lo, .int .i64 vt26.Hi, .bool vt26.Unknown]) rfl (by kernel_rfl) (by kernel_rfl : _ = Value.pointer (some ⟨b10, 0, none⟩)) (by kernel_rfl : _ = Value.agg #[.int .i64 vt26.Lo, .int .i64 vt26.Hi, .bool vt26.Unknown]) rfl rfl (by intro u_ hu_; simp only [List.mem_cons, List.not_mem_nil, or_false] at hu_; rcases hu_ with rfl | rfl | rfl <;> rfl) HS31 (Nat.le_of_ble_eq_true rfl) (by kernel_rfl) ?_)
  intro W32 HS33
  refine ⟨(Sg.g1 (Sx.of [[(b10, .cells #[.int .i64 vt26.Lo, .int .i64 vt26.Hi, .bool vt26.Unknown] 54 (0, 0))]] (L23.trans L29) HS33) (fun hl_ => Bool.noConfusion (show true = false from hl_))), ?_⟩
  refine doneG (by kernel_rfl) ?_ _
  refine hK15 _ _ ?_
  refine wp_ret ?_
  refine hret _ _ ?_
  refine ends (v := Value.agg #[.int .i64 vt26.Lo, .int .i64 vt26.Hi, .bool vt26.Unknown]) (results1 (q1 := .cell 6 54) (by kernel_rfl) (resN (n := 3) (cs := [.int .i64 vt26.Lo, .int .i64 vt26.Hi, .bool vt26.Unknown]) (by kernel_rfl : _ = Value.pointer (some ⟨b10, 0, none⟩)) Try.underlying54 rfl (by kernel_rfl) rfl (HS33.cells 0 3 _ rfl))) (by kernel_rfl) ?_
  have HS34 := HS33.drop
  have HS35 := HS34.drop
  injection h with h
  subst h
  exact ⟨f28, rfl, (L23.trans L29), HS35⟩

set_option maxRecDepth 100000 in
set_option maxHeartbeats 4000000 in
theorem bound_Neg_Light.calls (k : Nat)  (b1 : S_Bound) {t w : World} {f : FM} {H : List Seg} (HS : St t w f (H)) (r1 : S_Bound) (h : bound_Neg_Light k b1 = some r1) :
    Calls Try.prog 89 #[.agg #[.int .i64 b1.Lo, .int .i64 b1.Hi, .bool b1.Unknown]] w (fun e w' => ∃ (g : FM), e = .returned (Value.agg #[.int .i64 r1.Lo, .int .i64 r1.Hi, .bool r1.Unknown]) ∧ FM.le f g ∧ St t w' g (H)) := by
  unfold bound_Neg_Light at h
  refine enter Try.func89 rfl (tm := #[.agg #[.int .i64 b1.Lo, .int .i64 b1.Hi, .bool b1.Unknown], undef, undef, undef, undef, undef, undef, undef, undef, undef, undef, undef, undef, undef]) (by kernel_rfl) ?_
  intro B hret hnor hnp
  refine wp_seq_k (fun K2 hK3 => ?_)
  refine wp_region_lit ?_
  refine seqK rfl (does_box (cs := #[.int .i64 b1.Lo, .int .i64 b1.Hi, .bool b1.Unknown]) rfl (by kernel_rfl : _ = Value.agg #[.int .i64 b1.Lo, .int .i64 b1.Hi, .bool b1.Unknown]) rfl HS ?_)
  intro b4 W5 HS6
  refine seqK rfl (does_alloc (z := Value.agg #[.int .i64 0, .int .i64 0, .bool false]) (cs := #[.int .i64 0, .int .i64 0, .bool false]) rfl (by kernel_rfl) rfl HS6 ?_)
  intro b8 W9 HS10
  refine wpList_nil ?_
  refine hK3 _ _ ?_
  refine wp_seq_k (fun K12 hK13 => ?_)
  refine wp_region_lit ?_
  refine seqK rfl (does_run (run_loadN (n := 3) rfl Try.underlying54 rfl (by kernel_rfl) (by kernel_rfl : _ = Value.pointer (some ⟨b4, 0, none⟩)) (cs := [.int .i64 b1.Lo, .int .i64 b1.Hi, .bool b1.Unknown]) rfl (HS10.u1.cells 0 3 _ rfl)) ?_)
  have hq_ := bind_some h; clear h; obtain ⟨vt14, hc15, h⟩ := hq_
  refine seqK rfl (does_call (f := 46) (args := #[.agg #[.int .i64 b1.Lo, .int .i64 b1.Hi, .bool b1.Unknown]]) (by kernel_rfl) (bound_Norm_Light.calls k b1 HS10 vt14 hc15) ?_)
  rintro _ W18 ⟨f16, rfl, L17, HS19⟩
  refine ⟨_, rfl, ?_⟩
  have HS20 := HS19.u1
  refine seqK rfl (does_store (n := 3) (vs := [.int .i64 vt14.Lo, .int .i64 vt14.Hi, .bool vt14.Unknown]) (cs' := #[.int .i64 vt14.Lo, .int .i64 vt14.Hi, .bool vt14.Unknown]) rfl (by kernel_rfl) (by kernel_rfl : _ = Value.pointer (some ⟨b4, 0, none⟩)) (by kernel_rfl : _ = Value.agg #[.int .i64 vt14.Lo, .int .i64 vt14.Hi, .bool vt14.Unknown]) rfl rfl (by intro u_ hu_; simp only [List.mem_cons, List.not_mem_nil, or_false] at hu_; rcases hu_ with rfl | rfl | rfl <;> rfl) HS20 (Nat.le_of_ble_eq_true rfl) (by kernel_rfl) ?_)
  intro W21 HS22
  refine wpList_nil ?_
  refine hK13 _ _ ?_
  refine wp_seq_k (fun K23 hK24 => ?_)
  refine wp_region_lit ?_
  refine seqL1 (by kernel_rfl) ?_
  refine seqK rfl (does_run (run_load rfl Try.underlying52 rfl (by kernel_rfl : _ = Value.pointer (some ⟨b4, 1, none⟩)) (HS22.cell 1)) ?_)
  refine seqL2 (by kernel_rfl) ?_
  refine seqK rfl (does_run (run_load rfl Try.underlying52 rfl (by kernel_rfl : _ = Value.pointer (some ⟨b4, 0, none⟩)) (HS22.cell 0)) ?_)
  refine seqL2 (by kernel_rfl) ?_
  refine seqK rfl (does_store (n := 1) (vs := [.int .i64 (w64 (0 - vt14.Hi))]) (cs' := #[.int .i64 (w64 (0 - vt14.Hi)), .int .i64 vt14.Hi, .bool vt14.Unknown]) rfl (by kernel_rfl) (by kernel_rfl : _ = Value.pointer (some ⟨b4, 0, none⟩)) (by kernel_rfl : _ = Value.int .i64 (w64 (0 - vt14.Hi))) rfl rfl (by intro u_ hu_; simp only [List.mem_cons, List.not_mem_nil, or_false] at hu_; subst hu_; rfl) HS22 (Nat.le_of_ble_eq_true rfl) (by kernel_rfl) ?_)
  intro W25 HS26
  refine seqL1 (by kernel_rfl) ?_
  refine seqK rfl (does_store (n := 1) (vs := [.int .i64 (w64 (0 - vt14.Lo))]) (cs' := #[.int .i64 (w64 (0 - vt14.Hi)), .int .i64 (w64 (0 - vt14.Lo)), .bool vt14.Unknown]) rfl (by kernel_rfl) (by kernel_rfl : _ = Value.pointer (some ⟨b4, 1, none⟩)) (by kernel_rfl : _ = Value.int .i64 (w64 (0 - vt14.Lo))) rfl rfl (by intro u_ hu_; simp only [List.mem_cons, List.not_mem_nil, or_false] at hu_; subst hu_; rfl) HS26 (Nat.le_of_ble_eq_true rfl) (by kernel_rfl) ?_)
  intro W27 HS28
  refine wpList_nil ?_
  refine hK24 _ _ ?_
  refine wp_seq_k (fun K29 hK30 => ?_)
  refine wp_region_lit ?_
  refine seqK rfl (does_run (run_loadN (n := 3) rfl Try.underlying54 rfl (by kernel_rfl) (by kernel_rfl : _ = Value.pointer (some ⟨b4, 0, none⟩)) (cs := [.int .i64 (w64 (0 - vt14.Hi)), .int .i64 (w64 (0 - vt14.Lo)), .bool vt14.Unknown]) rfl (HS28.cells 0 3 _ rfl)) ?_)
  have HS31 := HS28.u1
  refine seqK rfl (does_store (n := 3) (vs := [.int .i64 (w64 (0 - vt14.Hi)), .int .i64 (w64 (0 - vt14.Lo)), .bool vt14.Unknown]) (cs' := #[.int .i64 (w64 (0 - vt14.Hi)), .int .i64 (w64 (0 - vt14.Lo)), .bool vt14.Unknown]) rfl (by kernel_rfl) (by kernel_rfl : _ = Value.pointer (some ⟨b8, 0, none⟩)) (by kernel_rfl : _ = Value.agg #[.int .i64 (w64 (0 - vt14.Hi)), .int .i64 (w64 (0 - vt14.Lo)), .bool vt14.Unknown]) rfl rfl (by intro u_ hu_; simp only [List.mem_cons, List.not_mem_nil, or_false] at hu_; rcases hu_ with rfl | rfl | rfl <;> rfl) HS31 (Nat.le_of_ble_eq_true rfl) (by kernel_rfl) ?_)
  intro W32 HS33
  refine wpList_nil ?_
  refine hK30 _ _ ?_
  refine wp_ret ?_
  refine hret _ _ ?_
  refine ends (v := Value.agg #[.int .i64 (w64 (0 - vt14.Hi)), .int .i64 (w64 (0 - vt14.Lo)), .bool vt14.Unknown]) (results1 (q1 := .cell 2 54) (by kernel_rfl) (resN (n := 3) (cs := [.int .i64 (w64 (0 - vt14.Hi)), .int .i64 (w64 (0 - vt14.Lo)), .bool vt14.Unknown]) (by kernel_rfl : _ = Value.pointer (some ⟨b8, 0, none⟩)) Try.underlying54 rfl (by kernel_rfl) rfl (HS33.cells 0 3 _ rfl))) (by kernel_rfl) ?_
  have HS34 := HS33.drop
  have HS35 := HS34.drop
  injection h with h
  subst h
  exact ⟨f16, rfl, L17, HS35⟩

set_option maxRecDepth 100000 in
set_option maxHeartbeats 4000000 in
theorem bound_Add_Light.calls (k : Nat)  (a1 : S_Bound) (b2 : S_Bound) {t w : World} {f : FM} {H : List Seg} (HS : St t w f (H)) (r1 : S_Bound) (h : bound_Add_Light k a1 b2 = some r1) :
    Calls Try.prog 88 #[.agg #[.int .i64 a1.Lo, .int .i64 a1.Hi, .bool a1.Unknown], .agg #[.int .i64 b2.Lo, .int .i64 b2.Hi, .bool b2.Unknown]] w (fun e w' => ∃ (g : FM), e = .returned (Value.agg #[.int .i64 r1.Lo, .int .i64 r1.Hi, .bool r1.Unknown]) ∧ FM.le f g ∧ St t w' g (H)) := by
  unfold bound_Add_Light at h
  refine enter Try.func88 rfl (tm := #[.agg #[.int .i64 a1.Lo, .int .i64 a1.Hi, .bool a1.Unknown], .agg #[.int .i64 b2.Lo, .int .i64 b2.Hi, .bool b2.Unknown], undef, undef, undef, undef, undef, undef, undef, undef, undef, undef, undef, undef, undef, undef, undef, undef, undef, undef]) (by kernel_rfl) ?_
  intro B hret hnor hnp
  refine wp_seq_k (fun K3 hK4 => ?_)
  refine wp_region_lit ?_
  refine seqK rfl (does_box (cs := #[.int .i64 a1.Lo, .int .i64 a1.Hi, .bool a1.Unknown]) rfl (by kernel_rfl : _ = Value.agg #[.int .i64 a1.Lo, .int .i64 a1.Hi, .bool a1.Unknown]) rfl HS ?_)
  intro b5 W6 HS7
  refine seqK rfl (does_box (cs := #[.int .i64 b2.Lo, .int .i64 b2.Hi, .bool b2.Unknown]) rfl (by kernel_rfl : _ = Value.agg #[.int .i64 b2.Lo, .int .i64 b2.Hi, .bool b2.Unknown]) rfl HS7 ?_)
  intro b9 W10 HS11
  refine seqK rfl (does_alloc (z := Value.agg #[.int .i64 0, .int .i64 0, .bool false]) (cs := #[.int .i64 0, .int .i64 0, .bool false]) rfl (by kernel_rfl) rfl HS11 ?_)
  intro b13 W14 HS15
  refine wpList_nil ?_
  refine hK4 _ _ ?_
  refine wp_seq_k (fun K17 hK18 => ?_)
  refine wp_seq_k (fun K19 hK20 => ?_)
  refine wp_region_lit ?_
  refine seqK rfl (does_run (run_loadN (n := 3) rfl Try.underlying54 rfl (by kernel_rfl) (by kernel_rfl : _ = Value.pointer (some ⟨b5, 0, none⟩)) (cs := [.int .i64 a1.Lo, .int .i64 a1.Hi, .bool a1.Unknown]) rfl (HS15.u2.cells 0 3 _ rfl)) ?_)
  refine seqK rfl (does_run (run_loadN (n := 3) rfl Try.underlying54 rfl (by kernel_rfl) (by kernel_rfl : _ = Value.pointer (some ⟨b9, 0, none⟩)) (cs := [.int .i64 b2.Lo, .int .i64 b2.Hi, .bool b2.Unknown]) rfl (HS15.u1.cells 0 3 _ rfl)) ?_)
  have hq_ := bind_some h; clear h; obtain ⟨vt21, hc22, h⟩ := hq_
  refine seqK rfl (does_call (f := 108) (args := #[.agg #[.int .i64 a1.Lo, .int .i64 a1.Hi, .bool a1.Unknown], .agg #[.int .i64 b2.Lo, .int .i64 b2.Hi, .bool b2.Unknown]]) (by kernel_rfl) (bound_vague_Light.calls k a1 b2 HS15 vt21 hc22) ?_)
  rintro _ W25 ⟨f23, rfl, L24, HS26⟩
  refine ⟨_, rfl, ?_⟩
  refine wpList_nil ?_
  refine hK20 _ _ ?_
  have hq_ := ite_some h; clear h; rcases hq_ with ⟨c28, h⟩ | ⟨c28, h⟩
  · have c28 : vt21 = true := c28
    refine wpRwI 7 (x := vt21) (v := true) (by kernel_rfl) c28 ?_
    refine condT (by kernel_rfl) ?_
    refine wp_seq_k (fun K29 hK30 => ?_)
    refine wp_region_lit ?_
    have hq_ := bind_some h; clear h; obtain ⟨vt31, hc32, h⟩ := hq_
    refine seqK rfl (does_call (f := 82) (args := #[]) (by kernel_rfl) (bound_None_Light.calls k  HS26 vt31 hc32) ?_)
    rintro _ W35 ⟨f33, rfl, L34, HS36⟩
    refine ⟨_, rfl, ?_⟩
    refine seqK rfl (does_store (n := 3) (vs := [.int .i64 vt31.Lo, .int .i64 vt31.Hi, .bool vt31.Unknown]) (cs' := #[.int .i64 vt31.Lo, .int .i64 vt31.Hi, .bool vt31.Unknown]) rfl (by kernel_rfl) (by kernel_rfl : _ = Value.pointer (some ⟨b13, 0, none⟩)) (by kernel_rfl : _ = Value.agg #[.int .i64 vt31.Lo, .int .i64 vt31.Hi, .bool vt31.Unknown]) rfl rfl (by intro u_ hu_; simp only [List.mem_cons, List.not_mem_nil, or_false] at hu_; rcases hu_ with rfl | rfl | rfl <;> rfl) HS36 (Nat.le_of_ble_eq_true rfl) (by kernel_rfl) ?_)
    intro W37 HS38
    refine wpList_nil ?_
    refine hK30 _ _ ?_
    refine wp_ret ?_
    refine hret _ _ ?_
    refine ends (v := Value.agg #[.int .i64 vt31.Lo, .int .i64 vt31.Hi, .bool vt31.Unknown]) (results1 (q1 := .cell 4 54) (by kernel_rfl) (resN (n := 3) (cs := [.int .i64 vt31.Lo, .int .i64 vt31.Hi, .bool vt31.Unknown]) (by kernel_rfl : _ = Value.pointer (some ⟨b13, 0, none⟩)) Try.underlying54 rfl (by kernel_rfl) rfl (HS38.cells 0 3 _ rfl))) (by kernel_rfl) ?_
    have HS49 := HS38.drop
    have HS50 := HS49.drop
    have HS51 := HS50.drop
    injection h with h
    subst h
    exact ⟨f33, rfl, (L24.trans L34), HS51⟩
  · have c28 : ¬ (vt21 = true) := c28
    refine wpRwI 7 (x := vt21) (v := false) (by kernel_rfl) (Bool.eq_false_iff.mpr c28) ?_
    refine condF (by kernel_rfl) ?_
    refine wp_skip ?_
    refine hK18 _ _ ?_
    refine wp_seq_k (fun K39 hK40 => ?_)
    refine wp_region_lit ?_
    refine seqL1 (by kernel_rfl) ?_
    refine seqK rfl (does_run (run_load rfl Try.underlying52 rfl (by kernel_rfl : _ = Value.pointer (some ⟨b5, 0, none⟩)) (HS26.u2.cell 0)) ?_)
    refine seqL1 (by kernel_rfl) ?_
    refine seqK rfl (does_run (run_load rfl Try.underlying52 rfl (by kernel_rfl : _ = Value.pointer (some ⟨b9, 0, none⟩)) (HS26.u1.cell 0)) ?_)
    refine seqL2 (by kernel_rfl) ?_
    refine seqK rfl (does_run (run_load rfl Try.underlying52 rfl (by kernel_rfl : _ = Value.pointer (some ⟨b5, 1, none⟩)) (HS26.u2.cell 1)) ?_)
    refine seqL1 (by kernel_rfl) ?_
    refine seqK rfl (does_run (run_load rfl Try.underlying52 rfl (by kernel_rfl : _ = Value.pointer (some ⟨b9, 1, none⟩)) (HS26.u1.cell 1)) ?_)
    have hq_ := bind_some h; clear h; obtain ⟨vt41, hc42, h⟩ := hq_
    refine seqL1 (by kernel_rfl) ?_
    refine seqK rfl (does_call (f := 23) (args := #[.int .i64 (w64 (a1.Lo + b2.Lo)), .int .i64 (w64 (a1.Hi + b2.Hi))]) (by kernel_rfl) (bound_Of_Light.calls k (w64 (a1.Lo + b2.Lo)) (w64 (a1.Hi + b2.Hi)) HS26 vt41 hc42) ?_)
    rintro _ W45 ⟨f43, rfl, L44, HS46⟩
    refine ⟨_, rfl, ?_⟩
    refine seqK rfl (does_store (n := 3) (vs := [.int .i64 vt41.Lo, .int .i64 vt41.Hi, .bool vt41.Unknown]) (cs' := #[.int .i64 vt41.Lo, .int .i64 vt41.Hi, .bool vt41.Unknown]) rfl (by kernel_rfl) (by kernel_rfl : _ = Value.pointer (some ⟨b13, 0, none⟩)) (by kernel_rfl : _ = Value.agg #[.int .i64 vt41.Lo, .int .i64 vt41.Hi, .bool vt41.Unknown]) rfl rfl (by intro u_ hu_; simp only [List.mem_cons, List.not_mem_nil, or_false] at hu_; rcases hu_ with rfl | rfl | rfl <;> rfl) HS46 (Nat.le_of_ble_eq_true rfl) (by kernel_rfl) ?_)
    intro W47 HS48
    refine wpList_nil ?_
    refine hK40 _ _ ?_
    refine wp_ret ?_
    refine hret _ _ ?_
    refine ends (v := Value.agg #[.int .i64 vt41.Lo, .int .i64 vt41.Hi, .bool vt41.Unknown]) (results1 (q1 := .cell 4 54) (by kernel_rfl) (resN (n := 3) (cs := [.int .i64 vt41.Lo, .int .i64 vt41.Hi, .bool vt41.Unknown]) (by kernel_rfl : _ = Value.pointer (some ⟨b13, 0, none⟩)) Try.underlying54 rfl (by kernel_rfl) rfl (HS48.cells 0 3 _ rfl))) (by kernel_rfl) ?_
    have HS52 := HS48.drop
    have HS53 := HS52.drop
    have HS54 := HS53.drop
    injection h with h
    subst h
    exact ⟨f43, rfl, (L24.trans L44), HS54⟩

set_option maxRecDepth 100000 in
set_option maxHeartbeats 4000000 in
theorem bound_Sub_Light.calls (k : Nat)  (a1 : S_Bound) (b2 : S_Bound) {t w : World} {f : FM} {H : List Seg} (HS : St t w f (H)) (r1 : S_Bound) (h : bound_Sub_Light k a1 b2 = some r1) :
    Calls Try.prog 51 #[.agg #[.int .i64 a1.Lo, .int .i64 a1.Hi, .bool a1.Unknown], .agg #[.int .i64 b2.Lo, .int .i64 b2.Hi, .bool b2.Unknown]] w (fun e w' => ∃ (g : FM), e = .returned (Value.agg #[.int .i64 r1.Lo, .int .i64 r1.Hi, .bool r1.Unknown]) ∧ FM.le f g ∧ St t w' g (H)) := by
  unfold bound_Sub_Light at h
  refine enter Try.func51 rfl (tm := #[.agg #[.int .i64 a1.Lo, .int .i64 a1.Hi, .bool a1.Unknown], .agg #[.int .i64 b2.Lo, .int .i64 b2.Hi, .bool b2.Unknown], undef, undef, undef, undef, undef, undef, undef]) (by kernel_rfl) ?_
  intro B hret hnor hnp
  refine wp_seq_k (fun K3 hK4 => ?_)
  refine wp_region_lit ?_
  refine seqK rfl (does_box (cs := #[.int .i64 a1.Lo, .int .i64 a1.Hi, .bool a1.Unknown]) rfl (by kernel_rfl : _ = Value.agg #[.int .i64 a1.Lo, .int .i64 a1.Hi, .bool a1.Unknown]) rfl HS ?_)
  intro b5 W6 HS7
  refine seqK rfl (does_box (cs := #[.int .i64 b2.Lo, .int .i64 b2.Hi, .bool b2.Unknown]) rfl (by kernel_rfl : _ = Value.agg #[.int .i64 b2.Lo, .int .i64 b2.Hi, .bool b2.Unknown]) rfl HS7 ?_)
  intro b9 W10 HS11
  refine seqK rfl (does_alloc (z := Value.agg #[.int .i64 0, .int .i64 0, .bool false]) (cs := #[.int .i64 0, .int .i64 0, .bool false]) rfl (by kernel_rfl) rfl HS11 ?_)
  intro b13 W14 HS15
  refine wpList_nil ?_
  refine hK4 _ _ ?_
  refine wp_seq_k (fun K17 hK18 => ?_)
  have HS19 := HS15.u2
  have HS20 := HS19.u2
  have HS21 := HS20.u2
  refine heldG (S := Sg t f ([(b9, .cells #[.int .i64 b2.Lo, .int .i64 b2.Hi, .bool b2.Unknown] 54 (0, 0))] :: [(b5, .cells #[.int .i64 a1.Lo, .int .i64 a1.Hi, .bool a1.Unknown] 54 (0, 0))] :: H) [(4, [(b13, .cells #[.int .i64 0, .int .i64 0, .bool false] 54 (0, 0))])]) (n := 5) (by kernel_rfl) rfl HS21 ?_
  intro W22 HS23
  refine takeGQ 0 [] rfl (by kernel_rfl) (by kernel_rfl) (by kernel_rfl) (by kernel_rfl) (by kernel_rfl) (by kernel_rfl) hnp (Sg.g1 (Sx.of [[(b13, .cells #[.int .i64 0, .int .i64 0, .bool false] 54 (0, 0))]] (FM.le.refl _) HS23) (fun _ => St.only [] HS23 (FM.le.refl _))) (fun w_ hw_ => by obtain ⟨g_, hl_, hS_⟩ := hw_.st; exact run_loadN (n := 3) rfl Try.underlying54 rfl (by kernel_rfl) (by kernel_rfl : _ = Value.pointer (some ⟨b5, 0, none⟩)) (cs := [.int .i64 a1.Lo, .int .i64 a1.Hi, .bool a1.Unknown]) rfl (hS_.u1.cells 0 3 _ rfl)) ?_
  refine takeGQ 1 [] rfl (by kernel_rfl) (by kernel_rfl) (by kernel_rfl) (by kernel_rfl) (by kernel_rfl) (by kernel_rfl) hnp (Sg.g1 (Sx.of [[(b13, .cells #[.int .i64 0, .int .i64 0, .bool false] 54 (0, 0))]] (FM.le.refl _) HS23) (fun _ => St.only [] HS23 (FM.le.refl _))) (fun w_ hw_ => by obtain ⟨g_, hl_, hS_⟩ := hw_.st; exact run_loadN (n := 3) rfl Try.underlying54 rfl (by kernel_rfl) (by kernel_rfl : _ = Value.pointer (some ⟨b9, 0, none⟩)) (cs := [.int .i64 b2.Lo, .int .i64 b2.Hi, .bool b2.Unknown]) rfl (hS_.cells 0 3 _ rfl)) ?_
  have hq_ := bind_some h; clear h; obtain ⟨vt24, hc25, h⟩ := hq_
  refine takeGE 2 (by kernel_rfl) rfl (by kernel_rfl) (does_call (f := 89) (args := #[.agg #[.int .i64 b2.Lo, .int .i64 b2.Hi, .bool b2.Unknown]]) (by kernel_rfl) (bound_Neg_Light.calls k b2 HS23 vt24 hc25) ?_)
  rintro _ W28 ⟨f26, rfl, L27, HS29⟩
  refine ⟨_, rfl, ?_⟩
  refine ⟨(Sg.g1 (Sx.of [[(b13, .cells #[.int .i64 0, .int .i64 0, .bool false] 54 (0, 0))]] L27 HS29) (fun _ => St.only [] HS29 L27)), ?_⟩
  have hq_ := bind_some h; clear h; obtain ⟨vt30, hc31, h⟩ := hq_
  refine takeGE 3 (by kernel_rfl) rfl (by kernel_rfl) (does_call (f := 88) (args := #[.agg #[.int .i64 a1.Lo, .int .i64 a1.Hi, .bool a1.Unknown], .agg #[.int .i64 vt24.Lo, .int .i64 vt24.Hi, .bool vt24.Unknown]]) (by kernel_rfl) (bound_Add_Light.calls k a1 vt24 HS29 vt30 hc31) ?_)
  rintro _ W34 ⟨f32, rfl, L33, HS35⟩
  refine ⟨_, rfl, ?_⟩
  refine ⟨(Sg.g1 (Sx.of [[(b13, .cells #[.int .i64 0, .int .i64 0, .bool false] 54 (0, 0))]] (L27.trans L33) HS35) (fun _ => St.only [] HS35 (L27.trans L33))), ?_⟩
  refine takeGE 4 (by kernel_rfl) rfl (by kernel_rfl) (does_store (n := 3) (vs := [.int .i64 vt30.Lo, .int .i64 vt30.Hi, .bool vt30.Unknown]) (cs' := #[.int .i64 vt30.Lo, .int .i64 vt30.Hi, .bool vt30.Unknown]) rfl (by kernel_rfl) (by kernel_rfl : _ = Value.pointer (some ⟨b13, 0, none⟩)) (by kernel_rfl : _ = Value.agg #[.int .i64 vt30.Lo, .int .i64 vt30.Hi, .bool vt30.Unknown]) rfl rfl (by intro u_ hu_; simp only [List.mem_cons, List.not_mem_nil, or_false] at hu_; rcases hu_ with rfl | rfl | rfl <;> rfl) HS35 (Nat.le_of_ble_eq_true rfl) (by kernel_rfl) ?_)
  intro W36 HS37
  refine ⟨(Sg.g1 (Sx.of [[(b13, .cells #[.int .i64 vt30.Lo, .int .i64 vt30.Hi, .bool vt30.Unknown] 54 (0, 0))]] (L27.trans L33) HS37) (fun hl_ => Bool.noConfusion (show true = false from hl_))), ?_⟩
  refine doneG (by kernel_rfl) ?_ _
  refine hK18 _ _ ?_
  refine wp_ret ?_
  refine hret _ _ ?_
  refine ends (v := Value.agg #[.int .i64 vt30.Lo, .int .i64 vt30.Hi, .bool vt30.Unknown]) (results1 (q1 := .cell 4 54) (by kernel_rfl) (resN (n := 3) (cs := [.int .i64 vt30.Lo, .int .i64 vt30.Hi, .bool vt30.Unknown]) (by kernel_rfl : _ = Value.pointer (some ⟨b13, 0, none⟩)) Try.underlying54 rfl (by kernel_rfl) rfl (HS37.cells 0 3 _ rfl))) (by kernel_rfl) ?_
  have HS38 := HS37.drop
  have HS39 := HS38.drop
  have HS40 := HS39.drop
  injection h with h
  subst h
  exact ⟨f32, rfl, (L27.trans L33), HS40⟩

set_option maxRecDepth 100000 in
set_option maxHeartbeats 4000000 in
theorem calib_Light.calls (k : Nat)  (held1 : S_Bound) (dark2 : S_Bound) (flat3 : S_Bound) (beats4 : Int) {t w : World} {f : FM} {H : List Seg} (HS : St t w f (H)) (r1 : S_Bound) (h : calib_Light k held1 dark2 flat3 beats4 = some r1) :
    Calls Try.prog 26 #[.agg #[.int .i64 held1.Lo, .int .i64 held1.Hi, .bool held1.Unknown], .agg #[.int .i64 dark2.Lo, .int .i64 dark2.Hi, .bool dark2.Unknown], .agg #[.int .i64 flat3.Lo, .int .i64 flat3.Hi, .bool flat3.Unknown], .int .i64 beats4] w (fun e w' => ∃ (g : FM), e = .returned (Value.agg #[.int .i64 r1.Lo, .int .i64 r1.Hi, .bool r1.Unknown]) ∧ FM.le f g ∧ St t w' g (H)) := by
  unfold calib_Light at h
  refine enter Try.func26 rfl (tm := #[.agg #[.int .i64 held1.Lo, .int .i64 held1.Hi, .bool held1.Unknown], .agg #[.int .i64 dark2.Lo, .int .i64 dark2.Hi, .bool dark2.Unknown], .agg #[.int .i64 flat3.Lo, .int .i64 flat3.Hi, .bool flat3.Unknown], .int .i64 beats4, undef, undef, undef, undef, undef, undef, undef, undef, undef, undef, undef, undef, undef, undef, undef, undef, undef, undef, undef, undef, undef, undef, undef, undef, undef, undef, undef, undef, undef, undef, undef, undef, undef, undef, undef, undef, undef, undef, undef, undef, undef, undef, undef, undef, undef, undef, undef, undef, undef, undef, undef, undef, undef, undef, undef, undef, undef, undef, undef, undef, undef, undef, undef, undef, undef, undef, undef, undef, undef, undef, undef, undef, undef, undef]) (by kernel_rfl) ?_
  intro B hret hnor hnp
  refine wp_seq_k (fun K5 hK6 => ?_)
  refine wp_region_lit ?_
  refine seqK rfl (does_box (cs := #[.int .i64 held1.Lo, .int .i64 held1.Hi, .bool held1.Unknown]) rfl (by kernel_rfl : _ = Value.agg #[.int .i64 held1.Lo, .int .i64 held1.Hi, .bool held1.Unknown]) rfl HS ?_)
  intro b7 W8 HS9
  refine seqK rfl (does_box (cs := #[.int .i64 dark2.Lo, .int .i64 dark2.Hi, .bool dark2.Unknown]) rfl (by kernel_rfl : _ = Value.agg #[.int .i64 dark2.Lo, .int .i64 dark2.Hi, .bool dark2.Unknown]) rfl HS9 ?_)
  intro b11 W12 HS13
  refine seqK rfl (does_box (cs := #[.int .i64 flat3.Lo, .int .i64 flat3.Hi, .bool flat3.Unknown]) rfl (by kernel_rfl : _ = Value.agg #[.int .i64 flat3.Lo, .int .i64 flat3.Hi, .bool flat3.Unknown]) rfl HS13 ?_)
  intro b15 W16 HS17
  refine seqK rfl (does_alloc (z := Value.agg #[.int .i64 0, .int .i64 0, .bool false]) (cs := #[.int .i64 0, .int .i64 0, .bool false]) rfl (by kernel_rfl) rfl HS17 ?_)
  intro b19 W20 HS21
  refine wpList_nil ?_
  refine hK6 _ _ ?_
  refine wp_seq_k (fun K23 hK24 => ?_)
  refine wp_region_lit ?_
  refine seqK rfl (does_run (run_loadN (n := 3) rfl Try.underlying44 rfl (by kernel_rfl) (by kernel_rfl : _ = Value.pointer (some ⟨b7, 0, none⟩)) (cs := [.int .i64 held1.Lo, .int .i64 held1.Hi, .bool held1.Unknown]) rfl (HS21.u3.cells 0 3 _ rfl)) ?_)
  have hq_ := bind_some h; clear h; obtain ⟨vt25, hc26, h⟩ := hq_
  refine seqK rfl (does_call (f := 45) (args := #[.agg #[.int .i64 held1.Lo, .int .i64 held1.Hi, .bool held1.Unknown]]) (by kernel_rfl) (bound_Norm_Quanta.calls k held1 HS21 vt25 hc26) ?_)
  rintro _ W29 ⟨f27, rfl, L28, HS30⟩
  refine ⟨_, rfl, ?_⟩
  have hq_ := bind_some h; clear h; obtain ⟨vt31, hc32, h⟩ := hq_
  refine seqK rfl (does_call (f := 50) (args := #[.agg #[.int .i64 vt25.Lo, .int .i64 vt25.Hi, .bool vt25.Unknown]]) (by kernel_rfl) (quanta_Means.calls k vt25 HS30 vt31 hc32) ?_)
  rintro _ W35 ⟨f33, rfl, L34, HS36⟩
  refine ⟨_, rfl, ?_⟩
  have hq_ := bind_some h; clear h; obtain ⟨vt37, hc38, h⟩ := hq_
  refine seqK rfl (does_call (f := 49) (args := #[.agg #[.int .i64 vt31.Lo, .int .i64 vt31.Hi, .bool vt31.Unknown]]) (by kernel_rfl) (bound_As_Light_Quanta.calls k vt31 HS36 vt37 hc38) ?_)
  rintro _ W41 ⟨f39, rfl, L40, HS42⟩
  refine ⟨_, rfl, ?_⟩
  have hq_ := bind_some h; clear h; obtain ⟨vt43, hc44, h⟩ := hq_
  refine seqK rfl (does_call (f := 48) (args := #[.agg #[.int .i64 vt37.Lo, .int .i64 vt37.Hi, .bool vt37.Unknown], .int .i64 16777216, .int .i64 1]) (by kernel_rfl) (bound_Scale_Light.calls k vt37 16777216 1 HS42 vt43 hc44) ?_)
  rintro _ W47 ⟨f45, rfl, L46, HS48⟩
  refine ⟨_, rfl, ?_⟩
  refine seqK rfl (does_alloc (z := Value.agg #[.int .i64 0, .int .i64 0, .bool false]) (cs := #[.int .i64 0, .int .i64 0, .bool false]) rfl (by kernel_rfl) rfl HS48 ?_)
  intro b49 W50 HS51
  refine seqK rfl (does_store (n := 3) (vs := [.int .i64 vt43.Lo, .int .i64 vt43.Hi, .bool vt43.Unknown]) (cs' := #[.int .i64 vt43.Lo, .int .i64 vt43.Hi, .bool vt43.Unknown]) rfl (by kernel_rfl) (by kernel_rfl : _ = Value.pointer (some ⟨b49, 0, none⟩)) (by kernel_rfl : _ = Value.agg #[.int .i64 vt43.Lo, .int .i64 vt43.Hi, .bool vt43.Unknown]) rfl rfl (by intro u_ hu_; simp only [List.mem_cons, List.not_mem_nil, or_false] at hu_; rcases hu_ with rfl | rfl | rfl <;> rfl) HS51 (Nat.le_of_ble_eq_true rfl) (by kernel_rfl) ?_)
  intro W53 HS54
  refine wpList_nil ?_
  refine hK24 _ _ ?_
  refine wp_seq_k (fun K55 hK56 => ?_)
  refine wp_region_lit ?_
  refine seqK rfl (does_run (run_loadN (n := 3) rfl Try.underlying58 rfl (by kernel_rfl) (by kernel_rfl : _ = Value.pointer (some ⟨b15, 0, none⟩)) (cs := [.int .i64 flat3.Lo, .int .i64 flat3.Hi, .bool flat3.Unknown]) rfl (HS54.u2.cells 0 3 _ rfl)) ?_)
  have hq_ := bind_some h; clear h; obtain ⟨vt57, hc58, h⟩ := hq_
  refine seqK rfl (does_call (f := 47) (args := #[.agg #[.int .i64 flat3.Lo, .int .i64 flat3.Hi, .bool flat3.Unknown]]) (by kernel_rfl) (bound_Norm_Part.calls k flat3 HS54 vt57 hc58) ?_)
  rintro _ W61 ⟨f59, rfl, L60, HS62⟩
  refine ⟨_, rfl, ?_⟩
  have HS63 := HS62.u2
  refine seqK rfl (does_store (n := 3) (vs := [.int .i64 vt57.Lo, .int .i64 vt57.Hi, .bool vt57.Unknown]) (cs' := #[.int .i64 vt57.Lo, .int .i64 vt57.Hi, .bool vt57.Unknown]) rfl (by kernel_rfl) (by kernel_rfl : _ = Value.pointer (some ⟨b15, 0, none⟩)) (by kernel_rfl : _ = Value.agg #[.int .i64 vt57.Lo, .int .i64 vt57.Hi, .bool vt57.Unknown]) rfl rfl (by intro u_ hu_; simp only [List.mem_cons, List.not_mem_nil, or_false] at hu_; rcases hu_ with rfl | rfl | rfl <;> rfl) HS63 (Nat.le_of_ble_eq_true rfl) (by kernel_rfl) ?_)
  intro W64 HS65
  refine wpList_nil ?_
  refine hK56 _ _ ?_
  refine wp_seq_k (fun K66 hK67 => ?_)
  refine wp_seq_k (fun K68 hK69 => ?_)
  refine wp_region_lit ?_
  refine seqS3 (a' := ⟨#[.agg #[.int .i64 held1.Lo, .int .i64 held1.Hi, .bool held1.Unknown], .agg #[.int .i64 dark2.Lo, .int .i64 dark2.Hi, .bool dark2.Unknown], .agg #[.int .i64 flat3.Lo, .int .i64 flat3.Hi, .bool flat3.Unknown], .int .i64 beats4, .pointer (some ⟨b7, 0, none⟩), .pointer (some ⟨b11, 0, none⟩), .pointer (some ⟨b15, 0, none⟩), undef, .pointer (some ⟨b19, 0, none⟩), .pointer (some ⟨b49, 0, none⟩), undef, undef, undef, undef, undef, .agg #[.int .i64 held1.Lo, .int .i64 held1.Hi, .bool held1.Unknown], .agg #[.int .i64 vt25.Lo, .int .i64 vt25.Hi, .bool vt25.Unknown], .agg #[.int .i64 vt31.Lo, .int .i64 vt31.Hi, .bool vt31.Unknown], .agg #[.int .i64 vt37.Lo, .int .i64 vt37.Hi, .bool vt37.Unknown], .agg #[.int .i64 vt43.Lo, .int .i64 vt43.Hi, .bool vt43.Unknown], .agg #[.int .i64 flat3.Lo, .int .i64 flat3.Hi, .bool flat3.Unknown], .agg #[.int .i64 vt57.Lo, .int .i64 vt57.Hi, .bool vt57.Unknown], .int .i64 beats4, .bool (decide (beats4 < 0)), .bool (decide (beats4 < 0)), undef, undef, undef, undef, undef, undef, undef, undef, undef, undef, undef, undef, undef, undef, undef, undef, undef, undef, undef, undef, undef, undef, undef, undef, undef, undef, undef, undef, undef, undef, undef, undef, undef, undef, undef, undef, undef, undef, undef, undef, undef, undef, undef, undef, undef, undef, undef, undef, undef, undef, undef, undef, undef], []⟩) (by kernel_rfl) ?_
  have hq_ := ite_some h; clear h; rcases hq_ with ⟨c70, h⟩ | ⟨c70, h⟩
  · have c70 : beats4 < 0 := c70
    refine seqRwI 23 (x := (decide (beats4 < 0))) (v := true) (by kernel_rfl) (decide_eq_true c70) ?_
    refine seqRwI 24 (x := (decide (beats4 < 0))) (v := true) (by kernel_rfl) (decide_eq_true c70) ?_
    refine seqS17 (a' := ⟨#[.agg #[.int .i64 held1.Lo, .int .i64 held1.Hi, .bool held1.Unknown], .agg #[.int .i64 dark2.Lo, .int .i64 dark2.Hi, .bool dark2.Unknown], .agg #[.int .i64 flat3.Lo, .int .i64 flat3.Hi, .bool flat3.Unknown], .int .i64 beats4, .pointer (some ⟨b7, 0, none⟩), .pointer (some ⟨b11, 0, none⟩), .pointer (some ⟨b15, 0, none⟩), undef, .pointer (some ⟨b19, 0, none⟩), .pointer (some ⟨b49, 0, none⟩), undef, undef, undef, undef, undef, .agg #[.int .i64 held1.Lo, .int .i64 held1.Hi, .bool held1.Unknown], .agg #[.int .i64 vt25.Lo, .int .i64 vt25.Hi, .bool vt25.Unknown], .agg #[.int .i64 vt31.Lo, .int .i64 vt31.Hi, .bool vt31.Unknown], .agg #[.int .i64 vt37.Lo, .int .i64 vt37.Hi, .bool vt37.Unknown], .agg #[.int .i64 vt43.Lo, .int .i64 vt43.Hi, .bool vt43.Unknown], .agg #[.int .i64 flat3.Lo, .int .i64 flat3.Hi, .bool flat3.Unknown], .agg #[.int .i64 vt57.Lo, .int .i64 vt57.Hi, .bool vt57.Unknown], .int .i64 beats4, .bool true, .bool true, undef, undef, .bool true, .bool true, undef, undef, .bool true, .bool true, undef, undef, undef, .bool true, .bool true, undef, undef, undef, .bool true, undef, undef, undef, undef, undef, undef, undef, undef, undef, undef, undef, undef, undef, undef, undef, undef, undef, undef, undef, undef, undef, undef, undef, undef, undef, undef, undef, undef, undef, undef, undef, undef, undef, undef, undef, undef], []⟩) (by kernel_rfl) ?_
    refine wpList_nil ?_
    refine hK69 _ _ ?_
    refine condT (by kernel_rfl) ?_
    refine wp_seq_k (fun K71 hK72 => ?_)
    refine wp_region_lit ?_
    have hq_ := bind_some h; clear h; obtain ⟨vt73, hc74, h⟩ := hq_
    refine seqK rfl (does_call (f := 32) (args := #[]) (by kernel_rfl) (bound_None_Quanta.calls k  HS65 vt73 hc74) ?_)
    rintro _ W77 ⟨f75, rfl, L76, HS78⟩
    refine ⟨_, rfl, ?_⟩
    have HS79 := HS78.u2
    refine seqK rfl (does_store (n := 3) (vs := [.int .i64 vt73.Lo, .int .i64 vt73.Hi, .bool vt73.Unknown]) (cs' := #[.int .i64 vt73.Lo, .int .i64 vt73.Hi, .bool vt73.Unknown]) rfl (by kernel_rfl) (by kernel_rfl : _ = Value.pointer (some ⟨b19, 0, none⟩)) (by kernel_rfl : _ = Value.agg #[.int .i64 vt73.Lo, .int .i64 vt73.Hi, .bool vt73.Unknown]) rfl rfl (by intro u_ hu_; simp only [List.mem_cons, List.not_mem_nil, or_false] at hu_; rcases hu_ with rfl | rfl | rfl <;> rfl) HS79 (Nat.le_of_ble_eq_true rfl) (by kernel_rfl) ?_)
    intro W80 HS81
    refine wpList_nil ?_
    refine hK72 _ _ ?_
    refine wp_ret ?_
    refine hret _ _ ?_
    refine ends (v := Value.agg #[.int .i64 vt73.Lo, .int .i64 vt73.Hi, .bool vt73.Unknown]) (results1 (q1 := .cell 8 44) (by kernel_rfl) (resN (n := 3) (cs := [.int .i64 vt73.Lo, .int .i64 vt73.Hi, .bool vt73.Unknown]) (by kernel_rfl : _ = Value.pointer (some ⟨b19, 0, none⟩)) Try.underlying44 rfl (by kernel_rfl) rfl (HS81.cells 0 3 _ rfl))) (by kernel_rfl) ?_
    have HS255 := HS81.drop
    have HS256 := HS255.drop
    have HS257 := HS256.drop
    have HS258 := HS257.drop
    have HS259 := HS258.drop
    injection h with h
    subst h
    exact ⟨f75, rfl, (L28.trans (L34.trans (L40.trans (L46.trans (L60.trans L76))))), HS259⟩
  · have c70 : ¬ (beats4 < 0) := c70
    refine seqRwI 23 (x := (decide (beats4 < 0))) (v := false) (by kernel_rfl) (decide_eq_false c70) ?_
    refine seqRwI 24 (x := (decide (beats4 < 0))) (v := false) (by kernel_rfl) (decide_eq_false c70) ?_
    refine seqS4 (a' := ⟨#[.agg #[.int .i64 held1.Lo, .int .i64 held1.Hi, .bool held1.Unknown], .agg #[.int .i64 dark2.Lo, .int .i64 dark2.Hi, .bool dark2.Unknown], .agg #[.int .i64 flat3.Lo, .int .i64 flat3.Hi, .bool flat3.Unknown], .int .i64 beats4, .pointer (some ⟨b7, 0, none⟩), .pointer (some ⟨b11, 0, none⟩), .pointer (some ⟨b15, 0, none⟩), undef, .pointer (some ⟨b19, 0, none⟩), .pointer (some ⟨b49, 0, none⟩), undef, undef, undef, undef, undef, .agg #[.int .i64 held1.Lo, .int .i64 held1.Hi, .bool held1.Unknown], .agg #[.int .i64 vt25.Lo, .int .i64 vt25.Hi, .bool vt25.Unknown], .agg #[.int .i64 vt31.Lo, .int .i64 vt31.Hi, .bool vt31.Unknown], .agg #[.int .i64 vt37.Lo, .int .i64 vt37.Hi, .bool vt37.Unknown], .agg #[.int .i64 vt43.Lo, .int .i64 vt43.Hi, .bool vt43.Unknown], .agg #[.int .i64 flat3.Lo, .int .i64 flat3.Hi, .bool flat3.Unknown], .agg #[.int .i64 vt57.Lo, .int .i64 vt57.Hi, .bool vt57.Unknown], .int .i64 beats4, .bool false, .bool false, .int .i64 beats4, .bool (decide (beats4 > 16)), .bool (decide (beats4 > 16)), .bool (decide (beats4 > 16)), undef, undef, undef, undef, undef, undef, undef, undef, undef, undef, undef, undef, undef, undef, undef, undef, undef, undef, undef, undef, undef, undef, undef, undef, undef, undef, undef, undef, undef, undef, undef, undef, undef, undef, undef, undef, undef, undef, undef, undef, undef, undef, undef, undef, undef, undef, undef, undef, undef], []⟩) (by kernel_rfl) ?_
    have hq_ := ite_some h; clear h; rcases hq_ with ⟨c82, h⟩ | ⟨c82, h⟩
    · have c82 : beats4 > 16 := c82
      refine seqRwI 26 (x := (decide (beats4 > 16))) (v := true) (by kernel_rfl) (decide_eq_true c82) ?_
      refine seqRwI 27 (x := (decide (beats4 > 16))) (v := true) (by kernel_rfl) (decide_eq_true c82) ?_
      refine seqRwI 28 (x := (decide (beats4 > 16))) (v := true) (by kernel_rfl) (decide_eq_true c82) ?_
      refine seqS13 (a' := ⟨#[.agg #[.int .i64 held1.Lo, .int .i64 held1.Hi, .bool held1.Unknown], .agg #[.int .i64 dark2.Lo, .int .i64 dark2.Hi, .bool dark2.Unknown], .agg #[.int .i64 flat3.Lo, .int .i64 flat3.Hi, .bool flat3.Unknown], .int .i64 beats4, .pointer (some ⟨b7, 0, none⟩), .pointer (some ⟨b11, 0, none⟩), .pointer (some ⟨b15, 0, none⟩), undef, .pointer (some ⟨b19, 0, none⟩), .pointer (some ⟨b49, 0, none⟩), undef, undef, undef, undef, undef, .agg #[.int .i64 held1.Lo, .int .i64 held1.Hi, .bool held1.Unknown], .agg #[.int .i64 vt25.Lo, .int .i64 vt25.Hi, .bool vt25.Unknown], .agg #[.int .i64 vt31.Lo, .int .i64 vt31.Hi, .bool vt31.Unknown], .agg #[.int .i64 vt37.Lo, .int .i64 vt37.Hi, .bool vt37.Unknown], .agg #[.int .i64 vt43.Lo, .int .i64 vt43.Hi, .bool vt43.Unknown], .agg #[.int .i64 flat3.Lo, .int .i64 flat3.Hi, .bool flat3.Unknown], .agg #[.int .i64 vt57.Lo, .int .i64 vt57.Hi, .bool vt57.Unknown], .int .i64 beats4, .bool false, .bool false, .int .i64 beats4, .bool true, .bool true, .bool true, undef, undef, .bool true, .bool true, undef, undef, undef, .bool true, .bool true, undef, undef, undef, .bool true, undef, undef, undef, undef, undef, undef, undef, undef, undef, undef, undef, undef, undef, undef, undef, undef, undef, undef, undef, undef, undef, undef, undef, undef, undef, undef, undef, undef, undef, undef, undef, undef, undef, undef, undef, undef], []⟩) (by kernel_rfl) ?_
      refine wpList_nil ?_
      refine hK69 _ _ ?_
      refine condT (by kernel_rfl) ?_
      refine wp_seq_k (fun K83 hK84 => ?_)
      refine wp_region_lit ?_
      have hq_ := bind_some h; clear h; obtain ⟨vt85, hc86, h⟩ := hq_
      refine seqK rfl (does_call (f := 32) (args := #[]) (by kernel_rfl) (bound_None_Quanta.calls k  HS65 vt85 hc86) ?_)
      rintro _ W89 ⟨f87, rfl, L88, HS90⟩
      refine ⟨_, rfl, ?_⟩
      have HS91 := HS90.u2
      refine seqK rfl (does_store (n := 3) (vs := [.int .i64 vt85.Lo, .int .i64 vt85.Hi, .bool vt85.Unknown]) (cs' := #[.int .i64 vt85.Lo, .int .i64 vt85.Hi, .bool vt85.Unknown]) rfl (by kernel_rfl) (by kernel_rfl : _ = Value.pointer (some ⟨b19, 0, none⟩)) (by kernel_rfl : _ = Value.agg #[.int .i64 vt85.Lo, .int .i64 vt85.Hi, .bool vt85.Unknown]) rfl rfl (by intro u_ hu_; simp only [List.mem_cons, List.not_mem_nil, or_false] at hu_; rcases hu_ with rfl | rfl | rfl <;> rfl) HS91 (Nat.le_of_ble_eq_true rfl) (by kernel_rfl) ?_)
      intro W92 HS93
      refine wpList_nil ?_
      refine hK84 _ _ ?_
      refine wp_ret ?_
      refine hret _ _ ?_
      refine ends (v := Value.agg #[.int .i64 vt85.Lo, .int .i64 vt85.Hi, .bool vt85.Unknown]) (results1 (q1 := .cell 8 44) (by kernel_rfl) (resN (n := 3) (cs := [.int .i64 vt85.Lo, .int .i64 vt85.Hi, .bool vt85.Unknown]) (by kernel_rfl : _ = Value.pointer (some ⟨b19, 0, none⟩)) Try.underlying44 rfl (by kernel_rfl) rfl (HS93.cells 0 3 _ rfl))) (by kernel_rfl) ?_
      have HS260 := HS93.drop
      have HS261 := HS260.drop
      have HS262 := HS261.drop
      have HS263 := HS262.drop
      have HS264 := HS263.drop
      injection h with h
      subst h
      exact ⟨f87, rfl, (L28.trans (L34.trans (L40.trans (L46.trans (L60.trans L88))))), HS264⟩
    · have c82 : ¬ (beats4 > 16) := c82
      refine seqRwI 26 (x := (decide (beats4 > 16))) (v := false) (by kernel_rfl) (decide_eq_false c82) ?_
      refine seqRwI 27 (x := (decide (beats4 > 16))) (v := false) (by kernel_rfl) (decide_eq_false c82) ?_
      refine seqRwI 28 (x := (decide (beats4 > 16))) (v := false) (by kernel_rfl) (decide_eq_false c82) ?_
      refine seqL1 (by kernel_rfl) ?_
      refine seqG (by kernel_rfl) (does_run (run_load rfl Try.underlying4 rfl (by kernel_rfl : _ = Value.pointer (some ⟨b15, 2, none⟩)) (HS65.cell 2)) ?_)
      refine seqS2 (a' := ⟨#[.agg #[.int .i64 held1.Lo, .int .i64 held1.Hi, .bool held1.Unknown], .agg #[.int .i64 dark2.Lo, .int .i64 dark2.Hi, .bool dark2.Unknown], .agg #[.int .i64 flat3.Lo, .int .i64 flat3.Hi, .bool flat3.Unknown], .int .i64 beats4, .pointer (some ⟨b7, 0, none⟩), .pointer (some ⟨b11, 0, none⟩), .pointer (some ⟨b15, 0, none⟩), undef, .pointer (some ⟨b19, 0, none⟩), .pointer (some ⟨b49, 0, none⟩), undef, undef, undef, undef, undef, .agg #[.int .i64 held1.Lo, .int .i64 held1.Hi, .bool held1.Unknown], .agg #[.int .i64 vt25.Lo, .int .i64 vt25.Hi, .bool vt25.Unknown], .agg #[.int .i64 vt31.Lo, .int .i64 vt31.Hi, .bool vt31.Unknown], .agg #[.int .i64 vt37.Lo, .int .i64 vt37.Hi, .bool vt37.Unknown], .agg #[.int .i64 vt43.Lo, .int .i64 vt43.Hi, .bool vt43.Unknown], .agg #[.int .i64 flat3.Lo, .int .i64 flat3.Hi, .bool flat3.Unknown], .agg #[.int .i64 vt57.Lo, .int .i64 vt57.Hi, .bool vt57.Unknown], .int .i64 beats4, .bool false, .bool false, .int .i64 beats4, .bool false, .bool false, .bool false, .pointer (some ⟨b15, 2, none⟩), .bool vt57.Unknown, .bool vt57.Unknown, .bool vt57.Unknown, undef, undef, undef, undef, undef, undef, undef, undef, undef, undef, undef, undef, undef, undef, undef, undef, undef, undef, undef, undef, undef, undef, undef, undef, undef, undef, undef, undef, undef, undef, undef, undef, undef, undef, undef, undef, undef, undef, undef, undef, undef, undef, undef, undef, undef], []⟩) (by kernel_rfl) ?_
      have hq_ := ite_some h; clear h; rcases hq_ with ⟨c94, h⟩ | ⟨c94, h⟩
      · have c94 : vt57.Unknown = true := c94
        refine seqRwI 30 (x := vt57.Unknown) (v := true) (by kernel_rfl) c94 ?_
        refine seqRwI 31 (x := vt57.Unknown) (v := true) (by kernel_rfl) c94 ?_
        refine seqRwI 32 (x := vt57.Unknown) (v := true) (by kernel_rfl) c94 ?_
        refine seqS9 (a' := ⟨#[.agg #[.int .i64 held1.Lo, .int .i64 held1.Hi, .bool held1.Unknown], .agg #[.int .i64 dark2.Lo, .int .i64 dark2.Hi, .bool dark2.Unknown], .agg #[.int .i64 flat3.Lo, .int .i64 flat3.Hi, .bool flat3.Unknown], .int .i64 beats4, .pointer (some ⟨b7, 0, none⟩), .pointer (some ⟨b11, 0, none⟩), .pointer (some ⟨b15, 0, none⟩), undef, .pointer (some ⟨b19, 0, none⟩), .pointer (some ⟨b49, 0, none⟩), undef, undef, undef, undef, undef, .agg #[.int .i64 held1.Lo, .int .i64 held1.Hi, .bool held1.Unknown], .agg #[.int .i64 vt25.Lo, .int .i64 vt25.Hi, .bool vt25.Unknown], .agg #[.int .i64 vt31.Lo, .int .i64 vt31.Hi, .bool vt31.Unknown], .agg #[.int .i64 vt37.Lo, .int .i64 vt37.Hi, .bool vt37.Unknown], .agg #[.int .i64 vt43.Lo, .int .i64 vt43.Hi, .bool vt43.Unknown], .agg #[.int .i64 flat3.Lo, .int .i64 flat3.Hi, .bool flat3.Unknown], .agg #[.int .i64 vt57.Lo, .int .i64 vt57.Hi, .bool vt57.Unknown], .int .i64 beats4, .bool false, .bool false, .int .i64 beats4, .bool false, .bool false, .bool false, .pointer (some ⟨b15, 2, none⟩), .bool true, .bool true, .bool true, undef, undef, undef, .bool true, .bool true, undef, undef, undef, .bool true, undef, undef, undef, undef, undef, undef, undef, undef, undef, undef, undef, undef, undef, undef, undef, undef, undef, undef, undef, undef, undef, undef, undef, undef, undef, undef, undef, undef, undef, undef, undef, undef, undef, undef, undef, undef], []⟩) (by kernel_rfl) ?_
        refine wpList_nil ?_
        refine hK69 _ _ ?_
        refine condT (by kernel_rfl) ?_
        refine wp_seq_k (fun K95 hK96 => ?_)
        refine wp_region_lit ?_
        have hq_ := bind_some h; clear h; obtain ⟨vt97, hc98, h⟩ := hq_
        refine seqK rfl (does_call (f := 32) (args := #[]) (by kernel_rfl) (bound_None_Quanta.calls k  HS65 vt97 hc98) ?_)
        rintro _ W101 ⟨f99, rfl, L100, HS102⟩
        refine ⟨_, rfl, ?_⟩
        have HS103 := HS102.u2
        refine seqK rfl (does_store (n := 3) (vs := [.int .i64 vt97.Lo, .int .i64 vt97.Hi, .bool vt97.Unknown]) (cs' := #[.int .i64 vt97.Lo, .int .i64 vt97.Hi, .bool vt97.Unknown]) rfl (by kernel_rfl) (by kernel_rfl : _ = Value.pointer (some ⟨b19, 0, none⟩)) (by kernel_rfl : _ = Value.agg #[.int .i64 vt97.Lo, .int .i64 vt97.Hi, .bool vt97.Unknown]) rfl rfl (by intro u_ hu_; simp only [List.mem_cons, List.not_mem_nil, or_false] at hu_; rcases hu_ with rfl | rfl | rfl <;> rfl) HS103 (Nat.le_of_ble_eq_true rfl) (by kernel_rfl) ?_)
        intro W104 HS105
        refine wpList_nil ?_
        refine hK96 _ _ ?_
        refine wp_ret ?_
        refine hret _ _ ?_
        refine ends (v := Value.agg #[.int .i64 vt97.Lo, .int .i64 vt97.Hi, .bool vt97.Unknown]) (results1 (q1 := .cell 8 44) (by kernel_rfl) (resN (n := 3) (cs := [.int .i64 vt97.Lo, .int .i64 vt97.Hi, .bool vt97.Unknown]) (by kernel_rfl : _ = Value.pointer (some ⟨b19, 0, none⟩)) Try.underlying44 rfl (by kernel_rfl) rfl (HS105.cells 0 3 _ rfl))) (by kernel_rfl) ?_
        have HS265 := HS105.drop
        have HS266 := HS265.drop
        have HS267 := HS266.drop
        have HS268 := HS267.drop
        have HS269 := HS268.drop
        injection h with h
        subst h
        exact ⟨f99, rfl, (L28.trans (L34.trans (L40.trans (L46.trans (L60.trans L100))))), HS269⟩
      · have c94 : ¬ (vt57.Unknown = true) := c94
        refine seqRwI 30 (x := vt57.Unknown) (v := false) (by kernel_rfl) (Bool.eq_false_iff.mpr c94) ?_
        refine seqRwI 31 (x := vt57.Unknown) (v := false) (by kernel_rfl) (Bool.eq_false_iff.mpr c94) ?_
        refine seqRwI 32 (x := vt57.Unknown) (v := false) (by kernel_rfl) (Bool.eq_false_iff.mpr c94) ?_
        refine seqL1 (by kernel_rfl) ?_
        refine seqG (by kernel_rfl) (does_run (run_load rfl Try.underlying56 rfl (by kernel_rfl : _ = Value.pointer (some ⟨b15, 0, none⟩)) (HS65.cell 0)) ?_)
        refine seqS3 (a' := ⟨#[.agg #[.int .i64 held1.Lo, .int .i64 held1.Hi, .bool held1.Unknown], .agg #[.int .i64 dark2.Lo, .int .i64 dark2.Hi, .bool dark2.Unknown], .agg #[.int .i64 flat3.Lo, .int .i64 flat3.Hi, .bool flat3.Unknown], .int .i64 beats4, .pointer (some ⟨b7, 0, none⟩), .pointer (some ⟨b11, 0, none⟩), .pointer (some ⟨b15, 0, none⟩), undef, .pointer (some ⟨b19, 0, none⟩), .pointer (some ⟨b49, 0, none⟩), undef, undef, undef, undef, undef, .agg #[.int .i64 held1.Lo, .int .i64 held1.Hi, .bool held1.Unknown], .agg #[.int .i64 vt25.Lo, .int .i64 vt25.Hi, .bool vt25.Unknown], .agg #[.int .i64 vt31.Lo, .int .i64 vt31.Hi, .bool vt31.Unknown], .agg #[.int .i64 vt37.Lo, .int .i64 vt37.Hi, .bool vt37.Unknown], .agg #[.int .i64 vt43.Lo, .int .i64 vt43.Hi, .bool vt43.Unknown], .agg #[.int .i64 flat3.Lo, .int .i64 flat3.Hi, .bool flat3.Unknown], .agg #[.int .i64 vt57.Lo, .int .i64 vt57.Hi, .bool vt57.Unknown], .int .i64 beats4, .bool false, .bool false, .int .i64 beats4, .bool false, .bool false, .bool false, .pointer (some ⟨b15, 2, none⟩), .bool false, .bool false, .bool false, .pointer (some ⟨b15, 0, none⟩), .int .i64 vt57.Lo, .bool (decide (vt57.Lo < 1)), .bool (decide (vt57.Lo < 1)), .bool (decide (vt57.Lo < 1)), undef, undef, undef, undef, undef, undef, undef, undef, undef, undef, undef, undef, undef, undef, undef, undef, undef, undef, undef, undef, undef, undef, undef, undef, undef, undef, undef, undef, undef, undef, undef, undef, undef, undef, undef, undef, undef, undef, undef, undef], []⟩) (by kernel_rfl) ?_
        have hq_ := ite_some h; clear h; rcases hq_ with ⟨c106, h⟩ | ⟨c106, h⟩
        · have c106 : vt57.Lo < 1 := c106
          refine seqRwI 35 (x := (decide (vt57.Lo < 1))) (v := true) (by kernel_rfl) (decide_eq_true c106) ?_
          refine seqRwI 36 (x := (decide (vt57.Lo < 1))) (v := true) (by kernel_rfl) (decide_eq_true c106) ?_
          refine seqRwI 37 (x := (decide (vt57.Lo < 1))) (v := true) (by kernel_rfl) (decide_eq_true c106) ?_
          refine seqS4 (a' := ⟨#[.agg #[.int .i64 held1.Lo, .int .i64 held1.Hi, .bool held1.Unknown], .agg #[.int .i64 dark2.Lo, .int .i64 dark2.Hi, .bool dark2.Unknown], .agg #[.int .i64 flat3.Lo, .int .i64 flat3.Hi, .bool flat3.Unknown], .int .i64 beats4, .pointer (some ⟨b7, 0, none⟩), .pointer (some ⟨b11, 0, none⟩), .pointer (some ⟨b15, 0, none⟩), undef, .pointer (some ⟨b19, 0, none⟩), .pointer (some ⟨b49, 0, none⟩), undef, undef, undef, undef, undef, .agg #[.int .i64 held1.Lo, .int .i64 held1.Hi, .bool held1.Unknown], .agg #[.int .i64 vt25.Lo, .int .i64 vt25.Hi, .bool vt25.Unknown], .agg #[.int .i64 vt31.Lo, .int .i64 vt31.Hi, .bool vt31.Unknown], .agg #[.int .i64 vt37.Lo, .int .i64 vt37.Hi, .bool vt37.Unknown], .agg #[.int .i64 vt43.Lo, .int .i64 vt43.Hi, .bool vt43.Unknown], .agg #[.int .i64 flat3.Lo, .int .i64 flat3.Hi, .bool flat3.Unknown], .agg #[.int .i64 vt57.Lo, .int .i64 vt57.Hi, .bool vt57.Unknown], .int .i64 beats4, .bool false, .bool false, .int .i64 beats4, .bool false, .bool false, .bool false, .pointer (some ⟨b15, 2, none⟩), .bool false, .bool false, .bool false, .pointer (some ⟨b15, 0, none⟩), .int .i64 vt57.Lo, .bool true, .bool true, .bool true, undef, undef, undef, .bool true, undef, undef, undef, undef, undef, undef, undef, undef, undef, undef, undef, undef, undef, undef, undef, undef, undef, undef, undef, undef, undef, undef, undef, undef, undef, undef, undef, undef, undef, undef, undef, undef, undef, undef, undef, undef], []⟩) (by kernel_rfl) ?_
          refine wpList_nil ?_
          refine hK69 _ _ ?_
          refine condT (by kernel_rfl) ?_
          refine wp_seq_k (fun K107 hK108 => ?_)
          refine wp_region_lit ?_
          have hq_ := bind_some h; clear h; obtain ⟨vt109, hc110, h⟩ := hq_
          refine seqK rfl (does_call (f := 32) (args := #[]) (by kernel_rfl) (bound_None_Quanta.calls k  HS65 vt109 hc110) ?_)
          rintro _ W113 ⟨f111, rfl, L112, HS114⟩
          refine ⟨_, rfl, ?_⟩
          have HS115 := HS114.u2
          refine seqK rfl (does_store (n := 3) (vs := [.int .i64 vt109.Lo, .int .i64 vt109.Hi, .bool vt109.Unknown]) (cs' := #[.int .i64 vt109.Lo, .int .i64 vt109.Hi, .bool vt109.Unknown]) rfl (by kernel_rfl) (by kernel_rfl : _ = Value.pointer (some ⟨b19, 0, none⟩)) (by kernel_rfl : _ = Value.agg #[.int .i64 vt109.Lo, .int .i64 vt109.Hi, .bool vt109.Unknown]) rfl rfl (by intro u_ hu_; simp only [List.mem_cons, List.not_mem_nil, or_false] at hu_; rcases hu_ with rfl | rfl | rfl <;> rfl) HS115 (Nat.le_of_ble_eq_true rfl) (by kernel_rfl) ?_)
          intro W116 HS117
          refine wpList_nil ?_
          refine hK108 _ _ ?_
          refine wp_ret ?_
          refine hret _ _ ?_
          refine ends (v := Value.agg #[.int .i64 vt109.Lo, .int .i64 vt109.Hi, .bool vt109.Unknown]) (results1 (q1 := .cell 8 44) (by kernel_rfl) (resN (n := 3) (cs := [.int .i64 vt109.Lo, .int .i64 vt109.Hi, .bool vt109.Unknown]) (by kernel_rfl : _ = Value.pointer (some ⟨b19, 0, none⟩)) Try.underlying44 rfl (by kernel_rfl) rfl (HS117.cells 0 3 _ rfl))) (by kernel_rfl) ?_
          have HS270 := HS117.drop
          have HS271 := HS270.drop
          have HS272 := HS271.drop
          have HS273 := HS272.drop
          have HS274 := HS273.drop
          injection h with h
          subst h
          exact ⟨f111, rfl, (L28.trans (L34.trans (L40.trans (L46.trans (L60.trans L112))))), HS274⟩
        · have c106 : ¬ (vt57.Lo < 1) := c106
          refine seqRwI 35 (x := (decide (vt57.Lo < 1))) (v := false) (by kernel_rfl) (decide_eq_false c106) ?_
          refine seqRwI 36 (x := (decide (vt57.Lo < 1))) (v := false) (by kernel_rfl) (decide_eq_false c106) ?_
          refine seqRwI 37 (x := (decide (vt57.Lo < 1))) (v := false) (by kernel_rfl) (decide_eq_false c106) ?_
          refine seqL1 (by kernel_rfl) ?_
          refine seqG (by kernel_rfl) (does_run (run_load rfl Try.underlying56 rfl (by kernel_rfl : _ = Value.pointer (some ⟨b15, 1, none⟩)) (HS65.cell 1)) ?_)
          refine seqS2 (a' := ⟨#[.agg #[.int .i64 held1.Lo, .int .i64 held1.Hi, .bool held1.Unknown], .agg #[.int .i64 dark2.Lo, .int .i64 dark2.Hi, .bool dark2.Unknown], .agg #[.int .i64 flat3.Lo, .int .i64 flat3.Hi, .bool flat3.Unknown], .int .i64 beats4, .pointer (some ⟨b7, 0, none⟩), .pointer (some ⟨b11, 0, none⟩), .pointer (some ⟨b15, 0, none⟩), undef, .pointer (some ⟨b19, 0, none⟩), .pointer (some ⟨b49, 0, none⟩), undef, undef, undef, undef, undef, .agg #[.int .i64 held1.Lo, .int .i64 held1.Hi, .bool held1.Unknown], .agg #[.int .i64 vt25.Lo, .int .i64 vt25.Hi, .bool vt25.Unknown], .agg #[.int .i64 vt31.Lo, .int .i64 vt31.Hi, .bool vt31.Unknown], .agg #[.int .i64 vt37.Lo, .int .i64 vt37.Hi, .bool vt37.Unknown], .agg #[.int .i64 vt43.Lo, .int .i64 vt43.Hi, .bool vt43.Unknown], .agg #[.int .i64 flat3.Lo, .int .i64 flat3.Hi, .bool flat3.Unknown], .agg #[.int .i64 vt57.Lo, .int .i64 vt57.Hi, .bool vt57.Unknown], .int .i64 beats4, .bool false, .bool false, .int .i64 beats4, .bool false, .bool false, .bool false, .pointer (some ⟨b15, 2, none⟩), .bool false, .bool false, .bool false, .pointer (some ⟨b15, 0, none⟩), .int .i64 vt57.Lo, .bool false, .bool false, .bool false, .pointer (some ⟨b15, 1, none⟩), .int .i64 vt57.Hi, .bool (decide (vt57.Hi > 4096)), .bool (decide (vt57.Hi > 4096)), undef, undef, undef, undef, undef, undef, undef, undef, undef, undef, undef, undef, undef, undef, undef, undef, undef, undef, undef, undef, undef, undef, undef, undef, undef, undef, undef, undef, undef, undef, undef, undef, undef, undef, undef, undef], []⟩) (by kernel_rfl) ?_
          refine wpList_nil ?_
          refine hK69 _ _ ?_
          have hq_ := ite_some h; clear h; rcases hq_ with ⟨c119, h⟩ | ⟨c119, h⟩
          · have c119 : vt57.Hi > 4096 := c119
            refine wpRwI 40 (x := (decide (vt57.Hi > 4096))) (v := true) (by kernel_rfl) (decide_eq_true c119) ?_
            refine wpRwI 41 (x := (decide (vt57.Hi > 4096))) (v := true) (by kernel_rfl) (decide_eq_true c119) ?_
            refine condT (by kernel_rfl) ?_
            refine wp_seq_k (fun K120 hK121 => ?_)
            refine wp_region_lit ?_
            have hq_ := bind_some h; clear h; obtain ⟨vt122, hc123, h⟩ := hq_
            refine seqK rfl (does_call (f := 32) (args := #[]) (by kernel_rfl) (bound_None_Quanta.calls k  HS65 vt122 hc123) ?_)
            rintro _ W126 ⟨f124, rfl, L125, HS127⟩
            refine ⟨_, rfl, ?_⟩
            have HS128 := HS127.u2
            refine seqK rfl (does_store (n := 3) (vs := [.int .i64 vt122.Lo, .int .i64 vt122.Hi, .bool vt122.Unknown]) (cs' := #[.int .i64 vt122.Lo, .int .i64 vt122.Hi, .bool vt122.Unknown]) rfl (by kernel_rfl) (by kernel_rfl : _ = Value.pointer (some ⟨b19, 0, none⟩)) (by kernel_rfl : _ = Value.agg #[.int .i64 vt122.Lo, .int .i64 vt122.Hi, .bool vt122.Unknown]) rfl rfl (by intro u_ hu_; simp only [List.mem_cons, List.not_mem_nil, or_false] at hu_; rcases hu_ with rfl | rfl | rfl <;> rfl) HS128 (Nat.le_of_ble_eq_true rfl) (by kernel_rfl) ?_)
            intro W129 HS130
            refine wpList_nil ?_
            refine hK121 _ _ ?_
            refine wp_ret ?_
            refine hret _ _ ?_
            refine ends (v := Value.agg #[.int .i64 vt122.Lo, .int .i64 vt122.Hi, .bool vt122.Unknown]) (results1 (q1 := .cell 8 44) (by kernel_rfl) (resN (n := 3) (cs := [.int .i64 vt122.Lo, .int .i64 vt122.Hi, .bool vt122.Unknown]) (by kernel_rfl : _ = Value.pointer (some ⟨b19, 0, none⟩)) Try.underlying44 rfl (by kernel_rfl) rfl (HS130.cells 0 3 _ rfl))) (by kernel_rfl) ?_
            have HS275 := HS130.drop
            have HS276 := HS275.drop
            have HS277 := HS276.drop
            have HS278 := HS277.drop
            have HS279 := HS278.drop
            injection h with h
            subst h
            exact ⟨f124, rfl, (L28.trans (L34.trans (L40.trans (L46.trans (L60.trans L125))))), HS279⟩
          · have c119 : ¬ (vt57.Hi > 4096) := c119
            refine wpRwI 40 (x := (decide (vt57.Hi > 4096))) (v := false) (by kernel_rfl) (decide_eq_false c119) ?_
            refine wpRwI 41 (x := (decide (vt57.Hi > 4096))) (v := false) (by kernel_rfl) (decide_eq_false c119) ?_
            refine condF (by kernel_rfl) ?_
            refine wp_skip ?_
            refine hK67 _ _ ?_
            refine wp_seq_k (fun K131 hK132 => ?_)
            refine heldG (S := Sg t f59 ([(b15, .cells #[.int .i64 vt57.Lo, .int .i64 vt57.Hi, .bool vt57.Unknown] 58 (0, 0))] :: [(b49, .cells #[.int .i64 vt43.Lo, .int .i64 vt43.Hi, .bool vt43.Unknown] 54 (0, 0))] :: [(b19, .cells #[.int .i64 0, .int .i64 0, .bool false] 44 (0, 0))] :: [(b11, .cells #[.int .i64 dark2.Lo, .int .i64 dark2.Hi, .bool dark2.Unknown] 54 (0, 0))] :: [(b7, .cells #[.int .i64 held1.Lo, .int .i64 held1.Hi, .bool held1.Unknown] 44 (0, 0))] :: H) []) (n := 7) (by kernel_rfl) rfl HS65 ?_
            intro W133 HS134
            refine takeGQ 0 [] rfl (by kernel_rfl) (by kernel_rfl) (by kernel_rfl) (by kernel_rfl) (by kernel_rfl) (by kernel_rfl) hnp (Sg.g0 (Sx.of [] (FM.le.refl _) HS134)) (fun w_ hw_ => by obtain ⟨g_, hl_, hS_⟩ := hw_.st; exact run_loadN (n := 3) rfl Try.underlying54 rfl (by kernel_rfl) (by kernel_rfl : _ = Value.pointer (some ⟨b49, 0, none⟩)) (cs := [.int .i64 vt43.Lo, .int .i64 vt43.Hi, .bool vt43.Unknown]) rfl (hS_.u1.cells 0 3 _ rfl)) ?_
            refine takeGQ 1 [] rfl (by kernel_rfl) (by kernel_rfl) (by kernel_rfl) (by kernel_rfl) (by kernel_rfl) (by kernel_rfl) hnp (Sg.g0 (Sx.of [] (FM.le.refl _) HS134)) (fun w_ hw_ => by obtain ⟨g_, hl_, hS_⟩ := hw_.st; exact run_loadN (n := 3) rfl Try.underlying54 rfl (by kernel_rfl) (by kernel_rfl : _ = Value.pointer (some ⟨b11, 0, none⟩)) (cs := [.int .i64 dark2.Lo, .int .i64 dark2.Hi, .bool dark2.Unknown]) rfl (hS_.u3.cells 0 3 _ rfl)) ?_
            have hq_ := bind_some h; clear h; obtain ⟨vt135, hc136, h⟩ := hq_
            have hq_ := bind_some h; clear h; obtain ⟨vt141, hc142, h⟩ := hq_
            refine takeG [2] (n := 5) (fuel := 4) (l' := #[true, true, true, false, false, false, false]) (a' := ⟨#[.agg #[.int .i64 held1.Lo, .int .i64 held1.Hi, .bool held1.Unknown], .agg #[.int .i64 dark2.Lo, .int .i64 dark2.Hi, .bool dark2.Unknown], .agg #[.int .i64 flat3.Lo, .int .i64 flat3.Hi, .bool flat3.Unknown], .int .i64 beats4, .pointer (some ⟨b7, 0, none⟩), .pointer (some ⟨b11, 0, none⟩), .pointer (some ⟨b15, 0, none⟩), undef, .pointer (some ⟨b19, 0, none⟩), .pointer (some ⟨b49, 0, none⟩), undef, undef, undef, undef, undef, .agg #[.int .i64 held1.Lo, .int .i64 held1.Hi, .bool held1.Unknown], .agg #[.int .i64 vt25.Lo, .int .i64 vt25.Hi, .bool vt25.Unknown], .agg #[.int .i64 vt31.Lo, .int .i64 vt31.Hi, .bool vt31.Unknown], .agg #[.int .i64 vt37.Lo, .int .i64 vt37.Hi, .bool vt37.Unknown], .agg #[.int .i64 vt43.Lo, .int .i64 vt43.Hi, .bool vt43.Unknown], .agg #[.int .i64 flat3.Lo, .int .i64 flat3.Hi, .bool flat3.Unknown], .agg #[.int .i64 vt57.Lo, .int .i64 vt57.Hi, .bool vt57.Unknown], .int .i64 beats4, .bool false, .bool false, .int .i64 beats4, .bool false, .bool false, .bool false, .pointer (some ⟨b15, 2, none⟩), .bool false, .bool false, .bool false, .pointer (some ⟨b15, 0, none⟩), .int .i64 vt57.Lo, .bool false, .bool false, .bool false, .pointer (some ⟨b15, 1, none⟩), .int .i64 vt57.Hi, .bool false, .bool false, undef, .agg #[.int .i64 vt43.Lo, .int .i64 vt43.Hi, .bool vt43.Unknown], .agg #[.int .i64 dark2.Lo, .int .i64 dark2.Hi, .bool dark2.Unknown], .int .i64 beats4, undef, undef, undef, undef, undef, undef, undef, undef, undef, undef, undef, undef, undef, undef, undef, undef, undef, undef, undef, undef, undef, undef, undef, undef, undef, undef, undef, undef, undef, undef, undef, undef], []⟩) rfl (by kernel_rfl) (by kernel_rfl) (by kernel_rfl) hnp (Sg.g0 (Sx.of [] (FM.le.refl _) HS134)) ?_
            refine withR #[true, true, true, true, true, true, true] ?_
            intro R153 hR154 hR155
            have J156 : ∀ (f137 : FM) (f143 : FM) (b147 : Nat) (W157 : World) (a_ : Act), FM.le f59 f137 → FM.le f137 f143 → St t W157 f143 ([(b147, .cells #[.int .i64 vt141.Lo, .int .i64 vt141.Hi, .bool vt141.Unknown] 54 (0, 0))] :: [(b15, .cells #[.int .i64 vt57.Lo, .int .i64 vt57.Hi, .bool vt57.Unknown] 58 (0, 0))] :: [(b49, .cells #[.int .i64 vt43.Lo, .int .i64 vt43.Hi, .bool vt43.Unknown] 54 (0, 0))] :: [(b19, .cells #[.int .i64 0, .int .i64 0, .bool false] 44 (0, 0))] :: [(b11, .cells #[.int .i64 dark2.Lo, .int .i64 dark2.Hi, .bool dark2.Unknown] 54 (0, 0))] :: [(b7, .cells #[.int .i64 held1.Lo, .int .i64 held1.Hi, .bool held1.Unknown] 44 (0, 0))] :: H) → a_ = ⟨#[.agg #[.int .i64 held1.Lo, .int .i64 held1.Hi, .bool held1.Unknown], .agg #[.int .i64 dark2.Lo, .int .i64 dark2.Hi, .bool dark2.Unknown], .agg #[.int .i64 flat3.Lo, .int .i64 flat3.Hi, .bool flat3.Unknown], .int .i64 beats4, .pointer (some ⟨b7, 0, none⟩), .pointer (some ⟨b11, 0, none⟩), .pointer (some ⟨b15, 0, none⟩), undef, .pointer (some ⟨b19, 0, none⟩), .pointer (some ⟨b49, 0, none⟩), .pointer (some ⟨b147, 0, none⟩), undef, undef, undef, undef, .agg #[.int .i64 held1.Lo, .int .i64 held1.Hi, .bool held1.Unknown], .agg #[.int .i64 vt25.Lo, .int .i64 vt25.Hi, .bool vt25.Unknown], .agg #[.int .i64 vt31.Lo, .int .i64 vt31.Hi, .bool vt31.Unknown], .agg #[.int .i64 vt37.Lo, .int .i64 vt37.Hi, .bool vt37.Unknown], .agg #[.int .i64 vt43.Lo, .int .i64 vt43.Hi, .bool vt43.Unknown], .agg #[.int .i64 flat3.Lo, .int .i64 flat3.Hi, .bool flat3.Unknown], .agg #[.int .i64 vt57.Lo, .int .i64 vt57.Hi, .bool vt57.Unknown], .int .i64 beats4, .bool false, .bool false, .int .i64 beats4, .bool false, .bool false, .bool false, .pointer (some ⟨b15, 2, none⟩), .bool false, .bool false, .bool false, .pointer (some ⟨b15, 0, none⟩), .int .i64 vt57.Lo, .bool false, .bool false, .bool false, .pointer (some ⟨b15, 1, none⟩), .int .i64 vt57.Hi, .bool false, .bool false, undef, .agg #[.int .i64 vt43.Lo, .int .i64 vt43.Hi, .bool vt43.Unknown], .agg #[.int .i64 dark2.Lo, .int .i64 dark2.Hi, .bool dark2.Unknown], .int .i64 beats4, .agg #[.int .i64 vt135.Lo, .int .i64 vt135.Hi, .bool vt135.Unknown], .agg #[.int .i64 vt141.Lo, .int .i64 vt141.Hi, .bool vt141.Unknown], undef, undef, undef, undef, undef, undef, undef, undef, undef, undef, undef, undef, undef, undef, undef, undef, undef, undef, undef, undef, undef, undef, undef, undef, undef, undef, undef, undef, undef, undef], []⟩ → R153 a_ W157 := by
              intro f137 f143 b147 W157 a_ L138 L144 HS158 hfr_; subst hfr_
              refine hR154 _ _ ?_
              refine doneG (by kernel_rfl) ?_ _
              refine hK132 _ _ ?_
              refine wp_seq_k (fun K197 hK198 => ?_)
              refine wp_seq_k (fun K199 hK200 => ?_)
              refine wp_region_lit ?_
              refine seqL1 (by kernel_rfl) ?_
              refine seqK rfl (does_run (run_load rfl Try.underlying4 rfl (by kernel_rfl : _ = Value.pointer (some ⟨b147, 2, none⟩)) (HS158.cell 2)) ?_)
              refine seqS1 (a' := ⟨#[.agg #[.int .i64 held1.Lo, .int .i64 held1.Hi, .bool held1.Unknown], .agg #[.int .i64 dark2.Lo, .int .i64 dark2.Hi, .bool dark2.Unknown], .agg #[.int .i64 flat3.Lo, .int .i64 flat3.Hi, .bool flat3.Unknown], .int .i64 beats4, .pointer (some ⟨b7, 0, none⟩), .pointer (some ⟨b11, 0, none⟩), .pointer (some ⟨b15, 0, none⟩), undef, .pointer (some ⟨b19, 0, none⟩), .pointer (some ⟨b49, 0, none⟩), .pointer (some ⟨b147, 0, none⟩), undef, undef, undef, undef, .agg #[.int .i64 held1.Lo, .int .i64 held1.Hi, .bool held1.Unknown], .agg #[.int .i64 vt25.Lo, .int .i64 vt25.Hi, .bool vt25.Unknown], .agg #[.int .i64 vt31.Lo, .int .i64 vt31.Hi, .bool vt31.Unknown], .agg #[.int .i64 vt37.Lo, .int .i64 vt37.Hi, .bool vt37.Unknown], .agg #[.int .i64 vt43.Lo, .int .i64 vt43.Hi, .bool vt43.Unknown], .agg #[.int .i64 flat3.Lo, .int .i64 flat3.Hi, .bool flat3.Unknown], .agg #[.int .i64 vt57.Lo, .int .i64 vt57.Hi, .bool vt57.Unknown], .int .i64 beats4, .bool false, .bool false, .int .i64 beats4, .bool false, .bool false, .bool false, .pointer (some ⟨b15, 2, none⟩), .bool false, .bool false, .bool false, .pointer (some ⟨b15, 0, none⟩), .int .i64 vt57.Lo, .bool false, .bool false, .bool false, .pointer (some ⟨b15, 1, none⟩), .int .i64 vt57.Hi, .bool false, .bool false, undef, .agg #[.int .i64 vt43.Lo, .int .i64 vt43.Hi, .bool vt43.Unknown], .agg #[.int .i64 dark2.Lo, .int .i64 dark2.Hi, .bool dark2.Unknown], .int .i64 beats4, .agg #[.int .i64 vt135.Lo, .int .i64 vt135.Hi, .bool vt135.Unknown], .agg #[.int .i64 vt141.Lo, .int .i64 vt141.Hi, .bool vt141.Unknown], .pointer (some ⟨b147, 2, none⟩), .bool vt141.Unknown, .bool vt141.Unknown, undef, undef, undef, undef, undef, undef, undef, undef, undef, undef, undef, undef, undef, undef, undef, undef, undef, undef, undef, undef, undef, undef, undef, undef, undef, undef, undef], []⟩) (by kernel_rfl) ?_
              have hq_ := ite_some h; clear h; rcases hq_ with ⟨c201, h⟩ | ⟨c201, h⟩
              · have c201 : vt141.Unknown = true := c201
                refine seqRwI 49 (x := vt141.Unknown) (v := true) (by kernel_rfl) c201 ?_
                refine seqRwI 50 (x := vt141.Unknown) (v := true) (by kernel_rfl) c201 ?_
                refine seqS4 (a' := ⟨#[.agg #[.int .i64 held1.Lo, .int .i64 held1.Hi, .bool held1.Unknown], .agg #[.int .i64 dark2.Lo, .int .i64 dark2.Hi, .bool dark2.Unknown], .agg #[.int .i64 flat3.Lo, .int .i64 flat3.Hi, .bool flat3.Unknown], .int .i64 beats4, .pointer (some ⟨b7, 0, none⟩), .pointer (some ⟨b11, 0, none⟩), .pointer (some ⟨b15, 0, none⟩), undef, .pointer (some ⟨b19, 0, none⟩), .pointer (some ⟨b49, 0, none⟩), .pointer (some ⟨b147, 0, none⟩), undef, undef, undef, undef, .agg #[.int .i64 held1.Lo, .int .i64 held1.Hi, .bool held1.Unknown], .agg #[.int .i64 vt25.Lo, .int .i64 vt25.Hi, .bool vt25.Unknown], .agg #[.int .i64 vt31.Lo, .int .i64 vt31.Hi, .bool vt31.Unknown], .agg #[.int .i64 vt37.Lo, .int .i64 vt37.Hi, .bool vt37.Unknown], .agg #[.int .i64 vt43.Lo, .int .i64 vt43.Hi, .bool vt43.Unknown], .agg #[.int .i64 flat3.Lo, .int .i64 flat3.Hi, .bool flat3.Unknown], .agg #[.int .i64 vt57.Lo, .int .i64 vt57.Hi, .bool vt57.Unknown], .int .i64 beats4, .bool false, .bool false, .int .i64 beats4, .bool false, .bool false, .bool false, .pointer (some ⟨b15, 2, none⟩), .bool false, .bool false, .bool false, .pointer (some ⟨b15, 0, none⟩), .int .i64 vt57.Lo, .bool false, .bool false, .bool false, .pointer (some ⟨b15, 1, none⟩), .int .i64 vt57.Hi, .bool false, .bool false, undef, .agg #[.int .i64 vt43.Lo, .int .i64 vt43.Hi, .bool vt43.Unknown], .agg #[.int .i64 dark2.Lo, .int .i64 dark2.Hi, .bool dark2.Unknown], .int .i64 beats4, .agg #[.int .i64 vt135.Lo, .int .i64 vt135.Hi, .bool vt135.Unknown], .agg #[.int .i64 vt141.Lo, .int .i64 vt141.Hi, .bool vt141.Unknown], .pointer (some ⟨b147, 2, none⟩), .bool true, .bool true, undef, undef, undef, .bool true, undef, undef, undef, undef, undef, undef, undef, undef, undef, undef, undef, undef, undef, undef, undef, undef, undef, undef, undef, undef, undef, undef, undef], []⟩) (by kernel_rfl) ?_
                refine wpList_nil ?_
                refine hK200 _ _ ?_
                refine condT (by kernel_rfl) ?_
                refine wp_seq_k (fun K202 hK203 => ?_)
                refine wp_region_lit ?_
                have hq_ := bind_some h; clear h; obtain ⟨vt204, hc205, h⟩ := hq_
                refine seqK rfl (does_call (f := 32) (args := #[]) (by kernel_rfl) (bound_None_Quanta.calls k  HS158 vt204 hc205) ?_)
                rintro _ W208 ⟨f206, rfl, L207, HS209⟩
                refine ⟨_, rfl, ?_⟩
                have HS210 := HS209.u3
                refine seqK rfl (does_store (n := 3) (vs := [.int .i64 vt204.Lo, .int .i64 vt204.Hi, .bool vt204.Unknown]) (cs' := #[.int .i64 vt204.Lo, .int .i64 vt204.Hi, .bool vt204.Unknown]) rfl (by kernel_rfl) (by kernel_rfl : _ = Value.pointer (some ⟨b19, 0, none⟩)) (by kernel_rfl : _ = Value.agg #[.int .i64 vt204.Lo, .int .i64 vt204.Hi, .bool vt204.Unknown]) rfl rfl (by intro u_ hu_; simp only [List.mem_cons, List.not_mem_nil, or_false] at hu_; rcases hu_ with rfl | rfl | rfl <;> rfl) HS210 (Nat.le_of_ble_eq_true rfl) (by kernel_rfl) ?_)
                intro W211 HS212
                refine wpList_nil ?_
                refine hK203 _ _ ?_
                refine wp_ret ?_
                refine hret _ _ ?_
                refine ends (v := Value.agg #[.int .i64 vt204.Lo, .int .i64 vt204.Hi, .bool vt204.Unknown]) (results1 (q1 := .cell 8 44) (by kernel_rfl) (resN (n := 3) (cs := [.int .i64 vt204.Lo, .int .i64 vt204.Hi, .bool vt204.Unknown]) (by kernel_rfl : _ = Value.pointer (some ⟨b19, 0, none⟩)) Try.underlying44 rfl (by kernel_rfl) rfl (HS212.cells 0 3 _ rfl))) (by kernel_rfl) ?_
                have HS280 := HS212.drop
                have HS281 := HS280.drop
                have HS282 := HS281.drop
                have HS283 := HS282.drop
                have HS284 := HS283.drop
                have HS285 := HS284.drop
                injection h with h
                subst h
                exact ⟨f206, rfl, (L28.trans (L34.trans (L40.trans (L46.trans (L60.trans (L138.trans (L144.trans L207))))))), HS285⟩
              · have c201 : ¬ (vt141.Unknown = true) := c201
                refine seqRwI 49 (x := vt141.Unknown) (v := false) (by kernel_rfl) (Bool.eq_false_iff.mpr c201) ?_
                refine seqRwI 50 (x := vt141.Unknown) (v := false) (by kernel_rfl) (Bool.eq_false_iff.mpr c201) ?_
                refine seqL1 (by kernel_rfl) ?_
                refine seqG (by kernel_rfl) (does_run (run_load rfl Try.underlying52 rfl (by kernel_rfl : _ = Value.pointer (some ⟨b147, 1, none⟩)) (HS158.cell 1)) ?_)
                refine seqS2 (a' := ⟨#[.agg #[.int .i64 held1.Lo, .int .i64 held1.Hi, .bool held1.Unknown], .agg #[.int .i64 dark2.Lo, .int .i64 dark2.Hi, .bool dark2.Unknown], .agg #[.int .i64 flat3.Lo, .int .i64 flat3.Hi, .bool flat3.Unknown], .int .i64 beats4, .pointer (some ⟨b7, 0, none⟩), .pointer (some ⟨b11, 0, none⟩), .pointer (some ⟨b15, 0, none⟩), undef, .pointer (some ⟨b19, 0, none⟩), .pointer (some ⟨b49, 0, none⟩), .pointer (some ⟨b147, 0, none⟩), undef, undef, undef, undef, .agg #[.int .i64 held1.Lo, .int .i64 held1.Hi, .bool held1.Unknown], .agg #[.int .i64 vt25.Lo, .int .i64 vt25.Hi, .bool vt25.Unknown], .agg #[.int .i64 vt31.Lo, .int .i64 vt31.Hi, .bool vt31.Unknown], .agg #[.int .i64 vt37.Lo, .int .i64 vt37.Hi, .bool vt37.Unknown], .agg #[.int .i64 vt43.Lo, .int .i64 vt43.Hi, .bool vt43.Unknown], .agg #[.int .i64 flat3.Lo, .int .i64 flat3.Hi, .bool flat3.Unknown], .agg #[.int .i64 vt57.Lo, .int .i64 vt57.Hi, .bool vt57.Unknown], .int .i64 beats4, .bool false, .bool false, .int .i64 beats4, .bool false, .bool false, .bool false, .pointer (some ⟨b15, 2, none⟩), .bool false, .bool false, .bool false, .pointer (some ⟨b15, 0, none⟩), .int .i64 vt57.Lo, .bool false, .bool false, .bool false, .pointer (some ⟨b15, 1, none⟩), .int .i64 vt57.Hi, .bool false, .bool false, undef, .agg #[.int .i64 vt43.Lo, .int .i64 vt43.Hi, .bool vt43.Unknown], .agg #[.int .i64 dark2.Lo, .int .i64 dark2.Hi, .bool dark2.Unknown], .int .i64 beats4, .agg #[.int .i64 vt135.Lo, .int .i64 vt135.Hi, .bool vt135.Unknown], .agg #[.int .i64 vt141.Lo, .int .i64 vt141.Hi, .bool vt141.Unknown], .pointer (some ⟨b147, 2, none⟩), .bool false, .bool false, .pointer (some ⟨b147, 1, none⟩), .int .i64 vt141.Hi, .bool (decide (vt141.Hi < 0)), .bool (decide (vt141.Hi < 0)), undef, undef, undef, undef, undef, undef, undef, undef, undef, undef, undef, undef, undef, undef, undef, undef, undef, undef, undef, undef, undef, undef, undef], []⟩) (by kernel_rfl) ?_
                refine wpList_nil ?_
                refine hK200 _ _ ?_
                have hq_ := ite_some h; clear h; rcases hq_ with ⟨c214, h⟩ | ⟨c214, h⟩
                · have c214 : vt141.Hi < 0 := c214
                  refine wpRwI 53 (x := (decide (vt141.Hi < 0))) (v := true) (by kernel_rfl) (decide_eq_true c214) ?_
                  refine wpRwI 54 (x := (decide (vt141.Hi < 0))) (v := true) (by kernel_rfl) (decide_eq_true c214) ?_
                  refine condT (by kernel_rfl) ?_
                  refine wp_seq_k (fun K215 hK216 => ?_)
                  refine wp_region_lit ?_
                  have hq_ := bind_some h; clear h; obtain ⟨vt217, hc218, h⟩ := hq_
                  refine seqK rfl (does_call (f := 32) (args := #[]) (by kernel_rfl) (bound_None_Quanta.calls k  HS158 vt217 hc218) ?_)
                  rintro _ W221 ⟨f219, rfl, L220, HS222⟩
                  refine ⟨_, rfl, ?_⟩
                  have HS223 := HS222.u3
                  refine seqK rfl (does_store (n := 3) (vs := [.int .i64 vt217.Lo, .int .i64 vt217.Hi, .bool vt217.Unknown]) (cs' := #[.int .i64 vt217.Lo, .int .i64 vt217.Hi, .bool vt217.Unknown]) rfl (by kernel_rfl) (by kernel_rfl : _ = Value.pointer (some ⟨b19, 0, none⟩)) (by kernel_rfl : _ = Value.agg #[.int .i64 vt217.Lo, .int .i64 vt217.Hi, .bool vt217.Unknown]) rfl rfl (by intro u_ hu_; simp only [List.mem_cons, List.not_mem_nil, or_false] at hu_; rcases hu_ with rfl | rfl | rfl <;> rfl) HS223 (Nat.le_of_ble_eq_true rfl) (by kernel_rfl) ?_)
                  intro W224 HS225
                  refine wpList_nil ?_
                  refine hK216 _ _ ?_
                  refine wp_ret ?_
                  refine hret _ _ ?_
                  refine ends (v := Value.agg #[.int .i64 vt217.Lo, .int .i64 vt217.Hi, .bool vt217.Unknown]) (results1 (q1 := .cell 8 44) (by kernel_rfl) (resN (n := 3) (cs := [.int .i64 vt217.Lo, .int .i64 vt217.Hi, .bool vt217.Unknown]) (by kernel_rfl : _ = Value.pointer (some ⟨b19, 0, none⟩)) Try.underlying44 rfl (by kernel_rfl) rfl (HS225.cells 0 3 _ rfl))) (by kernel_rfl) ?_
                  have HS286 := HS225.drop
                  have HS287 := HS286.drop
                  have HS288 := HS287.drop
                  have HS289 := HS288.drop
                  have HS290 := HS289.drop
                  have HS291 := HS290.drop
                  injection h with h
                  subst h
                  exact ⟨f219, rfl, (L28.trans (L34.trans (L40.trans (L46.trans (L60.trans (L138.trans (L144.trans L220))))))), HS291⟩
                · have c214 : ¬ (vt141.Hi < 0) := c214
                  refine wpRwI 53 (x := (decide (vt141.Hi < 0))) (v := false) (by kernel_rfl) (decide_eq_false c214) ?_
                  refine wpRwI 54 (x := (decide (vt141.Hi < 0))) (v := false) (by kernel_rfl) (decide_eq_false c214) ?_
                  refine condF (by kernel_rfl) ?_
                  refine wp_skip ?_
                  refine hK198 _ _ ?_
                  refine wp_seq_k (fun K226 hK227 => ?_)
                  refine wp_region_lit ?_
                  refine seqL1 (by kernel_rfl) ?_
                  refine seqK rfl (does_run (run_load rfl Try.underlying52 rfl (by kernel_rfl : _ = Value.pointer (some ⟨b147, 0, none⟩)) (HS158.cell 0)) ?_)
                  refine seqL2 (by kernel_rfl) ?_
                  refine seqK rfl (does_run (run_load rfl Try.underlying56 rfl (by kernel_rfl : _ = Value.pointer (some ⟨b15, 1, none⟩)) (HS158.u1.cell 1)) ?_)
                  have hq_ := bind_some h; clear h; obtain ⟨⟨vt228, vt229⟩, hc230, h⟩ := hq_
                  refine seqL1 (by kernel_rfl) ?_
                  refine seqK rfl (does_call (f := 52) (args := #[.int .i64 (mx 0 vt141.Lo), .int .i64 4096, .int .i64 (w64 (vt57.Hi * 16777216))]) (by kernel_rfl) (num_MulDiv.calls k (mx 0 vt141.Lo) 4096 (w64 (vt57.Hi * 16777216)) HS158 vt228 vt229 hc230) ?_)
                  rintro _ W233 ⟨f231, rfl, L232, HS234⟩
                  refine ⟨_, rfl, ?_⟩
                  refine seqS5 (a' := ⟨#[.agg #[.int .i64 held1.Lo, .int .i64 held1.Hi, .bool held1.Unknown], .agg #[.int .i64 dark2.Lo, .int .i64 dark2.Hi, .bool dark2.Unknown], .agg #[.int .i64 flat3.Lo, .int .i64 flat3.Hi, .bool flat3.Unknown], .int .i64 beats4, .pointer (some ⟨b7, 0, none⟩), .pointer (some ⟨b11, 0, none⟩), .pointer (some ⟨b15, 0, none⟩), undef, .pointer (some ⟨b19, 0, none⟩), .pointer (some ⟨b49, 0, none⟩), .pointer (some ⟨b147, 0, none⟩), .int .i64 vt228, .int .i64 vt229, undef, undef, .agg #[.int .i64 held1.Lo, .int .i64 held1.Hi, .bool held1.Unknown], .agg #[.int .i64 vt25.Lo, .int .i64 vt25.Hi, .bool vt25.Unknown], .agg #[.int .i64 vt31.Lo, .int .i64 vt31.Hi, .bool vt31.Unknown], .agg #[.int .i64 vt37.Lo, .int .i64 vt37.Hi, .bool vt37.Unknown], .agg #[.int .i64 vt43.Lo, .int .i64 vt43.Hi, .bool vt43.Unknown], .agg #[.int .i64 flat3.Lo, .int .i64 flat3.Hi, .bool flat3.Unknown], .agg #[.int .i64 vt57.Lo, .int .i64 vt57.Hi, .bool vt57.Unknown], .int .i64 beats4, .bool false, .bool false, .int .i64 beats4, .bool false, .bool false, .bool false, .pointer (some ⟨b15, 2, none⟩), .bool false, .bool false, .bool false, .pointer (some ⟨b15, 0, none⟩), .int .i64 vt57.Lo, .bool false, .bool false, .bool false, .pointer (some ⟨b15, 1, none⟩), .int .i64 vt57.Hi, .bool false, .bool false, undef, .agg #[.int .i64 vt43.Lo, .int .i64 vt43.Hi, .bool vt43.Unknown], .agg #[.int .i64 dark2.Lo, .int .i64 dark2.Hi, .bool dark2.Unknown], .int .i64 beats4, .agg #[.int .i64 vt135.Lo, .int .i64 vt135.Hi, .bool vt135.Unknown], .agg #[.int .i64 vt141.Lo, .int .i64 vt141.Hi, .bool vt141.Unknown], .pointer (some ⟨b147, 2, none⟩), .bool false, .bool false, .pointer (some ⟨b147, 1, none⟩), .int .i64 vt141.Hi, .bool false, .bool false, undef, .tuple #[.int .i64 vt228, .int .i64 vt229], .pointer (some ⟨b147, 0, none⟩), .int .i64 vt141.Lo, .int .i64 (mx 0 vt141.Lo), .pointer (some ⟨b15, 1, none⟩), .int .i64 vt57.Hi, .int .i64 (w64 (vt57.Hi * 16777216)), .tuple #[.int .i64 vt228, .int .i64 vt229], .int .i64 vt228, .int .i64 vt229, undef, undef, undef, undef, undef, undef, undef, undef, undef, undef, undef, undef], []⟩) (by kernel_rfl) ?_
                  refine wpList_nil ?_
                  refine hK227 _ _ ?_
                  refine wp_seq_k (fun K235 hK236 => ?_)
                  refine wp_region_lit ?_
                  refine seqL1 (by kernel_rfl) ?_
                  refine seqK rfl (does_run (run_load rfl Try.underlying52 rfl (by kernel_rfl : _ = Value.pointer (some ⟨b147, 1, none⟩)) (HS234.cell 1)) ?_)
                  refine seqL1 (by kernel_rfl) ?_
                  refine seqK rfl (does_run (run_load rfl Try.underlying56 rfl (by kernel_rfl : _ = Value.pointer (some ⟨b15, 0, none⟩)) (HS234.u1.cell 0)) ?_)
                  have hq_ := bind_some h; clear h; obtain ⟨⟨vt237, vt238⟩, hc239, h⟩ := hq_
                  refine seqL1 (by kernel_rfl) ?_
                  refine seqK rfl (does_call (f := 53) (args := #[.int .i64 vt141.Hi, .int .i64 4096, .int .i64 (w64 (vt57.Lo * 16777216))]) (by kernel_rfl) (num_MulDivUp.calls k vt141.Hi 4096 (w64 (vt57.Lo * 16777216)) HS234 vt237 vt238 hc239) ?_)
                  rintro _ W242 ⟨f240, rfl, L241, HS243⟩
                  refine ⟨_, rfl, ?_⟩
                  refine seqS5 (a' := ⟨#[.agg #[.int .i64 held1.Lo, .int .i64 held1.Hi, .bool held1.Unknown], .agg #[.int .i64 dark2.Lo, .int .i64 dark2.Hi, .bool dark2.Unknown], .agg #[.int .i64 flat3.Lo, .int .i64 flat3.Hi, .bool flat3.Unknown], .int .i64 beats4, .pointer (some ⟨b7, 0, none⟩), .pointer (some ⟨b11, 0, none⟩), .pointer (some ⟨b15, 0, none⟩), undef, .pointer (some ⟨b19, 0, none⟩), .pointer (some ⟨b49, 0, none⟩), .pointer (some ⟨b147, 0, none⟩), .int .i64 vt228, .int .i64 vt229, .int .i64 vt237, .int .i64 vt238, .agg #[.int .i64 held1.Lo, .int .i64 held1.Hi, .bool held1.Unknown], .agg #[.int .i64 vt25.Lo, .int .i64 vt25.Hi, .bool vt25.Unknown], .agg #[.int .i64 vt31.Lo, .int .i64 vt31.Hi, .bool vt31.Unknown], .agg #[.int .i64 vt37.Lo, .int .i64 vt37.Hi, .bool vt37.Unknown], .agg #[.int .i64 vt43.Lo, .int .i64 vt43.Hi, .bool vt43.Unknown], .agg #[.int .i64 flat3.Lo, .int .i64 flat3.Hi, .bool flat3.Unknown], .agg #[.int .i64 vt57.Lo, .int .i64 vt57.Hi, .bool vt57.Unknown], .int .i64 beats4, .bool false, .bool false, .int .i64 beats4, .bool false, .bool false, .bool false, .pointer (some ⟨b15, 2, none⟩), .bool false, .bool false, .bool false, .pointer (some ⟨b15, 0, none⟩), .int .i64 vt57.Lo, .bool false, .bool false, .bool false, .pointer (some ⟨b15, 1, none⟩), .int .i64 vt57.Hi, .bool false, .bool false, undef, .agg #[.int .i64 vt43.Lo, .int .i64 vt43.Hi, .bool vt43.Unknown], .agg #[.int .i64 dark2.Lo, .int .i64 dark2.Hi, .bool dark2.Unknown], .int .i64 beats4, .agg #[.int .i64 vt135.Lo, .int .i64 vt135.Hi, .bool vt135.Unknown], .agg #[.int .i64 vt141.Lo, .int .i64 vt141.Hi, .bool vt141.Unknown], .pointer (some ⟨b147, 2, none⟩), .bool false, .bool false, .pointer (some ⟨b147, 1, none⟩), .int .i64 vt141.Hi, .bool false, .bool false, undef, .tuple #[.int .i64 vt228, .int .i64 vt229], .pointer (some ⟨b147, 0, none⟩), .int .i64 vt141.Lo, .int .i64 (mx 0 vt141.Lo), .pointer (some ⟨b15, 1, none⟩), .int .i64 vt57.Hi, .int .i64 (w64 (vt57.Hi * 16777216)), .tuple #[.int .i64 vt228, .int .i64 vt229], .int .i64 vt228, .int .i64 vt229, .tuple #[.int .i64 vt237, .int .i64 vt238], .pointer (some ⟨b147, 1, none⟩), .int .i64 vt141.Hi, .pointer (some ⟨b15, 0, none⟩), .int .i64 vt57.Lo, .int .i64 (w64 (vt57.Lo * 16777216)), .tuple #[.int .i64 vt237, .int .i64 vt238], .int .i64 vt237, .int .i64 vt238, undef, undef, undef], []⟩) (by kernel_rfl) ?_
                  refine wpList_nil ?_
                  refine hK236 _ _ ?_
                  refine wp_seq_k (fun K244 hK245 => ?_)
                  refine wp_region_lit ?_
                  have hq_ := bind_some h; clear h; obtain ⟨vt246, hc247, h⟩ := hq_
                  refine seqL2 (by kernel_rfl) ?_
                  refine seqK rfl (does_call (f := 22) (args := #[.int .i64 vt228, .int .i64 vt237]) (by kernel_rfl) (bound_Of_Quanta.calls k vt228 vt237 HS243 vt246 hc247) ?_)
                  rintro _ W250 ⟨f248, rfl, L249, HS251⟩
                  refine ⟨_, rfl, ?_⟩
                  have HS252 := HS251.u3
                  refine seqK rfl (does_store (n := 3) (vs := [.int .i64 vt246.Lo, .int .i64 vt246.Hi, .bool vt246.Unknown]) (cs' := #[.int .i64 vt246.Lo, .int .i64 vt246.Hi, .bool vt246.Unknown]) rfl (by kernel_rfl) (by kernel_rfl : _ = Value.pointer (some ⟨b19, 0, none⟩)) (by kernel_rfl : _ = Value.agg #[.int .i64 vt246.Lo, .int .i64 vt246.Hi, .bool vt246.Unknown]) rfl rfl (by intro u_ hu_; simp only [List.mem_cons, List.not_mem_nil, or_false] at hu_; rcases hu_ with rfl | rfl | rfl <;> rfl) HS252 (Nat.le_of_ble_eq_true rfl) (by kernel_rfl) ?_)
                  intro W253 HS254
                  refine wpList_nil ?_
                  refine hK245 _ _ ?_
                  refine wp_ret ?_
                  refine hret _ _ ?_
                  refine ends (v := Value.agg #[.int .i64 vt246.Lo, .int .i64 vt246.Hi, .bool vt246.Unknown]) (results1 (q1 := .cell 8 44) (by kernel_rfl) (resN (n := 3) (cs := [.int .i64 vt246.Lo, .int .i64 vt246.Hi, .bool vt246.Unknown]) (by kernel_rfl : _ = Value.pointer (some ⟨b19, 0, none⟩)) Try.underlying44 rfl (by kernel_rfl) rfl (HS254.cells 0 3 _ rfl))) (by kernel_rfl) ?_
                  have HS292 := HS254.drop
                  have HS293 := HS292.drop
                  have HS294 := HS293.drop
                  have HS295 := HS294.drop
                  have HS296 := HS295.drop
                  have HS297 := HS296.drop
                  injection h with h
                  subst h
                  exact ⟨f248, rfl, (L28.trans (L34.trans (L40.trans (L46.trans (L60.trans (L138.trans (L144.trans (L232.trans (L241.trans L249))))))))), HS297⟩
            refine takeEither 3 5 (by kernel_rfl) rfl rfl rfl rfl ?_ ?_
            · refine does_call (f := 48) (args := #[.agg #[.int .i64 dark2.Lo, .int .i64 dark2.Hi, .bool dark2.Unknown], .int .i64 beats4, .int .i64 1]) (by kernel_rfl) (bound_Scale_Light.calls k dark2 beats4 1 HS134 vt135 hc136) ?_
              rintro _ W161 ⟨f159, rfl, L160, HS162⟩
              refine ⟨_, rfl, ?_⟩
              refine ⟨(Sg.g0 (Sx.of [] L160 HS162)), ?_⟩
              refine takeEither 4 5 (by kernel_rfl) rfl rfl rfl rfl ?_ ?_
              · refine does_call (f := 51) (args := #[.agg #[.int .i64 vt43.Lo, .int .i64 vt43.Hi, .bool vt43.Unknown], .agg #[.int .i64 vt135.Lo, .int .i64 vt135.Hi, .bool vt135.Unknown]]) (by kernel_rfl) (bound_Sub_Light.calls k vt43 vt135 HS162 vt141 hc142) ?_
                rintro _ W165 ⟨f163, rfl, L164, HS166⟩
                refine ⟨_, rfl, ?_⟩
                refine ⟨(Sg.g0 (Sx.of [] (L160.trans L164) HS166)), ?_⟩
                refine takeGE 5 (by kernel_rfl) rfl (by kernel_rfl) (does_alloc (z := Value.agg #[.int .i64 0, .int .i64 0, .bool false]) (cs := #[.int .i64 0, .int .i64 0, .bool false]) rfl (by kernel_rfl) rfl HS166 ?_)
                intro b167 W168 HS169
                refine ⟨(Sg.g0 (Sx.of [[(b167, .cells #[.int .i64 0, .int .i64 0, .bool false] 54 (0, 0))]] (L160.trans L164) HS169)), ?_⟩
                refine takeGE 6 (by kernel_rfl) rfl (by kernel_rfl) (does_store (n := 3) (vs := [.int .i64 vt141.Lo, .int .i64 vt141.Hi, .bool vt141.Unknown]) (cs' := #[.int .i64 vt141.Lo, .int .i64 vt141.Hi, .bool vt141.Unknown]) rfl (by kernel_rfl) (by kernel_rfl : _ = Value.pointer (some ⟨b167, 0, none⟩)) (by kernel_rfl : _ = Value.agg #[.int .i64 vt141.Lo, .int .i64 vt141.Hi, .bool vt141.Unknown]) rfl rfl (by intro u_ hu_; simp only [List.mem_cons, List.not_mem_nil, or_false] at hu_; rcases hu_ with rfl | rfl | rfl <;> rfl) HS169 (Nat.le_of_ble_eq_true rfl) (by kernel_rfl) ?_)
                intro W171 HS172
                refine ⟨(Sg.g0 (Sx.of [[(b167, .cells #[.int .i64 vt141.Lo, .int .i64 vt141.Hi, .bool vt141.Unknown] 54 (0, 0))]] (L160.trans L164) HS172)), ?_⟩
                refine hR155 _ _ ?_
                exact J156 f159 f163 b167 W171 _ L160 L164 HS172 (by kernel_rfl)
              · refine does_alloc (z := Value.agg #[.int .i64 0, .int .i64 0, .bool false]) (cs := #[.int .i64 0, .int .i64 0, .bool false]) rfl (by kernel_rfl) rfl HS162 ?_
                intro b173 W174 HS175
                refine ⟨(Sg.g0 (Sx.of [[(b173, .cells #[.int .i64 0, .int .i64 0, .bool false] 54 (0, 0))]] L160 HS175)), ?_⟩
                refine takeGE 4 (by kernel_rfl) rfl (by kernel_rfl) (does_call (f := 51) (args := #[.agg #[.int .i64 vt43.Lo, .int .i64 vt43.Hi, .bool vt43.Unknown], .agg #[.int .i64 vt135.Lo, .int .i64 vt135.Hi, .bool vt135.Unknown]]) (by kernel_rfl) (bound_Sub_Light.calls k vt43 vt135 HS175 vt141 hc142) ?_)
                rintro _ W179 ⟨f177, rfl, L178, HS180⟩
                refine ⟨_, rfl, ?_⟩
                refine ⟨(Sg.g0 (Sx.of [[(b173, .cells #[.int .i64 0, .int .i64 0, .bool false] 54 (0, 0))]] (L160.trans L178) HS180)), ?_⟩
                refine takeGE 6 (by kernel_rfl) rfl (by kernel_rfl) (does_store (n := 3) (vs := [.int .i64 vt141.Lo, .int .i64 vt141.Hi, .bool vt141.Unknown]) (cs' := #[.int .i64 vt141.Lo, .int .i64 vt141.Hi, .bool vt141.Unknown]) rfl (by kernel_rfl) (by kernel_rfl : _ = Value.pointer (some ⟨b173, 0, none⟩)) (by kernel_rfl : _ = Value.agg #[.int .i64 vt141.Lo, .int .i64 vt141.Hi, .bool vt141.Unknown]) rfl rfl (by intro u_ hu_; simp only [List.mem_cons, List.not_mem_nil, or_false] at hu_; rcases hu_ with rfl | rfl | rfl <;> rfl) HS180 (Nat.le_of_ble_eq_true rfl) (by kernel_rfl) ?_)
                intro W181 HS182
                refine ⟨(Sg.g0 (Sx.of [[(b173, .cells #[.int .i64 vt141.Lo, .int .i64 vt141.Hi, .bool vt141.Unknown] 54 (0, 0))]] (L160.trans L178) HS182)), ?_⟩
                refine hR155 _ _ ?_
                exact J156 f159 f177 b173 W181 _ L160 L178 HS182 (by kernel_rfl)
            · refine does_alloc (z := Value.agg #[.int .i64 0, .int .i64 0, .bool false]) (cs := #[.int .i64 0, .int .i64 0, .bool false]) rfl (by kernel_rfl) rfl HS134 ?_
              intro b183 W184 HS185
              refine ⟨(Sg.g0 (Sx.of [[(b183, .cells #[.int .i64 0, .int .i64 0, .bool false] 54 (0, 0))]] (FM.le.refl _) HS185)), ?_⟩
              refine takeGE 3 (by kernel_rfl) rfl (by kernel_rfl) (does_call (f := 48) (args := #[.agg #[.int .i64 dark2.Lo, .int .i64 dark2.Hi, .bool dark2.Unknown], .int .i64 beats4, .int .i64 1]) (by kernel_rfl) (bound_Scale_Light.calls k dark2 beats4 1 HS185 vt135 hc136) ?_)
              rintro _ W189 ⟨f187, rfl, L188, HS190⟩
              refine ⟨_, rfl, ?_⟩
              refine ⟨(Sg.g0 (Sx.of [[(b183, .cells #[.int .i64 0, .int .i64 0, .bool false] 54 (0, 0))]] L188 HS190)), ?_⟩
              refine takeGE 4 (by kernel_rfl) rfl (by kernel_rfl) (does_call (f := 51) (args := #[.agg #[.int .i64 vt43.Lo, .int .i64 vt43.Hi, .bool vt43.Unknown], .agg #[.int .i64 vt135.Lo, .int .i64 vt135.Hi, .bool vt135.Unknown]]) (by kernel_rfl) (bound_Sub_Light.calls k vt43 vt135 HS190 vt141 hc142) ?_)
              rintro _ W193 ⟨f191, rfl, L192, HS194⟩
              refine ⟨_, rfl, ?_⟩
              refine ⟨(Sg.g0 (Sx.of [[(b183, .cells #[.int .i64 0, .int .i64 0, .bool false] 54 (0, 0))]] (L188.trans L192) HS194)), ?_⟩
              refine takeGE 6 (by kernel_rfl) rfl (by kernel_rfl) (does_store (n := 3) (vs := [.int .i64 vt141.Lo, .int .i64 vt141.Hi, .bool vt141.Unknown]) (cs' := #[.int .i64 vt141.Lo, .int .i64 vt141.Hi, .bool vt141.Unknown]) rfl (by kernel_rfl) (by kernel_rfl : _ = Value.pointer (some ⟨b183, 0, none⟩)) (by kernel_rfl : _ = Value.agg #[.int .i64 vt141.Lo, .int .i64 vt141.Hi, .bool vt141.Unknown]) rfl rfl (by intro u_ hu_; simp only [List.mem_cons, List.not_mem_nil, or_false] at hu_; rcases hu_ with rfl | rfl | rfl <;> rfl) HS194 (Nat.le_of_ble_eq_true rfl) (by kernel_rfl) ?_)
              intro W195 HS196
              refine ⟨(Sg.g0 (Sx.of [[(b183, .cells #[.int .i64 vt141.Lo, .int .i64 vt141.Hi, .bool vt141.Unknown] 54 (0, 0))]] (L188.trans L192) HS196)), ?_⟩
              refine hR155 _ _ ?_
              exact J156 f187 f191 b183 W195 _ L188 L192 HS196 (by kernel_rfl)

set_option maxRecDepth 100000 in
set_option maxHeartbeats 4000000 in
theorem spykeep3_calibrated.calls (k : Nat)   {t w : World} {f : FM} {H : List Seg} (HS : St t w f (H)) (r1 : Bool) (h : spykeep3_calibrated k = some r1) :
    Calls Try.prog 27 #[] w (fun e w' => ∃ (g : FM), e = .returned (Value.bool r1) ∧ FM.le f g ∧ St t w' g (H)) := by
  unfold spykeep3_calibrated at h
  refine enter Try.func27 rfl (tm := #[undef, undef, undef, undef, undef, undef, undef, undef, undef]) (by kernel_rfl) ?_
  intro B hret hnor hnp
  refine wp_seq_k (fun K1 hK2 => ?_)
  refine wp_region_lit ?_
  refine seqS1 (a' := ⟨#[.bool false, undef, undef, undef, undef, undef, undef, undef, undef], []⟩) (by kernel_rfl) ?_
  refine wpList_nil ?_
  refine hK2 _ _ ?_
  refine wp_seq_k (fun K3 hK4 => ?_)
  refine wp_region_lit ?_
  have hq_ := bind_some h; clear h; obtain ⟨vt5, hc6, h⟩ := hq_
  refine seqK rfl (does_call (f := 30) (args := #[.int .i64 0]) (by kernel_rfl) (bound_Exact_Quanta.calls k 0 HS vt5 hc6) ?_)
  rintro _ W9 ⟨f7, rfl, L8, HS10⟩
  refine ⟨_, rfl, ?_⟩
  have hq_ := bind_some h; clear h; obtain ⟨vt11, hc12, h⟩ := hq_
  refine seqL1 (by kernel_rfl) ?_
  refine seqK rfl (does_call (f := 54) (args := #[.int .i64 4096]) (by kernel_rfl) (bound_Exact_Part.calls k 4096 HS10 vt11 hc12) ?_)
  rintro _ W15 ⟨f13, rfl, L14, HS16⟩
  refine ⟨_, rfl, ?_⟩
  have hq_ := bind_some h; clear h; obtain ⟨vt17, hc18, h⟩ := hq_
  refine seqK rfl (does_call (f := 26) (args := #[.agg #[.int .i64 vt5.Lo, .int .i64 vt5.Hi, .bool vt5.Unknown], .agg #[.int .i64 0, .int .i64 0, .bool false], .agg #[.int .i64 vt11.Lo, .int .i64 vt11.Hi, .bool vt11.Unknown], .int .i64 2]) (by kernel_rfl) (calib_Light.calls k vt5 (⟨0, 0, false⟩ : S_Bound) vt11 2 HS16 vt17 hc18) ?_)
  rintro _ W21 ⟨f19, rfl, L20, HS22⟩
  refine ⟨_, rfl, ?_⟩
  refine seqK rfl (does_alloc (z := Value.agg #[.int .i64 0, .int .i64 0, .bool false]) (cs := #[.int .i64 0, .int .i64 0, .bool false]) rfl (by kernel_rfl) rfl HS22 ?_)
  intro b23 W24 HS25
  refine seqK rfl (does_store (n := 3) (vs := [.int .i64 vt17.Lo, .int .i64 vt17.Hi, .bool vt17.Unknown]) (cs' := #[.int .i64 vt17.Lo, .int .i64 vt17.Hi, .bool vt17.Unknown]) rfl (by kernel_rfl) (by kernel_rfl : _ = Value.pointer (some ⟨b23, 0, none⟩)) (by kernel_rfl : _ = Value.agg #[.int .i64 vt17.Lo, .int .i64 vt17.Hi, .bool vt17.Unknown]) rfl rfl (by intro u_ hu_; simp only [List.mem_cons, List.not_mem_nil, or_false] at hu_; rcases hu_ with rfl | rfl | rfl <;> rfl) HS25 (Nat.le_of_ble_eq_true rfl) (by kernel_rfl) ?_)
  intro W27 HS28
  refine wpList_nil ?_
  refine hK4 _ _ ?_
  refine wp_seq_k (fun K29 hK30 => ?_)
  refine wp_region_lit ?_
  refine seqK rfl (does_run (run_loadN (n := 3) rfl Try.underlying44 rfl (by kernel_rfl) (by kernel_rfl : _ = Value.pointer (some ⟨b23, 0, none⟩)) (cs := [.int .i64 vt17.Lo, .int .i64 vt17.Hi, .bool vt17.Unknown]) rfl (HS28.cells 0 3 _ rfl)) ?_)
  refine seqL1 (by kernel_rfl) ?_
  refine seqK rfl (does_run (run_eqS (b := ((vt17.Lo == 0) && ((vt17.Hi == 10) && ((vt17.Unknown == false) && true)))) rfl (by kernel_rfl : _ = Value.agg #[.int .i64 vt17.Lo, .int .i64 vt17.Hi, .bool vt17.Unknown]) (by kernel_rfl : _ = Value.agg #[.int .i64 0, .int .i64 10, .bool false]) (by kernel_rfl) (by kernel_rfl) W27) ?_)
  refine seqS1 (a' := ⟨#[.bool ((vt17.Lo == 0) && ((vt17.Hi == 10) && ((vt17.Unknown == false) && true))), .pointer (some ⟨b23, 0, none⟩), .agg #[.int .i64 vt5.Lo, .int .i64 vt5.Hi, .bool vt5.Unknown], .agg #[.int .i64 0, .int .i64 0, .bool false], .agg #[.int .i64 vt11.Lo, .int .i64 vt11.Hi, .bool vt11.Unknown], .agg #[.int .i64 vt17.Lo, .int .i64 vt17.Hi, .bool vt17.Unknown], .agg #[.int .i64 vt17.Lo, .int .i64 vt17.Hi, .bool vt17.Unknown], .agg #[.int .i64 0, .int .i64 10, .bool false], .bool ((vt17.Lo == 0) && ((vt17.Hi == 10) && ((vt17.Unknown == false) && true)))], []⟩) (by kernel_rfl) ?_
  refine wpList_nil ?_
  refine hK30 _ _ ?_
  refine wp_ret ?_
  refine hret _ _ ?_
  refine ends_still (v := Value.bool ((vt17.Lo == 0) && ((vt17.Hi == 10) && ((vt17.Unknown == false) && true)))) (by kernel_rfl) (by kernel_rfl) ?_
  have HS31 := HS28.drop
  injection h with h
  subst h
  exact ⟨f19, rfl, (L8.trans (L14.trans L20)), HS31⟩

set_option maxRecDepth 100000 in
set_option maxHeartbeats 4000000 in
theorem quanta_valid.calls (k : Nat)  (m1 : Int) {t w : World} {f : FM} {H : List Seg} (HS : St t w f (H)) (r1 : Bool) (h : quanta_valid k m1 = some r1) :
    Calls Try.prog 57 #[.int .i64 m1] w (fun e w' => ∃ (g : FM), e = .returned (Value.bool r1) ∧ FM.le f g ∧ St t w' g (H)) := by
  unfold quanta_valid at h
  refine enter Try.func57 rfl (tm := #[.int .i64 m1, undef, undef, undef, undef, undef, undef, undef, undef]) (by kernel_rfl) ?_
  intro B hret hnor hnp
  refine wp_seq_k (fun K2 hK3 => ?_)
  refine wp_region_lit ?_
  refine seqS1 (a' := ⟨#[.int .i64 m1, undef, .bool false, undef, undef, undef, undef, undef, undef], []⟩) (by kernel_rfl) ?_
  refine wpList_nil ?_
  refine hK3 _ _ ?_
  refine wp_seq_k (fun K4 hK5 => ?_)
  refine wp_region_lit ?_
  refine seqS3 (a' := ⟨#[.int .i64 m1, undef, .bool false, .int .i64 m1, .bool (decide (m1 ≥ 0)), .bool (decide (m1 ≥ 0)), undef, undef, undef], []⟩) (by kernel_rfl) ?_
  have hq_ := ite_some h; clear h; rcases hq_ with ⟨c6, h⟩ | ⟨c6, h⟩
  · have c6 : m1 ≥ 0 := c6
    refine seqRwI 4 (x := (decide (m1 ≥ 0))) (v := true) (by kernel_rfl) (decide_eq_true c6) ?_
    refine seqRwI 5 (x := (decide (m1 ≥ 0))) (v := true) (by kernel_rfl) (decide_eq_true c6) ?_
    refine seqS4 (a' := ⟨#[.int .i64 m1, undef, .bool (decide (m1 ≤ 1152921504606846976)), .int .i64 m1, .bool true, .bool true, .int .i64 m1, .bool (decide (m1 ≤ 1152921504606846976)), .bool (decide (m1 ≤ 1152921504606846976))], []⟩) (by kernel_rfl) ?_
    refine wpList_nil ?_
    refine hK5 _ _ ?_
    refine wp_ret ?_
    refine hret _ _ ?_
    refine ends_still (v := Value.bool (decide (m1 ≤ 1152921504606846976))) (by kernel_rfl) (by kernel_rfl) ?_
    injection h with h
    subst h
    exact ⟨f, rfl, FM.le.refl _, HS⟩
  · have c6 : ¬ (m1 ≥ 0) := c6
    refine seqRwI 4 (x := (decide (m1 ≥ 0))) (v := false) (by kernel_rfl) (decide_eq_false c6) ?_
    refine seqRwI 5 (x := (decide (m1 ≥ 0))) (v := false) (by kernel_rfl) (decide_eq_false c6) ?_
    refine seqS4 (a' := ⟨#[.int .i64 m1, undef, .bool false, .int .i64 m1, .bool false, .bool false, undef, undef, .bool false], []⟩) (by kernel_rfl) ?_
    refine wpList_nil ?_
    refine hK5 _ _ ?_
    refine wp_ret ?_
    refine hret _ _ ?_
    refine ends_still (v := Value.bool false) (by kernel_rfl) (by kernel_rfl) ?_
    injection h with h
    subst h
    exact ⟨f, rfl, FM.le.refl _, HS⟩

set_option maxRecDepth 100000 in
set_option maxHeartbeats 4000000 in
theorem quanta_whole.calls (k : Nat)  (m1 : Int) {t w : World} {f : FM} {H : List Seg} (HS : St t w f (H)) (r1 : Int) (h : quanta_whole k m1 = some r1) :
    Calls Try.prog 58 #[.int .i64 m1] w (fun e w' => ∃ (g : FM), e = .returned (Value.int .i64 r1) ∧ FM.le f g ∧ St t w' g (H)) := by
  unfold quanta_whole at h
  refine enter Try.func58 rfl (tm := #[.int .i64 m1, undef, undef, undef, undef]) (by kernel_rfl) ?_
  intro B hret hnor hnp
  refine wp_seq_k (fun K2 hK3 => ?_)
  refine wp_region_lit ?_
  refine seqS1 (a' := ⟨#[.int .i64 m1, undef, .int .i64 0, undef, undef], []⟩) (by kernel_rfl) ?_
  refine wpList_nil ?_
  refine hK3 _ _ ?_
  refine wp_seq_k (fun K4 hK5 => ?_)
  refine wp_region_lit ?_
  refine seqS3 (a' := ⟨#[.int .i64 m1, undef, .int .i64 (shr m1 24), .int .i64 m1, .int .i64 (shr m1 24)], []⟩) (by kernel_rfl) ?_
  refine wpList_nil ?_
  refine hK5 _ _ ?_
  refine wp_ret ?_
  refine hret _ _ ?_
  refine ends_still (v := Value.int .i64 (shr m1 24)) (by kernel_rfl) (by kernel_rfl) ?_
  injection h with h
  subst h
  exact ⟨f, rfl, FM.le.refl _, HS⟩

set_option maxRecDepth 100000 in
set_option maxHeartbeats 4000000 in
theorem quanta_Mix.calls (k : Nat)  (seed1 : Int) (n2 : Int) {t w : World} {f : FM} {H : List Seg} (HS : St t w f (H)) (r1 : Int) (h : quanta_Mix k seed1 n2 = some r1) :
    Calls Try.prog 61 #[.int .u64 seed1, .int .i64 n2] w (fun e w' => ∃ (g : FM), e = .returned (Value.int .u64 r1) ∧ FM.le f g ∧ St t w' g (H)) := by
  unfold quanta_Mix at h
  refine enter Try.func61 rfl (tm := #[.int .u64 seed1, .int .i64 n2, undef, undef, undef, undef, undef, undef, undef, undef, undef, undef, undef, undef, undef, undef, undef, undef, undef, undef, undef, undef, undef, undef, undef, undef]) (by kernel_rfl) ?_
  intro B hret hnor hnp
  refine wp_seq_k (fun K3 hK4 => ?_)
  refine wp_region_lit ?_
  refine seqS1 (a' := ⟨#[.int .u64 seed1, .int .i64 n2, undef, undef, .int .u64 0, undef, undef, undef, undef, undef, undef, undef, undef, undef, undef, undef, undef, undef, undef, undef, undef, undef, undef, undef, undef, undef], []⟩) (by kernel_rfl) ?_
  refine wpList_nil ?_
  refine hK4 _ _ ?_
  refine wp_seq_k (fun K5 hK6 => ?_)
  refine wp_region_lit ?_
  refine seqS7 (a' := ⟨#[.int .u64 seed1, .int .i64 n2, undef, undef, .int .u64 0, .int .u64 (u64 (seed1 + (u64 ((u64 (w64 (n2 + 1))) * 11400714819323198485)))), .int .u64 seed1, .int .i64 n2, .int .i64 (w64 (n2 + 1)), .int .u64 (u64 (w64 (n2 + 1))), .int .u64 (u64 ((u64 (w64 (n2 + 1))) * 11400714819323198485)), .int .u64 (u64 (seed1 + (u64 ((u64 (w64 (n2 + 1))) * 11400714819323198485)))), undef, undef, undef, undef, undef, undef, undef, undef, undef, undef, undef, undef, undef, undef], []⟩) (by kernel_rfl) ?_
  refine wpList_nil ?_
  refine hK6 _ _ ?_
  refine wp_seq_k (fun K7 hK8 => ?_)
  refine wp_region_lit ?_
  refine seqS6 (a' := ⟨#[.int .u64 seed1, .int .i64 n2, undef, undef, .int .u64 0, .int .u64 (u64 ((Go.bits .xor .u64 (u64 (seed1 + (u64 ((u64 (w64 (n2 + 1))) * 11400714819323198485)))) (shr (u64 (seed1 + (u64 ((u64 (w64 (n2 + 1))) * 11400714819323198485)))) 30)) * 13787848793156543929)), .int .u64 seed1, .int .i64 n2, .int .i64 (w64 (n2 + 1)), .int .u64 (u64 (w64 (n2 + 1))), .int .u64 (u64 ((u64 (w64 (n2 + 1))) * 11400714819323198485)), .int .u64 (u64 (seed1 + (u64 ((u64 (w64 (n2 + 1))) * 11400714819323198485)))), .int .u64 (u64 (seed1 + (u64 ((u64 (w64 (n2 + 1))) * 11400714819323198485)))), .int .u64 (u64 (seed1 + (u64 ((u64 (w64 (n2 + 1))) * 11400714819323198485)))), .int .u64 (shr (u64 (seed1 + (u64 ((u64 (w64 (n2 + 1))) * 11400714819323198485)))) 30), .int .u64 (Go.bits .xor .u64 (u64 (seed1 + (u64 ((u64 (w64 (n2 + 1))) * 11400714819323198485)))) (shr (u64 (seed1 + (u64 ((u64 (w64 (n2 + 1))) * 11400714819323198485)))) 30)), .int .u64 (u64 ((Go.bits .xor .u64 (u64 (seed1 + (u64 ((u64 (w64 (n2 + 1))) * 11400714819323198485)))) (shr (u64 (seed1 + (u64 ((u64 (w64 (n2 + 1))) * 11400714819323198485)))) 30)) * 13787848793156543929)), undef, undef, undef, undef, undef, undef, undef, undef, undef], []⟩) (by kernel_rfl) ?_
  refine wpList_nil ?_
  refine hK8 _ _ ?_
  refine wp_seq_k (fun K9 hK10 => ?_)
  refine wp_region_lit ?_
  refine seqS6 (a' := ⟨#[.int .u64 seed1, .int .i64 n2, undef, undef, .int .u64 0, .int .u64 (u64 ((Go.bits .xor .u64 (u64 ((Go.bits .xor .u64 (u64 (seed1 + (u64 ((u64 (w64 (n2 + 1))) * 11400714819323198485)))) (shr (u64 (seed1 + (u64 ((u64 (w64 (n2 + 1))) * 11400714819323198485)))) 30)) * 13787848793156543929)) (shr (u64 ((Go.bits .xor .u64 (u64 (seed1 + (u64 ((u64 (w64 (n2 + 1))) * 11400714819323198485)))) (shr (u64 (seed1 + (u64 ((u64 (w64 (n2 + 1))) * 11400714819323198485)))) 30)) * 13787848793156543929)) 27)) * 10723151780598845931)), .int .u64 seed1, .int .i64 n2, .int .i64 (w64 (n2 + 1)), .int .u64 (u64 (w64 (n2 + 1))), .int .u64 (u64 ((u64 (w64 (n2 + 1))) * 11400714819323198485)), .int .u64 (u64 (seed1 + (u64 ((u64 (w64 (n2 + 1))) * 11400714819323198485)))), .int .u64 (u64 (seed1 + (u64 ((u64 (w64 (n2 + 1))) * 11400714819323198485)))), .int .u64 (u64 (seed1 + (u64 ((u64 (w64 (n2 + 1))) * 11400714819323198485)))), .int .u64 (shr (u64 (seed1 + (u64 ((u64 (w64 (n2 + 1))) * 11400714819323198485)))) 30), .int .u64 (Go.bits .xor .u64 (u64 (seed1 + (u64 ((u64 (w64 (n2 + 1))) * 11400714819323198485)))) (shr (u64 (seed1 + (u64 ((u64 (w64 (n2 + 1))) * 11400714819323198485)))) 30)), .int .u64 (u64 ((Go.bits .xor .u64 (u64 (seed1 + (u64 ((u64 (w64 (n2 + 1))) * 11400714819323198485)))) (shr (u64 (seed1 + (u64 ((u64 (w64 (n2 + 1))) * 11400714819323198485)))) 30)) * 13787848793156543929)), .int .u64 (u64 ((Go.bits .xor .u64 (u64 (seed1 + (u64 ((u64 (w64 (n2 + 1))) * 11400714819323198485)))) (shr (u64 (seed1 + (u64 ((u64 (w64 (n2 + 1))) * 11400714819323198485)))) 30)) * 13787848793156543929)), .int .u64 (u64 ((Go.bits .xor .u64 (u64 (seed1 + (u64 ((u64 (w64 (n2 + 1))) * 11400714819323198485)))) (shr (u64 (seed1 + (u64 ((u64 (w64 (n2 + 1))) * 11400714819323198485)))) 30)) * 13787848793156543929)), .int .u64 (shr (u64 ((Go.bits .xor .u64 (u64 (seed1 + (u64 ((u64 (w64 (n2 + 1))) * 11400714819323198485)))) (shr (u64 (seed1 + (u64 ((u64 (w64 (n2 + 1))) * 11400714819323198485)))) 30)) * 13787848793156543929)) 27), .int .u64 (Go.bits .xor .u64 (u64 ((Go.bits .xor .u64 (u64 (seed1 + (u64 ((u64 (w64 (n2 + 1))) * 11400714819323198485)))) (shr (u64 (seed1 + (u64 ((u64 (w64 (n2 + 1))) * 11400714819323198485)))) 30)) * 13787848793156543929)) (shr (u64 ((Go.bits .xor .u64 (u64 (seed1 + (u64 ((u64 (w64 (n2 + 1))) * 11400714819323198485)))) (shr (u64 (seed1 + (u64 ((u64 (w64 (n2 + 1))) * 11400714819323198485)))) 30)) * 13787848793156543929)) 27)), .int .u64 (u64 ((Go.bits .xor .u64 (u64 ((Go.bits .xor .u64 (u64 (seed1 + (u64 ((u64 (w64 (n2 + 1))) * 11400714819323198485)))) (shr (u64 (seed1 + (u64 ((u64 (w64 (n2 + 1))) * 11400714819323198485)))) 30)) * 13787848793156543929)) (shr (u64 ((Go.bits .xor .u64 (u64 (seed1 + (u64 ((u64 (w64 (n2 + 1))) * 11400714819323198485)))) (shr (u64 (seed1 + (u64 ((u64 (w64 (n2 + 1))) * 11400714819323198485)))) 30)) * 13787848793156543929)) 27)) * 10723151780598845931)), undef, undef, undef, undef], []⟩) (by kernel_rfl) ?_
  refine wpList_nil ?_
  refine hK10 _ _ ?_
  refine wp_seq_k (fun K11 hK12 => ?_)
  refine wp_region_lit ?_
  refine seqS5 (a' := ⟨#[.int .u64 seed1, .int .i64 n2, undef, undef, .int .u64 (Go.bits .xor .u64 (u64 ((Go.bits .xor .u64 (u64 ((Go.bits .xor .u64 (u64 (seed1 + (u64 ((u64 (w64 (n2 + 1))) * 11400714819323198485)))) (shr (u64 (seed1 + (u64 ((u64 (w64 (n2 + 1))) * 11400714819323198485)))) 30)) * 13787848793156543929)) (shr (u64 ((Go.bits .xor .u64 (u64 (seed1 + (u64 ((u64 (w64 (n2 + 1))) * 11400714819323198485)))) (shr (u64 (seed1 + (u64 ((u64 (w64 (n2 + 1))) * 11400714819323198485)))) 30)) * 13787848793156543929)) 27)) * 10723151780598845931)) (shr (u64 ((Go.bits .xor .u64 (u64 ((Go.bits .xor .u64 (u64 (seed1 + (u64 ((u64 (w64 (n2 + 1))) * 11400714819323198485)))) (shr (u64 (seed1 + (u64 ((u64 (w64 (n2 + 1))) * 11400714819323198485)))) 30)) * 13787848793156543929)) (shr (u64 ((Go.bits .xor .u64 (u64 (seed1 + (u64 ((u64 (w64 (n2 + 1))) * 11400714819323198485)))) (shr (u64 (seed1 + (u64 ((u64 (w64 (n2 + 1))) * 11400714819323198485)))) 30)) * 13787848793156543929)) 27)) * 10723151780598845931)) 31)), .int .u64 (u64 ((Go.bits .xor .u64 (u64 ((Go.bits .xor .u64 (u64 (seed1 + (u64 ((u64 (w64 (n2 + 1))) * 11400714819323198485)))) (shr (u64 (seed1 + (u64 ((u64 (w64 (n2 + 1))) * 11400714819323198485)))) 30)) * 13787848793156543929)) (shr (u64 ((Go.bits .xor .u64 (u64 (seed1 + (u64 ((u64 (w64 (n2 + 1))) * 11400714819323198485)))) (shr (u64 (seed1 + (u64 ((u64 (w64 (n2 + 1))) * 11400714819323198485)))) 30)) * 13787848793156543929)) 27)) * 10723151780598845931)), .int .u64 seed1, .int .i64 n2, .int .i64 (w64 (n2 + 1)), .int .u64 (u64 (w64 (n2 + 1))), .int .u64 (u64 ((u64 (w64 (n2 + 1))) * 11400714819323198485)), .int .u64 (u64 (seed1 + (u64 ((u64 (w64 (n2 + 1))) * 11400714819323198485)))), .int .u64 (u64 (seed1 + (u64 ((u64 (w64 (n2 + 1))) * 11400714819323198485)))), .int .u64 (u64 (seed1 + (u64 ((u64 (w64 (n2 + 1))) * 11400714819323198485)))), .int .u64 (shr (u64 (seed1 + (u64 ((u64 (w64 (n2 + 1))) * 11400714819323198485)))) 30), .int .u64 (Go.bits .xor .u64 (u64 (seed1 + (u64 ((u64 (w64 (n2 + 1))) * 11400714819323198485)))) (shr (u64 (seed1 + (u64 ((u64 (w64 (n2 + 1))) * 11400714819323198485)))) 30)), .int .u64 (u64 ((Go.bits .xor .u64 (u64 (seed1 + (u64 ((u64 (w64 (n2 + 1))) * 11400714819323198485)))) (shr (u64 (seed1 + (u64 ((u64 (w64 (n2 + 1))) * 11400714819323198485)))) 30)) * 13787848793156543929)), .int .u64 (u64 ((Go.bits .xor .u64 (u64 (seed1 + (u64 ((u64 (w64 (n2 + 1))) * 11400714819323198485)))) (shr (u64 (seed1 + (u64 ((u64 (w64 (n2 + 1))) * 11400714819323198485)))) 30)) * 13787848793156543929)), .int .u64 (u64 ((Go.bits .xor .u64 (u64 (seed1 + (u64 ((u64 (w64 (n2 + 1))) * 11400714819323198485)))) (shr (u64 (seed1 + (u64 ((u64 (w64 (n2 + 1))) * 11400714819323198485)))) 30)) * 13787848793156543929)), .int .u64 (shr (u64 ((Go.bits .xor .u64 (u64 (seed1 + (u64 ((u64 (w64 (n2 + 1))) * 11400714819323198485)))) (shr (u64 (seed1 + (u64 ((u64 (w64 (n2 + 1))) * 11400714819323198485)))) 30)) * 13787848793156543929)) 27), .int .u64 (Go.bits .xor .u64 (u64 ((Go.bits .xor .u64 (u64 (seed1 + (u64 ((u64 (w64 (n2 + 1))) * 11400714819323198485)))) (shr (u64 (seed1 + (u64 ((u64 (w64 (n2 + 1))) * 11400714819323198485)))) 30)) * 13787848793156543929)) (shr (u64 ((Go.bits .xor .u64 (u64 (seed1 + (u64 ((u64 (w64 (n2 + 1))) * 11400714819323198485)))) (shr (u64 (seed1 + (u64 ((u64 (w64 (n2 + 1))) * 11400714819323198485)))) 30)) * 13787848793156543929)) 27)), .int .u64 (u64 ((Go.bits .xor .u64 (u64 ((Go.bits .xor .u64 (u64 (seed1 + (u64 ((u64 (w64 (n2 + 1))) * 11400714819323198485)))) (shr (u64 (seed1 + (u64 ((u64 (w64 (n2 + 1))) * 11400714819323198485)))) 30)) * 13787848793156543929)) (shr (u64 ((Go.bits .xor .u64 (u64 (seed1 + (u64 ((u64 (w64 (n2 + 1))) * 11400714819323198485)))) (shr (u64 (seed1 + (u64 ((u64 (w64 (n2 + 1))) * 11400714819323198485)))) 30)) * 13787848793156543929)) 27)) * 10723151780598845931)), .int .u64 (u64 ((Go.bits .xor .u64 (u64 ((Go.bits .xor .u64 (u64 (seed1 + (u64 ((u64 (w64 (n2 + 1))) * 11400714819323198485)))) (shr (u64 (seed1 + (u64 ((u64 (w64 (n2 + 1))) * 11400714819323198485)))) 30)) * 13787848793156543929)) (shr (u64 ((Go.bits .xor .u64 (u64 (seed1 + (u64 ((u64 (w64 (n2 + 1))) * 11400714819323198485)))) (shr (u64 (seed1 + (u64 ((u64 (w64 (n2 + 1))) * 11400714819323198485)))) 30)) * 13787848793156543929)) 27)) * 10723151780598845931)), .int .u64 (u64 ((Go.bits .xor .u64 (u64 ((Go.bits .xor .u64 (u64 (seed1 + (u64 ((u64 (w64 (n2 + 1))) * 11400714819323198485)))) (shr (u64 (seed1 + (u64 ((u64 (w64 (n2 + 1))) * 11400714819323198485)))) 30)) * 13787848793156543929)) (shr (u64 ((Go.bits .xor .u64 (u64 (seed1 + (u64 ((u64 (w64 (n2 + 1))) * 11400714819323198485)))) (shr (u64 (seed1 + (u64 ((u64 (w64 (n2 + 1))) * 11400714819323198485)))) 30)) * 13787848793156543929)) 27)) * 10723151780598845931)), .int .u64 (shr (u64 ((Go.bits .xor .u64 (u64 ((Go.bits .xor .u64 (u64 (seed1 + (u64 ((u64 (w64 (n2 + 1))) * 11400714819323198485)))) (shr (u64 (seed1 + (u64 ((u64 (w64 (n2 + 1))) * 11400714819323198485)))) 30)) * 13787848793156543929)) (shr (u64 ((Go.bits .xor .u64 (u64 (seed1 + (u64 ((u64 (w64 (n2 + 1))) * 11400714819323198485)))) (shr (u64 (seed1 + (u64 ((u64 (w64 (n2 + 1))) * 11400714819323198485)))) 30)) * 13787848793156543929)) 27)) * 10723151780598845931)) 31), .int .u64 (Go.bits .xor .u64 (u64 ((Go.bits .xor .u64 (u64 ((Go.bits .xor .u64 (u64 (seed1 + (u64 ((u64 (w64 (n2 + 1))) * 11400714819323198485)))) (shr (u64 (seed1 + (u64 ((u64 (w64 (n2 + 1))) * 11400714819323198485)))) 30)) * 13787848793156543929)) (shr (u64 ((Go.bits .xor .u64 (u64 (seed1 + (u64 ((u64 (w64 (n2 + 1))) * 11400714819323198485)))) (shr (u64 (seed1 + (u64 ((u64 (w64 (n2 + 1))) * 11400714819323198485)))) 30)) * 13787848793156543929)) 27)) * 10723151780598845931)) (shr (u64 ((Go.bits .xor .u64 (u64 ((Go.bits .xor .u64 (u64 (seed1 + (u64 ((u64 (w64 (n2 + 1))) * 11400714819323198485)))) (shr (u64 (seed1 + (u64 ((u64 (w64 (n2 + 1))) * 11400714819323198485)))) 30)) * 13787848793156543929)) (shr (u64 ((Go.bits .xor .u64 (u64 (seed1 + (u64 ((u64 (w64 (n2 + 1))) * 11400714819323198485)))) (shr (u64 (seed1 + (u64 ((u64 (w64 (n2 + 1))) * 11400714819323198485)))) 30)) * 13787848793156543929)) 27)) * 10723151780598845931)) 31))], []⟩) (by kernel_rfl) ?_
  refine wpList_nil ?_
  refine hK12 _ _ ?_
  refine wp_ret ?_
  refine hret _ _ ?_
  refine ends_still (v := Value.int .u64 (Go.bits .xor .u64 (u64 ((Go.bits .xor .u64 (u64 ((Go.bits .xor .u64 (u64 (seed1 + (u64 ((u64 (w64 (n2 + 1))) * 11400714819323198485)))) (shr (u64 (seed1 + (u64 ((u64 (w64 (n2 + 1))) * 11400714819323198485)))) 30)) * 13787848793156543929)) (shr (u64 ((Go.bits .xor .u64 (u64 (seed1 + (u64 ((u64 (w64 (n2 + 1))) * 11400714819323198485)))) (shr (u64 (seed1 + (u64 ((u64 (w64 (n2 + 1))) * 11400714819323198485)))) 30)) * 13787848793156543929)) 27)) * 10723151780598845931)) (shr (u64 ((Go.bits .xor .u64 (u64 ((Go.bits .xor .u64 (u64 (seed1 + (u64 ((u64 (w64 (n2 + 1))) * 11400714819323198485)))) (shr (u64 (seed1 + (u64 ((u64 (w64 (n2 + 1))) * 11400714819323198485)))) 30)) * 13787848793156543929)) (shr (u64 ((Go.bits .xor .u64 (u64 (seed1 + (u64 ((u64 (w64 (n2 + 1))) * 11400714819323198485)))) (shr (u64 (seed1 + (u64 ((u64 (w64 (n2 + 1))) * 11400714819323198485)))) 30)) * 13787848793156543929)) 27)) * 10723151780598845931)) 31))) (by kernel_rfl) (by kernel_rfl) ?_
  injection h with h
  subst h
  exact ⟨f, rfl, FM.le.refl _, HS⟩

set_option maxRecDepth 100000 in
set_option maxHeartbeats 4000000 in
theorem quanta_Below.calls (k : Nat)  (x1 : Int) (n2 : Int) {t w : World} {f : FM} {H : List Seg} (HS : St t w f (H)) (r1 : Int) (h : quanta_Below k x1 n2 = some r1) :
    Calls Try.prog 60 #[.int .u64 x1, .int .i64 n2] w (fun e w' => ∃ (g : FM), e = .returned (Value.int .i64 r1) ∧ FM.le f g ∧ St t w' g (H)) := by
  unfold quanta_Below at h
  refine enter Try.func60 rfl (tm := #[.int .u64 x1, .int .i64 n2, undef, undef, undef, undef, undef, undef, undef, undef, undef, undef, undef, undef, undef, undef, undef, undef]) (by kernel_rfl) ?_
  intro B hret hnor hnp
  refine wp_seq_k (fun K3 hK4 => ?_)
  refine wp_region_lit ?_
  refine seqS1 (a' := ⟨#[.int .u64 x1, .int .i64 n2, undef, undef, .int .i64 0, undef, undef, undef, undef, undef, undef, undef, undef, undef, undef, undef, undef, undef], []⟩) (by kernel_rfl) ?_
  refine wpList_nil ?_
  refine hK4 _ _ ?_
  refine wp_seq_k (fun K5 hK6 => ?_)
  refine wp_seq_k (fun K7 hK8 => ?_)
  refine wp_region_lit ?_
  refine seqS2 (a' := ⟨#[.int .u64 x1, .int .i64 n2, undef, undef, .int .i64 0, undef, undef, .int .i64 n2, .bool (decide (n2 < 1)), undef, undef, undef, undef, undef, undef, undef, undef, undef], []⟩) (by kernel_rfl) ?_
  refine wpList_nil ?_
  refine hK8 _ _ ?_
  have hq_ := ite_some h; clear h; rcases hq_ with ⟨c10, h⟩ | ⟨c10, h⟩
  · have c10 : n2 < 1 := c10
    refine wpRwI 8 (x := (decide (n2 < 1))) (v := true) (by kernel_rfl) (decide_eq_true c10) ?_
    refine condT (by kernel_rfl) ?_
    refine wp_seq_k (fun K11 hK12 => ?_)
    refine wp_region_lit ?_
    refine seqS1 (a' := ⟨#[.int .u64 x1, .int .i64 n2, undef, undef, .int .i64 0, undef, undef, .int .i64 n2, .bool true, undef, undef, undef, undef, undef, undef, undef, undef, undef], []⟩) (by kernel_rfl) ?_
    refine wpList_nil ?_
    refine hK12 _ _ ?_
    refine wp_ret ?_
    refine hret _ _ ?_
    refine ends_still (v := Value.int .i64 0) (by kernel_rfl) (by kernel_rfl) ?_
    injection h with h
    subst h
    exact ⟨f, rfl, FM.le.refl _, HS⟩
  · have c10 : ¬ (n2 < 1) := c10
    refine wpRwI 8 (x := (decide (n2 < 1))) (v := false) (by kernel_rfl) (decide_eq_false c10) ?_
    refine condF (by kernel_rfl) ?_
    refine wp_skip ?_
    refine hK6 _ _ ?_
    refine wp_seq_k (fun K13 hK14 => ?_)
    refine wp_region_lit ?_
    have hq_ := bind_some h; clear h; obtain ⟨⟨vt15, vt16⟩, hc17, h⟩ := hq_
    refine seqL3 (by kernel_rfl) ?_
    refine seqK rfl (does_call (f := 97) (args := #[.int .u64 x1, .int .u64 (u64 (n2))]) (by kernel_rfl) (bits_Mul64.calls k x1 (u64 (n2)) HS vt15 vt16 hc17) ?_)
    rintro _ W20 ⟨f18, rfl, L19, HS21⟩
    refine ⟨_, rfl, ?_⟩
    refine seqS5 (a' := ⟨#[.int .u64 x1, .int .i64 n2, undef, undef, .int .i64 0, .int .u64 vt15, .int .u64 vt16, .int .i64 n2, .bool false, .tuple #[.int .u64 vt15, .int .u64 vt16], .int .u64 x1, .int .i64 n2, .int .u64 (u64 (n2)), .tuple #[.int .u64 vt15, .int .u64 vt16], .int .u64 vt15, .int .u64 vt16, undef, undef], []⟩) (by kernel_rfl) ?_
    refine wpList_nil ?_
    refine hK14 _ _ ?_
    refine wp_seq_k (fun K22 hK23 => ?_)
    refine wp_region_lit ?_
    refine seqS3 (a' := ⟨#[.int .u64 x1, .int .i64 n2, undef, undef, .int .i64 (w64 (vt15)), .int .u64 vt15, .int .u64 vt16, .int .i64 n2, .bool false, .tuple #[.int .u64 vt15, .int .u64 vt16], .int .u64 x1, .int .i64 n2, .int .u64 (u64 (n2)), .tuple #[.int .u64 vt15, .int .u64 vt16], .int .u64 vt15, .int .u64 vt16, .int .u64 vt15, .int .i64 (w64 (vt15))], []⟩) (by kernel_rfl) ?_
    refine wpList_nil ?_
    refine hK23 _ _ ?_
    refine wp_ret ?_
    refine hret _ _ ?_
    refine ends_still (v := Value.int .i64 (w64 (vt15))) (by kernel_rfl) (by kernel_rfl) ?_
    injection h with h
    subst h
    exact ⟨f18, rfl, L19, HS21⟩

set_option maxRecDepth 100000 in
set_option maxHeartbeats 4000000 in
theorem quanta_Draw.calls (k : Nat)  (seed1 : Int) (n2 : Int) (m3 : Int) {t w : World} {f : FM} {H : List Seg} (HS : St t w f (H)) (r1 : Int) (r2 : Int) (h : quanta_Draw k seed1 n2 m3 = some (r1, r2)) :
    Calls Try.prog 29 #[.int .u64 seed1, .int .i64 n2, .int .i64 m3] w (fun e w' => ∃ (g : FM), e = .returned (Value.tuple #[.int .i64 r1, .int .i64 r2]) ∧ FM.le f g ∧ St t w' g (H)) := by
  unfold quanta_Draw at h
  refine enter Try.func29 rfl (tm := #[.int .u64 seed1, .int .i64 n2, .int .i64 m3, undef, undef, undef, undef, undef, undef, undef, undef, undef, undef, undef, undef, undef, undef, undef, undef, undef, undef, undef, undef, undef, undef, undef, undef, undef, undef, undef, undef, undef, undef, undef, undef, undef, undef, undef, undef, undef, undef, undef, undef, undef, undef, undef, undef, undef]) (by kernel_rfl) ?_
  intro B hret hnor hnp
  refine wp_seq_k (fun K4 hK5 => ?_)
  refine wp_region_lit ?_
  refine seqS2 (a' := ⟨#[.int .u64 seed1, .int .i64 n2, .int .i64 m3, undef, undef, undef, .int .i64 0, .int .i64 0, undef, undef, undef, undef, undef, undef, undef, undef, undef, undef, undef, undef, undef, undef, undef, undef, undef, undef, undef, undef, undef, undef, undef, undef, undef, undef, undef, undef, undef, undef, undef, undef, undef, undef, undef, undef, undef, undef, undef, undef], []⟩) (by kernel_rfl) ?_
  refine wpList_nil ?_
  refine hK5 _ _ ?_
  refine wp_seq_k (fun K6 hK7 => ?_)
  refine wp_seq_k (fun K8 hK9 => ?_)
  refine wp_region_lit ?_
  have hq_ := bind_some h; clear h; obtain ⟨vt10, hc11, h⟩ := hq_
  refine seqL1 (by kernel_rfl) ?_
  refine seqK rfl (does_call (f := 57) (args := #[.int .i64 m3]) (by kernel_rfl) (quanta_valid.calls k m3 HS vt10 hc11) ?_)
  rintro _ W14 ⟨f12, rfl, L13, HS15⟩
  refine ⟨_, rfl, ?_⟩
  refine seqS1 (a' := ⟨#[.int .u64 seed1, .int .i64 n2, .int .i64 m3, undef, undef, undef, .int .i64 0, .int .i64 0, undef, undef, undef, .int .i64 m3, .bool vt10, .bool (!vt10), undef, undef, undef, undef, undef, undef, undef, undef, undef, undef, undef, undef, undef, undef, undef, undef, undef, undef, undef, undef, undef, undef, undef, undef, undef, undef, undef, undef, undef, undef, undef, undef, undef, undef], []⟩) (by kernel_rfl) ?_
  refine wpList_nil ?_
  refine hK9 _ _ ?_
  have hq_ := ite_some h; clear h; rcases hq_ with ⟨c17, h⟩ | ⟨c17, h⟩
  · have c17 : ¬ (vt10 = true) := c17
    refine wpRwI 13 (x := (!vt10)) (v := true) (by kernel_rfl) (congrArg (fun b_ => !b_) (show vt10 = false from (Bool.eq_false_iff.mpr c17)) : (!vt10) = true) ?_
    refine condT (by kernel_rfl) ?_
    refine wp_seq_k (fun K18 hK19 => ?_)
    refine wp_region_lit ?_
    refine seqS2 (a' := ⟨#[.int .u64 seed1, .int .i64 n2, .int .i64 m3, undef, undef, undef, .int .i64 0, .int .i64 4, undef, undef, undef, .int .i64 m3, .bool vt10, .bool true, undef, undef, undef, undef, undef, undef, undef, undef, undef, undef, undef, undef, undef, undef, undef, undef, undef, undef, undef, undef, undef, undef, undef, undef, undef, undef, undef, undef, undef, undef, undef, undef, undef, undef], []⟩) (by kernel_rfl) ?_
    refine wpList_nil ?_
    refine hK19 _ _ ?_
    refine wp_ret ?_
    refine hret _ _ ?_
    refine ends_still (v := Value.tuple #[.int .i64 0, .int .i64 4]) (by kernel_rfl) (by kernel_rfl) ?_
    injection h with h
    injection h with h0_ h
    subst h0_ h
    exact ⟨f12, rfl, L13, HS15⟩
  · have c17 : ¬ (¬ (vt10 = true)) := c17
    refine wpRwI 13 (x := (!vt10)) (v := false) (by kernel_rfl) (congrArg (fun b_ => !b_) (show vt10 = true from (Decidable.of_not_not c17)) : (!vt10) = false) ?_
    refine condF (by kernel_rfl) ?_
    refine wp_skip ?_
    refine hK7 _ _ ?_
    refine wp_seq_k (fun K20 hK21 => ?_)
    refine wp_region_lit ?_
    have hq_ := bind_some h; clear h; obtain ⟨vt22, hc23, h⟩ := hq_
    refine seqL1 (by kernel_rfl) ?_
    refine seqK rfl (does_call (f := 58) (args := #[.int .i64 m3]) (by kernel_rfl) (quanta_whole.calls k m3 HS15 vt22 hc23) ?_)
    rintro _ W26 ⟨f24, rfl, L25, HS27⟩
    refine ⟨_, rfl, ?_⟩
    refine seqS1 (a' := ⟨#[.int .u64 seed1, .int .i64 n2, .int .i64 m3, undef, undef, undef, .int .i64 0, .int .i64 0, .int .i64 vt22, undef, undef, .int .i64 m3, .bool vt10, .bool false, .int .i64 m3, .int .i64 vt22, undef, undef, undef, undef, undef, undef, undef, undef, undef, undef, undef, undef, undef, undef, undef, undef, undef, undef, undef, undef, undef, undef, undef, undef, undef, undef, undef, undef, undef, undef, undef, undef], []⟩) (by kernel_rfl) ?_
    refine wpList_nil ?_
    refine hK21 _ _ ?_
    refine wp_seq_k (fun K28 hK29 => ?_)
    refine wp_region_lit ?_
    have hq_ := bind_some h; clear h; obtain ⟨vt30, hc31, h⟩ := hq_
    refine seqL1 (by kernel_rfl) ?_
    refine seqK rfl (does_call (f := 59) (args := #[.int .i64 vt22]) (by kernel_rfl) (quanta_root.calls k vt22 HS27 vt30 hc31) ?_)
    rintro _ W34 ⟨f32, rfl, L33, HS35⟩
    refine ⟨_, rfl, ?_⟩
    refine seqS1 (a' := ⟨#[.int .u64 seed1, .int .i64 n2, .int .i64 m3, undef, undef, undef, .int .i64 0, .int .i64 0, .int .i64 vt22, .int .i64 vt30, undef, .int .i64 m3, .bool vt10, .bool false, .int .i64 m3, .int .i64 vt22, .int .i64 vt22, .int .i64 vt30, undef, undef, undef, undef, undef, undef, undef, undef, undef, undef, undef, undef, undef, undef, undef, undef, undef, undef, undef, undef, undef, undef, undef, undef, undef, undef, undef, undef, undef, undef], []⟩) (by kernel_rfl) ?_
    refine wpList_nil ?_
    refine hK29 _ _ ?_
    refine wp_seq_k (fun K36 hK37 => ?_)
    refine wp_seq_k (fun K38 hK39 => ?_)
    refine wp_region_lit ?_
    have hq_ := bind_some h; clear h; obtain ⟨vt40, hc41, h⟩ := hq_
    refine seqL3 (by kernel_rfl) ?_
    refine seqK rfl (does_call (f := 61) (args := #[.int .u64 seed1, .int .i64 (w64 (4 * n2))]) (by kernel_rfl) (quanta_Mix.calls k seed1 (w64 (4 * n2)) HS35 vt40 hc41) ?_)
    rintro _ W44 ⟨f42, rfl, L43, HS45⟩
    refine ⟨_, rfl, ?_⟩
    have hq_ := bind_some h; clear h; obtain ⟨vt46, hc47, h⟩ := hq_
    refine seqK rfl (does_call (f := 60) (args := #[.int .u64 vt40, .int .i64 16777216]) (by kernel_rfl) (quanta_Below.calls k vt40 16777216 HS45 vt46 hc47) ?_)
    rintro _ W50 ⟨f48, rfl, L49, HS51⟩
    refine ⟨_, rfl, ?_⟩
    refine seqS3 (a' := ⟨#[.int .u64 seed1, .int .i64 n2, .int .i64 m3, undef, undef, undef, .int .i64 0, .int .i64 0, .int .i64 vt22, .int .i64 vt30, undef, .int .i64 m3, .bool vt10, .bool false, .int .i64 m3, .int .i64 vt22, .int .i64 vt22, .int .i64 vt30, .int .u64 seed1, .int .i64 n2, .int .i64 (w64 (4 * n2)), .int .u64 vt40, .int .i64 vt46, .int .i64 m3, .int .i64 (Int.tmod m3 16777216), .bool (decide (vt46 < (Int.tmod m3 16777216))), undef, undef, undef, undef, undef, undef, undef, undef, undef, undef, undef, undef, undef, undef, undef, undef, undef, undef, undef, undef, undef, undef], []⟩) (by kernel_rfl) ?_
    refine wpList_nil ?_
    refine hK39 _ _ ?_
    have hq_ := bind_some h; clear h; obtain ⟨v52, hv60, h⟩ := hq_
    have J61 : ∀ (f54 : FM) (q59 : Int) (j58 : Nat → Value) (W56 : World) (a_ : Act), FM.le f48 f54 → some (q59) = some v52 → St t W56 f54 (H) → a_ = ⟨#[.int .u64 seed1, .int .i64 n2, .int .i64 m3, undef, undef, undef, .int .i64 0, .int .i64 0, .int .i64 q59, .int .i64 vt30, undef, .int .i64 m3, .bool vt10, .bool false, .int .i64 m3, .int .i64 vt22, .int .i64 vt22, .int .i64 vt30, .int .u64 seed1, .int .i64 n2, .int .i64 (w64 (4 * n2)), .int .u64 vt40, .int .i64 vt46, .int .i64 m3, .int .i64 (Int.tmod m3 16777216), (j58 0), (j58 1), (j58 2), undef, undef, undef, undef, undef, undef, undef, undef, undef, undef, undef, undef, undef, undef, undef, undef, undef, undef, undef, undef], []⟩ → K36 a_ W56 := by
      intro f54 q59 j58 W56 a_ L55 hj62 HS57  hfr_; subst hfr_
      injection hj62 with hj62; subst hj62; try dsimp only at h
      refine hK37 _ _ ?_
      refine wp_seq_k (fun K63 hK64 => ?_)
      refine wp_seq_k (fun K65 hK66 => ?_)
      refine wp_region_lit ?_
      refine seqS1 (a' := ⟨#[.int .u64 seed1, .int .i64 n2, .int .i64 m3, undef, undef, undef, .int .i64 0, .int .i64 0, .int .i64 q59, .int .i64 vt30, .int .i64 1, .int .i64 m3, .bool vt10, .bool false, .int .i64 m3, .int .i64 vt22, .int .i64 vt22, .int .i64 vt30, .int .u64 seed1, .int .i64 n2, .int .i64 (w64 (4 * n2)), .int .u64 vt40, .int .i64 vt46, .int .i64 m3, .int .i64 (Int.tmod m3 16777216), (j58 0), (j58 1), (j58 2), undef, undef, undef, undef, undef, undef, undef, undef, undef, undef, undef, undef, undef, undef, undef, undef, undef, undef, undef, undef], []⟩) (by kernel_rfl) ?_
      refine wpList_nil ?_
      refine hK66 _ _ ?_
      refine blockK (fun B67 hx68 hn69 hr70 ho71 hp72 => ?_)
      have hq_ := bind_some h; clear h; obtain ⟨o73, hv117, h⟩ := hq_
      have J118 : ∀ (f111 : FM) (q116 : Int) (j115 : Nat → Value) (W113 : World) (a_ : Act), FM.le f54 f111 → some (q116) = some o73 → St t W113 f111 (H) → a_ = ⟨#[.int .u64 seed1, .int .i64 n2, .int .i64 m3, undef, undef, undef, .int .i64 0, .int .i64 0, .int .i64 q116, .int .i64 vt30, (j115 0), .int .i64 m3, .bool vt10, .bool false, .int .i64 m3, .int .i64 vt22, .int .i64 vt22, .int .i64 vt30, .int .u64 seed1, .int .i64 n2, .int .i64 (w64 (4 * n2)), .int .u64 vt40, .int .i64 vt46, .int .i64 m3, .int .i64 (Int.tmod m3 16777216), (j58 0), (j58 1), (j58 2), (j115 1), (j115 2), (j115 3), (j115 4), (j115 5), (j115 6), (j115 7), (j115 8), (j115 9), (j115 10), (j115 11), (j115 12), (j115 13), (j115 14), (j115 15), (j115 16), (j115 17), (j115 18), undef, undef], []⟩ → K63 a_ W113 := by
        intro f111 q116 j115 W113 a_ L112 hj119 HS114  hfr_; subst hfr_
        injection hj119 with hj119; subst hj119; try dsimp only at h
        refine hK64 _ _ ?_
        refine wp_seq_k (fun K120 hK121 => ?_)
        refine wp_region_lit ?_
        refine seqS4 (a' := ⟨#[.int .u64 seed1, .int .i64 n2, .int .i64 m3, undef, undef, undef, .int .i64 (mx 0 q116), .int .i64 0, .int .i64 q116, .int .i64 vt30, (j115 0), .int .i64 m3, .bool vt10, .bool false, .int .i64 m3, .int .i64 vt22, .int .i64 vt22, .int .i64 vt30, .int .u64 seed1, .int .i64 n2, .int .i64 (w64 (4 * n2)), .int .u64 vt40, .int .i64 vt46, .int .i64 m3, .int .i64 (Int.tmod m3 16777216), (j58 0), (j58 1), (j58 2), (j115 1), (j115 2), (j115 3), (j115 4), (j115 5), (j115 6), (j115 7), (j115 8), (j115 9), (j115 10), (j115 11), (j115 12), (j115 13), (j115 14), (j115 15), (j115 16), (j115 17), (j115 18), .int .i64 q116, .int .i64 (mx 0 q116)], []⟩) (by kernel_rfl) ?_
        refine wpList_nil ?_
        refine hK121 _ _ ?_
        refine wp_ret ?_
        refine hret _ _ ?_
        refine ends_still (v := Value.tuple #[.int .i64 (mx 0 q116), .int .i64 0]) (by kernel_rfl) (by kernel_rfl) ?_
        injection h with h
        injection h with h0_ h
        subst h0_ h
        exact ⟨f111, rfl, (L13.trans (L25.trans (L33.trans (L43.trans (L49.trans (L55.trans L112)))))), HS114⟩
      clear h; have h := hv117; clear hv117
      refine loopK (fun n_ a_ w_ => ∃ (f77 : FM) (q82 : Int) (vk83 : Int) (j81 : Nat → Value), FM.le f54 f77 ∧ St t w_ f77 (H) ∧ quanta_Draw.l0 k seed1 n2 vt30 n_ q82 vk83 = some o73 ∧ a_ = ⟨#[.int .u64 seed1, .int .i64 n2, .int .i64 m3, undef, undef, undef, .int .i64 0, .int .i64 0, .int .i64 q82, .int .i64 vt30, .int .i64 vk83, .int .i64 m3, .bool vt10, .bool false, .int .i64 m3, .int .i64 vt22, .int .i64 vt22, .int .i64 vt30, .int .u64 seed1, .int .i64 n2, .int .i64 (w64 (4 * n2)), .int .u64 vt40, .int .i64 vt46, .int .i64 m3, .int .i64 (Int.tmod m3 16777216), (j58 0), (j58 1), (j58 2), (j81 0), (j81 1), (j81 2), (j81 3), (j81 4), (j81 5), (j81 6), (j81 7), (j81 8), (j81 9), (j81 10), (j81 11), (j81 12), (j81 13), (j81 14), (j81 15), (j81 16), (j81 17), undef, undef], []⟩) k ⟨f54, q59, 1, (fun i_ => [undef, undef, undef, undef, undef, undef, undef, undef, undef, undef, undef, undef, undef, undef, undef, undef, undef, undef].getD i_ undef), (FM.le.refl _), HS57, h, (by kernel_rfl)⟩ ?_
      clear h
      rintro n76 _ W79 ⟨f77, q82, vk83, j81, L78, HS80, h, rfl⟩ K74 hK75
      obtain _ | n76 := n76
      · exact nomatch h
      simp only [quanta_Draw.l0] at h
      refine wp_seq_k (fun K84 hK85 => ?_)
      refine wp_seq_k (fun K86 hK87 => ?_)
      refine wp_region_lit ?_
      refine seqS2 (a' := ⟨#[.int .u64 seed1, .int .i64 n2, .int .i64 m3, undef, undef, undef, .int .i64 0, .int .i64 0, .int .i64 q82, .int .i64 vt30, .int .i64 vk83, .int .i64 m3, .bool vt10, .bool false, .int .i64 m3, .int .i64 vt22, .int .i64 vt22, .int .i64 vt30, .int .u64 seed1, .int .i64 n2, .int .i64 (w64 (4 * n2)), .int .u64 vt40, .int .i64 vt46, .int .i64 m3, .int .i64 (Int.tmod m3 16777216), (j58 0), (j58 1), (j58 2), .int .i64 vk83, .bool (decide (vk83 ≤ 3)), (j81 2), (j81 3), (j81 4), (j81 5), (j81 6), (j81 7), (j81 8), (j81 9), (j81 10), (j81 11), (j81 12), (j81 13), (j81 14), (j81 15), (j81 16), (j81 17), undef, undef], []⟩) (by kernel_rfl) ?_
      refine wpList_nil ?_
      refine hK87 _ _ ?_
      have hq_ := ite_some h; clear h; rcases hq_ with ⟨c89, h⟩ | ⟨c89, h⟩
      · have c89 : vk83 ≤ 3 := c89
        refine wpRwI 29 (x := (decide (vk83 ≤ 3))) (v := true) (by kernel_rfl) (decide_eq_true c89) ?_
        refine condT (by kernel_rfl) ?_
        refine wp_skip ?_
        refine hK85 _ _ ?_
        refine wp_seq_k (fun K90 hK91 => ?_)
        refine blockK (fun B92 hx93 hn94 hr95 ho96 hp97 => ?_)
        refine wp_region_lit ?_
        have hq_ := bind_some h; clear h; obtain ⟨vt99, hc100, h⟩ := hq_
        refine seqL6 (by kernel_rfl) ?_
        refine seqK rfl (does_call (f := 61) (args := #[.int .u64 seed1, .int .i64 (w64 ((w64 (4 * n2)) + vk83))]) (by kernel_rfl) (quanta_Mix.calls k seed1 (w64 ((w64 (4 * n2)) + vk83)) HS80 vt99 hc100) ?_)
        rintro _ W103 ⟨f101, rfl, L102, HS104⟩
        refine ⟨_, rfl, ?_⟩
        have hq_ := bind_some h; clear h; obtain ⟨vt105, hc106, h⟩ := hq_
        refine seqL3 (by kernel_rfl) ?_
        refine seqK rfl (does_call (f := 60) (args := #[.int .u64 vt99, .int .i64 (w64 ((w64 (2 * vt30)) + 1))]) (by kernel_rfl) (quanta_Below.calls k vt99 (w64 ((w64 (2 * vt30)) + 1)) HS104 vt105 hc106) ?_)
        rintro _ W109 ⟨f107, rfl, L108, HS110⟩
        refine ⟨_, rfl, ?_⟩
        refine seqS4 (a' := ⟨#[.int .u64 seed1, .int .i64 n2, .int .i64 m3, undef, undef, undef, .int .i64 0, .int .i64 0, .int .i64 (w64 (q82 + (w64 (vt105 - vt30)))), .int .i64 vt30, .int .i64 vk83, .int .i64 m3, .bool vt10, .bool false, .int .i64 m3, .int .i64 vt22, .int .i64 vt22, .int .i64 vt30, .int .u64 seed1, .int .i64 n2, .int .i64 (w64 (4 * n2)), .int .u64 vt40, .int .i64 vt46, .int .i64 m3, .int .i64 (Int.tmod m3 16777216), (j58 0), (j58 1), (j58 2), .int .i64 vk83, .bool true, (j81 2), (j81 3), .int .i64 q82, .int .u64 seed1, .int .i64 n2, .int .i64 (w64 (4 * n2)), .int .i64 vk83, .int .i64 (w64 ((w64 (4 * n2)) + vk83)), .int .u64 vt99, .int .i64 vt30, .int .i64 (w64 (2 * vt30)), .int .i64 (w64 ((w64 (2 * vt30)) + 1)), .int .i64 vt105, .int .i64 vt30, .int .i64 (w64 (vt105 - vt30)), .int .i64 (w64 (q82 + (w64 (vt105 - vt30)))), undef, undef], []⟩) (by kernel_rfl) ?_
        refine wpList_nil ?_
        refine hn94 _ _ ?_
        refine hK91 _ _ ?_
        refine wp_region_lit ?_
        refine seqS3 (a' := ⟨#[.int .u64 seed1, .int .i64 n2, .int .i64 m3, undef, undef, undef, .int .i64 0, .int .i64 0, .int .i64 (w64 (q82 + (w64 (vt105 - vt30)))), .int .i64 vt30, .int .i64 (w64 (vk83 + 1)), .int .i64 m3, .bool vt10, .bool false, .int .i64 m3, .int .i64 vt22, .int .i64 vt22, .int .i64 vt30, .int .u64 seed1, .int .i64 n2, .int .i64 (w64 (4 * n2)), .int .u64 vt40, .int .i64 vt46, .int .i64 m3, .int .i64 (Int.tmod m3 16777216), (j58 0), (j58 1), (j58 2), .int .i64 vk83, .bool true, .int .i64 vk83, .int .i64 (w64 (vk83 + 1)), .int .i64 q82, .int .u64 seed1, .int .i64 n2, .int .i64 (w64 (4 * n2)), .int .i64 vk83, .int .i64 (w64 ((w64 (4 * n2)) + vk83)), .int .u64 vt99, .int .i64 vt30, .int .i64 (w64 (2 * vt30)), .int .i64 (w64 ((w64 (2 * vt30)) + 1)), .int .i64 vt105, .int .i64 vt30, .int .i64 (w64 (vt105 - vt30)), .int .i64 (w64 (q82 + (w64 (vt105 - vt30)))), undef, undef], []⟩) (by kernel_rfl) ?_
        refine wpList_nil ?_
        refine hK75 n76 _ _ (Nat.lt_succ_self _) ?_
        exact ⟨f107, (w64 (q82 + (w64 (vt105 - vt30)))), (w64 (vk83 + 1)), (fun i_ => [Value.int .i64 vk83, Value.bool true, Value.int .i64 vk83, Value.int .i64 (w64 (vk83 + 1)), Value.int .i64 q82, Value.int .u64 seed1, Value.int .i64 n2, Value.int .i64 (w64 (4 * n2)), Value.int .i64 vk83, Value.int .i64 (w64 ((w64 (4 * n2)) + vk83)), Value.int .u64 vt99, Value.int .i64 vt30, Value.int .i64 (w64 (2 * vt30)), Value.int .i64 (w64 ((w64 (2 * vt30)) + 1)), Value.int .i64 vt105, Value.int .i64 vt30, Value.int .i64 (w64 (vt105 - vt30)), Value.int .i64 (w64 (q82 + (w64 (vt105 - vt30))))].getD i_ undef), (L78.trans (L102.trans L108)), HS110, h, (by kernel_rfl)⟩
      · have c89 : ¬ (vk83 ≤ 3) := c89
        refine wpRwI 29 (x := (decide (vk83 ≤ 3))) (v := false) (by kernel_rfl) (decide_eq_false c89) ?_
        refine condF (by kernel_rfl) ?_
        refine wp_exit ?_
        refine hx68 _ _ ?_
        exact J118 f77 q82 (fun i_ => [Value.int .i64 vk83, Value.int .i64 vk83, Value.bool false, (j81 2), (j81 3), (j81 4), (j81 5), (j81 6), (j81 7), (j81 8), (j81 9), (j81 10), (j81 11), (j81 12), (j81 13), (j81 14), (j81 15), (j81 16), (j81 17)].getD i_ undef) W79 _ L78 h HS80 (by kernel_rfl)
    clear h; have h := hv60; clear hv60
    have hq_ := ite_some h; clear h; rcases hq_ with ⟨c53, h⟩ | ⟨c53, h⟩
    · have c53 : vt46 < (Int.tmod m3 16777216) := c53
      refine wpRwI 25 (x := (decide (vt46 < (Int.tmod m3 16777216)))) (v := true) (by kernel_rfl) (decide_eq_true c53) ?_
      refine condT (by kernel_rfl) ?_
      refine wp_region_lit ?_
      refine seqS3 (a' := ⟨#[.int .u64 seed1, .int .i64 n2, .int .i64 m3, undef, undef, undef, .int .i64 0, .int .i64 0, .int .i64 (w64 (vt22 + 1)), .int .i64 vt30, undef, .int .i64 m3, .bool vt10, .bool false, .int .i64 m3, .int .i64 vt22, .int .i64 vt22, .int .i64 vt30, .int .u64 seed1, .int .i64 n2, .int .i64 (w64 (4 * n2)), .int .u64 vt40, .int .i64 vt46, .int .i64 m3, .int .i64 (Int.tmod m3 16777216), .bool true, .int .i64 vt22, .int .i64 (w64 (vt22 + 1)), undef, undef, undef, undef, undef, undef, undef, undef, undef, undef, undef, undef, undef, undef, undef, undef, undef, undef, undef, undef], []⟩) (by kernel_rfl) ?_
      refine wpList_nil ?_
      exact J61 f48 (w64 (vt22 + 1)) (fun i_ => [Value.bool true, Value.int .i64 vt22, Value.int .i64 (w64 (vt22 + 1))].getD i_ undef) W50 _ (FM.le.refl _) h HS51 (by kernel_rfl)
    · have c53 : ¬ (vt46 < (Int.tmod m3 16777216)) := c53
      refine wpRwI 25 (x := (decide (vt46 < (Int.tmod m3 16777216)))) (v := false) (by kernel_rfl) (decide_eq_false c53) ?_
      refine condF (by kernel_rfl) ?_
      refine wp_skip ?_
      exact J61 f48 vt22 (fun i_ => [Value.bool false, undef, undef].getD i_ undef) W50 _ (FM.le.refl _) h HS51 (by kernel_rfl)

set_option maxRecDepth 100000 in
set_option maxHeartbeats 4000000 in
theorem spykeep3_CalibLightsHold.calls (k : Nat)  (light1 : Int) (dark2 : Int) (flat3 : Int) (beats4 : Int) (seed5 : Int) {t w : World} {f : FM} {H : List Seg} (HS : St t w f (H)) (r1 : Bool) (h : spykeep3_CalibLightsHold k light1 dark2 flat3 beats4 seed5 = some r1) :
    Calls Try.prog 6 #[.int .i64 light1, .int .i64 dark2, .int .i64 flat3, .int .i64 beats4, .int .u64 seed5] w (fun e w' => ∃ (g : FM), e = .returned (Value.bool r1) ∧ FM.le f g ∧ St t w' g (H)) := by
  unfold spykeep3_CalibLightsHold at h
  refine enter Try.func6 rfl (tm := #[.int .i64 light1, .int .i64 dark2, .int .i64 flat3, .int .i64 beats4, .int .u64 seed5, undef, undef, undef, undef, undef, undef, undef, undef, undef, undef, undef, undef, undef, undef, undef, undef, undef, undef, undef, undef, undef, undef, undef, undef, undef, undef, undef, undef, undef, undef, undef, undef, undef, undef, undef, undef, undef, undef, undef, undef, undef, undef, undef, undef, undef, undef, undef, undef, undef, undef, undef, undef, undef, undef, undef, undef, undef, undef, undef, undef, undef, undef, undef, undef, undef, undef, undef, undef, undef, undef, undef, undef, undef, undef, undef, undef, undef, undef, undef, undef, undef, undef, undef, undef, undef, undef, undef, undef, undef]) (by kernel_rfl) ?_
  intro B hret hnor hnp
  refine wp_seq_k (fun K6 hK7 => ?_)
  refine wp_region_lit ?_
  refine seqS1 (a' := ⟨#[.int .i64 light1, .int .i64 dark2, .int .i64 flat3, .int .i64 beats4, .int .u64 seed5, undef, undef, undef, undef, undef, .bool false, undef, undef, undef, undef, undef, undef, undef, undef, undef, undef, undef, undef, undef, undef, undef, undef, undef, undef, undef, undef, undef, undef, undef, undef, undef, undef, undef, undef, undef, undef, undef, undef, undef, undef, undef, undef, undef, undef, undef, undef, undef, undef, undef, undef, undef, undef, undef, undef, undef, undef, undef, undef, undef, undef, undef, undef, undef, undef, undef, undef, undef, undef, undef, undef, undef, undef, undef, undef, undef, undef, undef, undef, undef, undef, undef, undef, undef, undef, undef, undef, undef, undef, undef], []⟩) (by kernel_rfl) ?_
  refine wpList_nil ?_
  refine hK7 _ _ ?_
  refine wp_seq_k (fun K8 hK9 => ?_)
  refine wp_region_lit ?_
  have hq_ := bind_some h; clear h; obtain ⟨vt10, hc11, h⟩ := hq_
  refine seqL1 (by kernel_rfl) ?_
  refine seqK rfl (does_call (f := 10) (args := #[.int .i64 beats4, .int .i64 16]) (by kernel_rfl) (spymake_Below.calls k beats4 16 HS vt10 hc11) ?_)
  rintro _ W14 ⟨f12, rfl, L13, HS15⟩
  refine ⟨_, rfl, ?_⟩
  refine seqS2 (a' := ⟨#[.int .i64 light1, .int .i64 dark2, .int .i64 flat3, .int .i64 (w64 (vt10 + 1)), .int .u64 seed5, undef, undef, undef, undef, undef, .bool false, undef, undef, undef, undef, undef, undef, .int .i64 beats4, .int .i64 vt10, .int .i64 (w64 (vt10 + 1)), undef, undef, undef, undef, undef, undef, undef, undef, undef, undef, undef, undef, undef, undef, undef, undef, undef, undef, undef, undef, undef, undef, undef, undef, undef, undef, undef, undef, undef, undef, undef, undef, undef, undef, undef, undef, undef, undef, undef, undef, undef, undef, undef, undef, undef, undef, undef, undef, undef, undef, undef, undef, undef, undef, undef, undef, undef, undef, undef, undef, undef, undef, undef, undef, undef, undef, undef, undef, undef, undef, undef, undef, undef, undef], []⟩) (by kernel_rfl) ?_
  refine wpList_nil ?_
  refine hK9 _ _ ?_
  refine wp_seq_k (fun K16 hK17 => ?_)
  refine wp_region_lit ?_
  have hq_ := bind_some h; clear h; obtain ⟨vt18, hc19, h⟩ := hq_
  refine seqL1 (by kernel_rfl) ?_
  refine seqK rfl (does_call (f := 10) (args := #[.int .i64 flat3, .int .i64 4096]) (by kernel_rfl) (spymake_Below.calls k flat3 4096 HS15 vt18 hc19) ?_)
  rintro _ W22 ⟨f20, rfl, L21, HS23⟩
  refine ⟨_, rfl, ?_⟩
  refine seqS2 (a' := ⟨#[.int .i64 light1, .int .i64 dark2, .int .i64 (w64 (vt18 + 1)), .int .i64 (w64 (vt10 + 1)), .int .u64 seed5, undef, undef, undef, undef, undef, .bool false, undef, undef, undef, undef, undef, undef, .int .i64 beats4, .int .i64 vt10, .int .i64 (w64 (vt10 + 1)), .int .i64 flat3, .int .i64 vt18, .int .i64 (w64 (vt18 + 1)), undef, undef, undef, undef, undef, undef, undef, undef, undef, undef, undef, undef, undef, undef, undef, undef, undef, undef, undef, undef, undef, undef, undef, undef, undef, undef, undef, undef, undef, undef, undef, undef, undef, undef, undef, undef, undef, undef, undef, undef, undef, undef, undef, undef, undef, undef, undef, undef, undef, undef, undef, undef, undef, undef, undef, undef, undef, undef, undef, undef, undef, undef, undef, undef, undef, undef, undef, undef, undef, undef, undef], []⟩) (by kernel_rfl) ?_
  refine wpList_nil ?_
  refine hK17 _ _ ?_
  refine wp_seq_k (fun K24 hK25 => ?_)
  refine wp_region_lit ?_
  refine seqS3 (a' := ⟨#[.int .i64 (Go.bits .and .i64 light1 17592186044415), .int .i64 dark2, .int .i64 (w64 (vt18 + 1)), .int .i64 (w64 (vt10 + 1)), .int .u64 seed5, undef, undef, undef, undef, undef, .bool false, undef, undef, undef, undef, undef, undef, .int .i64 beats4, .int .i64 vt10, .int .i64 (w64 (vt10 + 1)), .int .i64 flat3, .int .i64 vt18, .int .i64 (w64 (vt18 + 1)), .int .i64 light1, .int .i64 (Go.bits .and .i64 light1 17592186044415), undef, undef, undef, undef, undef, undef, undef, undef, undef, undef, undef, undef, undef, undef, undef, undef, undef, undef, undef, undef, undef, undef, undef, undef, undef, undef, undef, undef, undef, undef, undef, undef, undef, undef, undef, undef, undef, undef, undef, undef, undef, undef, undef, undef, undef, undef, undef, undef, undef, undef, undef, undef, undef, undef, undef, undef, undef, undef, undef, undef, undef, undef, undef, undef, undef, undef, undef, undef, undef], []⟩) (by kernel_rfl) ?_
  refine wpList_nil ?_
  refine hK25 _ _ ?_
  refine wp_seq_k (fun K26 hK27 => ?_)
  refine wp_region_lit ?_
  refine seqS3 (a' := ⟨#[.int .i64 (Go.bits .and .i64 light1 17592186044415), .int .i64 (Go.bits .and .i64 dark2 1073741823), .int .i64 (w64 (vt18 + 1)), .int .i64 (w64 (vt10 + 1)), .int .u64 seed5, undef, undef, undef, undef, undef, .bool false, undef, undef, undef, undef, undef, undef, .int .i64 beats4, .int .i64 vt10, .int .i64 (w64 (vt10 + 1)), .int .i64 flat3, .int .i64 vt18, .int .i64 (w64 (vt18 + 1)), .int .i64 light1, .int .i64 (Go.bits .and .i64 light1 17592186044415), .int .i64 dark2, .int .i64 (Go.bits .and .i64 dark2 1073741823), undef, undef, undef, undef, undef, undef, undef, undef, undef, undef, undef, undef, undef, undef, undef, undef, undef, undef, undef, undef, undef, undef, undef, undef, undef, undef, undef, undef, undef, undef, undef, undef, undef, undef, undef, undef, undef, undef, undef, undef, undef, undef, undef, undef, undef, undef, undef, undef, undef, undef, undef, undef, undef, undef, undef, undef, undef, undef, undef, undef, undef, undef, undef, undef, undef, undef, undef], []⟩) (by kernel_rfl) ?_
  refine wpList_nil ?_
  refine hK27 _ _ ?_
  refine wp_seq_k (fun K28 hK29 => ?_)
  refine wp_region_lit ?_
  refine seqK rfl (does_lit (e := (tInt .i64)) (E := 3) (vs := #[(0, Value.int .i64 0)]) (cs := #[.int .i64 0]) (xs := ([0] : List Int)) rfl Try.underlying22 (by kernel_rfl) (by kernel_rfl) ⟨[.int .i64 0], _, rfl, rfl, rfl⟩ rfl HS23 ?_ (by decide))
  intro b30 W31 s32 HS33 _ HO34
  refine seqL1 (by kernel_rfl) ?_
  refine seqK rfl (does_lit (e := (tInt .i64)) (E := 52) (vs := #[(0, Value.int .i64 (Go.bits .and .i64 dark2 1073741823))]) (cs := #[.int .i64 (Go.bits .and .i64 dark2 1073741823)]) (xs := ([Go.bits .and .i64 dark2 1073741823] : List Int)) rfl Try.underlying62 (by kernel_rfl) (by kernel_rfl) ⟨[.int .i64 (Go.bits .and .i64 dark2 1073741823)], _, rfl, rfl, rfl⟩ rfl HS33 ?_ (by decide))
  intro b36 W37 s38 HS39 _ HO40
  refine seqL1 (by kernel_rfl) ?_
  refine seqK rfl (does_lit (e := (tInt .i64)) (E := 3) (vs := #[(0, Value.int .i64 (w64 (vt18 + 1)))]) (cs := #[.int .i64 (w64 (vt18 + 1))]) (xs := ([w64 (vt18 + 1)] : List Int)) rfl Try.underlying22 (by kernel_rfl) (by kernel_rfl) ⟨[.int .i64 (w64 (vt18 + 1))], _, rfl, rfl, rfl⟩ rfl HS39 ?_ (by decide))
  intro b42 W43 s44 HS45 _ HO46
  refine seqL1 (by kernel_rfl) ?_
  refine seqK rfl (does_alloc (z := Value.agg #[.int .i64 0, .int .i64 0, .slice none 0 0, .slice none 0 0, .slice none 0 0, .int .i64 0, .int .i64 0, .int .i64 0]) (cs := #[.int .i64 0, .int .i64 0, .slice none 0 0, .slice none 0 0, .slice none 0 0, .int .i64 0, .int .i64 0, .int .i64 0]) rfl (by kernel_rfl) rfl HS45 ?_)
  intro b48 W49 HS50
  refine seqK rfl (does_store (n := 8) (vs := [.int .i64 1, .int .i64 1, .slice (some ⟨b30, 0, none⟩) ([0] : List Int).length 1, .slice (some ⟨b36, 0, none⟩) ([Go.bits .and .i64 dark2 1073741823] : List Int).length 1, .slice (some ⟨b42, 0, none⟩) ([w64 (vt18 + 1)] : List Int).length 1, .int .i64 1, .int .i64 1, .int .i64 0]) (cs' := #[.int .i64 1, .int .i64 1, .slice (some ⟨b30, 0, none⟩) ([0] : List Int).length 1, .slice (some ⟨b36, 0, none⟩) ([Go.bits .and .i64 dark2 1073741823] : List Int).length 1, .slice (some ⟨b42, 0, none⟩) ([w64 (vt18 + 1)] : List Int).length 1, .int .i64 1, .int .i64 1, .int .i64 0]) rfl (by kernel_rfl) (by kernel_rfl : _ = Value.pointer (some ⟨b48, 0, none⟩)) (by kernel_rfl : _ = Value.agg #[.int .i64 1, .int .i64 1, .slice (some ⟨b30, 0, none⟩) ([0] : List Int).length 1, .slice (some ⟨b36, 0, none⟩) ([Go.bits .and .i64 dark2 1073741823] : List Int).length 1, .slice (some ⟨b42, 0, none⟩) ([w64 (vt18 + 1)] : List Int).length 1, .int .i64 1, .int .i64 1, .int .i64 0]) rfl rfl (by intro u_ hu_; simp only [List.mem_cons, List.not_mem_nil, or_false] at hu_; rcases hu_ with rfl | rfl | rfl | rfl | rfl | rfl | rfl | rfl <;> rfl) HS50 (Nat.le_of_ble_eq_true rfl) (by kernel_rfl) ?_)
  intro W52 HS53
  refine wpList_nil ?_
  refine hK29 _ _ ?_
  refine wp_seq_k (fun K54 hK55 => ?_)
  refine wp_region_lit ?_
  refine seqK rfl (does_run (run_loadN (n := 8) rfl Try.underlying64 rfl (by kernel_rfl) (by kernel_rfl : _ = Value.pointer (some ⟨b48, 0, none⟩)) (cs := [.int .i64 1, .int .i64 1, .slice (some ⟨b30, 0, none⟩) ([0] : List Int).length 1, .slice (some ⟨b36, 0, none⟩) ([Go.bits .and .i64 dark2 1073741823] : List Int).length 1, .slice (some ⟨b42, 0, none⟩) ([w64 (vt18 + 1)] : List Int).length 1, .int .i64 1, .int .i64 1, .int .i64 0]) rfl (HS53.cells 0 8 _ rfl)) ?_)
  refine seqL1 (by kernel_rfl) ?_
  refine seqK rfl (does_lit (e := (tInt .i64)) (E := 52) (vs := #[(0, Value.int .i64 (Go.bits .and .i64 light1 17592186044415))]) (cs := #[.int .i64 (Go.bits .and .i64 light1 17592186044415)]) (xs := ([Go.bits .and .i64 light1 17592186044415] : List Int)) rfl Try.underlying62 (by kernel_rfl) (by kernel_rfl) ⟨[.int .i64 (Go.bits .and .i64 light1 17592186044415)], _, rfl, rfl, rfl⟩ rfl HS53 ?_ (by decide))
  intro b56 W57 s58 HS59 _ HO60
  have HS62 := HS59.u4
  obtain ⟨f63, L64, HS65, HR66, th67⟩ := HO34.lend HS62
  have HS68 := HS65.u3
  obtain ⟨f69, L70, HS71, HR72, th73⟩ := (HO40.mono L64).lend HS68
  have HS74 := HS71.u2
  obtain ⟨f75, L76, HS77, HR78, th79⟩ := (HO46.mono (L64.trans L70)).lend HS74
  obtain ⟨f80, L81, HS82, HR83, th84⟩ := (HO60.mono (L64.trans (L70.trans L76))).lend HS77
  have hq_ := bind_some h; clear h; obtain ⟨⟨vt85, vt86⟩, hc87, h⟩ := hq_
  refine seqL1 (by kernel_rfl) ?_
  refine seqK rfl (does_call (f := 28) (args := #[.agg #[.int .i64 1, .int .i64 1, .slice (some ⟨b30, 0, none⟩) ([0] : List Int).length 1, .slice (some ⟨b36, 0, none⟩) ([Go.bits .and .i64 dark2 1073741823] : List Int).length 1, .slice (some ⟨b42, 0, none⟩) ([w64 (vt18 + 1)] : List Int).length 1, .int .i64 1, .int .i64 1, .int .i64 0], .slice (some ⟨b56, 0, none⟩) ([Go.bits .and .i64 light1 17592186044415] : List Int).length 1, .int .i64 (w64 (vt10 + 1))]) (by kernel_rfl) (sensor_Expect.calls k (some ⟨b30, 0, none⟩) 1 (some ⟨b36, 0, none⟩) 1 (some ⟨b42, 0, none⟩) 1 (some ⟨b56, 0, none⟩) 1 (⟨1, 1, ([0] : List Int), ([Go.bits .and .i64 dark2 1073741823] : List Int), ([w64 (vt18 + 1)] : List Int), 1, 1, 0⟩ : S_Sensor) ([Go.bits .and .i64 light1 17592186044415] : List Int) (w64 (vt10 + 1)) HS82 (HR66.mono (L70.trans (L76.trans L81))) (HR72.mono (L76.trans L81)) (HR78.mono L81) HR83 vt85 vt86 hc87) ?_)
  rintro _ W90 ⟨f88, A92, c93, s94, rfl, L89, HS91, HO95⟩
  refine ⟨_, rfl, ?_⟩
  obtain ⟨f97, L98, HS99⟩ := th84 L89 HS91
  obtain ⟨f100, L101, HS102⟩ := th79 L98 HS99
  obtain ⟨f103, L104, HS105⟩ := th73 L101 HS102
  obtain ⟨f106, L107, HS108⟩ := th67 L104 HS105
  replace HO95 := HO95.flat (g := f106) (fun _ _ _ _ h_ => h_)
  refine seqS5 (a' := ⟨#[.int .i64 (Go.bits .and .i64 light1 17592186044415), .int .i64 (Go.bits .and .i64 dark2 1073741823), .int .i64 (w64 (vt18 + 1)), .int .i64 (w64 (vt10 + 1)), .int .u64 seed5, undef, undef, undef, undef, undef, .bool false, .pointer (some ⟨b48, 0, none⟩), .slice A92 vt85.length c93, .int .i64 vt86, undef, undef, undef, .int .i64 beats4, .int .i64 vt10, .int .i64 (w64 (vt10 + 1)), .int .i64 flat3, .int .i64 vt18, .int .i64 (w64 (vt18 + 1)), .int .i64 light1, .int .i64 (Go.bits .and .i64 light1 17592186044415), .int .i64 dark2, .int .i64 (Go.bits .and .i64 dark2 1073741823), .slice (some ⟨b30, 0, none⟩) ([0] : List Int).length 1, .int .i64 (Go.bits .and .i64 dark2 1073741823), .slice (some ⟨b36, 0, none⟩) ([Go.bits .and .i64 dark2 1073741823] : List Int).length 1, .int .i64 (w64 (vt18 + 1)), .slice (some ⟨b42, 0, none⟩) ([w64 (vt18 + 1)] : List Int).length 1, .agg #[.int .i64 1, .int .i64 1, .slice (some ⟨b30, 0, none⟩) ([0] : List Int).length 1, .slice (some ⟨b36, 0, none⟩) ([Go.bits .and .i64 dark2 1073741823] : List Int).length 1, .slice (some ⟨b42, 0, none⟩) ([w64 (vt18 + 1)] : List Int).length 1, .int .i64 1, .int .i64 1, .int .i64 0], .tuple #[.slice A92 vt85.length c93, .int .i64 vt86], .agg #[.int .i64 1, .int .i64 1, .slice (some ⟨b30, 0, none⟩) ([0] : List Int).length 1, .slice (some ⟨b36, 0, none⟩) ([Go.bits .and .i64 dark2 1073741823] : List Int).length 1, .slice (some ⟨b42, 0, none⟩) ([w64 (vt18 + 1)] : List Int).length 1, .int .i64 1, .int .i64 1, .int .i64 0], .int .i64 (Go.bits .and .i64 light1 17592186044415), .slice (some ⟨b56, 0, none⟩) ([Go.bits .and .i64 light1 17592186044415] : List Int).length 1, .int .i64 (w64 (vt10 + 1)), .tuple #[.slice A92 vt85.length c93, .int .i64 vt86], .slice A92 vt85.length c93, .int .i64 vt86, undef, undef, undef, undef, undef, undef, undef, undef, undef, undef, undef, undef, undef, undef, undef, undef, undef, undef, undef, undef, undef, undef, undef, undef, undef, undef, undef, undef, undef, undef, undef, undef, undef, undef, undef, undef, undef, undef, undef, undef, undef, undef, undef, undef, undef, undef, undef, undef, undef, undef, undef, undef, undef], []⟩) (by kernel_rfl) ?_
  refine wpList_nil ?_
  refine hK55 _ _ ?_
  refine wp_seq_k (fun K109 hK110 => ?_)
  refine wp_seq_k (fun K111 hK112 => ?_)
  refine wp_region_lit ?_
  have hq_ := bind_some h; clear h; obtain ⟨vt113, hc114, h⟩ := hq_
  refine seqK rfl (does_call (f := 27) (args := #[]) (by kernel_rfl) (spykeep3_calibrated.calls k  HS108 vt113 hc114) ?_)
  rintro _ W117 ⟨f115, rfl, L116, HS118⟩
  refine ⟨_, rfl, ?_⟩
  refine seqS2 (a' := ⟨#[.int .i64 (Go.bits .and .i64 light1 17592186044415), .int .i64 (Go.bits .and .i64 dark2 1073741823), .int .i64 (w64 (vt18 + 1)), .int .i64 (w64 (vt10 + 1)), .int .u64 seed5, undef, undef, undef, undef, undef, .bool false, .pointer (some ⟨b48, 0, none⟩), .slice A92 vt85.length c93, .int .i64 vt86, undef, undef, undef, .int .i64 beats4, .int .i64 vt10, .int .i64 (w64 (vt10 + 1)), .int .i64 flat3, .int .i64 vt18, .int .i64 (w64 (vt18 + 1)), .int .i64 light1, .int .i64 (Go.bits .and .i64 light1 17592186044415), .int .i64 dark2, .int .i64 (Go.bits .and .i64 dark2 1073741823), .slice (some ⟨b30, 0, none⟩) ([0] : List Int).length 1, .int .i64 (Go.bits .and .i64 dark2 1073741823), .slice (some ⟨b36, 0, none⟩) ([Go.bits .and .i64 dark2 1073741823] : List Int).length 1, .int .i64 (w64 (vt18 + 1)), .slice (some ⟨b42, 0, none⟩) ([w64 (vt18 + 1)] : List Int).length 1, .agg #[.int .i64 1, .int .i64 1, .slice (some ⟨b30, 0, none⟩) ([0] : List Int).length 1, .slice (some ⟨b36, 0, none⟩) ([Go.bits .and .i64 dark2 1073741823] : List Int).length 1, .slice (some ⟨b42, 0, none⟩) ([w64 (vt18 + 1)] : List Int).length 1, .int .i64 1, .int .i64 1, .int .i64 0], .tuple #[.slice A92 vt85.length c93, .int .i64 vt86], .agg #[.int .i64 1, .int .i64 1, .slice (some ⟨b30, 0, none⟩) ([0] : List Int).length 1, .slice (some ⟨b36, 0, none⟩) ([Go.bits .and .i64 dark2 1073741823] : List Int).length 1, .slice (some ⟨b42, 0, none⟩) ([w64 (vt18 + 1)] : List Int).length 1, .int .i64 1, .int .i64 1, .int .i64 0], .int .i64 (Go.bits .and .i64 light1 17592186044415), .slice (some ⟨b56, 0, none⟩) ([Go.bits .and .i64 light1 17592186044415] : List Int).length 1, .int .i64 (w64 (vt10 + 1)), .tuple #[.slice A92 vt85.length c93, .int .i64 vt86], .slice A92 vt85.length c93, .int .i64 vt86, .bool vt113, .bool (!vt113), .bool (!vt113), undef, undef, undef, undef, undef, undef, undef, undef, undef, undef, undef, undef, undef, undef, undef, undef, undef, undef, undef, undef, undef, undef, undef, undef, undef, undef, undef, undef, undef, undef, undef, undef, undef, undef, undef, undef, undef, undef, undef, undef, undef, undef, undef, undef, undef, undef, undef, undef, undef, undef], []⟩) (by kernel_rfl) ?_
  have hq_ := ite_some h; clear h; rcases hq_ with ⟨c119, h⟩ | ⟨c119, h⟩
  · have c119 : ¬ (vt113 = true) := c119
    refine seqRwI 42 (x := (!vt113)) (v := true) (by kernel_rfl) (congrArg (fun b_ => !b_) (show vt113 = false from (Bool.eq_false_iff.mpr c119)) : (!vt113) = true) ?_
    refine seqRwI 43 (x := (!vt113)) (v := true) (by kernel_rfl) (congrArg (fun b_ => !b_) (show vt113 = false from (Bool.eq_false_iff.mpr c119)) : (!vt113) = true) ?_
    refine seqS8 (a' := ⟨#[.int .i64 (Go.bits .and .i64 light1 17592186044415), .int .i64 (Go.bits .and .i64 dark2 1073741823), .int .i64 (w64 (vt18 + 1)), .int .i64 (w64 (vt10 + 1)), .int .u64 seed5, undef, undef, undef, undef, undef, .bool false, .pointer (some ⟨b48, 0, none⟩), .slice A92 vt85.length c93, .int .i64 vt86, undef, undef, undef, .int .i64 beats4, .int .i64 vt10, .int .i64 (w64 (vt10 + 1)), .int .i64 flat3, .int .i64 vt18, .int .i64 (w64 (vt18 + 1)), .int .i64 light1, .int .i64 (Go.bits .and .i64 light1 17592186044415), .int .i64 dark2, .int .i64 (Go.bits .and .i64 dark2 1073741823), .slice (some ⟨b30, 0, none⟩) ([0] : List Int).length 1, .int .i64 (Go.bits .and .i64 dark2 1073741823), .slice (some ⟨b36, 0, none⟩) ([Go.bits .and .i64 dark2 1073741823] : List Int).length 1, .int .i64 (w64 (vt18 + 1)), .slice (some ⟨b42, 0, none⟩) ([w64 (vt18 + 1)] : List Int).length 1, .agg #[.int .i64 1, .int .i64 1, .slice (some ⟨b30, 0, none⟩) ([0] : List Int).length 1, .slice (some ⟨b36, 0, none⟩) ([Go.bits .and .i64 dark2 1073741823] : List Int).length 1, .slice (some ⟨b42, 0, none⟩) ([w64 (vt18 + 1)] : List Int).length 1, .int .i64 1, .int .i64 1, .int .i64 0], .tuple #[.slice A92 vt85.length c93, .int .i64 vt86], .agg #[.int .i64 1, .int .i64 1, .slice (some ⟨b30, 0, none⟩) ([0] : List Int).length 1, .slice (some ⟨b36, 0, none⟩) ([Go.bits .and .i64 dark2 1073741823] : List Int).length 1, .slice (some ⟨b42, 0, none⟩) ([w64 (vt18 + 1)] : List Int).length 1, .int .i64 1, .int .i64 1, .int .i64 0], .int .i64 (Go.bits .and .i64 light1 17592186044415), .slice (some ⟨b56, 0, none⟩) ([Go.bits .and .i64 light1 17592186044415] : List Int).length 1, .int .i64 (w64 (vt10 + 1)), .tuple #[.slice A92 vt85.length c93, .int .i64 vt86], .slice A92 vt85.length c93, .int .i64 vt86, .bool vt113, .bool true, .bool true, undef, undef, .bool true, .bool true, undef, undef, undef, .bool true, undef, undef, undef, undef, undef, undef, undef, undef, undef, undef, undef, undef, undef, undef, undef, undef, undef, undef, undef, undef, undef, undef, undef, undef, undef, undef, undef, undef, undef, undef, undef, undef, undef, undef, undef, undef, undef, undef, undef, undef, undef, undef], []⟩) (by kernel_rfl) ?_
    refine wpList_nil ?_
    refine hK112 _ _ ?_
    refine condT (by kernel_rfl) ?_
    refine wp_seq_k (fun K120 hK121 => ?_)
    refine wp_region_lit ?_
    refine seqS1 (a' := ⟨#[.int .i64 (Go.bits .and .i64 light1 17592186044415), .int .i64 (Go.bits .and .i64 dark2 1073741823), .int .i64 (w64 (vt18 + 1)), .int .i64 (w64 (vt10 + 1)), .int .u64 seed5, undef, undef, undef, undef, undef, .bool false, .pointer (some ⟨b48, 0, none⟩), .slice A92 vt85.length c93, .int .i64 vt86, undef, undef, undef, .int .i64 beats4, .int .i64 vt10, .int .i64 (w64 (vt10 + 1)), .int .i64 flat3, .int .i64 vt18, .int .i64 (w64 (vt18 + 1)), .int .i64 light1, .int .i64 (Go.bits .and .i64 light1 17592186044415), .int .i64 dark2, .int .i64 (Go.bits .and .i64 dark2 1073741823), .slice (some ⟨b30, 0, none⟩) ([0] : List Int).length 1, .int .i64 (Go.bits .and .i64 dark2 1073741823), .slice (some ⟨b36, 0, none⟩) ([Go.bits .and .i64 dark2 1073741823] : List Int).length 1, .int .i64 (w64 (vt18 + 1)), .slice (some ⟨b42, 0, none⟩) ([w64 (vt18 + 1)] : List Int).length 1, .agg #[.int .i64 1, .int .i64 1, .slice (some ⟨b30, 0, none⟩) ([0] : List Int).length 1, .slice (some ⟨b36, 0, none⟩) ([Go.bits .and .i64 dark2 1073741823] : List Int).length 1, .slice (some ⟨b42, 0, none⟩) ([w64 (vt18 + 1)] : List Int).length 1, .int .i64 1, .int .i64 1, .int .i64 0], .tuple #[.slice A92 vt85.length c93, .int .i64 vt86], .agg #[.int .i64 1, .int .i64 1, .slice (some ⟨b30, 0, none⟩) ([0] : List Int).length 1, .slice (some ⟨b36, 0, none⟩) ([Go.bits .and .i64 dark2 1073741823] : List Int).length 1, .slice (some ⟨b42, 0, none⟩) ([w64 (vt18 + 1)] : List Int).length 1, .int .i64 1, .int .i64 1, .int .i64 0], .int .i64 (Go.bits .and .i64 light1 17592186044415), .slice (some ⟨b56, 0, none⟩) ([Go.bits .and .i64 light1 17592186044415] : List Int).length 1, .int .i64 (w64 (vt10 + 1)), .tuple #[.slice A92 vt85.length c93, .int .i64 vt86], .slice A92 vt85.length c93, .int .i64 vt86, .bool vt113, .bool true, .bool true, undef, undef, .bool true, .bool true, undef, undef, undef, .bool true, undef, undef, undef, undef, undef, undef, undef, undef, undef, undef, undef, undef, undef, undef, undef, undef, undef, undef, undef, undef, undef, undef, undef, undef, undef, undef, undef, undef, undef, undef, undef, undef, undef, undef, undef, undef, undef, undef, undef, undef, undef, undef], []⟩) (by kernel_rfl) ?_
    refine wpList_nil ?_
    refine hK121 _ _ ?_
    refine wp_ret ?_
    refine hret _ _ ?_
    refine ends_still (v := Value.bool false) (by kernel_rfl) (by kernel_rfl) ?_
    have HS181 := HS118.drop
    have HS182 := HS181.drop
    have HS183 := HS182.drop
    have HS184 := HS183.drop
    have HS185 := HS184.drop
    have HS186 := HS185.drop
    injection h with h
    subst h
    exact ⟨f115, rfl, (L13.trans (L21.trans (L107.trans L116))), HS186⟩
  · have c119 : ¬ (¬ (vt113 = true)) := c119
    refine seqRwI 42 (x := (!vt113)) (v := false) (by kernel_rfl) (congrArg (fun b_ => !b_) (show vt113 = true from (Decidable.of_not_not c119)) : (!vt113) = false) ?_
    refine seqRwI 43 (x := (!vt113)) (v := false) (by kernel_rfl) (congrArg (fun b_ => !b_) (show vt113 = true from (Decidable.of_not_not c119)) : (!vt113) = false) ?_
    refine seqS4 (a' := ⟨#[.int .i64 (Go.bits .and .i64 light1 17592186044415), .int .i64 (Go.bits .and .i64 dark2 1073741823), .int .i64 (w64 (vt18 + 1)), .int .i64 (w64 (vt10 + 1)), .int .u64 seed5, undef, undef, undef, undef, undef, .bool false, .pointer (some ⟨b48, 0, none⟩), .slice A92 vt85.length c93, .int .i64 vt86, undef, undef, undef, .int .i64 beats4, .int .i64 vt10, .int .i64 (w64 (vt10 + 1)), .int .i64 flat3, .int .i64 vt18, .int .i64 (w64 (vt18 + 1)), .int .i64 light1, .int .i64 (Go.bits .and .i64 light1 17592186044415), .int .i64 dark2, .int .i64 (Go.bits .and .i64 dark2 1073741823), .slice (some ⟨b30, 0, none⟩) ([0] : List Int).length 1, .int .i64 (Go.bits .and .i64 dark2 1073741823), .slice (some ⟨b36, 0, none⟩) ([Go.bits .and .i64 dark2 1073741823] : List Int).length 1, .int .i64 (w64 (vt18 + 1)), .slice (some ⟨b42, 0, none⟩) ([w64 (vt18 + 1)] : List Int).length 1, .agg #[.int .i64 1, .int .i64 1, .slice (some ⟨b30, 0, none⟩) ([0] : List Int).length 1, .slice (some ⟨b36, 0, none⟩) ([Go.bits .and .i64 dark2 1073741823] : List Int).length 1, .slice (some ⟨b42, 0, none⟩) ([w64 (vt18 + 1)] : List Int).length 1, .int .i64 1, .int .i64 1, .int .i64 0], .tuple #[.slice A92 vt85.length c93, .int .i64 vt86], .agg #[.int .i64 1, .int .i64 1, .slice (some ⟨b30, 0, none⟩) ([0] : List Int).length 1, .slice (some ⟨b36, 0, none⟩) ([Go.bits .and .i64 dark2 1073741823] : List Int).length 1, .slice (some ⟨b42, 0, none⟩) ([w64 (vt18 + 1)] : List Int).length 1, .int .i64 1, .int .i64 1, .int .i64 0], .int .i64 (Go.bits .and .i64 light1 17592186044415), .slice (some ⟨b56, 0, none⟩) ([Go.bits .and .i64 light1 17592186044415] : List Int).length 1, .int .i64 (w64 (vt10 + 1)), .tuple #[.slice A92 vt85.length c93, .int .i64 vt86], .slice A92 vt85.length c93, .int .i64 vt86, .bool vt113, .bool false, .bool false, .int .i64 vt86, .bool (vt86 != 0), .bool (vt86 != 0), .bool (vt86 != 0), undef, undef, undef, undef, undef, undef, undef, undef, undef, undef, undef, undef, undef, undef, undef, undef, undef, undef, undef, undef, undef, undef, undef, undef, undef, undef, undef, undef, undef, undef, undef, undef, undef, undef, undef, undef, undef, undef, undef, undef, undef, undef, undef, undef, undef, undef], []⟩) (by kernel_rfl) ?_
    have hq_ := ite_some h; clear h; rcases hq_ with ⟨c122, h⟩ | ⟨c122, h⟩
    · have c122 : vt86 ≠ 0 := c122
      refine seqRwI 45 (x := (vt86 != 0)) (v := true) (by kernel_rfl) (bne_iff_ne.mpr c122) ?_
      refine seqRwI 46 (x := (vt86 != 0)) (v := true) (by kernel_rfl) (bne_iff_ne.mpr c122) ?_
      refine seqRwI 47 (x := (vt86 != 0)) (v := true) (by kernel_rfl) (bne_iff_ne.mpr c122) ?_
      refine seqS4 (a' := ⟨#[.int .i64 (Go.bits .and .i64 light1 17592186044415), .int .i64 (Go.bits .and .i64 dark2 1073741823), .int .i64 (w64 (vt18 + 1)), .int .i64 (w64 (vt10 + 1)), .int .u64 seed5, undef, undef, undef, undef, undef, .bool false, .pointer (some ⟨b48, 0, none⟩), .slice A92 vt85.length c93, .int .i64 vt86, undef, undef, undef, .int .i64 beats4, .int .i64 vt10, .int .i64 (w64 (vt10 + 1)), .int .i64 flat3, .int .i64 vt18, .int .i64 (w64 (vt18 + 1)), .int .i64 light1, .int .i64 (Go.bits .and .i64 light1 17592186044415), .int .i64 dark2, .int .i64 (Go.bits .and .i64 dark2 1073741823), .slice (some ⟨b30, 0, none⟩) ([0] : List Int).length 1, .int .i64 (Go.bits .and .i64 dark2 1073741823), .slice (some ⟨b36, 0, none⟩) ([Go.bits .and .i64 dark2 1073741823] : List Int).length 1, .int .i64 (w64 (vt18 + 1)), .slice (some ⟨b42, 0, none⟩) ([w64 (vt18 + 1)] : List Int).length 1, .agg #[.int .i64 1, .int .i64 1, .slice (some ⟨b30, 0, none⟩) ([0] : List Int).length 1, .slice (some ⟨b36, 0, none⟩) ([Go.bits .and .i64 dark2 1073741823] : List Int).length 1, .slice (some ⟨b42, 0, none⟩) ([w64 (vt18 + 1)] : List Int).length 1, .int .i64 1, .int .i64 1, .int .i64 0], .tuple #[.slice A92 vt85.length c93, .int .i64 vt86], .agg #[.int .i64 1, .int .i64 1, .slice (some ⟨b30, 0, none⟩) ([0] : List Int).length 1, .slice (some ⟨b36, 0, none⟩) ([Go.bits .and .i64 dark2 1073741823] : List Int).length 1, .slice (some ⟨b42, 0, none⟩) ([w64 (vt18 + 1)] : List Int).length 1, .int .i64 1, .int .i64 1, .int .i64 0], .int .i64 (Go.bits .and .i64 light1 17592186044415), .slice (some ⟨b56, 0, none⟩) ([Go.bits .and .i64 light1 17592186044415] : List Int).length 1, .int .i64 (w64 (vt10 + 1)), .tuple #[.slice A92 vt85.length c93, .int .i64 vt86], .slice A92 vt85.length c93, .int .i64 vt86, .bool vt113, .bool false, .bool false, .int .i64 vt86, .bool true, .bool true, .bool true, undef, undef, undef, .bool true, undef, undef, undef, undef, undef, undef, undef, undef, undef, undef, undef, undef, undef, undef, undef, undef, undef, undef, undef, undef, undef, undef, undef, undef, undef, undef, undef, undef, undef, undef, undef, undef, undef, undef, undef, undef, undef, undef, undef, undef, undef, undef], []⟩) (by kernel_rfl) ?_
      refine wpList_nil ?_
      refine hK112 _ _ ?_
      refine condT (by kernel_rfl) ?_
      refine wp_seq_k (fun K123 hK124 => ?_)
      refine wp_region_lit ?_
      refine seqS1 (a' := ⟨#[.int .i64 (Go.bits .and .i64 light1 17592186044415), .int .i64 (Go.bits .and .i64 dark2 1073741823), .int .i64 (w64 (vt18 + 1)), .int .i64 (w64 (vt10 + 1)), .int .u64 seed5, undef, undef, undef, undef, undef, .bool false, .pointer (some ⟨b48, 0, none⟩), .slice A92 vt85.length c93, .int .i64 vt86, undef, undef, undef, .int .i64 beats4, .int .i64 vt10, .int .i64 (w64 (vt10 + 1)), .int .i64 flat3, .int .i64 vt18, .int .i64 (w64 (vt18 + 1)), .int .i64 light1, .int .i64 (Go.bits .and .i64 light1 17592186044415), .int .i64 dark2, .int .i64 (Go.bits .and .i64 dark2 1073741823), .slice (some ⟨b30, 0, none⟩) ([0] : List Int).length 1, .int .i64 (Go.bits .and .i64 dark2 1073741823), .slice (some ⟨b36, 0, none⟩) ([Go.bits .and .i64 dark2 1073741823] : List Int).length 1, .int .i64 (w64 (vt18 + 1)), .slice (some ⟨b42, 0, none⟩) ([w64 (vt18 + 1)] : List Int).length 1, .agg #[.int .i64 1, .int .i64 1, .slice (some ⟨b30, 0, none⟩) ([0] : List Int).length 1, .slice (some ⟨b36, 0, none⟩) ([Go.bits .and .i64 dark2 1073741823] : List Int).length 1, .slice (some ⟨b42, 0, none⟩) ([w64 (vt18 + 1)] : List Int).length 1, .int .i64 1, .int .i64 1, .int .i64 0], .tuple #[.slice A92 vt85.length c93, .int .i64 vt86], .agg #[.int .i64 1, .int .i64 1, .slice (some ⟨b30, 0, none⟩) ([0] : List Int).length 1, .slice (some ⟨b36, 0, none⟩) ([Go.bits .and .i64 dark2 1073741823] : List Int).length 1, .slice (some ⟨b42, 0, none⟩) ([w64 (vt18 + 1)] : List Int).length 1, .int .i64 1, .int .i64 1, .int .i64 0], .int .i64 (Go.bits .and .i64 light1 17592186044415), .slice (some ⟨b56, 0, none⟩) ([Go.bits .and .i64 light1 17592186044415] : List Int).length 1, .int .i64 (w64 (vt10 + 1)), .tuple #[.slice A92 vt85.length c93, .int .i64 vt86], .slice A92 vt85.length c93, .int .i64 vt86, .bool vt113, .bool false, .bool false, .int .i64 vt86, .bool true, .bool true, .bool true, undef, undef, undef, .bool true, undef, undef, undef, undef, undef, undef, undef, undef, undef, undef, undef, undef, undef, undef, undef, undef, undef, undef, undef, undef, undef, undef, undef, undef, undef, undef, undef, undef, undef, undef, undef, undef, undef, undef, undef, undef, undef, undef, undef, undef, undef, undef], []⟩) (by kernel_rfl) ?_
      refine wpList_nil ?_
      refine hK124 _ _ ?_
      refine wp_ret ?_
      refine hret _ _ ?_
      refine ends_still (v := Value.bool false) (by kernel_rfl) (by kernel_rfl) ?_
      have HS187 := HS118.drop
      have HS188 := HS187.drop
      have HS189 := HS188.drop
      have HS190 := HS189.drop
      have HS191 := HS190.drop
      have HS192 := HS191.drop
      injection h with h
      subst h
      exact ⟨f115, rfl, (L13.trans (L21.trans (L107.trans L116))), HS192⟩
    · have c122 : ¬ (vt86 ≠ 0) := c122
      refine seqRwI 45 (x := (vt86 != 0)) (v := false) (by kernel_rfl) (bne_eq_false_iff_eq.mpr (Decidable.of_not_not c122)) ?_
      refine seqRwI 46 (x := (vt86 != 0)) (v := false) (by kernel_rfl) (bne_eq_false_iff_eq.mpr (Decidable.of_not_not c122)) ?_
      refine seqRwI 47 (x := (vt86 != 0)) (v := false) (by kernel_rfl) (bne_eq_false_iff_eq.mpr (Decidable.of_not_not c122)) ?_
      refine seqS4 (a' := ⟨#[.int .i64 (Go.bits .and .i64 light1 17592186044415), .int .i64 (Go.bits .and .i64 dark2 1073741823), .int .i64 (w64 (vt18 + 1)), .int .i64 (w64 (vt10 + 1)), .int .u64 seed5, undef, undef, undef, undef, undef, .bool false, .pointer (some ⟨b48, 0, none⟩), .slice A92 vt85.length c93, .int .i64 vt86, undef, undef, undef, .int .i64 beats4, .int .i64 vt10, .int .i64 (w64 (vt10 + 1)), .int .i64 flat3, .int .i64 vt18, .int .i64 (w64 (vt18 + 1)), .int .i64 light1, .int .i64 (Go.bits .and .i64 light1 17592186044415), .int .i64 dark2, .int .i64 (Go.bits .and .i64 dark2 1073741823), .slice (some ⟨b30, 0, none⟩) ([0] : List Int).length 1, .int .i64 (Go.bits .and .i64 dark2 1073741823), .slice (some ⟨b36, 0, none⟩) ([Go.bits .and .i64 dark2 1073741823] : List Int).length 1, .int .i64 (w64 (vt18 + 1)), .slice (some ⟨b42, 0, none⟩) ([w64 (vt18 + 1)] : List Int).length 1, .agg #[.int .i64 1, .int .i64 1, .slice (some ⟨b30, 0, none⟩) ([0] : List Int).length 1, .slice (some ⟨b36, 0, none⟩) ([Go.bits .and .i64 dark2 1073741823] : List Int).length 1, .slice (some ⟨b42, 0, none⟩) ([w64 (vt18 + 1)] : List Int).length 1, .int .i64 1, .int .i64 1, .int .i64 0], .tuple #[.slice A92 vt85.length c93, .int .i64 vt86], .agg #[.int .i64 1, .int .i64 1, .slice (some ⟨b30, 0, none⟩) ([0] : List Int).length 1, .slice (some ⟨b36, 0, none⟩) ([Go.bits .and .i64 dark2 1073741823] : List Int).length 1, .slice (some ⟨b42, 0, none⟩) ([w64 (vt18 + 1)] : List Int).length 1, .int .i64 1, .int .i64 1, .int .i64 0], .int .i64 (Go.bits .and .i64 light1 17592186044415), .slice (some ⟨b56, 0, none⟩) ([Go.bits .and .i64 light1 17592186044415] : List Int).length 1, .int .i64 (w64 (vt10 + 1)), .tuple #[.slice A92 vt85.length c93, .int .i64 vt86], .slice A92 vt85.length c93, .int .i64 vt86, .bool vt113, .bool false, .bool false, .int .i64 vt86, .bool false, .bool false, .bool false, .slice A92 vt85.length c93, .int .i64 (vt85.length : Int), .bool ((vt85.length : Int) != 1), .bool ((vt85.length : Int) != 1), undef, undef, undef, undef, undef, undef, undef, undef, undef, undef, undef, undef, undef, undef, undef, undef, undef, undef, undef, undef, undef, undef, undef, undef, undef, undef, undef, undef, undef, undef, undef, undef, undef, undef, undef, undef, undef, undef, undef, undef, undef, undef], []⟩) (by kernel_rfl) ?_
      refine wpList_nil ?_
      refine hK112 _ _ ?_
      have hq_ := ite_some h; clear h; rcases hq_ with ⟨c126, h⟩ | ⟨c126, h⟩
      · have c126 : (vt85.length : Int) ≠ 1 := c126
        refine wpRwI 50 (x := ((vt85.length : Int) != 1)) (v := true) (by kernel_rfl) (bne_iff_ne.mpr c126) ?_
        refine wpRwI 51 (x := ((vt85.length : Int) != 1)) (v := true) (by kernel_rfl) (bne_iff_ne.mpr c126) ?_
        refine condT (by kernel_rfl) ?_
        refine wp_seq_k (fun K127 hK128 => ?_)
        refine wp_region_lit ?_
        refine seqS1 (a' := ⟨#[.int .i64 (Go.bits .and .i64 light1 17592186044415), .int .i64 (Go.bits .and .i64 dark2 1073741823), .int .i64 (w64 (vt18 + 1)), .int .i64 (w64 (vt10 + 1)), .int .u64 seed5, undef, undef, undef, undef, undef, .bool false, .pointer (some ⟨b48, 0, none⟩), .slice A92 vt85.length c93, .int .i64 vt86, undef, undef, undef, .int .i64 beats4, .int .i64 vt10, .int .i64 (w64 (vt10 + 1)), .int .i64 flat3, .int .i64 vt18, .int .i64 (w64 (vt18 + 1)), .int .i64 light1, .int .i64 (Go.bits .and .i64 light1 17592186044415), .int .i64 dark2, .int .i64 (Go.bits .and .i64 dark2 1073741823), .slice (some ⟨b30, 0, none⟩) ([0] : List Int).length 1, .int .i64 (Go.bits .and .i64 dark2 1073741823), .slice (some ⟨b36, 0, none⟩) ([Go.bits .and .i64 dark2 1073741823] : List Int).length 1, .int .i64 (w64 (vt18 + 1)), .slice (some ⟨b42, 0, none⟩) ([w64 (vt18 + 1)] : List Int).length 1, .agg #[.int .i64 1, .int .i64 1, .slice (some ⟨b30, 0, none⟩) ([0] : List Int).length 1, .slice (some ⟨b36, 0, none⟩) ([Go.bits .and .i64 dark2 1073741823] : List Int).length 1, .slice (some ⟨b42, 0, none⟩) ([w64 (vt18 + 1)] : List Int).length 1, .int .i64 1, .int .i64 1, .int .i64 0], .tuple #[.slice A92 vt85.length c93, .int .i64 vt86], .agg #[.int .i64 1, .int .i64 1, .slice (some ⟨b30, 0, none⟩) ([0] : List Int).length 1, .slice (some ⟨b36, 0, none⟩) ([Go.bits .and .i64 dark2 1073741823] : List Int).length 1, .slice (some ⟨b42, 0, none⟩) ([w64 (vt18 + 1)] : List Int).length 1, .int .i64 1, .int .i64 1, .int .i64 0], .int .i64 (Go.bits .and .i64 light1 17592186044415), .slice (some ⟨b56, 0, none⟩) ([Go.bits .and .i64 light1 17592186044415] : List Int).length 1, .int .i64 (w64 (vt10 + 1)), .tuple #[.slice A92 vt85.length c93, .int .i64 vt86], .slice A92 vt85.length c93, .int .i64 vt86, .bool vt113, .bool false, .bool false, .int .i64 vt86, .bool false, .bool false, .bool false, .slice A92 vt85.length c93, .int .i64 (vt85.length : Int), .bool true, .bool true, undef, undef, undef, undef, undef, undef, undef, undef, undef, undef, undef, undef, undef, undef, undef, undef, undef, undef, undef, undef, undef, undef, undef, undef, undef, undef, undef, undef, undef, undef, undef, undef, undef, undef, undef, undef, undef, undef, undef, undef, undef, undef], []⟩) (by kernel_rfl) ?_
        refine wpList_nil ?_
        refine hK128 _ _ ?_
        refine wp_ret ?_
        refine hret _ _ ?_
        refine ends_still (v := Value.bool false) (by kernel_rfl) (by kernel_rfl) ?_
        have HS193 := HS118.drop
        have HS194 := HS193.drop
        have HS195 := HS194.drop
        have HS196 := HS195.drop
        have HS197 := HS196.drop
        have HS198 := HS197.drop
        injection h with h
        subst h
        exact ⟨f115, rfl, (L13.trans (L21.trans (L107.trans L116))), HS198⟩
      · have c126 : ¬ ((vt85.length : Int) ≠ 1) := c126
        refine wpRwI 50 (x := ((vt85.length : Int) != 1)) (v := false) (by kernel_rfl) (bne_eq_false_iff_eq.mpr (Decidable.of_not_not c126)) ?_
        refine wpRwI 51 (x := ((vt85.length : Int) != 1)) (v := false) (by kernel_rfl) (bne_eq_false_iff_eq.mpr (Decidable.of_not_not c126)) ?_
        refine condF (by kernel_rfl) ?_
        refine wp_skip ?_
        refine hK110 _ _ ?_
        refine wp_seq_k (fun K129 hK130 => ?_)
        refine wp_region_lit ?_
        have hq_ := guard_some h; clear h; obtain ⟨c131, h⟩ := hq_
        have c131 : 0 < (vt85.length : Int) := c131
        obtain ⟨b135, of136, cs132, rfl, hr133, hc134⟩ := (HO95.mono L116).at (i := 0) (by decide) c131
        obtain rfl := hr133
        refine seqL2 (by kernel_rfl) ?_
        refine seqK rfl (does_run (run_index (sz := 1) rfl Try.underlying62 (by kernel_rfl) (by kernel_rfl : _ = Value.slice (some ⟨b135, of136, none⟩) vt85.length c93) (by kernel_rfl : _ = Value.int .i64 0) (by decide) c131 W117) ?_)
        refine seqK rfl (does_run (run_load rfl Try.underlying52 rfl (by kernel_rfl : _ = Value.pointer (some ⟨b135, of136 + (0 : Int).toNat * 1, none⟩)) ((hc134 HS118.u4) 0 (by decide))) ?_)
        have hq_ := bind_some h; clear h; obtain ⟨⟨vt137, vt138⟩, hc139, h⟩ := hq_
        refine seqK rfl (does_call (f := 29) (args := #[.int .u64 seed5, .int .i64 3, .int .i64 (rd vt85 0)]) (by kernel_rfl) (quanta_Draw.calls k seed5 3 (rd vt85 0) HS118 vt137 vt138 hc139) ?_)
        rintro _ W142 ⟨f140, rfl, L141, HS143⟩
        refine ⟨_, rfl, ?_⟩
        refine seqS5 (a' := ⟨#[.int .i64 (Go.bits .and .i64 light1 17592186044415), .int .i64 (Go.bits .and .i64 dark2 1073741823), .int .i64 (w64 (vt18 + 1)), .int .i64 (w64 (vt10 + 1)), .int .u64 seed5, undef, undef, undef, undef, undef, .bool false, .pointer (some ⟨b48, 0, none⟩), .slice (some ⟨b135, of136, none⟩) vt85.length c93, .int .i64 vt86, .int .i64 vt137, .int .i64 vt138, undef, .int .i64 beats4, .int .i64 vt10, .int .i64 (w64 (vt10 + 1)), .int .i64 flat3, .int .i64 vt18, .int .i64 (w64 (vt18 + 1)), .int .i64 light1, .int .i64 (Go.bits .and .i64 light1 17592186044415), .int .i64 dark2, .int .i64 (Go.bits .and .i64 dark2 1073741823), .slice (some ⟨b30, 0, none⟩) ([0] : List Int).length 1, .int .i64 (Go.bits .and .i64 dark2 1073741823), .slice (some ⟨b36, 0, none⟩) ([Go.bits .and .i64 dark2 1073741823] : List Int).length 1, .int .i64 (w64 (vt18 + 1)), .slice (some ⟨b42, 0, none⟩) ([w64 (vt18 + 1)] : List Int).length 1, .agg #[.int .i64 1, .int .i64 1, .slice (some ⟨b30, 0, none⟩) ([0] : List Int).length 1, .slice (some ⟨b36, 0, none⟩) ([Go.bits .and .i64 dark2 1073741823] : List Int).length 1, .slice (some ⟨b42, 0, none⟩) ([w64 (vt18 + 1)] : List Int).length 1, .int .i64 1, .int .i64 1, .int .i64 0], .tuple #[.slice (some ⟨b135, of136, none⟩) vt85.length c93, .int .i64 vt86], .agg #[.int .i64 1, .int .i64 1, .slice (some ⟨b30, 0, none⟩) ([0] : List Int).length 1, .slice (some ⟨b36, 0, none⟩) ([Go.bits .and .i64 dark2 1073741823] : List Int).length 1, .slice (some ⟨b42, 0, none⟩) ([w64 (vt18 + 1)] : List Int).length 1, .int .i64 1, .int .i64 1, .int .i64 0], .int .i64 (Go.bits .and .i64 light1 17592186044415), .slice (some ⟨b56, 0, none⟩) ([Go.bits .and .i64 light1 17592186044415] : List Int).length 1, .int .i64 (w64 (vt10 + 1)), .tuple #[.slice (some ⟨b135, of136, none⟩) vt85.length c93, .int .i64 vt86], .slice (some ⟨b135, of136, none⟩) vt85.length c93, .int .i64 vt86, .bool vt113, .bool false, .bool false, .int .i64 vt86, .bool false, .bool false, .bool false, .slice (some ⟨b135, of136, none⟩) vt85.length c93, .int .i64 (vt85.length : Int), .bool false, .bool false, .tuple #[.int .i64 vt137, .int .i64 vt138], .int .u64 seed5, .slice (some ⟨b135, of136, none⟩) vt85.length c93, .pointer (some ⟨b135, of136 + (0 : Int).toNat * 1, none⟩), .int .i64 (rd vt85 0), .tuple #[.int .i64 vt137, .int .i64 vt138], .int .i64 vt137, .int .i64 vt138, undef, undef, undef, undef, undef, undef, undef, undef, undef, undef, undef, undef, undef, undef, undef, undef, undef, undef, undef, undef, undef, undef, undef, undef, undef, undef, undef, undef, undef, undef, undef, undef, undef, undef], []⟩) (by kernel_rfl) ?_
        refine wpList_nil ?_
        refine hK130 _ _ ?_
        refine wp_seq_k (fun K144 hK145 => ?_)
        refine wp_region_lit ?_
        have hq_ := bind_some h; clear h; obtain ⟨vt146, hc147, h⟩ := hq_
        refine seqL1 (by kernel_rfl) ?_
        refine seqK rfl (does_call (f := 30) (args := #[.int .i64 vt137]) (by kernel_rfl) (bound_Exact_Quanta.calls k vt137 HS143 vt146 hc147) ?_)
        rintro _ W150 ⟨f148, rfl, L149, HS151⟩
        refine ⟨_, rfl, ?_⟩
        have hq_ := bind_some h; clear h; obtain ⟨vt152, hc153, h⟩ := hq_
        refine seqL1 (by kernel_rfl) ?_
        refine seqK rfl (does_call (f := 31) (args := #[.int .i64 (Go.bits .and .i64 dark2 1073741823)]) (by kernel_rfl) (bound_Exact_Light.calls k (Go.bits .and .i64 dark2 1073741823) HS151 vt152 hc153) ?_)
        rintro _ W156 ⟨f154, rfl, L155, HS157⟩
        refine ⟨_, rfl, ?_⟩
        have hq_ := bind_some h; clear h; obtain ⟨vt158, hc159, h⟩ := hq_
        refine seqL6 (by kernel_rfl) ?_
        refine seqK rfl (does_call (f := 24) (args := #[.int .i64 (mx 1 (w64 ((w64 (vt18 + 1)) - 2))), .int .i64 (mn 4096 (w64 ((w64 (vt18 + 1)) + 1)))]) (by kernel_rfl) (bound_Of_Part.calls k (mx 1 (w64 ((w64 (vt18 + 1)) - 2))) (mn 4096 (w64 ((w64 (vt18 + 1)) + 1))) HS157 vt158 hc159) ?_)
        rintro _ W162 ⟨f160, rfl, L161, HS163⟩
        refine ⟨_, rfl, ?_⟩
        have hq_ := bind_some h; clear h; obtain ⟨vt164, hc165, h⟩ := hq_
        refine seqL1 (by kernel_rfl) ?_
        refine seqK rfl (does_call (f := 26) (args := #[.agg #[.int .i64 vt146.Lo, .int .i64 vt146.Hi, .bool vt146.Unknown], .agg #[.int .i64 vt152.Lo, .int .i64 vt152.Hi, .bool vt152.Unknown], .agg #[.int .i64 vt158.Lo, .int .i64 vt158.Hi, .bool vt158.Unknown], .int .i64 (w64 (vt10 + 1))]) (by kernel_rfl) (calib_Light.calls k vt146 vt152 vt158 (w64 (vt10 + 1)) HS163 vt164 hc165) ?_)
        rintro _ W168 ⟨f166, rfl, L167, HS169⟩
        refine ⟨_, rfl, ?_⟩
        refine seqK rfl (does_alloc (z := Value.agg #[.int .i64 0, .int .i64 0, .bool false]) (cs := #[.int .i64 0, .int .i64 0, .bool false]) rfl (by kernel_rfl) rfl HS169 ?_)
        intro b170 W171 HS172
        refine seqK rfl (does_store (n := 3) (vs := [.int .i64 vt164.Lo, .int .i64 vt164.Hi, .bool vt164.Unknown]) (cs' := #[.int .i64 vt164.Lo, .int .i64 vt164.Hi, .bool vt164.Unknown]) rfl (by kernel_rfl) (by kernel_rfl : _ = Value.pointer (some ⟨b170, 0, none⟩)) (by kernel_rfl : _ = Value.agg #[.int .i64 vt164.Lo, .int .i64 vt164.Hi, .bool vt164.Unknown]) rfl rfl (by intro u_ hu_; simp only [List.mem_cons, List.not_mem_nil, or_false] at hu_; rcases hu_ with rfl | rfl | rfl <;> rfl) HS172 (Nat.le_of_ble_eq_true rfl) (by kernel_rfl) ?_)
        intro W174 HS175
        refine wpList_nil ?_
        refine hK145 _ _ ?_
        refine wp_seq_k (fun K176 hK177 => ?_)
        refine wp_region_lit ?_
        refine seqS3 (a' := ⟨#[.int .i64 (Go.bits .and .i64 light1 17592186044415), .int .i64 (Go.bits .and .i64 dark2 1073741823), .int .i64 (w64 (vt18 + 1)), .int .i64 (w64 (vt10 + 1)), .int .u64 seed5, undef, undef, undef, undef, undef, .bool false, .pointer (some ⟨b48, 0, none⟩), .slice (some ⟨b135, of136, none⟩) vt85.length c93, .int .i64 vt86, .int .i64 vt137, .int .i64 vt138, .pointer (some ⟨b170, 0, none⟩), .int .i64 beats4, .int .i64 vt10, .int .i64 (w64 (vt10 + 1)), .int .i64 flat3, .int .i64 vt18, .int .i64 (w64 (vt18 + 1)), .int .i64 light1, .int .i64 (Go.bits .and .i64 light1 17592186044415), .int .i64 dark2, .int .i64 (Go.bits .and .i64 dark2 1073741823), .slice (some ⟨b30, 0, none⟩) ([0] : List Int).length 1, .int .i64 (Go.bits .and .i64 dark2 1073741823), .slice (some ⟨b36, 0, none⟩) ([Go.bits .and .i64 dark2 1073741823] : List Int).length 1, .int .i64 (w64 (vt18 + 1)), .slice (some ⟨b42, 0, none⟩) ([w64 (vt18 + 1)] : List Int).length 1, .agg #[.int .i64 1, .int .i64 1, .slice (some ⟨b30, 0, none⟩) ([0] : List Int).length 1, .slice (some ⟨b36, 0, none⟩) ([Go.bits .and .i64 dark2 1073741823] : List Int).length 1, .slice (some ⟨b42, 0, none⟩) ([w64 (vt18 + 1)] : List Int).length 1, .int .i64 1, .int .i64 1, .int .i64 0], .tuple #[.slice (some ⟨b135, of136, none⟩) vt85.length c93, .int .i64 vt86], .agg #[.int .i64 1, .int .i64 1, .slice (some ⟨b30, 0, none⟩) ([0] : List Int).length 1, .slice (some ⟨b36, 0, none⟩) ([Go.bits .and .i64 dark2 1073741823] : List Int).length 1, .slice (some ⟨b42, 0, none⟩) ([w64 (vt18 + 1)] : List Int).length 1, .int .i64 1, .int .i64 1, .int .i64 0], .int .i64 (Go.bits .and .i64 light1 17592186044415), .slice (some ⟨b56, 0, none⟩) ([Go.bits .and .i64 light1 17592186044415] : List Int).length 1, .int .i64 (w64 (vt10 + 1)), .tuple #[.slice (some ⟨b135, of136, none⟩) vt85.length c93, .int .i64 vt86], .slice (some ⟨b135, of136, none⟩) vt85.length c93, .int .i64 vt86, .bool vt113, .bool false, .bool false, .int .i64 vt86, .bool false, .bool false, .bool false, .slice (some ⟨b135, of136, none⟩) vt85.length c93, .int .i64 (vt85.length : Int), .bool false, .bool false, .tuple #[.int .i64 vt137, .int .i64 vt138], .int .u64 seed5, .slice (some ⟨b135, of136, none⟩) vt85.length c93, .pointer (some ⟨b135, of136 + (0 : Int).toNat * 1, none⟩), .int .i64 (rd vt85 0), .tuple #[.int .i64 vt137, .int .i64 vt138], .int .i64 vt137, .int .i64 vt138, .int .i64 vt137, .agg #[.int .i64 vt146.Lo, .int .i64 vt146.Hi, .bool vt146.Unknown], .int .i64 (Go.bits .and .i64 dark2 1073741823), .agg #[.int .i64 vt152.Lo, .int .i64 vt152.Hi, .bool vt152.Unknown], .int .i64 (w64 (vt18 + 1)), .int .i64 (w64 ((w64 (vt18 + 1)) - 2)), .int .i64 (mx 1 (w64 ((w64 (vt18 + 1)) - 2))), .int .i64 (w64 (vt18 + 1)), .int .i64 (w64 ((w64 (vt18 + 1)) + 1)), .int .i64 (mn 4096 (w64 ((w64 (vt18 + 1)) + 1))), .agg #[.int .i64 vt158.Lo, .int .i64 vt158.Hi, .bool vt158.Unknown], .int .i64 (w64 (vt10 + 1)), .agg #[.int .i64 vt164.Lo, .int .i64 vt164.Hi, .bool vt164.Unknown], .int .i64 vt138, .bool (vt138 == 0), .bool (vt138 == 0), undef, undef, undef, undef, undef, undef, undef, undef, undef, undef, undef, undef, undef, undef, undef, undef, undef, undef], []⟩) (by kernel_rfl) ?_
        have hq_ := ite_some h; clear h; rcases hq_ with ⟨c178, h⟩ | ⟨c178, h⟩
        · have c178 : vt138 = 0 := c178
          refine seqRwI 74 (x := (vt138 == 0)) (v := true) (by kernel_rfl) (beq_iff_eq.mpr c178) ?_
          refine seqRwI 75 (x := (vt138 == 0)) (v := true) (by kernel_rfl) (beq_iff_eq.mpr c178) ?_
          refine seqL1 (by kernel_rfl) ?_
          refine seqG (by kernel_rfl) (does_run (run_load rfl Try.underlying4 rfl (by kernel_rfl : _ = Value.pointer (some ⟨b170, 2, none⟩)) (HS175.cell 2)) ?_)
          refine seqS3 (a' := ⟨#[.int .i64 (Go.bits .and .i64 light1 17592186044415), .int .i64 (Go.bits .and .i64 dark2 1073741823), .int .i64 (w64 (vt18 + 1)), .int .i64 (w64 (vt10 + 1)), .int .u64 seed5, undef, undef, undef, undef, undef, .bool false, .pointer (some ⟨b48, 0, none⟩), .slice (some ⟨b135, of136, none⟩) vt85.length c93, .int .i64 vt86, .int .i64 vt137, .int .i64 vt138, .pointer (some ⟨b170, 0, none⟩), .int .i64 beats4, .int .i64 vt10, .int .i64 (w64 (vt10 + 1)), .int .i64 flat3, .int .i64 vt18, .int .i64 (w64 (vt18 + 1)), .int .i64 light1, .int .i64 (Go.bits .and .i64 light1 17592186044415), .int .i64 dark2, .int .i64 (Go.bits .and .i64 dark2 1073741823), .slice (some ⟨b30, 0, none⟩) ([0] : List Int).length 1, .int .i64 (Go.bits .and .i64 dark2 1073741823), .slice (some ⟨b36, 0, none⟩) ([Go.bits .and .i64 dark2 1073741823] : List Int).length 1, .int .i64 (w64 (vt18 + 1)), .slice (some ⟨b42, 0, none⟩) ([w64 (vt18 + 1)] : List Int).length 1, .agg #[.int .i64 1, .int .i64 1, .slice (some ⟨b30, 0, none⟩) ([0] : List Int).length 1, .slice (some ⟨b36, 0, none⟩) ([Go.bits .and .i64 dark2 1073741823] : List Int).length 1, .slice (some ⟨b42, 0, none⟩) ([w64 (vt18 + 1)] : List Int).length 1, .int .i64 1, .int .i64 1, .int .i64 0], .tuple #[.slice (some ⟨b135, of136, none⟩) vt85.length c93, .int .i64 vt86], .agg #[.int .i64 1, .int .i64 1, .slice (some ⟨b30, 0, none⟩) ([0] : List Int).length 1, .slice (some ⟨b36, 0, none⟩) ([Go.bits .and .i64 dark2 1073741823] : List Int).length 1, .slice (some ⟨b42, 0, none⟩) ([w64 (vt18 + 1)] : List Int).length 1, .int .i64 1, .int .i64 1, .int .i64 0], .int .i64 (Go.bits .and .i64 light1 17592186044415), .slice (some ⟨b56, 0, none⟩) ([Go.bits .and .i64 light1 17592186044415] : List Int).length 1, .int .i64 (w64 (vt10 + 1)), .tuple #[.slice (some ⟨b135, of136, none⟩) vt85.length c93, .int .i64 vt86], .slice (some ⟨b135, of136, none⟩) vt85.length c93, .int .i64 vt86, .bool vt113, .bool false, .bool false, .int .i64 vt86, .bool false, .bool false, .bool false, .slice (some ⟨b135, of136, none⟩) vt85.length c93, .int .i64 (vt85.length : Int), .bool false, .bool false, .tuple #[.int .i64 vt137, .int .i64 vt138], .int .u64 seed5, .slice (some ⟨b135, of136, none⟩) vt85.length c93, .pointer (some ⟨b135, of136 + (0 : Int).toNat * 1, none⟩), .int .i64 (rd vt85 0), .tuple #[.int .i64 vt137, .int .i64 vt138], .int .i64 vt137, .int .i64 vt138, .int .i64 vt137, .agg #[.int .i64 vt146.Lo, .int .i64 vt146.Hi, .bool vt146.Unknown], .int .i64 (Go.bits .and .i64 dark2 1073741823), .agg #[.int .i64 vt152.Lo, .int .i64 vt152.Hi, .bool vt152.Unknown], .int .i64 (w64 (vt18 + 1)), .int .i64 (w64 ((w64 (vt18 + 1)) - 2)), .int .i64 (mx 1 (w64 ((w64 (vt18 + 1)) - 2))), .int .i64 (w64 (vt18 + 1)), .int .i64 (w64 ((w64 (vt18 + 1)) + 1)), .int .i64 (mn 4096 (w64 ((w64 (vt18 + 1)) + 1))), .agg #[.int .i64 vt158.Lo, .int .i64 vt158.Hi, .bool vt158.Unknown], .int .i64 (w64 (vt10 + 1)), .agg #[.int .i64 vt164.Lo, .int .i64 vt164.Hi, .bool vt164.Unknown], .int .i64 vt138, .bool true, .bool true, .pointer (some ⟨b170, 2, none⟩), .bool vt164.Unknown, .bool (!vt164.Unknown), .bool (!vt164.Unknown), .bool (!vt164.Unknown), undef, undef, undef, undef, undef, undef, undef, undef, undef, undef, undef, undef, undef], []⟩) (by kernel_rfl) ?_
          have hq_ := ite_some h; clear h; rcases hq_ with ⟨c179, h⟩ | ⟨c179, h⟩
          · have c179 : ¬ (vt164.Unknown = true) := c179
            refine seqRwI 78 (x := (!vt164.Unknown)) (v := true) (by kernel_rfl) (congrArg (fun b_ => !b_) (show vt164.Unknown = false from (Bool.eq_false_iff.mpr c179)) : (!vt164.Unknown) = true) ?_
            refine seqRwI 79 (x := (!vt164.Unknown)) (v := true) (by kernel_rfl) (congrArg (fun b_ => !b_) (show vt164.Unknown = false from (Bool.eq_false_iff.mpr c179)) : (!vt164.Unknown) = true) ?_
            refine seqRwI 80 (x := (!vt164.Unknown)) (v := true) (by kernel_rfl) (congrArg (fun b_ => !b_) (show vt164.Unknown = false from (Bool.eq_false_iff.mpr c179)) : (!vt164.Unknown) = true) ?_
            refine seqL1 (by kernel_rfl) ?_
            refine seqG (by kernel_rfl) (does_run (run_load rfl Try.underlying42 rfl (by kernel_rfl : _ = Value.pointer (some ⟨b170, 0, none⟩)) (HS175.cell 0)) ?_)
            refine seqS5 (a' := ⟨#[.int .i64 (Go.bits .and .i64 light1 17592186044415), .int .i64 (Go.bits .and .i64 dark2 1073741823), .int .i64 (w64 (vt18 + 1)), .int .i64 (w64 (vt10 + 1)), .int .u64 seed5, undef, undef, undef, undef, undef, .bool false, .pointer (some ⟨b48, 0, none⟩), .slice (some ⟨b135, of136, none⟩) vt85.length c93, .int .i64 vt86, .int .i64 vt137, .int .i64 vt138, .pointer (some ⟨b170, 0, none⟩), .int .i64 beats4, .int .i64 vt10, .int .i64 (w64 (vt10 + 1)), .int .i64 flat3, .int .i64 vt18, .int .i64 (w64 (vt18 + 1)), .int .i64 light1, .int .i64 (Go.bits .and .i64 light1 17592186044415), .int .i64 dark2, .int .i64 (Go.bits .and .i64 dark2 1073741823), .slice (some ⟨b30, 0, none⟩) ([0] : List Int).length 1, .int .i64 (Go.bits .and .i64 dark2 1073741823), .slice (some ⟨b36, 0, none⟩) ([Go.bits .and .i64 dark2 1073741823] : List Int).length 1, .int .i64 (w64 (vt18 + 1)), .slice (some ⟨b42, 0, none⟩) ([w64 (vt18 + 1)] : List Int).length 1, .agg #[.int .i64 1, .int .i64 1, .slice (some ⟨b30, 0, none⟩) ([0] : List Int).length 1, .slice (some ⟨b36, 0, none⟩) ([Go.bits .and .i64 dark2 1073741823] : List Int).length 1, .slice (some ⟨b42, 0, none⟩) ([w64 (vt18 + 1)] : List Int).length 1, .int .i64 1, .int .i64 1, .int .i64 0], .tuple #[.slice (some ⟨b135, of136, none⟩) vt85.length c93, .int .i64 vt86], .agg #[.int .i64 1, .int .i64 1, .slice (some ⟨b30, 0, none⟩) ([0] : List Int).length 1, .slice (some ⟨b36, 0, none⟩) ([Go.bits .and .i64 dark2 1073741823] : List Int).length 1, .slice (some ⟨b42, 0, none⟩) ([w64 (vt18 + 1)] : List Int).length 1, .int .i64 1, .int .i64 1, .int .i64 0], .int .i64 (Go.bits .and .i64 light1 17592186044415), .slice (some ⟨b56, 0, none⟩) ([Go.bits .and .i64 light1 17592186044415] : List Int).length 1, .int .i64 (w64 (vt10 + 1)), .tuple #[.slice (some ⟨b135, of136, none⟩) vt85.length c93, .int .i64 vt86], .slice (some ⟨b135, of136, none⟩) vt85.length c93, .int .i64 vt86, .bool vt113, .bool false, .bool false, .int .i64 vt86, .bool false, .bool false, .bool false, .slice (some ⟨b135, of136, none⟩) vt85.length c93, .int .i64 (vt85.length : Int), .bool false, .bool false, .tuple #[.int .i64 vt137, .int .i64 vt138], .int .u64 seed5, .slice (some ⟨b135, of136, none⟩) vt85.length c93, .pointer (some ⟨b135, of136 + (0 : Int).toNat * 1, none⟩), .int .i64 (rd vt85 0), .tuple #[.int .i64 vt137, .int .i64 vt138], .int .i64 vt137, .int .i64 vt138, .int .i64 vt137, .agg #[.int .i64 vt146.Lo, .int .i64 vt146.Hi, .bool vt146.Unknown], .int .i64 (Go.bits .and .i64 dark2 1073741823), .agg #[.int .i64 vt152.Lo, .int .i64 vt152.Hi, .bool vt152.Unknown], .int .i64 (w64 (vt18 + 1)), .int .i64 (w64 ((w64 (vt18 + 1)) - 2)), .int .i64 (mx 1 (w64 ((w64 (vt18 + 1)) - 2))), .int .i64 (w64 (vt18 + 1)), .int .i64 (w64 ((w64 (vt18 + 1)) + 1)), .int .i64 (mn 4096 (w64 ((w64 (vt18 + 1)) + 1))), .agg #[.int .i64 vt158.Lo, .int .i64 vt158.Hi, .bool vt158.Unknown], .int .i64 (w64 (vt10 + 1)), .agg #[.int .i64 vt164.Lo, .int .i64 vt164.Hi, .bool vt164.Unknown], .int .i64 vt138, .bool true, .bool true, .pointer (some ⟨b170, 2, none⟩), .bool vt164.Unknown, .bool true, .bool true, .bool true, .pointer (some ⟨b170, 0, none⟩), .int .i64 vt164.Lo, .int .i64 (w64 (vt164.Lo * 16777216)), .int .i64 (Go.bits .and .i64 light1 17592186044415), .bool (decide ((w64 (vt164.Lo * 16777216)) ≤ (Go.bits .and .i64 light1 17592186044415))), .bool (decide ((w64 (vt164.Lo * 16777216)) ≤ (Go.bits .and .i64 light1 17592186044415))), .bool (decide ((w64 (vt164.Lo * 16777216)) ≤ (Go.bits .and .i64 light1 17592186044415))), undef, undef, undef, undef, undef, undef], []⟩) (by kernel_rfl) ?_
            have hq_ := ite_some h; clear h; rcases hq_ with ⟨c180, h⟩ | ⟨c180, h⟩
            · have c180 : (w64 (vt164.Lo * 16777216)) ≤ (Go.bits .and .i64 light1 17592186044415) := c180
              refine seqRwI 85 (x := (decide ((w64 (vt164.Lo * 16777216)) ≤ (Go.bits .and .i64 light1 17592186044415)))) (v := true) (by kernel_rfl) (decide_eq_true c180) ?_
              refine seqRwI 86 (x := (decide ((w64 (vt164.Lo * 16777216)) ≤ (Go.bits .and .i64 light1 17592186044415)))) (v := true) (by kernel_rfl) (decide_eq_true c180) ?_
              refine seqRwI 87 (x := (decide ((w64 (vt164.Lo * 16777216)) ≤ (Go.bits .and .i64 light1 17592186044415)))) (v := true) (by kernel_rfl) (decide_eq_true c180) ?_
              refine seqL2 (by kernel_rfl) ?_
              refine seqG (by kernel_rfl) (does_run (run_load rfl Try.underlying42 rfl (by kernel_rfl : _ = Value.pointer (some ⟨b170, 1, none⟩)) (HS175.cell 1)) ?_)
              refine seqS4 (a' := ⟨#[.int .i64 (Go.bits .and .i64 light1 17592186044415), .int .i64 (Go.bits .and .i64 dark2 1073741823), .int .i64 (w64 (vt18 + 1)), .int .i64 (w64 (vt10 + 1)), .int .u64 seed5, undef, undef, undef, undef, undef, .bool (decide ((Go.bits .and .i64 light1 17592186044415) ≤ (w64 (vt164.Hi * 16777216)))), .pointer (some ⟨b48, 0, none⟩), .slice (some ⟨b135, of136, none⟩) vt85.length c93, .int .i64 vt86, .int .i64 vt137, .int .i64 vt138, .pointer (some ⟨b170, 0, none⟩), .int .i64 beats4, .int .i64 vt10, .int .i64 (w64 (vt10 + 1)), .int .i64 flat3, .int .i64 vt18, .int .i64 (w64 (vt18 + 1)), .int .i64 light1, .int .i64 (Go.bits .and .i64 light1 17592186044415), .int .i64 dark2, .int .i64 (Go.bits .and .i64 dark2 1073741823), .slice (some ⟨b30, 0, none⟩) ([0] : List Int).length 1, .int .i64 (Go.bits .and .i64 dark2 1073741823), .slice (some ⟨b36, 0, none⟩) ([Go.bits .and .i64 dark2 1073741823] : List Int).length 1, .int .i64 (w64 (vt18 + 1)), .slice (some ⟨b42, 0, none⟩) ([w64 (vt18 + 1)] : List Int).length 1, .agg #[.int .i64 1, .int .i64 1, .slice (some ⟨b30, 0, none⟩) ([0] : List Int).length 1, .slice (some ⟨b36, 0, none⟩) ([Go.bits .and .i64 dark2 1073741823] : List Int).length 1, .slice (some ⟨b42, 0, none⟩) ([w64 (vt18 + 1)] : List Int).length 1, .int .i64 1, .int .i64 1, .int .i64 0], .tuple #[.slice (some ⟨b135, of136, none⟩) vt85.length c93, .int .i64 vt86], .agg #[.int .i64 1, .int .i64 1, .slice (some ⟨b30, 0, none⟩) ([0] : List Int).length 1, .slice (some ⟨b36, 0, none⟩) ([Go.bits .and .i64 dark2 1073741823] : List Int).length 1, .slice (some ⟨b42, 0, none⟩) ([w64 (vt18 + 1)] : List Int).length 1, .int .i64 1, .int .i64 1, .int .i64 0], .int .i64 (Go.bits .and .i64 light1 17592186044415), .slice (some ⟨b56, 0, none⟩) ([Go.bits .and .i64 light1 17592186044415] : List Int).length 1, .int .i64 (w64 (vt10 + 1)), .tuple #[.slice (some ⟨b135, of136, none⟩) vt85.length c93, .int .i64 vt86], .slice (some ⟨b135, of136, none⟩) vt85.length c93, .int .i64 vt86, .bool vt113, .bool false, .bool false, .int .i64 vt86, .bool false, .bool false, .bool false, .slice (some ⟨b135, of136, none⟩) vt85.length c93, .int .i64 (vt85.length : Int), .bool false, .bool false, .tuple #[.int .i64 vt137, .int .i64 vt138], .int .u64 seed5, .slice (some ⟨b135, of136, none⟩) vt85.length c93, .pointer (some ⟨b135, of136 + (0 : Int).toNat * 1, none⟩), .int .i64 (rd vt85 0), .tuple #[.int .i64 vt137, .int .i64 vt138], .int .i64 vt137, .int .i64 vt138, .int .i64 vt137, .agg #[.int .i64 vt146.Lo, .int .i64 vt146.Hi, .bool vt146.Unknown], .int .i64 (Go.bits .and .i64 dark2 1073741823), .agg #[.int .i64 vt152.Lo, .int .i64 vt152.Hi, .bool vt152.Unknown], .int .i64 (w64 (vt18 + 1)), .int .i64 (w64 ((w64 (vt18 + 1)) - 2)), .int .i64 (mx 1 (w64 ((w64 (vt18 + 1)) - 2))), .int .i64 (w64 (vt18 + 1)), .int .i64 (w64 ((w64 (vt18 + 1)) + 1)), .int .i64 (mn 4096 (w64 ((w64 (vt18 + 1)) + 1))), .agg #[.int .i64 vt158.Lo, .int .i64 vt158.Hi, .bool vt158.Unknown], .int .i64 (w64 (vt10 + 1)), .agg #[.int .i64 vt164.Lo, .int .i64 vt164.Hi, .bool vt164.Unknown], .int .i64 vt138, .bool true, .bool true, .pointer (some ⟨b170, 2, none⟩), .bool vt164.Unknown, .bool true, .bool true, .bool true, .pointer (some ⟨b170, 0, none⟩), .int .i64 vt164.Lo, .int .i64 (w64 (vt164.Lo * 16777216)), .int .i64 (Go.bits .and .i64 light1 17592186044415), .bool true, .bool true, .bool true, .int .i64 (Go.bits .and .i64 light1 17592186044415), .pointer (some ⟨b170, 1, none⟩), .int .i64 vt164.Hi, .int .i64 (w64 (vt164.Hi * 16777216)), .bool (decide ((Go.bits .and .i64 light1 17592186044415) ≤ (w64 (vt164.Hi * 16777216)))), .bool (decide ((Go.bits .and .i64 light1 17592186044415) ≤ (w64 (vt164.Hi * 16777216))))], []⟩) (by kernel_rfl) ?_
              refine wpList_nil ?_
              refine hK177 _ _ ?_
              refine wp_ret ?_
              refine hret _ _ ?_
              refine ends_still (v := Value.bool (decide ((Go.bits .and .i64 light1 17592186044415) ≤ (w64 (vt164.Hi * 16777216))))) (by kernel_rfl) (by kernel_rfl) ?_
              have HS199 := HS175.drop
              have HS200 := HS199.drop
              have HS201 := HS200.drop
              have HS202 := HS201.drop
              have HS203 := HS202.drop
              have HS204 := HS203.drop
              have HS205 := HS204.drop
              injection h with h
              subst h
              exact ⟨f166, rfl, (L13.trans (L21.trans (L107.trans (L116.trans (L141.trans (L149.trans (L155.trans (L161.trans L167)))))))), HS205⟩
            · have c180 : ¬ ((w64 (vt164.Lo * 16777216)) ≤ (Go.bits .and .i64 light1 17592186044415)) := c180
              refine seqRwI 85 (x := (decide ((w64 (vt164.Lo * 16777216)) ≤ (Go.bits .and .i64 light1 17592186044415)))) (v := false) (by kernel_rfl) (decide_eq_false c180) ?_
              refine seqRwI 86 (x := (decide ((w64 (vt164.Lo * 16777216)) ≤ (Go.bits .and .i64 light1 17592186044415)))) (v := false) (by kernel_rfl) (decide_eq_false c180) ?_
              refine seqRwI 87 (x := (decide ((w64 (vt164.Lo * 16777216)) ≤ (Go.bits .and .i64 light1 17592186044415)))) (v := false) (by kernel_rfl) (decide_eq_false c180) ?_
              refine seqS7 (a' := ⟨#[.int .i64 (Go.bits .and .i64 light1 17592186044415), .int .i64 (Go.bits .and .i64 dark2 1073741823), .int .i64 (w64 (vt18 + 1)), .int .i64 (w64 (vt10 + 1)), .int .u64 seed5, undef, undef, undef, undef, undef, .bool false, .pointer (some ⟨b48, 0, none⟩), .slice (some ⟨b135, of136, none⟩) vt85.length c93, .int .i64 vt86, .int .i64 vt137, .int .i64 vt138, .pointer (some ⟨b170, 0, none⟩), .int .i64 beats4, .int .i64 vt10, .int .i64 (w64 (vt10 + 1)), .int .i64 flat3, .int .i64 vt18, .int .i64 (w64 (vt18 + 1)), .int .i64 light1, .int .i64 (Go.bits .and .i64 light1 17592186044415), .int .i64 dark2, .int .i64 (Go.bits .and .i64 dark2 1073741823), .slice (some ⟨b30, 0, none⟩) ([0] : List Int).length 1, .int .i64 (Go.bits .and .i64 dark2 1073741823), .slice (some ⟨b36, 0, none⟩) ([Go.bits .and .i64 dark2 1073741823] : List Int).length 1, .int .i64 (w64 (vt18 + 1)), .slice (some ⟨b42, 0, none⟩) ([w64 (vt18 + 1)] : List Int).length 1, .agg #[.int .i64 1, .int .i64 1, .slice (some ⟨b30, 0, none⟩) ([0] : List Int).length 1, .slice (some ⟨b36, 0, none⟩) ([Go.bits .and .i64 dark2 1073741823] : List Int).length 1, .slice (some ⟨b42, 0, none⟩) ([w64 (vt18 + 1)] : List Int).length 1, .int .i64 1, .int .i64 1, .int .i64 0], .tuple #[.slice (some ⟨b135, of136, none⟩) vt85.length c93, .int .i64 vt86], .agg #[.int .i64 1, .int .i64 1, .slice (some ⟨b30, 0, none⟩) ([0] : List Int).length 1, .slice (some ⟨b36, 0, none⟩) ([Go.bits .and .i64 dark2 1073741823] : List Int).length 1, .slice (some ⟨b42, 0, none⟩) ([w64 (vt18 + 1)] : List Int).length 1, .int .i64 1, .int .i64 1, .int .i64 0], .int .i64 (Go.bits .and .i64 light1 17592186044415), .slice (some ⟨b56, 0, none⟩) ([Go.bits .and .i64 light1 17592186044415] : List Int).length 1, .int .i64 (w64 (vt10 + 1)), .tuple #[.slice (some ⟨b135, of136, none⟩) vt85.length c93, .int .i64 vt86], .slice (some ⟨b135, of136, none⟩) vt85.length c93, .int .i64 vt86, .bool vt113, .bool false, .bool false, .int .i64 vt86, .bool false, .bool false, .bool false, .slice (some ⟨b135, of136, none⟩) vt85.length c93, .int .i64 (vt85.length : Int), .bool false, .bool false, .tuple #[.int .i64 vt137, .int .i64 vt138], .int .u64 seed5, .slice (some ⟨b135, of136, none⟩) vt85.length c93, .pointer (some ⟨b135, of136 + (0 : Int).toNat * 1, none⟩), .int .i64 (rd vt85 0), .tuple #[.int .i64 vt137, .int .i64 vt138], .int .i64 vt137, .int .i64 vt138, .int .i64 vt137, .agg #[.int .i64 vt146.Lo, .int .i64 vt146.Hi, .bool vt146.Unknown], .int .i64 (Go.bits .and .i64 dark2 1073741823), .agg #[.int .i64 vt152.Lo, .int .i64 vt152.Hi, .bool vt152.Unknown], .int .i64 (w64 (vt18 + 1)), .int .i64 (w64 ((w64 (vt18 + 1)) - 2)), .int .i64 (mx 1 (w64 ((w64 (vt18 + 1)) - 2))), .int .i64 (w64 (vt18 + 1)), .int .i64 (w64 ((w64 (vt18 + 1)) + 1)), .int .i64 (mn 4096 (w64 ((w64 (vt18 + 1)) + 1))), .agg #[.int .i64 vt158.Lo, .int .i64 vt158.Hi, .bool vt158.Unknown], .int .i64 (w64 (vt10 + 1)), .agg #[.int .i64 vt164.Lo, .int .i64 vt164.Hi, .bool vt164.Unknown], .int .i64 vt138, .bool true, .bool true, .pointer (some ⟨b170, 2, none⟩), .bool vt164.Unknown, .bool true, .bool true, .bool true, .pointer (some ⟨b170, 0, none⟩), .int .i64 vt164.Lo, .int .i64 (w64 (vt164.Lo * 16777216)), .int .i64 (Go.bits .and .i64 light1 17592186044415), .bool false, .bool false, .bool false, undef, undef, undef, undef, undef, .bool false], []⟩) (by kernel_rfl) ?_
              refine wpList_nil ?_
              refine hK177 _ _ ?_
              refine wp_ret ?_
              refine hret _ _ ?_
              refine ends_still (v := Value.bool false) (by kernel_rfl) (by kernel_rfl) ?_
              have HS206 := HS175.drop
              have HS207 := HS206.drop
              have HS208 := HS207.drop
              have HS209 := HS208.drop
              have HS210 := HS209.drop
              have HS211 := HS210.drop
              have HS212 := HS211.drop
              injection h with h
              subst h
              exact ⟨f166, rfl, (L13.trans (L21.trans (L107.trans (L116.trans (L141.trans (L149.trans (L155.trans (L161.trans L167)))))))), HS212⟩
          · have c179 : ¬ (¬ (vt164.Unknown = true)) := c179
            refine seqRwI 78 (x := (!vt164.Unknown)) (v := false) (by kernel_rfl) (congrArg (fun b_ => !b_) (show vt164.Unknown = true from (Decidable.of_not_not c179)) : (!vt164.Unknown) = false) ?_
            refine seqRwI 79 (x := (!vt164.Unknown)) (v := false) (by kernel_rfl) (congrArg (fun b_ => !b_) (show vt164.Unknown = true from (Decidable.of_not_not c179)) : (!vt164.Unknown) = false) ?_
            refine seqRwI 80 (x := (!vt164.Unknown)) (v := false) (by kernel_rfl) (congrArg (fun b_ => !b_) (show vt164.Unknown = true from (Decidable.of_not_not c179)) : (!vt164.Unknown) = false) ?_
            refine seqS14 (a' := ⟨#[.int .i64 (Go.bits .and .i64 light1 17592186044415), .int .i64 (Go.bits .and .i64 dark2 1073741823), .int .i64 (w64 (vt18 + 1)), .int .i64 (w64 (vt10 + 1)), .int .u64 seed5, undef, undef, undef, undef, undef, .bool false, .pointer (some ⟨b48, 0, none⟩), .slice (some ⟨b135, of136, none⟩) vt85.length c93, .int .i64 vt86, .int .i64 vt137, .int .i64 vt138, .pointer (some ⟨b170, 0, none⟩), .int .i64 beats4, .int .i64 vt10, .int .i64 (w64 (vt10 + 1)), .int .i64 flat3, .int .i64 vt18, .int .i64 (w64 (vt18 + 1)), .int .i64 light1, .int .i64 (Go.bits .and .i64 light1 17592186044415), .int .i64 dark2, .int .i64 (Go.bits .and .i64 dark2 1073741823), .slice (some ⟨b30, 0, none⟩) ([0] : List Int).length 1, .int .i64 (Go.bits .and .i64 dark2 1073741823), .slice (some ⟨b36, 0, none⟩) ([Go.bits .and .i64 dark2 1073741823] : List Int).length 1, .int .i64 (w64 (vt18 + 1)), .slice (some ⟨b42, 0, none⟩) ([w64 (vt18 + 1)] : List Int).length 1, .agg #[.int .i64 1, .int .i64 1, .slice (some ⟨b30, 0, none⟩) ([0] : List Int).length 1, .slice (some ⟨b36, 0, none⟩) ([Go.bits .and .i64 dark2 1073741823] : List Int).length 1, .slice (some ⟨b42, 0, none⟩) ([w64 (vt18 + 1)] : List Int).length 1, .int .i64 1, .int .i64 1, .int .i64 0], .tuple #[.slice (some ⟨b135, of136, none⟩) vt85.length c93, .int .i64 vt86], .agg #[.int .i64 1, .int .i64 1, .slice (some ⟨b30, 0, none⟩) ([0] : List Int).length 1, .slice (some ⟨b36, 0, none⟩) ([Go.bits .and .i64 dark2 1073741823] : List Int).length 1, .slice (some ⟨b42, 0, none⟩) ([w64 (vt18 + 1)] : List Int).length 1, .int .i64 1, .int .i64 1, .int .i64 0], .int .i64 (Go.bits .and .i64 light1 17592186044415), .slice (some ⟨b56, 0, none⟩) ([Go.bits .and .i64 light1 17592186044415] : List Int).length 1, .int .i64 (w64 (vt10 + 1)), .tuple #[.slice (some ⟨b135, of136, none⟩) vt85.length c93, .int .i64 vt86], .slice (some ⟨b135, of136, none⟩) vt85.length c93, .int .i64 vt86, .bool vt113, .bool false, .bool false, .int .i64 vt86, .bool false, .bool false, .bool false, .slice (some ⟨b135, of136, none⟩) vt85.length c93, .int .i64 (vt85.length : Int), .bool false, .bool false, .tuple #[.int .i64 vt137, .int .i64 vt138], .int .u64 seed5, .slice (some ⟨b135, of136, none⟩) vt85.length c93, .pointer (some ⟨b135, of136 + (0 : Int).toNat * 1, none⟩), .int .i64 (rd vt85 0), .tuple #[.int .i64 vt137, .int .i64 vt138], .int .i64 vt137, .int .i64 vt138, .int .i64 vt137, .agg #[.int .i64 vt146.Lo, .int .i64 vt146.Hi, .bool vt146.Unknown], .int .i64 (Go.bits .and .i64 dark2 1073741823), .agg #[.int .i64 vt152.Lo, .int .i64 vt152.Hi, .bool vt152.Unknown], .int .i64 (w64 (vt18 + 1)), .int .i64 (w64 ((w64 (vt18 + 1)) - 2)), .int .i64 (mx 1 (w64 ((w64 (vt18 + 1)) - 2))), .int .i64 (w64 (vt18 + 1)), .int .i64 (w64 ((w64 (vt18 + 1)) + 1)), .int .i64 (mn 4096 (w64 ((w64 (vt18 + 1)) + 1))), .agg #[.int .i64 vt158.Lo, .int .i64 vt158.Hi, .bool vt158.Unknown], .int .i64 (w64 (vt10 + 1)), .agg #[.int .i64 vt164.Lo, .int .i64 vt164.Hi, .bool vt164.Unknown], .int .i64 vt138, .bool true, .bool true, .pointer (some ⟨b170, 2, none⟩), .bool vt164.Unknown, .bool false, .bool false, .bool false, undef, undef, undef, undef, undef, .bool false, .bool false, undef, undef, undef, undef, undef, .bool false], []⟩) (by kernel_rfl) ?_
            refine wpList_nil ?_
            refine hK177 _ _ ?_
            refine wp_ret ?_
            refine hret _ _ ?_
            refine ends_still (v := Value.bool false) (by kernel_rfl) (by kernel_rfl) ?_
            have HS213 := HS175.drop
            have HS214 := HS213.drop
            have HS215 := HS214.drop
            have HS216 := HS215.drop
            have HS217 := HS216.drop
            have HS218 := HS217.drop
            have HS219 := HS218.drop
            injection h with h
            subst h
            exact ⟨f166, rfl, (L13.trans (L21.trans (L107.trans (L116.trans (L141.trans (L149.trans (L155.trans (L161.trans L167)))))))), HS219⟩
        · have c178 : ¬ (vt138 = 0) := c178
          refine seqRwI 74 (x := (vt138 == 0)) (v := false) (by kernel_rfl) (beq_eq_false_iff_ne.mpr c178) ?_
          refine seqRwI 75 (x := (vt138 == 0)) (v := false) (by kernel_rfl) (beq_eq_false_iff_ne.mpr c178) ?_
          refine seqS19 (a' := ⟨#[.int .i64 (Go.bits .and .i64 light1 17592186044415), .int .i64 (Go.bits .and .i64 dark2 1073741823), .int .i64 (w64 (vt18 + 1)), .int .i64 (w64 (vt10 + 1)), .int .u64 seed5, undef, undef, undef, undef, undef, .bool false, .pointer (some ⟨b48, 0, none⟩), .slice (some ⟨b135, of136, none⟩) vt85.length c93, .int .i64 vt86, .int .i64 vt137, .int .i64 vt138, .pointer (some ⟨b170, 0, none⟩), .int .i64 beats4, .int .i64 vt10, .int .i64 (w64 (vt10 + 1)), .int .i64 flat3, .int .i64 vt18, .int .i64 (w64 (vt18 + 1)), .int .i64 light1, .int .i64 (Go.bits .and .i64 light1 17592186044415), .int .i64 dark2, .int .i64 (Go.bits .and .i64 dark2 1073741823), .slice (some ⟨b30, 0, none⟩) ([0] : List Int).length 1, .int .i64 (Go.bits .and .i64 dark2 1073741823), .slice (some ⟨b36, 0, none⟩) ([Go.bits .and .i64 dark2 1073741823] : List Int).length 1, .int .i64 (w64 (vt18 + 1)), .slice (some ⟨b42, 0, none⟩) ([w64 (vt18 + 1)] : List Int).length 1, .agg #[.int .i64 1, .int .i64 1, .slice (some ⟨b30, 0, none⟩) ([0] : List Int).length 1, .slice (some ⟨b36, 0, none⟩) ([Go.bits .and .i64 dark2 1073741823] : List Int).length 1, .slice (some ⟨b42, 0, none⟩) ([w64 (vt18 + 1)] : List Int).length 1, .int .i64 1, .int .i64 1, .int .i64 0], .tuple #[.slice (some ⟨b135, of136, none⟩) vt85.length c93, .int .i64 vt86], .agg #[.int .i64 1, .int .i64 1, .slice (some ⟨b30, 0, none⟩) ([0] : List Int).length 1, .slice (some ⟨b36, 0, none⟩) ([Go.bits .and .i64 dark2 1073741823] : List Int).length 1, .slice (some ⟨b42, 0, none⟩) ([w64 (vt18 + 1)] : List Int).length 1, .int .i64 1, .int .i64 1, .int .i64 0], .int .i64 (Go.bits .and .i64 light1 17592186044415), .slice (some ⟨b56, 0, none⟩) ([Go.bits .and .i64 light1 17592186044415] : List Int).length 1, .int .i64 (w64 (vt10 + 1)), .tuple #[.slice (some ⟨b135, of136, none⟩) vt85.length c93, .int .i64 vt86], .slice (some ⟨b135, of136, none⟩) vt85.length c93, .int .i64 vt86, .bool vt113, .bool false, .bool false, .int .i64 vt86, .bool false, .bool false, .bool false, .slice (some ⟨b135, of136, none⟩) vt85.length c93, .int .i64 (vt85.length : Int), .bool false, .bool false, .tuple #[.int .i64 vt137, .int .i64 vt138], .int .u64 seed5, .slice (some ⟨b135, of136, none⟩) vt85.length c93, .pointer (some ⟨b135, of136 + (0 : Int).toNat * 1, none⟩), .int .i64 (rd vt85 0), .tuple #[.int .i64 vt137, .int .i64 vt138], .int .i64 vt137, .int .i64 vt138, .int .i64 vt137, .agg #[.int .i64 vt146.Lo, .int .i64 vt146.Hi, .bool vt146.Unknown], .int .i64 (Go.bits .and .i64 dark2 1073741823), .agg #[.int .i64 vt152.Lo, .int .i64 vt152.Hi, .bool vt152.Unknown], .int .i64 (w64 (vt18 + 1)), .int .i64 (w64 ((w64 (vt18 + 1)) - 2)), .int .i64 (mx 1 (w64 ((w64 (vt18 + 1)) - 2))), .int .i64 (w64 (vt18 + 1)), .int .i64 (w64 ((w64 (vt18 + 1)) + 1)), .int .i64 (mn 4096 (w64 ((w64 (vt18 + 1)) + 1))), .agg #[.int .i64 vt158.Lo, .int .i64 vt158.Hi, .bool vt158.Unknown], .int .i64 (w64 (vt10 + 1)), .agg #[.int .i64 vt164.Lo, .int .i64 vt164.Hi, .bool vt164.Unknown], .int .i64 vt138, .bool false, .bool false, undef, undef, undef, .bool false, .bool false, undef, undef, undef, undef, undef, .bool false, .bool false, undef, undef, undef, undef, undef, .bool false], []⟩) (by kernel_rfl) ?_
          refine wpList_nil ?_
          refine hK177 _ _ ?_
          refine wp_ret ?_
          refine hret _ _ ?_
          refine ends_still (v := Value.bool false) (by kernel_rfl) (by kernel_rfl) ?_
          have HS220 := HS175.drop
          have HS221 := HS220.drop
          have HS222 := HS221.drop
          have HS223 := HS222.drop
          have HS224 := HS223.drop
          have HS225 := HS224.drop
          have HS226 := HS225.drop
          injection h with h
          subst h
          exact ⟨f166, rfl, (L13.trans (L21.trans (L107.trans (L116.trans (L141.trans (L149.trans (L155.trans (L161.trans L167)))))))), HS226⟩

end Go.Sp.Z6
