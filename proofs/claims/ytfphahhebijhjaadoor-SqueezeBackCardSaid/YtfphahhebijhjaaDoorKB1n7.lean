import Derived.Test.YtfphahhebijhjaaDoorProg
import Derived.Test.YtfphahhebijhjaaDoorSpCopy
import Derived.Test.YtfphahhebijhjaaDoorFB1
import Derived.Test.YtfphahhebijhjaaDoorSpStr
import Derived.Test.YtfphahhebijhjaaDoorConv
import Derived.Test.YtfphahhebijhjaaDoorSpRound
import Derived.Test.YtfphahhebijhjaaDoorKB1n0
import Derived.Test.YtfphahhebijhjaaDoorKB1n1
import Derived.Test.YtfphahhebijhjaaDoorKB1n2
import Derived.Test.YtfphahhebijhjaaDoorKB1n3
import Derived.Test.YtfphahhebijhjaaDoorKB1n4
import Derived.Test.YtfphahhebijhjaaDoorKB1n5
import Derived.Test.YtfphahhebijhjaaDoorKB1n6
namespace Go.Sp.B1
open Go Go.Sp Go.Proofs
set_option linter.unusedVariables false
attribute [local irreducible] wpList AnyL Code.wp Calls Does Code.wpIn wpListIn CallsIn bodyPostM LeavesInM
set_option maxRecDepth 100000 in
set_option maxHeartbeats 4000000 in
theorem spykeep3_SqueezeBack.calls (k : Nat) (A2 : Option Addr) (c3 : Nat) (l1 : List Int) {t w : World} {f : FM} {H : List Seg} (HS : St t w f (H)) (HR4 : SlR (tInt .i64) f A2 c3 l1) (HT : TabF Tryd.prog "internal/strconv.uint64pow10" .u64 Go.Lib.pow10Tab f) (rr1 : Bool) (h : spykeep3_SqueezeBack k l1 = some rr1) :
    Calls Tryd.prog 5 #[.slice A2 l1.length c3] w (fun e w' => ∃ (g : FM), e = .returned (Value.bool rr1) ∧ FM.le f g ∧ St t w' g (H)) := by
 unfold spykeep3_SqueezeBack at h
 refine enter Tryd.func5 rfl (tm := #[.slice A2 l1.length c3, uV, uV, uV, uV, uV, uV, uV, uV, uV, uV, uV, uV, uV, uV, uV, uV, uV, uV, uV, uV, uV, uV, uV, uV, uV, uV, uV, uV, uV, uV, uV, uV, uV, uV, uV, uV, uV, uV, uV, uV, uV, uV, uV, uV, uV, uV, uV, uV, uV, uV, uV, uV, uV, uV, uV, uV, uV, uV, uV, uV, uV, uV, uV, uV, uV, uV, uV, uV, uV, uV, uV, uV, uV, uV, uV, uV, uV, uV, uV, uV, uV, uV, uV, uV, uV, uV, uV, uV, uV, uV, uV, uV, uV, uV, uV, uV, uV, uV]) (by kernel_rfl) ?_
 intro B hret hnor hnp
 refine wp_seq_k (fun K5 hK6 => ?_)
 refine wp_region_lit ?_
 refine seqS1 (a' := ⟨#[.slice A2 l1.length c3, uV, fV, uV, uV, uV, uV, uV, uV, uV, uV, uV, uV, uV, uV, uV, uV, uV, uV, uV, uV, uV, uV, uV, uV, uV, uV, uV, uV, uV, uV, uV, uV, uV, uV, uV, uV, uV, uV, uV, uV, uV, uV, uV, uV, uV, uV, uV, uV, uV, uV, uV, uV, uV, uV, uV, uV, uV, uV, uV, uV, uV, uV, uV, uV, uV, uV, uV, uV, uV, uV, uV, uV, uV, uV, uV, uV, uV, uV, uV, uV, uV, uV, uV, uV, uV, uV, uV, uV, uV, uV, uV, uV, uV, uV, uV, uV, uV, uV], []⟩) (by kernel_rfl) ?_
 refine wpList_nil ?_
 refine hK6 _ _ ?_
 refine wp_seq_k (fun K7 hK8 => ?_)
 refine wp_region_lit ?_
 refine seqL2 (by kernel_rfl) ?_
 refine seqK rfl (does_box (cs := #[.slice A2 l1.length c3, .int .i64 0]) rfl (by kernel_rfl : _ = Value.agg #[.slice A2 l1.length c3, .int .i64 0]) rfl HS ?_)
 intro b9 W10 HS11
 have hq_ := bind_some h; clear h; obtain ⟨⟨vt13, vt14⟩, hc15, h⟩ := hq_
 refine seqK rfl (does_call (f := 10) (args := #[.pointer (some ⟨b9, 0, none⟩)]) (by kernel_rfl) (spykeep3_noted.calls k b9 A2 c3 (⟨l1, 0⟩ : S_Stream) HS11 HR4 HT vt13 vt14 hc15) ?_)
 rintro _ W18 ⟨f16, A20, c21, s22, A25, c26, rfl, L17, HS19, HO23, HR27⟩
 refine ⟨_, rfl, ?_⟩
 refine seqK rfl (does_alloc (z := Value.agg #[.int .i64 0, .int .i64 0, .slice none 0 0, .slice none 0 0]) (cs := #[.int .i64 0, .int .i64 0, .slice none 0 0, .slice none 0 0]) rfl (by kernel_rfl) rfl HS19 ?_)
 intro b28 W29 HS30
 refine seqK rfl (does_store (n := 4) (vs := [.int .i64 vt13.W, .int .i64 vt13.H, .slice A20 vt13.Cards.length c21, .slice A25 vt13.Counts.length c26]) (cs' := #[.int .i64 vt13.W, .int .i64 vt13.H, .slice A20 vt13.Cards.length c21, .slice A25 vt13.Counts.length c26]) rfl (by kernel_rfl) (by kernel_rfl : _ = Value.pointer (some ⟨b28, 0, none⟩)) (by kernel_rfl : _ = Value.agg #[.int .i64 vt13.W, .int .i64 vt13.H, .slice A20 vt13.Cards.length c21, .slice A25 vt13.Counts.length c26]) rfl rfl (by intro u_ hu_; simp only [List.mem_cons, List.not_mem_nil, or_false] at hu_; rcases hu_ with rfl | rfl | rfl | rfl <;> rfl) HS30 (Nat.le_of_ble_eq_true rfl) (by kernel_rfl) ?_)
 intro W32 HS33
 refine wpList_nil ?_
 refine hK8 _ _ ?_
 refine wp_seq_k (fun K34 hK35 => ?_)
 refine wp_region_lit ?_
 refine seqL1 (by kernel_rfl) ?_
 refine seqK rfl (does_run (run_load rfl Tryd.underlying3 rfl (by kernel_rfl : _ = Value.pointer (some ⟨b28, 0, none⟩)) (HS33.cell 0)) ?_)
 refine seqL1 (by kernel_rfl) ?_
 refine seqK rfl (does_run (run_load rfl Tryd.underlying3 rfl (by kernel_rfl : _ = Value.pointer (some ⟨b28, 1, none⟩)) (HS33.cell 1)) ?_)
 refine seqL1 (by kernel_rfl) ?_
 refine seqK rfl (does_run (run_load rfl Tryd.underlying27 rfl (by kernel_rfl : _ = Value.pointer (some ⟨b28, 3, none⟩)) (HS33.cell 3)) ?_)
 have hq_ := bind_some h; clear h; obtain ⟨⟨vt36, vt37⟩, hc38, h⟩ := hq_
 refine seqK rfl (does_call (f := 7) (args := #[.int .i64 vt13.W, .int .i64 vt13.H, .slice A25 vt13.Counts.length c26]) (by kernel_rfl) (squeeze_Pack.calls k A25 c26 vt13.W vt13.H vt13.Counts HS33 HR27 vt36 vt37 hc38) ?_)
 rintro _ W41 ⟨f39, A43, c44, s45, rfl, L40, HS42, HO46⟩
 refine ⟨_, rfl, ?_⟩
 refine seqS5 (a' := ⟨#[.slice A2 l1.length c3, uV, fV, pV b28 0, .slice A43 vt36.length c44, iV vt37, uV, uV, uV, uV, uV, uV, uV, .slice A2 l1.length c3, .agg #[.slice A2 l1.length c3, iV 0], pV b9 0, (ag_Frame vt13 A20 c21 A25 c26), .tuple #[.slice A43 vt36.length c44, iV vt37], pV b28 0, iV vt13.W, pV b28 1, iV vt13.H, pV b28 3, .slice A25 vt13.Counts.length c26, .tuple #[.slice A43 vt36.length c44, iV vt37], .slice A43 vt36.length c44, iV vt37, uV, uV, uV, uV, uV, uV, uV, uV, uV, uV, uV, uV, uV, uV, uV, uV, uV, uV, uV, uV, uV, uV, uV, uV, uV, uV, uV, uV, uV, uV, uV, uV, uV, uV, uV, uV, uV, uV, uV, uV, uV, uV, uV, uV, uV, uV, uV, uV, uV, uV, uV, uV, uV, uV, uV, uV, uV, uV, uV, uV, uV, uV, uV, uV, uV, uV, uV, uV, uV, uV, uV, uV], []⟩) (by kernel_rfl) ?_
 refine wpList_nil ?_
 refine hK35 _ _ ?_
 refine wp_seq_k (fun K48 hK49 => ?_)
 refine wp_region_lit ?_
 obtain ⟨f50, L51, HS52, HR53, th54⟩ := HO46.lend HS42
 have hq_ := bind_some h; clear h; obtain ⟨⟨vt55, vt56, vt57, vt58⟩, hc59, h⟩ := hq_
 refine seqL1 (by kernel_rfl) ?_
 refine seqK rfl (does_call (f := 14) (args := #[.slice A43 vt36.length c44]) (by kernel_rfl) (squeeze_Unpack.calls k A43 c44 vt36 HS52 HR53 vt55 vt56 vt57 vt58 hc59) ?_)
 rintro _ W62 ⟨f60, A64, c65, s66, rfl, L61, HS63, HO67⟩
 refine ⟨_, rfl, ?_⟩
 obtain ⟨f69, L70, HS71⟩ := th54 L61 HS63
 replace HO67 := HO67.flat (g := f69) (fun _ _ _ _ h_ => h_)
 refine seqS9 (a' := ⟨#[.slice A2 l1.length c3, uV, fV, pV b28 0, .slice A43 vt36.length c44, iV vt37, iV vt55, iV vt56, .slice A64 vt57.length c65, iV vt58, uV, uV, uV, .slice A2 l1.length c3, .agg #[.slice A2 l1.length c3, iV 0], pV b9 0, (ag_Frame vt13 A20 c21 A25 c26), .tuple #[.slice A43 vt36.length c44, iV vt37], pV b28 0, iV vt13.W, pV b28 1, iV vt13.H, pV b28 3, .slice A25 vt13.Counts.length c26, .tuple #[.slice A43 vt36.length c44, iV vt37], .slice A43 vt36.length c44, iV vt37, .tuple #[iV vt55, iV vt56, .slice A64 vt57.length c65, iV vt58], .slice A43 vt36.length c44, .tuple #[iV vt55, iV vt56, .slice A64 vt57.length c65, iV vt58], iV vt55, iV vt56, .slice A64 vt57.length c65, iV vt58, uV, uV, uV, uV, uV, uV, uV, uV, uV, uV, uV, uV, uV, uV, uV, uV, uV, uV, uV, uV, uV, uV, uV, uV, uV, uV, uV, uV, uV, uV, uV, uV, uV, uV, uV, uV, uV, uV, uV, uV, uV, uV, uV, uV, uV, uV, uV, uV, uV, uV, uV, uV, uV, uV, uV, uV, uV, uV, uV, uV, uV, uV, uV, uV, uV], []⟩) (by kernel_rfl) ?_
 refine wpList_nil ?_
 refine hK49 _ _ ?_
 refine wp_seq_k (fun K72 hK73 => ?_)
 refine wp_seq_k (fun K74 hK75 => ?_)
 refine wp_region_lit ?_
 have hq_ := bind_some h; clear h; obtain ⟨vt76, hc77, h⟩ := hq_
 refine seqK rfl (does_call (f := 9) (args := #[]) (by kernel_rfl) (spykeep3_squeezed.calls k  HS71 vt76 hc77) ?_)
 rintro _ W80 ⟨f78, rfl, L79, HS81⟩
 refine ⟨_, rfl, ?_⟩
 refine seqS2 (a' := ⟨#[.slice A2 l1.length c3, uV, fV, pV b28 0, .slice A43 vt36.length c44, iV vt37, iV vt55, iV vt56, .slice A64 vt57.length c65, iV vt58, uV, uV, uV, .slice A2 l1.length c3, .agg #[.slice A2 l1.length c3, iV 0], pV b9 0, (ag_Frame vt13 A20 c21 A25 c26), .tuple #[.slice A43 vt36.length c44, iV vt37], pV b28 0, iV vt13.W, pV b28 1, iV vt13.H, pV b28 3, .slice A25 vt13.Counts.length c26, .tuple #[.slice A43 vt36.length c44, iV vt37], .slice A43 vt36.length c44, iV vt37, .tuple #[iV vt55, iV vt56, .slice A64 vt57.length c65, iV vt58], .slice A43 vt36.length c44, .tuple #[iV vt55, iV vt56, .slice A64 vt57.length c65, iV vt58], iV vt55, iV vt56, .slice A64 vt57.length c65, iV vt58, .bool vt76, .bool (!vt76), .bool (!vt76), uV, uV, uV, uV, uV, uV, uV, uV, uV, uV, uV, uV, uV, uV, uV, uV, uV, uV, uV, uV, uV, uV, uV, uV, uV, uV, uV, uV, uV, uV, uV, uV, uV, uV, uV, uV, uV, uV, uV, uV, uV, uV, uV, uV, uV, uV, uV, uV, uV, uV, uV, uV, uV, uV, uV, uV, uV, uV, uV, uV, uV, uV], []⟩) (by kernel_rfl) ?_
 have hq_ := ite_some h; clear h; rcases hq_ with ⟨c82, h⟩ | ⟨c82, h⟩
 · have c82 : ¬ (vt76 = true) := c82
   refine seqRwI 35 (x := (!vt76)) (v := true) (by kernel_rfl) (congrArg (fun b_ => !b_) (show vt76 = false from (Bool.eq_false_iff.mpr c82)) : (!vt76) = true) ?_
   refine seqRwI 36 (x := (!vt76)) (v := true) (by kernel_rfl) (congrArg (fun b_ => !b_) (show vt76 = false from (Bool.eq_false_iff.mpr c82)) : (!vt76) = true) ?_
   refine seqS30 (a' := ⟨#[.slice A2 l1.length c3, uV, fV, pV b28 0, .slice A43 vt36.length c44, iV vt37, iV vt55, iV vt56, .slice A64 vt57.length c65, iV vt58, uV, uV, uV, .slice A2 l1.length c3, .agg #[.slice A2 l1.length c3, iV 0], pV b9 0, (ag_Frame vt13 A20 c21 A25 c26), .tuple #[.slice A43 vt36.length c44, iV vt37], pV b28 0, iV vt13.W, pV b28 1, iV vt13.H, pV b28 3, .slice A25 vt13.Counts.length c26, .tuple #[.slice A43 vt36.length c44, iV vt37], .slice A43 vt36.length c44, iV vt37, .tuple #[iV vt55, iV vt56, .slice A64 vt57.length c65, iV vt58], .slice A43 vt36.length c44, .tuple #[iV vt55, iV vt56, .slice A64 vt57.length c65, iV vt58], iV vt55, iV vt56, .slice A64 vt57.length c65, iV vt58, .bool vt76, tV, tV, uV, uV, tV, tV, uV, uV, tV, tV, uV, uV, uV, uV, tV, tV, uV, uV, uV, uV, tV, tV, uV, uV, uV, uV, uV, tV, tV, uV, uV, uV, uV, uV, uV, uV, uV, uV, uV, uV, uV, uV, uV, uV, uV, uV, uV, uV, uV, uV, uV, uV, uV, uV, uV, uV, uV, uV, uV, uV, uV, uV, uV, uV], []⟩) (by kernel_rfl) ?_
   refine seqS4 (a' := ⟨#[.slice A2 l1.length c3, uV, fV, pV b28 0, .slice A43 vt36.length c44, iV vt37, iV vt55, iV vt56, .slice A64 vt57.length c65, iV vt58, uV, uV, uV, .slice A2 l1.length c3, .agg #[.slice A2 l1.length c3, iV 0], pV b9 0, (ag_Frame vt13 A20 c21 A25 c26), .tuple #[.slice A43 vt36.length c44, iV vt37], pV b28 0, iV vt13.W, pV b28 1, iV vt13.H, pV b28 3, .slice A25 vt13.Counts.length c26, .tuple #[.slice A43 vt36.length c44, iV vt37], .slice A43 vt36.length c44, iV vt37, .tuple #[iV vt55, iV vt56, .slice A64 vt57.length c65, iV vt58], .slice A43 vt36.length c44, .tuple #[iV vt55, iV vt56, .slice A64 vt57.length c65, iV vt58], iV vt55, iV vt56, .slice A64 vt57.length c65, iV vt58, .bool vt76, tV, tV, uV, uV, tV, tV, uV, uV, tV, tV, uV, uV, uV, uV, tV, tV, uV, uV, uV, uV, tV, tV, uV, uV, uV, uV, uV, tV, tV, uV, uV, uV, uV, uV, uV, tV, uV, uV, uV, uV, uV, uV, uV, uV, uV, uV, uV, uV, uV, uV, uV, uV, uV, uV, uV, uV, uV, uV, uV, uV, uV, uV, uV, uV], []⟩) (by kernel_rfl) ?_
   refine wpList_nil ?_
   refine hK75 _ _ ?_
   refine condT (by kernel_rfl) ?_
   refine wp_seq_k (fun K83 hK84 => ?_)
   refine wp_region_lit ?_
   refine seqS1 (a' := ⟨#[.slice A2 l1.length c3, uV, fV, pV b28 0, .slice A43 vt36.length c44, iV vt37, iV vt55, iV vt56, .slice A64 vt57.length c65, iV vt58, uV, uV, uV, .slice A2 l1.length c3, .agg #[.slice A2 l1.length c3, iV 0], pV b9 0, (ag_Frame vt13 A20 c21 A25 c26), .tuple #[.slice A43 vt36.length c44, iV vt37], pV b28 0, iV vt13.W, pV b28 1, iV vt13.H, pV b28 3, .slice A25 vt13.Counts.length c26, .tuple #[.slice A43 vt36.length c44, iV vt37], .slice A43 vt36.length c44, iV vt37, .tuple #[iV vt55, iV vt56, .slice A64 vt57.length c65, iV vt58], .slice A43 vt36.length c44, .tuple #[iV vt55, iV vt56, .slice A64 vt57.length c65, iV vt58], iV vt55, iV vt56, .slice A64 vt57.length c65, iV vt58, .bool vt76, tV, tV, uV, uV, tV, tV, uV, uV, tV, tV, uV, uV, uV, uV, tV, tV, uV, uV, uV, uV, tV, tV, uV, uV, uV, uV, uV, tV, tV, uV, uV, uV, uV, uV, uV, tV, uV, uV, uV, uV, uV, uV, uV, uV, uV, uV, uV, uV, uV, uV, uV, uV, uV, uV, uV, uV, uV, uV, uV, uV, uV, uV, uV, uV], []⟩) (by kernel_rfl) ?_
   refine wpList_nil ?_
   refine hK84 _ _ ?_
   refine wp_ret ?_
   refine hret _ _ ?_
   refine ends_still (v := Value.bool false) (by kernel_rfl) (by kernel_rfl) ?_
   have HS227 := HS81.drop
   have HS228 := HS227.drop
   have HS229 := HS228.drop
   have HS230 := HS229.drop
   have HS231 := HS230.drop
   injection h with h
   subst h
   exact ⟨f78, rfl, (L17.trans (L40.trans (L70.trans L79))), HS231⟩
 · have c82 : ¬ (¬ (vt76 = true)) := c82
   refine seqRwI 35 (x := (!vt76)) (v := false) (by kernel_rfl) (congrArg (fun b_ => !b_) (show vt76 = true from (Decidable.of_not_not c82)) : (!vt76) = false) ?_
   refine seqRwI 36 (x := (!vt76)) (v := false) (by kernel_rfl) (congrArg (fun b_ => !b_) (show vt76 = true from (Decidable.of_not_not c82)) : (!vt76) = false) ?_
   refine seqS4 (a' := ⟨#[.slice A2 l1.length c3, uV, fV, pV b28 0, .slice A43 vt36.length c44, iV vt37, iV vt55, iV vt56, .slice A64 vt57.length c65, iV vt58, uV, uV, uV, .slice A2 l1.length c3, .agg #[.slice A2 l1.length c3, iV 0], pV b9 0, (ag_Frame vt13 A20 c21 A25 c26), .tuple #[.slice A43 vt36.length c44, iV vt37], pV b28 0, iV vt13.W, pV b28 1, iV vt13.H, pV b28 3, .slice A25 vt13.Counts.length c26, .tuple #[.slice A43 vt36.length c44, iV vt37], .slice A43 vt36.length c44, iV vt37, .tuple #[iV vt55, iV vt56, .slice A64 vt57.length c65, iV vt58], .slice A43 vt36.length c44, .tuple #[iV vt55, iV vt56, .slice A64 vt57.length c65, iV vt58], iV vt55, iV vt56, .slice A64 vt57.length c65, iV vt58, .bool vt76, fV, fV, iV vt37, .bool (vt37 != 0), .bool (vt37 != 0), .bool (vt37 != 0), uV, uV, uV, uV, uV, uV, uV, uV, uV, uV, uV, uV, uV, uV, uV, uV, uV, uV, uV, uV, uV, uV, uV, uV, uV, uV, uV, uV, uV, uV, uV, uV, uV, uV, uV, uV, uV, uV, uV, uV, uV, uV, uV, uV, uV, uV, uV, uV, uV, uV, uV, uV, uV, uV, uV, uV, uV, uV], []⟩) (by kernel_rfl) ?_
   have hq_ := ite_some h; clear h; rcases hq_ with ⟨c85, h⟩ | ⟨c85, h⟩
   · have c85 : vt37 ≠ 0 := c85
     refine seqRwI 38 (x := (vt37 != 0)) (v := true) (by kernel_rfl) (bne_iff_ne.mpr c85) ?_
     refine seqRwI 39 (x := (vt37 != 0)) (v := true) (by kernel_rfl) (bne_iff_ne.mpr c85) ?_
     refine seqRwI 40 (x := (vt37 != 0)) (v := true) (by kernel_rfl) (bne_iff_ne.mpr c85) ?_
     refine seqS30 (a' := ⟨#[.slice A2 l1.length c3, uV, fV, pV b28 0, .slice A43 vt36.length c44, iV vt37, iV vt55, iV vt56, .slice A64 vt57.length c65, iV vt58, uV, uV, uV, .slice A2 l1.length c3, .agg #[.slice A2 l1.length c3, iV 0], pV b9 0, (ag_Frame vt13 A20 c21 A25 c26), .tuple #[.slice A43 vt36.length c44, iV vt37], pV b28 0, iV vt13.W, pV b28 1, iV vt13.H, pV b28 3, .slice A25 vt13.Counts.length c26, .tuple #[.slice A43 vt36.length c44, iV vt37], .slice A43 vt36.length c44, iV vt37, .tuple #[iV vt55, iV vt56, .slice A64 vt57.length c65, iV vt58], .slice A43 vt36.length c44, .tuple #[iV vt55, iV vt56, .slice A64 vt57.length c65, iV vt58], iV vt55, iV vt56, .slice A64 vt57.length c65, iV vt58, .bool vt76, fV, fV, iV vt37, tV, tV, tV, uV, uV, tV, tV, uV, uV, uV, uV, tV, tV, uV, uV, uV, uV, tV, tV, uV, uV, uV, uV, uV, tV, tV, uV, uV, uV, uV, uV, uV, tV, uV, uV, uV, uV, uV, uV, uV, uV, uV, uV, uV, uV, uV, uV, uV, uV, uV, uV, uV, uV, uV, uV, uV, uV, uV, uV, uV, uV], []⟩) (by kernel_rfl) ?_
     refine wpList_nil ?_
     refine hK75 _ _ ?_
     refine condT (by kernel_rfl) ?_
     refine wp_seq_k (fun K86 hK87 => ?_)
     refine wp_region_lit ?_
     refine seqS1 (a' := ⟨#[.slice A2 l1.length c3, uV, fV, pV b28 0, .slice A43 vt36.length c44, iV vt37, iV vt55, iV vt56, .slice A64 vt57.length c65, iV vt58, uV, uV, uV, .slice A2 l1.length c3, .agg #[.slice A2 l1.length c3, iV 0], pV b9 0, (ag_Frame vt13 A20 c21 A25 c26), .tuple #[.slice A43 vt36.length c44, iV vt37], pV b28 0, iV vt13.W, pV b28 1, iV vt13.H, pV b28 3, .slice A25 vt13.Counts.length c26, .tuple #[.slice A43 vt36.length c44, iV vt37], .slice A43 vt36.length c44, iV vt37, .tuple #[iV vt55, iV vt56, .slice A64 vt57.length c65, iV vt58], .slice A43 vt36.length c44, .tuple #[iV vt55, iV vt56, .slice A64 vt57.length c65, iV vt58], iV vt55, iV vt56, .slice A64 vt57.length c65, iV vt58, .bool vt76, fV, fV, iV vt37, tV, tV, tV, uV, uV, tV, tV, uV, uV, uV, uV, tV, tV, uV, uV, uV, uV, tV, tV, uV, uV, uV, uV, uV, tV, tV, uV, uV, uV, uV, uV, uV, tV, uV, uV, uV, uV, uV, uV, uV, uV, uV, uV, uV, uV, uV, uV, uV, uV, uV, uV, uV, uV, uV, uV, uV, uV, uV, uV, uV, uV], []⟩) (by kernel_rfl) ?_
     refine wpList_nil ?_
     refine hK87 _ _ ?_
     refine wp_ret ?_
     refine hret _ _ ?_
     refine ends_still (v := Value.bool false) (by kernel_rfl) (by kernel_rfl) ?_
     have HS232 := HS81.drop
     have HS233 := HS232.drop
     have HS234 := HS233.drop
     have HS235 := HS234.drop
     have HS236 := HS235.drop
     injection h with h
     subst h
     exact ⟨f78, rfl, (L17.trans (L40.trans (L70.trans L79))), HS236⟩
   · have c85 : ¬ (vt37 ≠ 0) := c85
     refine seqRwI 38 (x := (vt37 != 0)) (v := false) (by kernel_rfl) (bne_eq_false_iff_eq.mpr (Decidable.of_not_not c85)) ?_
     refine seqRwI 39 (x := (vt37 != 0)) (v := false) (by kernel_rfl) (bne_eq_false_iff_eq.mpr (Decidable.of_not_not c85)) ?_
     refine seqRwI 40 (x := (vt37 != 0)) (v := false) (by kernel_rfl) (bne_eq_false_iff_eq.mpr (Decidable.of_not_not c85)) ?_
     refine seqS4 (a' := ⟨#[.slice A2 l1.length c3, uV, fV, pV b28 0, .slice A43 vt36.length c44, iV vt37, iV vt55, iV vt56, .slice A64 vt57.length c65, iV vt58, uV, uV, uV, .slice A2 l1.length c3, .agg #[.slice A2 l1.length c3, iV 0], pV b9 0, (ag_Frame vt13 A20 c21 A25 c26), .tuple #[.slice A43 vt36.length c44, iV vt37], pV b28 0, iV vt13.W, pV b28 1, iV vt13.H, pV b28 3, .slice A25 vt13.Counts.length c26, .tuple #[.slice A43 vt36.length c44, iV vt37], .slice A43 vt36.length c44, iV vt37, .tuple #[iV vt55, iV vt56, .slice A64 vt57.length c65, iV vt58], .slice A43 vt36.length c44, .tuple #[iV vt55, iV vt56, .slice A64 vt57.length c65, iV vt58], iV vt55, iV vt56, .slice A64 vt57.length c65, iV vt58, .bool vt76, fV, fV, iV vt37, fV, fV, fV, iV vt58, .bool (vt58 != 0), .bool (vt58 != 0), .bool (vt58 != 0), uV, uV, uV, uV, uV, uV, uV, uV, uV, uV, uV, uV, uV, uV, uV, uV, uV, uV, uV, uV, uV, uV, uV, uV, uV, uV, uV, uV, uV, uV, uV, uV, uV, uV, uV, uV, uV, uV, uV, uV, uV, uV, uV, uV, uV, uV, uV, uV, uV, uV, uV, uV, uV, uV], []⟩) (by kernel_rfl) ?_
     have hq_ := ite_some h; clear h; rcases hq_ with ⟨c88, h⟩ | ⟨c88, h⟩
     · have c88 : vt58 ≠ 0 := c88
       refine seqRwI 42 (x := (vt58 != 0)) (v := true) (by kernel_rfl) (bne_iff_ne.mpr c88) ?_
       refine seqRwI 43 (x := (vt58 != 0)) (v := true) (by kernel_rfl) (bne_iff_ne.mpr c88) ?_
       refine seqRwI 44 (x := (vt58 != 0)) (v := true) (by kernel_rfl) (bne_iff_ne.mpr c88) ?_
       refine seqS26 (a' := ⟨#[.slice A2 l1.length c3, uV, fV, pV b28 0, .slice A43 vt36.length c44, iV vt37, iV vt55, iV vt56, .slice A64 vt57.length c65, iV vt58, uV, uV, uV, .slice A2 l1.length c3, .agg #[.slice A2 l1.length c3, iV 0], pV b9 0, (ag_Frame vt13 A20 c21 A25 c26), .tuple #[.slice A43 vt36.length c44, iV vt37], pV b28 0, iV vt13.W, pV b28 1, iV vt13.H, pV b28 3, .slice A25 vt13.Counts.length c26, .tuple #[.slice A43 vt36.length c44, iV vt37], .slice A43 vt36.length c44, iV vt37, .tuple #[iV vt55, iV vt56, .slice A64 vt57.length c65, iV vt58], .slice A43 vt36.length c44, .tuple #[iV vt55, iV vt56, .slice A64 vt57.length c65, iV vt58], iV vt55, iV vt56, .slice A64 vt57.length c65, iV vt58, .bool vt76, fV, fV, iV vt37, fV, fV, fV, iV vt58, tV, tV, tV, uV, uV, uV, uV, tV, tV, uV, uV, uV, uV, tV, tV, uV, uV, uV, uV, uV, tV, tV, uV, uV, uV, uV, uV, uV, tV, uV, uV, uV, uV, uV, uV, uV, uV, uV, uV, uV, uV, uV, uV, uV, uV, uV, uV, uV, uV, uV, uV, uV, uV, uV, uV, uV, uV], []⟩) (by kernel_rfl) ?_
       refine wpList_nil ?_
       refine hK75 _ _ ?_
       refine condT (by kernel_rfl) ?_
       refine wp_seq_k (fun K89 hK90 => ?_)
       refine wp_region_lit ?_
       refine seqS1 (a' := ⟨#[.slice A2 l1.length c3, uV, fV, pV b28 0, .slice A43 vt36.length c44, iV vt37, iV vt55, iV vt56, .slice A64 vt57.length c65, iV vt58, uV, uV, uV, .slice A2 l1.length c3, .agg #[.slice A2 l1.length c3, iV 0], pV b9 0, (ag_Frame vt13 A20 c21 A25 c26), .tuple #[.slice A43 vt36.length c44, iV vt37], pV b28 0, iV vt13.W, pV b28 1, iV vt13.H, pV b28 3, .slice A25 vt13.Counts.length c26, .tuple #[.slice A43 vt36.length c44, iV vt37], .slice A43 vt36.length c44, iV vt37, .tuple #[iV vt55, iV vt56, .slice A64 vt57.length c65, iV vt58], .slice A43 vt36.length c44, .tuple #[iV vt55, iV vt56, .slice A64 vt57.length c65, iV vt58], iV vt55, iV vt56, .slice A64 vt57.length c65, iV vt58, .bool vt76, fV, fV, iV vt37, fV, fV, fV, iV vt58, tV, tV, tV, uV, uV, uV, uV, tV, tV, uV, uV, uV, uV, tV, tV, uV, uV, uV, uV, uV, tV, tV, uV, uV, uV, uV, uV, uV, tV, uV, uV, uV, uV, uV, uV, uV, uV, uV, uV, uV, uV, uV, uV, uV, uV, uV, uV, uV, uV, uV, uV, uV, uV, uV, uV, uV, uV], []⟩) (by kernel_rfl) ?_
       refine wpList_nil ?_
       refine hK90 _ _ ?_
       refine wp_ret ?_
       refine hret _ _ ?_
       refine ends_still (v := Value.bool false) (by kernel_rfl) (by kernel_rfl) ?_
       have HS237 := HS81.drop
       have HS238 := HS237.drop
       have HS239 := HS238.drop
       have HS240 := HS239.drop
       have HS241 := HS240.drop
       injection h with h
       subst h
       exact ⟨f78, rfl, (L17.trans (L40.trans (L70.trans L79))), HS241⟩
     · have c88 : ¬ (vt58 ≠ 0) := c88
       refine seqRwI 42 (x := (vt58 != 0)) (v := false) (by kernel_rfl) (bne_eq_false_iff_eq.mpr (Decidable.of_not_not c88)) ?_
       refine seqRwI 43 (x := (vt58 != 0)) (v := false) (by kernel_rfl) (bne_eq_false_iff_eq.mpr (Decidable.of_not_not c88)) ?_
       refine seqRwI 44 (x := (vt58 != 0)) (v := false) (by kernel_rfl) (bne_eq_false_iff_eq.mpr (Decidable.of_not_not c88)) ?_
       refine seqL2 (by kernel_rfl) ?_
       refine seqG (by kernel_rfl) (does_run (run_load rfl Tryd.underlying3 rfl (by kernel_rfl : _ = Value.pointer (some ⟨b28, 0, none⟩)) (HS81.u2.cell 0)) ?_)
       refine seqS3 (a' := ⟨#[.slice A2 l1.length c3, uV, fV, pV b28 0, .slice A43 vt36.length c44, iV vt37, iV vt55, iV vt56, .slice A64 vt57.length c65, iV vt58, uV, uV, uV, .slice A2 l1.length c3, .agg #[.slice A2 l1.length c3, iV 0], pV b9 0, (ag_Frame vt13 A20 c21 A25 c26), .tuple #[.slice A43 vt36.length c44, iV vt37], pV b28 0, iV vt13.W, pV b28 1, iV vt13.H, pV b28 3, .slice A25 vt13.Counts.length c26, .tuple #[.slice A43 vt36.length c44, iV vt37], .slice A43 vt36.length c44, iV vt37, .tuple #[iV vt55, iV vt56, .slice A64 vt57.length c65, iV vt58], .slice A43 vt36.length c44, .tuple #[iV vt55, iV vt56, .slice A64 vt57.length c65, iV vt58], iV vt55, iV vt56, .slice A64 vt57.length c65, iV vt58, .bool vt76, fV, fV, iV vt37, fV, fV, fV, iV vt58, fV, fV, fV, iV vt55, pV b28 0, iV vt13.W, .bool (vt55 != vt13.W), .bool (vt55 != vt13.W), .bool (vt55 != vt13.W), uV, uV, uV, uV, uV, uV, uV, uV, uV, uV, uV, uV, uV, uV, uV, uV, uV, uV, uV, uV, uV, uV, uV, uV, uV, uV, uV, uV, uV, uV, uV, uV, uV, uV, uV, uV, uV, uV, uV, uV, uV, uV, uV, uV, uV, uV, uV, uV], []⟩) (by kernel_rfl) ?_
       have hq_ := ite_some h; clear h; rcases hq_ with ⟨c91, h⟩ | ⟨c91, h⟩
       · have c91 : vt55 ≠ vt13.W := c91
         refine seqRwI 48 (x := (vt55 != vt13.W)) (v := true) (by kernel_rfl) (bne_iff_ne.mpr c91) ?_
         refine seqRwI 49 (x := (vt55 != vt13.W)) (v := true) (by kernel_rfl) (bne_iff_ne.mpr c91) ?_
         refine seqRwI 50 (x := (vt55 != vt13.W)) (v := true) (by kernel_rfl) (bne_iff_ne.mpr c91) ?_
         refine seqS20 (a' := ⟨#[.slice A2 l1.length c3, uV, fV, pV b28 0, .slice A43 vt36.length c44, iV vt37, iV vt55, iV vt56, .slice A64 vt57.length c65, iV vt58, uV, uV, uV, .slice A2 l1.length c3, .agg #[.slice A2 l1.length c3, iV 0], pV b9 0, (ag_Frame vt13 A20 c21 A25 c26), .tuple #[.slice A43 vt36.length c44, iV vt37], pV b28 0, iV vt13.W, pV b28 1, iV vt13.H, pV b28 3, .slice A25 vt13.Counts.length c26, .tuple #[.slice A43 vt36.length c44, iV vt37], .slice A43 vt36.length c44, iV vt37, .tuple #[iV vt55, iV vt56, .slice A64 vt57.length c65, iV vt58], .slice A43 vt36.length c44, .tuple #[iV vt55, iV vt56, .slice A64 vt57.length c65, iV vt58], iV vt55, iV vt56, .slice A64 vt57.length c65, iV vt58, .bool vt76, fV, fV, iV vt37, fV, fV, fV, iV vt58, fV, fV, fV, iV vt55, pV b28 0, iV vt13.W, tV, tV, tV, uV, uV, uV, uV, tV, tV, uV, uV, uV, uV, uV, tV, tV, uV, uV, uV, uV, uV, uV, tV, uV, uV, uV, uV, uV, uV, uV, uV, uV, uV, uV, uV, uV, uV, uV, uV, uV, uV, uV, uV, uV, uV, uV, uV, uV, uV, uV, uV], []⟩) (by kernel_rfl) ?_
         refine wpList_nil ?_
         refine hK75 _ _ ?_
         refine condT (by kernel_rfl) ?_
         refine wp_seq_k (fun K92 hK93 => ?_)
         refine wp_region_lit ?_
         refine seqS1 (a' := ⟨#[.slice A2 l1.length c3, uV, fV, pV b28 0, .slice A43 vt36.length c44, iV vt37, iV vt55, iV vt56, .slice A64 vt57.length c65, iV vt58, uV, uV, uV, .slice A2 l1.length c3, .agg #[.slice A2 l1.length c3, iV 0], pV b9 0, (ag_Frame vt13 A20 c21 A25 c26), .tuple #[.slice A43 vt36.length c44, iV vt37], pV b28 0, iV vt13.W, pV b28 1, iV vt13.H, pV b28 3, .slice A25 vt13.Counts.length c26, .tuple #[.slice A43 vt36.length c44, iV vt37], .slice A43 vt36.length c44, iV vt37, .tuple #[iV vt55, iV vt56, .slice A64 vt57.length c65, iV vt58], .slice A43 vt36.length c44, .tuple #[iV vt55, iV vt56, .slice A64 vt57.length c65, iV vt58], iV vt55, iV vt56, .slice A64 vt57.length c65, iV vt58, .bool vt76, fV, fV, iV vt37, fV, fV, fV, iV vt58, fV, fV, fV, iV vt55, pV b28 0, iV vt13.W, tV, tV, tV, uV, uV, uV, uV, tV, tV, uV, uV, uV, uV, uV, tV, tV, uV, uV, uV, uV, uV, uV, tV, uV, uV, uV, uV, uV, uV, uV, uV, uV, uV, uV, uV, uV, uV, uV, uV, uV, uV, uV, uV, uV, uV, uV, uV, uV, uV, uV, uV], []⟩) (by kernel_rfl) ?_
         refine wpList_nil ?_
         refine hK93 _ _ ?_
         refine wp_ret ?_
         refine hret _ _ ?_
         refine ends_still (v := Value.bool false) (by kernel_rfl) (by kernel_rfl) ?_
         have HS242 := HS81.drop
         have HS243 := HS242.drop
         have HS244 := HS243.drop
         have HS245 := HS244.drop
         have HS246 := HS245.drop
         injection h with h
         subst h
         exact ⟨f78, rfl, (L17.trans (L40.trans (L70.trans L79))), HS246⟩
       · have c91 : ¬ (vt55 ≠ vt13.W) := c91
         refine seqRwI 48 (x := (vt55 != vt13.W)) (v := false) (by kernel_rfl) (bne_eq_false_iff_eq.mpr (Decidable.of_not_not c91)) ?_
         refine seqRwI 49 (x := (vt55 != vt13.W)) (v := false) (by kernel_rfl) (bne_eq_false_iff_eq.mpr (Decidable.of_not_not c91)) ?_
         refine seqRwI 50 (x := (vt55 != vt13.W)) (v := false) (by kernel_rfl) (bne_eq_false_iff_eq.mpr (Decidable.of_not_not c91)) ?_
         refine seqL2 (by kernel_rfl) ?_
         refine seqG (by kernel_rfl) (does_run (run_load rfl Tryd.underlying3 rfl (by kernel_rfl : _ = Value.pointer (some ⟨b28, 1, none⟩)) (HS81.u2.cell 1)) ?_)
         refine seqS3 (a' := ⟨#[.slice A2 l1.length c3, uV, fV, pV b28 0, .slice A43 vt36.length c44, iV vt37, iV vt55, iV vt56, .slice A64 vt57.length c65, iV vt58, uV, uV, uV, .slice A2 l1.length c3, .agg #[.slice A2 l1.length c3, iV 0], pV b9 0, (ag_Frame vt13 A20 c21 A25 c26), .tuple #[.slice A43 vt36.length c44, iV vt37], pV b28 0, iV vt13.W, pV b28 1, iV vt13.H, pV b28 3, .slice A25 vt13.Counts.length c26, .tuple #[.slice A43 vt36.length c44, iV vt37], .slice A43 vt36.length c44, iV vt37, .tuple #[iV vt55, iV vt56, .slice A64 vt57.length c65, iV vt58], .slice A43 vt36.length c44, .tuple #[iV vt55, iV vt56, .slice A64 vt57.length c65, iV vt58], iV vt55, iV vt56, .slice A64 vt57.length c65, iV vt58, .bool vt76, fV, fV, iV vt37, fV, fV, fV, iV vt58, fV, fV, fV, iV vt55, pV b28 0, iV vt13.W, fV, fV, fV, iV vt56, pV b28 1, iV vt13.H, .bool (vt56 != vt13.H), .bool (vt56 != vt13.H), .bool (vt56 != vt13.H), uV, uV, uV, uV, uV, uV, uV, uV, uV, uV, uV, uV, uV, uV, uV, uV, uV, uV, uV, uV, uV, uV, uV, uV, uV, uV, uV, uV, uV, uV, uV, uV, uV, uV, uV, uV, uV, uV, uV, uV, uV, uV], []⟩) (by kernel_rfl) ?_
         have hq_ := ite_some h; clear h; rcases hq_ with ⟨c94, h⟩ | ⟨c94, h⟩
         · have c94 : vt56 ≠ vt13.H := c94
           refine seqRwI 54 (x := (vt56 != vt13.H)) (v := true) (by kernel_rfl) (bne_iff_ne.mpr c94) ?_
           refine seqRwI 55 (x := (vt56 != vt13.H)) (v := true) (by kernel_rfl) (bne_iff_ne.mpr c94) ?_
           refine seqRwI 56 (x := (vt56 != vt13.H)) (v := true) (by kernel_rfl) (bne_iff_ne.mpr c94) ?_
           refine seqS14 (a' := ⟨#[.slice A2 l1.length c3, uV, fV, pV b28 0, .slice A43 vt36.length c44, iV vt37, iV vt55, iV vt56, .slice A64 vt57.length c65, iV vt58, uV, uV, uV, .slice A2 l1.length c3, .agg #[.slice A2 l1.length c3, iV 0], pV b9 0, (ag_Frame vt13 A20 c21 A25 c26), .tuple #[.slice A43 vt36.length c44, iV vt37], pV b28 0, iV vt13.W, pV b28 1, iV vt13.H, pV b28 3, .slice A25 vt13.Counts.length c26, .tuple #[.slice A43 vt36.length c44, iV vt37], .slice A43 vt36.length c44, iV vt37, .tuple #[iV vt55, iV vt56, .slice A64 vt57.length c65, iV vt58], .slice A43 vt36.length c44, .tuple #[iV vt55, iV vt56, .slice A64 vt57.length c65, iV vt58], iV vt55, iV vt56, .slice A64 vt57.length c65, iV vt58, .bool vt76, fV, fV, iV vt37, fV, fV, fV, iV vt58, fV, fV, fV, iV vt55, pV b28 0, iV vt13.W, fV, fV, fV, iV vt56, pV b28 1, iV vt13.H, tV, tV, tV, uV, uV, uV, uV, uV, tV, tV, uV, uV, uV, uV, uV, uV, tV, uV, uV, uV, uV, uV, uV, uV, uV, uV, uV, uV, uV, uV, uV, uV, uV, uV, uV, uV, uV, uV, uV, uV, uV, uV, uV, uV, uV], []⟩) (by kernel_rfl) ?_
           refine wpList_nil ?_
           refine hK75 _ _ ?_
           refine condT (by kernel_rfl) ?_
           refine wp_seq_k (fun K95 hK96 => ?_)
           refine wp_region_lit ?_
           refine seqS1 (a' := ⟨#[.slice A2 l1.length c3, uV, fV, pV b28 0, .slice A43 vt36.length c44, iV vt37, iV vt55, iV vt56, .slice A64 vt57.length c65, iV vt58, uV, uV, uV, .slice A2 l1.length c3, .agg #[.slice A2 l1.length c3, iV 0], pV b9 0, (ag_Frame vt13 A20 c21 A25 c26), .tuple #[.slice A43 vt36.length c44, iV vt37], pV b28 0, iV vt13.W, pV b28 1, iV vt13.H, pV b28 3, .slice A25 vt13.Counts.length c26, .tuple #[.slice A43 vt36.length c44, iV vt37], .slice A43 vt36.length c44, iV vt37, .tuple #[iV vt55, iV vt56, .slice A64 vt57.length c65, iV vt58], .slice A43 vt36.length c44, .tuple #[iV vt55, iV vt56, .slice A64 vt57.length c65, iV vt58], iV vt55, iV vt56, .slice A64 vt57.length c65, iV vt58, .bool vt76, fV, fV, iV vt37, fV, fV, fV, iV vt58, fV, fV, fV, iV vt55, pV b28 0, iV vt13.W, fV, fV, fV, iV vt56, pV b28 1, iV vt13.H, tV, tV, tV, uV, uV, uV, uV, uV, tV, tV, uV, uV, uV, uV, uV, uV, tV, uV, uV, uV, uV, uV, uV, uV, uV, uV, uV, uV, uV, uV, uV, uV, uV, uV, uV, uV, uV, uV, uV, uV, uV, uV, uV, uV, uV], []⟩) (by kernel_rfl) ?_
           refine wpList_nil ?_
           refine hK96 _ _ ?_
           refine wp_ret ?_
           refine hret _ _ ?_
           refine ends_still (v := Value.bool false) (by kernel_rfl) (by kernel_rfl) ?_
           have HS247 := HS81.drop
           have HS248 := HS247.drop
           have HS249 := HS248.drop
           have HS250 := HS249.drop
           have HS251 := HS250.drop
           injection h with h
           subst h
           exact ⟨f78, rfl, (L17.trans (L40.trans (L70.trans L79))), HS251⟩
         · have c94 : ¬ (vt56 ≠ vt13.H) := c94
           refine seqRwI 54 (x := (vt56 != vt13.H)) (v := false) (by kernel_rfl) (bne_eq_false_iff_eq.mpr (Decidable.of_not_not c94)) ?_
           refine seqRwI 55 (x := (vt56 != vt13.H)) (v := false) (by kernel_rfl) (bne_eq_false_iff_eq.mpr (Decidable.of_not_not c94)) ?_
           refine seqRwI 56 (x := (vt56 != vt13.H)) (v := false) (by kernel_rfl) (bne_eq_false_iff_eq.mpr (Decidable.of_not_not c94)) ?_
           refine seqL2 (by kernel_rfl) ?_
           refine seqG (by kernel_rfl) (does_run (run_load rfl Tryd.underlying27 rfl (by kernel_rfl : _ = Value.pointer (some ⟨b28, 3, none⟩)) (HS81.u2.cell 3)) ?_)
           have HS97 := HS81.u1
           obtain ⟨f98, L99, HS100, HR101, th102⟩ := (HO67.mono L79).lend HS97
           have hq_ := bind_some h; clear h; obtain ⟨vt103, hc104, h⟩ := hq_
           refine seqG (by kernel_rfl) (does_call (f := 13) (args := #[.slice A64 vt57.length c65, .slice A25 vt13.Counts.length c26]) (by kernel_rfl) (slices_Equal_int.calls k A64 c65 A25 c26 vt57 vt13.Counts HS100 HR101 (HR27.mono (L40.trans (L70.trans (L79.trans L99)))) vt103 hc104) ?_)
           rintro _ W107 ⟨f105, rfl, L106, HS108⟩
           refine ⟨_, rfl, ?_⟩
           obtain ⟨f109, L110, HS111⟩ := th102 L106 HS108
           refine seqS3 (a' := ⟨#[.slice A2 l1.length c3, uV, fV, pV b28 0, .slice A43 vt36.length c44, iV vt37, iV vt55, iV vt56, .slice A64 vt57.length c65, iV vt58, uV, uV, uV, .slice A2 l1.length c3, .agg #[.slice A2 l1.length c3, iV 0], pV b9 0, (ag_Frame vt13 A20 c21 A25 c26), .tuple #[.slice A43 vt36.length c44, iV vt37], pV b28 0, iV vt13.W, pV b28 1, iV vt13.H, pV b28 3, .slice A25 vt13.Counts.length c26, .tuple #[.slice A43 vt36.length c44, iV vt37], .slice A43 vt36.length c44, iV vt37, .tuple #[iV vt55, iV vt56, .slice A64 vt57.length c65, iV vt58], .slice A43 vt36.length c44, .tuple #[iV vt55, iV vt56, .slice A64 vt57.length c65, iV vt58], iV vt55, iV vt56, .slice A64 vt57.length c65, iV vt58, .bool vt76, fV, fV, iV vt37, fV, fV, fV, iV vt58, fV, fV, fV, iV vt55, pV b28 0, iV vt13.W, fV, fV, fV, iV vt56, pV b28 1, iV vt13.H, fV, fV, fV, .slice A64 vt57.length c65, pV b28 3, .slice A25 vt13.Counts.length c26, .bool vt103, .bool (!vt103), .bool (!vt103), .bool (!vt103), uV, uV, uV, uV, uV, uV, uV, uV, uV, uV, uV, uV, uV, uV, uV, uV, uV, uV, uV, uV, uV, uV, uV, uV, uV, uV, uV, uV, uV, uV, uV, uV, uV, uV, uV], []⟩) (by kernel_rfl) ?_
           have hq_ := ite_some h; clear h; rcases hq_ with ⟨c112, h⟩ | ⟨c112, h⟩
           · have c112 : ¬ (vt103 = true) := c112
             refine seqRwI 61 (x := (!vt103)) (v := true) (by kernel_rfl) (congrArg (fun b_ => !b_) (show vt103 = false from (Bool.eq_false_iff.mpr c112)) : (!vt103) = true) ?_
             refine seqRwI 62 (x := (!vt103)) (v := true) (by kernel_rfl) (congrArg (fun b_ => !b_) (show vt103 = false from (Bool.eq_false_iff.mpr c112)) : (!vt103) = true) ?_
             refine seqRwI 63 (x := (!vt103)) (v := true) (by kernel_rfl) (congrArg (fun b_ => !b_) (show vt103 = false from (Bool.eq_false_iff.mpr c112)) : (!vt103) = true) ?_
             refine seqS7 (a' := ⟨#[.slice A2 l1.length c3, uV, fV, pV b28 0, .slice A43 vt36.length c44, iV vt37, iV vt55, iV vt56, .slice A64 vt57.length c65, iV vt58, uV, uV, uV, .slice A2 l1.length c3, .agg #[.slice A2 l1.length c3, iV 0], pV b9 0, (ag_Frame vt13 A20 c21 A25 c26), .tuple #[.slice A43 vt36.length c44, iV vt37], pV b28 0, iV vt13.W, pV b28 1, iV vt13.H, pV b28 3, .slice A25 vt13.Counts.length c26, .tuple #[.slice A43 vt36.length c44, iV vt37], .slice A43 vt36.length c44, iV vt37, .tuple #[iV vt55, iV vt56, .slice A64 vt57.length c65, iV vt58], .slice A43 vt36.length c44, .tuple #[iV vt55, iV vt56, .slice A64 vt57.length c65, iV vt58], iV vt55, iV vt56, .slice A64 vt57.length c65, iV vt58, .bool vt76, fV, fV, iV vt37, fV, fV, fV, iV vt58, fV, fV, fV, iV vt55, pV b28 0, iV vt13.W, fV, fV, fV, iV vt56, pV b28 1, iV vt13.H, fV, fV, fV, .slice A64 vt57.length c65, pV b28 3, .slice A25 vt13.Counts.length c26, .bool vt103, tV, tV, tV, uV, uV, uV, uV, uV, uV, tV, uV, uV, uV, uV, uV, uV, uV, uV, uV, uV, uV, uV, uV, uV, uV, uV, uV, uV, uV, uV, uV, uV, uV, uV, uV, uV, uV, uV], []⟩) (by kernel_rfl) ?_
             refine wpList_nil ?_
             refine hK75 _ _ ?_
             refine condT (by kernel_rfl) ?_
             refine wp_seq_k (fun K113 hK114 => ?_)
             refine wp_region_lit ?_
             refine seqS1 (a' := ⟨#[.slice A2 l1.length c3, uV, fV, pV b28 0, .slice A43 vt36.length c44, iV vt37, iV vt55, iV vt56, .slice A64 vt57.length c65, iV vt58, uV, uV, uV, .slice A2 l1.length c3, .agg #[.slice A2 l1.length c3, iV 0], pV b9 0, (ag_Frame vt13 A20 c21 A25 c26), .tuple #[.slice A43 vt36.length c44, iV vt37], pV b28 0, iV vt13.W, pV b28 1, iV vt13.H, pV b28 3, .slice A25 vt13.Counts.length c26, .tuple #[.slice A43 vt36.length c44, iV vt37], .slice A43 vt36.length c44, iV vt37, .tuple #[iV vt55, iV vt56, .slice A64 vt57.length c65, iV vt58], .slice A43 vt36.length c44, .tuple #[iV vt55, iV vt56, .slice A64 vt57.length c65, iV vt58], iV vt55, iV vt56, .slice A64 vt57.length c65, iV vt58, .bool vt76, fV, fV, iV vt37, fV, fV, fV, iV vt58, fV, fV, fV, iV vt55, pV b28 0, iV vt13.W, fV, fV, fV, iV vt56, pV b28 1, iV vt13.H, fV, fV, fV, .slice A64 vt57.length c65, pV b28 3, .slice A25 vt13.Counts.length c26, .bool vt103, tV, tV, tV, uV, uV, uV, uV, uV, uV, tV, uV, uV, uV, uV, uV, uV, uV, uV, uV, uV, uV, uV, uV, uV, uV, uV, uV, uV, uV, uV, uV, uV, uV, uV, uV, uV, uV, uV], []⟩) (by kernel_rfl) ?_
             refine wpList_nil ?_
             refine hK114 _ _ ?_
             refine wp_ret ?_
             refine hret _ _ ?_
             refine ends_still (v := Value.bool false) (by kernel_rfl) (by kernel_rfl) ?_
             have HS252 := HS111.drop
             have HS253 := HS252.drop
             have HS254 := HS253.drop
             have HS255 := HS254.drop
             have HS256 := HS255.drop
             injection h with h
             subst h
             exact ⟨f109, rfl, (L17.trans (L40.trans (L70.trans (L79.trans L110)))), HS256⟩
           · have c112 : ¬ (¬ (vt103 = true)) := c112
             refine seqRwI 61 (x := (!vt103)) (v := false) (by kernel_rfl) (congrArg (fun b_ => !b_) (show vt103 = true from (Decidable.of_not_not c112)) : (!vt103) = false) ?_
             refine seqRwI 62 (x := (!vt103)) (v := false) (by kernel_rfl) (congrArg (fun b_ => !b_) (show vt103 = true from (Decidable.of_not_not c112)) : (!vt103) = false) ?_
             refine seqRwI 63 (x := (!vt103)) (v := false) (by kernel_rfl) (congrArg (fun b_ => !b_) (show vt103 = true from (Decidable.of_not_not c112)) : (!vt103) = false) ?_
             refine seqS7 (a' := ⟨#[.slice A2 l1.length c3, uV, fV, pV b28 0, .slice A43 vt36.length c44, iV vt37, iV vt55, iV vt56, .slice A64 vt57.length c65, iV vt58, uV, uV, uV, .slice A2 l1.length c3, .agg #[.slice A2 l1.length c3, iV 0], pV b9 0, (ag_Frame vt13 A20 c21 A25 c26), .tuple #[.slice A43 vt36.length c44, iV vt37], pV b28 0, iV vt13.W, pV b28 1, iV vt13.H, pV b28 3, .slice A25 vt13.Counts.length c26, .tuple #[.slice A43 vt36.length c44, iV vt37], .slice A43 vt36.length c44, iV vt37, .tuple #[iV vt55, iV vt56, .slice A64 vt57.length c65, iV vt58], .slice A43 vt36.length c44, .tuple #[iV vt55, iV vt56, .slice A64 vt57.length c65, iV vt58], iV vt55, iV vt56, .slice A64 vt57.length c65, iV vt58, .bool vt76, fV, fV, iV vt37, fV, fV, fV, iV vt58, fV, fV, fV, iV vt55, pV b28 0, iV vt13.W, fV, fV, fV, iV vt56, pV b28 1, iV vt13.H, fV, fV, fV, .slice A64 vt57.length c65, pV b28 3, .slice A25 vt13.Counts.length c26, .bool vt103, fV, fV, fV, .slice A43 vt36.length c44, iV (vt36.length : Int), iV vt56, iV (w64 (72 * vt56)), iV (w64 (2 + (w64 (72 * vt56)))), .bool (decide ((vt36.length : Int) > (w64 (2 + (w64 (72 * vt56)))))), .bool (decide ((vt36.length : Int) > (w64 (2 + (w64 (72 * vt56)))))), uV, uV, uV, uV, uV, uV, uV, uV, uV, uV, uV, uV, uV, uV, uV, uV, uV, uV, uV, uV, uV, uV, uV, uV, uV, uV, uV, uV], []⟩) (by kernel_rfl) ?_
             refine wpList_nil ?_
             refine hK75 _ _ ?_
             have hq_ := ite_some h; clear h; rcases hq_ with ⟨c116, h⟩ | ⟨c116, h⟩
             · have c116 : (vt36.length : Int) > (w64 (2 + (w64 (72 * vt56)))) := c116
               refine wpRwI 69 (x := (decide ((vt36.length : Int) > (w64 (2 + (w64 (72 * vt56))))))) (v := true) (by kernel_rfl) (decide_eq_true c116) ?_
               refine wpRwI 70 (x := (decide ((vt36.length : Int) > (w64 (2 + (w64 (72 * vt56))))))) (v := true) (by kernel_rfl) (decide_eq_true c116) ?_
               refine condT (by kernel_rfl) ?_
               refine wp_seq_k (fun K117 hK118 => ?_)
               refine wp_region_lit ?_
               refine seqS1 (a' := ⟨#[.slice A2 l1.length c3, uV, fV, pV b28 0, .slice A43 vt36.length c44, iV vt37, iV vt55, iV vt56, .slice A64 vt57.length c65, iV vt58, uV, uV, uV, .slice A2 l1.length c3, .agg #[.slice A2 l1.length c3, iV 0], pV b9 0, (ag_Frame vt13 A20 c21 A25 c26), .tuple #[.slice A43 vt36.length c44, iV vt37], pV b28 0, iV vt13.W, pV b28 1, iV vt13.H, pV b28 3, .slice A25 vt13.Counts.length c26, .tuple #[.slice A43 vt36.length c44, iV vt37], .slice A43 vt36.length c44, iV vt37, .tuple #[iV vt55, iV vt56, .slice A64 vt57.length c65, iV vt58], .slice A43 vt36.length c44, .tuple #[iV vt55, iV vt56, .slice A64 vt57.length c65, iV vt58], iV vt55, iV vt56, .slice A64 vt57.length c65, iV vt58, .bool vt76, fV, fV, iV vt37, fV, fV, fV, iV vt58, fV, fV, fV, iV vt55, pV b28 0, iV vt13.W, fV, fV, fV, iV vt56, pV b28 1, iV vt13.H, fV, fV, fV, .slice A64 vt57.length c65, pV b28 3, .slice A25 vt13.Counts.length c26, .bool vt103, fV, fV, fV, .slice A43 vt36.length c44, iV (vt36.length : Int), iV vt56, iV (w64 (72 * vt56)), iV (w64 (2 + (w64 (72 * vt56)))), tV, tV, uV, uV, uV, uV, uV, uV, uV, uV, uV, uV, uV, uV, uV, uV, uV, uV, uV, uV, uV, uV, uV, uV, uV, uV, uV, uV, uV, uV], []⟩) (by kernel_rfl) ?_
               refine wpList_nil ?_
               refine hK118 _ _ ?_
               refine wp_ret ?_
               refine hret _ _ ?_
               refine ends_still (v := Value.bool false) (by kernel_rfl) (by kernel_rfl) ?_
               have HS257 := HS111.drop
               have HS258 := HS257.drop
               have HS259 := HS258.drop
               have HS260 := HS259.drop
               have HS261 := HS260.drop
               injection h with h
               subst h
               exact ⟨f109, rfl, (L17.trans (L40.trans (L70.trans (L79.trans L110)))), HS261⟩
             · have c116 : ¬ ((vt36.length : Int) > (w64 (2 + (w64 (72 * vt56))))) := c116
               refine wpRwI 69 (x := (decide ((vt36.length : Int) > (w64 (2 + (w64 (72 * vt56))))))) (v := false) (by kernel_rfl) (decide_eq_false c116) ?_
               refine wpRwI 70 (x := (decide ((vt36.length : Int) > (w64 (2 + (w64 (72 * vt56))))))) (v := false) (by kernel_rfl) (decide_eq_false c116) ?_
               refine condF (by kernel_rfl) ?_
               refine wp_skip ?_
               refine hK73 _ _ ?_
               refine wp_seq_k (fun K119 hK120 => ?_)
               refine wp_seq_k (fun K121 hK122 => ?_)
               refine wp_region_lit ?_
               refine seqS2 (a' := ⟨#[.slice A2 l1.length c3, uV, fV, pV b28 0, .slice A43 vt36.length c44, iV vt37, iV vt55, iV vt56, .slice A64 vt57.length c65, iV vt58, uV, uV, uV, .slice A2 l1.length c3, .agg #[.slice A2 l1.length c3, iV 0], pV b9 0, (ag_Frame vt13 A20 c21 A25 c26), .tuple #[.slice A43 vt36.length c44, iV vt37], pV b28 0, iV vt13.W, pV b28 1, iV vt13.H, pV b28 3, .slice A25 vt13.Counts.length c26, .tuple #[.slice A43 vt36.length c44, iV vt37], .slice A43 vt36.length c44, iV vt37, .tuple #[iV vt55, iV vt56, .slice A64 vt57.length c65, iV vt58], .slice A43 vt36.length c44, .tuple #[iV vt55, iV vt56, .slice A64 vt57.length c65, iV vt58], iV vt55, iV vt56, .slice A64 vt57.length c65, iV vt58, .bool vt76, fV, fV, iV vt37, fV, fV, fV, iV vt58, fV, fV, fV, iV vt55, pV b28 0, iV vt13.W, fV, fV, fV, iV vt56, pV b28 1, iV vt13.H, fV, fV, fV, .slice A64 vt57.length c65, pV b28 3, .slice A25 vt13.Counts.length c26, .bool vt103, fV, fV, fV, .slice A43 vt36.length c44, iV (vt36.length : Int), iV vt56, iV (w64 (72 * vt56)), iV (w64 (2 + (w64 (72 * vt56)))), fV, fV, iV vt56, iV 0, uV, uV, uV, uV, uV, uV, uV, uV, uV, uV, uV, uV, uV, uV, uV, uV, uV, uV, uV, uV, uV, uV, uV, uV, uV, uV], []⟩) (by kernel_rfl) ?_
               refine wpList_nil ?_
               refine hK122 _ _ ?_
               refine blockK (fun B123 hx124 hn125 hr126 ho127 hp128 => ?_)
               have hq_ := bind_some h; clear h; obtain ⟨o129, hv214, h⟩ := hq_
               have JR216 : ∀ z_, some (Sum.inl z_) = some o129 → some z_ = some rr1 := by
                intro z_ e_; injection e_ with e_; subst e_; exact h
               have J215 : ∀ (f209 : FM) (j213 : Nat → Value) (W211 : World) (a_ : Act), FM.le f109 f209 → some (Sum.inr ()) = some o129 → St t W211 f209 (s66 :: s45 :: [(b28, .cells #[.int .i64 vt13.W, .int .i64 vt13.H, .slice A20 vt13.Cards.length c21, .slice A25 vt13.Counts.length c26] 33 (0, 0))] :: s22 :: [(b9, .cells #[.slice A2 l1.length c3, .int .i64 vt14] 37 (0, 0))] :: H) → a_ = ⟨#[.slice A2 l1.length c3, uV, (j213 0), pV b28 0, .slice A43 vt36.length c44, iV vt37, iV vt55, iV vt56, .slice A64 vt57.length c65, iV vt58, (j213 1), (j213 2), (j213 3), .slice A2 l1.length c3, .agg #[.slice A2 l1.length c3, iV 0], pV b9 0, (ag_Frame vt13 A20 c21 A25 c26), .tuple #[.slice A43 vt36.length c44, iV vt37], pV b28 0, iV vt13.W, pV b28 1, iV vt13.H, pV b28 3, .slice A25 vt13.Counts.length c26, .tuple #[.slice A43 vt36.length c44, iV vt37], .slice A43 vt36.length c44, iV vt37, .tuple #[iV vt55, iV vt56, .slice A64 vt57.length c65, iV vt58], .slice A43 vt36.length c44, .tuple #[iV vt55, iV vt56, .slice A64 vt57.length c65, iV vt58], iV vt55, iV vt56, .slice A64 vt57.length c65, iV vt58, .bool vt76, fV, fV, iV vt37, fV, fV, fV, iV vt58, fV, fV, fV, iV vt55, pV b28 0, iV vt13.W, fV, fV, fV, iV vt56, pV b28 1, iV vt13.H, fV, fV, fV, .slice A64 vt57.length c65, pV b28 3, .slice A25 vt13.Counts.length c26, .bool vt103, fV, fV, fV, .slice A43 vt36.length c44, iV (vt36.length : Int), iV vt56, iV (w64 (72 * vt56)), iV (w64 (2 + (w64 (72 * vt56)))), fV, fV, iV vt56, (j213 4), (j213 5), (j213 6), (j213 7), (j213 8), (j213 9), (j213 10), (j213 11), (j213 12), (j213 13), (j213 14), (j213 15), (j213 16), (j213 17), (j213 18), (j213 19), (j213 20), (j213 21), (j213 22), (j213 23), (j213 24), (j213 25), (j213 26), (j213 27), (j213 28), (j213 29), (j213 30)], []⟩ → K119 a_ W211 := by
                intro f209 j213 W211 a_ L210 hj217 HS212  hfr_; subst hfr_
                injection hj217 with hj217; subst hj217; try dsimp only at h
                simp only [Sum.elim_inr] at h
                refine hK120 _ _ ?_
                refine wp_seq_k (fun K225 hK226 => ?_)
                refine wp_region_lit ?_
                refine seqS1 (a' := ⟨#[.slice A2 l1.length c3, uV, tV, pV b28 0, .slice A43 vt36.length c44, iV vt37, iV vt55, iV vt56, .slice A64 vt57.length c65, iV vt58, (j213 1), (j213 2), (j213 3), .slice A2 l1.length c3, .agg #[.slice A2 l1.length c3, iV 0], pV b9 0, (ag_Frame vt13 A20 c21 A25 c26), .tuple #[.slice A43 vt36.length c44, iV vt37], pV b28 0, iV vt13.W, pV b28 1, iV vt13.H, pV b28 3, .slice A25 vt13.Counts.length c26, .tuple #[.slice A43 vt36.length c44, iV vt37], .slice A43 vt36.length c44, iV vt37, .tuple #[iV vt55, iV vt56, .slice A64 vt57.length c65, iV vt58], .slice A43 vt36.length c44, .tuple #[iV vt55, iV vt56, .slice A64 vt57.length c65, iV vt58], iV vt55, iV vt56, .slice A64 vt57.length c65, iV vt58, .bool vt76, fV, fV, iV vt37, fV, fV, fV, iV vt58, fV, fV, fV, iV vt55, pV b28 0, iV vt13.W, fV, fV, fV, iV vt56, pV b28 1, iV vt13.H, fV, fV, fV, .slice A64 vt57.length c65, pV b28 3, .slice A25 vt13.Counts.length c26, .bool vt103, fV, fV, fV, .slice A43 vt36.length c44, iV (vt36.length : Int), iV vt56, iV (w64 (72 * vt56)), iV (w64 (2 + (w64 (72 * vt56)))), fV, fV, iV vt56, (j213 4), (j213 5), (j213 6), (j213 7), (j213 8), (j213 9), (j213 10), (j213 11), (j213 12), (j213 13), (j213 14), (j213 15), (j213 16), (j213 17), (j213 18), (j213 19), (j213 20), (j213 21), (j213 22), (j213 23), (j213 24), (j213 25), (j213 26), (j213 27), (j213 28), (j213 29), (j213 30)], []⟩) (by kernel_rfl) ?_
                refine wpList_nil ?_
                refine hK226 _ _ ?_
                refine wp_ret ?_
                refine hret _ _ ?_
                refine ends_still (v := Value.bool true) (by kernel_rfl) (by kernel_rfl) ?_
                have HS274 := HS212.drop
                have HS275 := HS274.drop
                have HS276 := HS275.drop
                have HS277 := HS276.drop
                have HS278 := HS277.drop
                injection h with h
                subst h
                exact ⟨f209, rfl, (L17.trans (L40.trans (L70.trans (L79.trans (L110.trans L210))))), HS278⟩
               clear h; have h := hv214; clear hv214
               refine loopK (fun n_ a_ w_ => ∃ (f133 : FM) (x138 : Int) (j137 : Nat → Value), FM.le f109 f133 ∧ St t w_ f133 (s66 :: s45 :: [(b28, .cells #[.int .i64 vt13.W, .int .i64 vt13.H, .slice A20 vt13.Cards.length c21, .slice A25 vt13.Counts.length c26] 33 (0, 0))] :: s22 :: [(b9, .cells #[.slice A2 l1.length c3, .int .i64 vt14] 37 (0, 0))] :: H) ∧ spykeep3_SqueezeBack.l0 k vt56 vt36 vt55 vt13 n_ x138 = some o129 ∧ a_ = ⟨#[.slice A2 l1.length c3, uV, (j137 0), pV b28 0, .slice A43 vt36.length c44, iV vt37, iV vt55, iV vt56, .slice A64 vt57.length c65, iV vt58, (j137 1), (j137 2), (j137 3), .slice A2 l1.length c3, .agg #[.slice A2 l1.length c3, iV 0], pV b9 0, (ag_Frame vt13 A20 c21 A25 c26), .tuple #[.slice A43 vt36.length c44, iV vt37], pV b28 0, iV vt13.W, pV b28 1, iV vt13.H, pV b28 3, .slice A25 vt13.Counts.length c26, .tuple #[.slice A43 vt36.length c44, iV vt37], .slice A43 vt36.length c44, iV vt37, .tuple #[iV vt55, iV vt56, .slice A64 vt57.length c65, iV vt58], .slice A43 vt36.length c44, .tuple #[iV vt55, iV vt56, .slice A64 vt57.length c65, iV vt58], iV vt55, iV vt56, .slice A64 vt57.length c65, iV vt58, .bool vt76, fV, fV, iV vt37, fV, fV, fV, iV vt58, fV, fV, fV, iV vt55, pV b28 0, iV vt13.W, fV, fV, fV, iV vt56, pV b28 1, iV vt13.H, fV, fV, fV, .slice A64 vt57.length c65, pV b28 3, .slice A25 vt13.Counts.length c26, .bool vt103, fV, fV, fV, .slice A43 vt36.length c44, iV (vt36.length : Int), iV vt56, iV (w64 (72 * vt56)), iV (w64 (2 + (w64 (72 * vt56)))), fV, fV, iV vt56, iV x138, (j137 4), (j137 5), (j137 6), (j137 7), (j137 8), (j137 9), (j137 10), (j137 11), (j137 12), (j137 13), (j137 14), (j137 15), (j137 16), (j137 17), (j137 18), (j137 19), (j137 20), (j137 21), (j137 22), (j137 23), (j137 24), (j137 25), (j137 26), (j137 27), (j137 28), (j137 29)], []⟩) k ⟨f109, 0, (fun i_ => [Value.bool false, undef, undef, undef, undef, undef, undef, undef, undef, undef, undef, undef, undef, undef, undef, undef, undef, undef, undef, undef, undef, undef, undef, undef, undef, undef, undef, undef, undef, undef].getD i_ undef), (FM.le.refl _), HS111, h, (by kernel_rfl)⟩ ?_
               clear h
               rintro n132 _ W135 ⟨f133, x138, j137, L134, HS136, h, rfl⟩ K130 hK131
               obtain _ | n132 := n132
               · exact nomatch h
               simp only [spykeep3_SqueezeBack.l0] at h
               refine wp_seq_k (fun K139 hK140 => ?_)
               refine wp_region_lit ?_
               refine seqS1 (a' := ⟨#[.slice A2 l1.length c3, uV, (j137 0), pV b28 0, .slice A43 vt36.length c44, iV vt37, iV vt55, iV vt56, .slice A64 vt57.length c65, iV vt58, (j137 1), (j137 2), (j137 3), .slice A2 l1.length c3, .agg #[.slice A2 l1.length c3, iV 0], pV b9 0, (ag_Frame vt13 A20 c21 A25 c26), .tuple #[.slice A43 vt36.length c44, iV vt37], pV b28 0, iV vt13.W, pV b28 1, iV vt13.H, pV b28 3, .slice A25 vt13.Counts.length c26, .tuple #[.slice A43 vt36.length c44, iV vt37], .slice A43 vt36.length c44, iV vt37, .tuple #[iV vt55, iV vt56, .slice A64 vt57.length c65, iV vt58], .slice A43 vt36.length c44, .tuple #[iV vt55, iV vt56, .slice A64 vt57.length c65, iV vt58], iV vt55, iV vt56, .slice A64 vt57.length c65, iV vt58, .bool vt76, fV, fV, iV vt37, fV, fV, fV, iV vt58, fV, fV, fV, iV vt55, pV b28 0, iV vt13.W, fV, fV, fV, iV vt56, pV b28 1, iV vt13.H, fV, fV, fV, .slice A64 vt57.length c65, pV b28 3, .slice A25 vt13.Counts.length c26, .bool vt103, fV, fV, fV, .slice A43 vt36.length c44, iV (vt36.length : Int), iV vt56, iV (w64 (72 * vt56)), iV (w64 (2 + (w64 (72 * vt56)))), fV, fV, iV vt56, iV x138, .bool (decide (x138 < vt56)), (j137 5), (j137 6), (j137 7), (j137 8), (j137 9), (j137 10), (j137 11), (j137 12), (j137 13), (j137 14), (j137 15), (j137 16), (j137 17), (j137 18), (j137 19), (j137 20), (j137 21), (j137 22), (j137 23), (j137 24), (j137 25), (j137 26), (j137 27), (j137 28), (j137 29)], []⟩) (by kernel_rfl) ?_
               refine wpList_nil ?_
               refine hK140 _ _ ?_
               refine wp_seq_k (fun K141 hK142 => ?_)
               have hq_ := ite_some h; clear h; rcases hq_ with ⟨c144, h⟩ | ⟨c144, h⟩
               · have c144 : x138 < vt56 := c144
                 refine wpRwI 73 (x := (decide (x138 < vt56))) (v := true) (by kernel_rfl) (decide_eq_true c144) ?_
                 refine condT (by kernel_rfl) ?_
                 refine wp_skip ?_
                 refine hK142 _ _ ?_
                 refine wp_seq_k (fun K145 hK146 => ?_)
                 refine blockK (fun B147 hx148 hn149 hr150 ho151 hp152 => ?_)
                 refine wp_seq_k (fun K154 hK155 => ?_)
                 refine wp_region_lit ?_
                 refine seqS2 (a' := ⟨#[.slice A2 l1.length c3, uV, (j137 0), pV b28 0, .slice A43 vt36.length c44, iV vt37, iV vt55, iV vt56, .slice A64 vt57.length c65, iV vt58, iV x138, (j137 2), (j137 3), .slice A2 l1.length c3, .agg #[.slice A2 l1.length c3, iV 0], pV b9 0, (ag_Frame vt13 A20 c21 A25 c26), .tuple #[.slice A43 vt36.length c44, iV vt37], pV b28 0, iV vt13.W, pV b28 1, iV vt13.H, pV b28 3, .slice A25 vt13.Counts.length c26, .tuple #[.slice A43 vt36.length c44, iV vt37], .slice A43 vt36.length c44, iV vt37, .tuple #[iV vt55, iV vt56, .slice A64 vt57.length c65, iV vt58], .slice A43 vt36.length c44, .tuple #[iV vt55, iV vt56, .slice A64 vt57.length c65, iV vt58], iV vt55, iV vt56, .slice A64 vt57.length c65, iV vt58, .bool vt76, fV, fV, iV vt37, fV, fV, fV, iV vt58, fV, fV, fV, iV vt55, pV b28 0, iV vt13.W, fV, fV, fV, iV vt56, pV b28 1, iV vt13.H, fV, fV, fV, .slice A64 vt57.length c65, pV b28 3, .slice A25 vt13.Counts.length c26, .bool vt103, fV, fV, fV, .slice A43 vt36.length c44, iV (vt36.length : Int), iV vt56, iV (w64 (72 * vt56)), iV (w64 (2 + (w64 (72 * vt56)))), fV, fV, iV vt56, iV x138, tV, iV x138, (j137 6), (j137 7), (j137 8), (j137 9), (j137 10), (j137 11), (j137 12), (j137 13), (j137 14), (j137 15), (j137 16), (j137 17), (j137 18), (j137 19), (j137 20), (j137 21), (j137 22), (j137 23), (j137 24), (j137 25), (j137 26), (j137 27), (j137 28), (j137 29)], []⟩) (by kernel_rfl) ?_
                 refine wpList_nil ?_
                 refine hK155 _ _ ?_
                 refine wp_seq_k (fun K156 hK157 => ?_)
                 refine wp_region_lit ?_
                 have HS158 := HS136.u1
                 obtain ⟨f159, L160, HS161, HR162, th163⟩ := (HO46.mono (L70.trans (L79.trans (L110.trans L134)))).lend HS158
                 have hq_ := bind_some h; clear h; obtain ⟨⟨vt164, vt165⟩, hc166, h⟩ := hq_
                 refine seqL2 (by kernel_rfl) ?_
                 refine seqK rfl (does_call (f := 12) (args := #[.slice A43 vt36.length c44, .int .i64 x138]) (by kernel_rfl) (squeeze_Row.calls k A43 c44 vt36 x138 HS161 HR162 vt164 vt165 hc166) ?_)
                 rintro _ W169 ⟨f167, A171, c172, s173, rfl, L168, HS170, HO174⟩
                 refine ⟨_, rfl, ?_⟩
                 obtain ⟨f176, L177, HS178⟩ := th163 L168 HS170
                 replace HO174 := HO174.flat (g := f176) (fun _ _ _ _ h_ => h_)
                 refine seqS5 (a' := ⟨#[.slice A2 l1.length c3, uV, (j137 0), pV b28 0, .slice A43 vt36.length c44, iV vt37, iV vt55, iV vt56, .slice A64 vt57.length c65, iV vt58, iV x138, .slice A171 vt164.length c172, iV vt165, .slice A2 l1.length c3, .agg #[.slice A2 l1.length c3, iV 0], pV b9 0, (ag_Frame vt13 A20 c21 A25 c26), .tuple #[.slice A43 vt36.length c44, iV vt37], pV b28 0, iV vt13.W, pV b28 1, iV vt13.H, pV b28 3, .slice A25 vt13.Counts.length c26, .tuple #[.slice A43 vt36.length c44, iV vt37], .slice A43 vt36.length c44, iV vt37, .tuple #[iV vt55, iV vt56, .slice A64 vt57.length c65, iV vt58], .slice A43 vt36.length c44, .tuple #[iV vt55, iV vt56, .slice A64 vt57.length c65, iV vt58], iV vt55, iV vt56, .slice A64 vt57.length c65, iV vt58, .bool vt76, fV, fV, iV vt37, fV, fV, fV, iV vt58, fV, fV, fV, iV vt55, pV b28 0, iV vt13.W, fV, fV, fV, iV vt56, pV b28 1, iV vt13.H, fV, fV, fV, .slice A64 vt57.length c65, pV b28 3, .slice A25 vt13.Counts.length c26, .bool vt103, fV, fV, fV, .slice A43 vt36.length c44, iV (vt36.length : Int), iV vt56, iV (w64 (72 * vt56)), iV (w64 (2 + (w64 (72 * vt56)))), fV, fV, iV vt56, iV x138, tV, iV x138, .tuple #[.slice A171 vt164.length c172, iV vt165], .slice A43 vt36.length c44, iV x138, .tuple #[.slice A171 vt164.length c172, iV vt165], .slice A171 vt164.length c172, iV vt165, (j137 12), (j137 13), (j137 14), (j137 15), (j137 16), (j137 17), (j137 18), (j137 19), (j137 20), (j137 21), (j137 22), (j137 23), (j137 24), (j137 25), (j137 26), (j137 27), (j137 28), (j137 29)], []⟩) (by kernel_rfl) ?_
                 refine wpList_nil ?_
                 refine hK157 _ _ ?_
                 refine wp_seq_k (fun K179 hK180 => ?_)
                 refine wp_region_lit ?_
                 refine seqS3 (a' := ⟨#[.slice A2 l1.length c3, uV, (j137 0), pV b28 0, .slice A43 vt36.length c44, iV vt37, iV vt55, iV vt56, .slice A64 vt57.length c65, iV vt58, iV x138, .slice A171 vt164.length c172, iV vt165, .slice A2 l1.length c3, .agg #[.slice A2 l1.length c3, iV 0], pV b9 0, (ag_Frame vt13 A20 c21 A25 c26), .tuple #[.slice A43 vt36.length c44, iV vt37], pV b28 0, iV vt13.W, pV b28 1, iV vt13.H, pV b28 3, .slice A25 vt13.Counts.length c26, .tuple #[.slice A43 vt36.length c44, iV vt37], .slice A43 vt36.length c44, iV vt37, .tuple #[iV vt55, iV vt56, .slice A64 vt57.length c65, iV vt58], .slice A43 vt36.length c44, .tuple #[iV vt55, iV vt56, .slice A64 vt57.length c65, iV vt58], iV vt55, iV vt56, .slice A64 vt57.length c65, iV vt58, .bool vt76, fV, fV, iV vt37, fV, fV, fV, iV vt58, fV, fV, fV, iV vt55, pV b28 0, iV vt13.W, fV, fV, fV, iV vt56, pV b28 1, iV vt13.H, fV, fV, fV, .slice A64 vt57.length c65, pV b28 3, .slice A25 vt13.Counts.length c26, .bool vt103, fV, fV, fV, .slice A43 vt36.length c44, iV (vt36.length : Int), iV vt56, iV (w64 (72 * vt56)), iV (w64 (2 + (w64 (72 * vt56)))), fV, fV, iV vt56, iV x138, tV, iV x138, .tuple #[.slice A171 vt164.length c172, iV vt165], .slice A43 vt36.length c44, iV x138, .tuple #[.slice A171 vt164.length c172, iV vt165], .slice A171 vt164.length c172, iV vt165, iV vt165, .bool (vt165 != 0), .bool (vt165 != 0), (j137 15), (j137 16), (j137 17), (j137 18), (j137 19), (j137 20), (j137 21), (j137 22), (j137 23), (j137 24), (j137 25), (j137 26), (j137 27), (j137 28), (j137 29)], []⟩) (by kernel_rfl) ?_
                 have hq_ := ite_some h; clear h; rcases hq_ with ⟨c181, h⟩ | ⟨c181, h⟩
                 · have c181 : vt165 ≠ 0 := c181
                   refine seqRwI 82 (x := (vt165 != 0)) (v := true) (by kernel_rfl) (bne_iff_ne.mpr c181) ?_
                   refine seqRwI 83 (x := (vt165 != 0)) (v := true) (by kernel_rfl) (bne_iff_ne.mpr c181) ?_
                   refine seqS14 (a' := ⟨#[.slice A2 l1.length c3, uV, (j137 0), pV b28 0, .slice A43 vt36.length c44, iV vt37, iV vt55, iV vt56, .slice A64 vt57.length c65, iV vt58, iV x138, .slice A171 vt164.length c172, iV vt165, .slice A2 l1.length c3, .agg #[.slice A2 l1.length c3, iV 0], pV b9 0, (ag_Frame vt13 A20 c21 A25 c26), .tuple #[.slice A43 vt36.length c44, iV vt37], pV b28 0, iV vt13.W, pV b28 1, iV vt13.H, pV b28 3, .slice A25 vt13.Counts.length c26, .tuple #[.slice A43 vt36.length c44, iV vt37], .slice A43 vt36.length c44, iV vt37, .tuple #[iV vt55, iV vt56, .slice A64 vt57.length c65, iV vt58], .slice A43 vt36.length c44, .tuple #[iV vt55, iV vt56, .slice A64 vt57.length c65, iV vt58], iV vt55, iV vt56, .slice A64 vt57.length c65, iV vt58, .bool vt76, fV, fV, iV vt37, fV, fV, fV, iV vt58, fV, fV, fV, iV vt55, pV b28 0, iV vt13.W, fV, fV, fV, iV vt56, pV b28 1, iV vt13.H, fV, fV, fV, .slice A64 vt57.length c65, pV b28 3, .slice A25 vt13.Counts.length c26, .bool vt103, fV, fV, fV, .slice A43 vt36.length c44, iV (vt36.length : Int), iV vt56, iV (w64 (72 * vt56)), iV (w64 (2 + (w64 (72 * vt56)))), fV, fV, iV vt56, iV x138, tV, iV x138, .tuple #[.slice A171 vt164.length c172, iV vt165], .slice A43 vt36.length c44, iV x138, .tuple #[.slice A171 vt164.length c172, iV vt165], .slice A171 vt164.length c172, iV vt165, iV vt165, tV, tV, uV, uV, uV, uV, uV, uV, uV, uV, uV, uV, uV, uV, uV, tV, (j137 29)], []⟩) (by kernel_rfl) ?_
                   refine wpList_nil ?_
                   refine hK180 _ _ ?_
                   refine condT (by kernel_rfl) ?_
                   refine wp_seq_k (fun K182 hK183 => ?_)
                   refine wp_region_lit ?_
                   refine seqS1 (a' := ⟨#[.slice A2 l1.length c3, uV, fV, pV b28 0, .slice A43 vt36.length c44, iV vt37, iV vt55, iV vt56, .slice A64 vt57.length c65, iV vt58, iV x138, .slice A171 vt164.length c172, iV vt165, .slice A2 l1.length c3, .agg #[.slice A2 l1.length c3, iV 0], pV b9 0, (ag_Frame vt13 A20 c21 A25 c26), .tuple #[.slice A43 vt36.length c44, iV vt37], pV b28 0, iV vt13.W, pV b28 1, iV vt13.H, pV b28 3, .slice A25 vt13.Counts.length c26, .tuple #[.slice A43 vt36.length c44, iV vt37], .slice A43 vt36.length c44, iV vt37, .tuple #[iV vt55, iV vt56, .slice A64 vt57.length c65, iV vt58], .slice A43 vt36.length c44, .tuple #[iV vt55, iV vt56, .slice A64 vt57.length c65, iV vt58], iV vt55, iV vt56, .slice A64 vt57.length c65, iV vt58, .bool vt76, fV, fV, iV vt37, fV, fV, fV, iV vt58, fV, fV, fV, iV vt55, pV b28 0, iV vt13.W, fV, fV, fV, iV vt56, pV b28 1, iV vt13.H, fV, fV, fV, .slice A64 vt57.length c65, pV b28 3, .slice A25 vt13.Counts.length c26, .bool vt103, fV, fV, fV, .slice A43 vt36.length c44, iV (vt36.length : Int), iV vt56, iV (w64 (72 * vt56)), iV (w64 (2 + (w64 (72 * vt56)))), fV, fV, iV vt56, iV x138, tV, iV x138, .tuple #[.slice A171 vt164.length c172, iV vt165], .slice A43 vt36.length c44, iV x138, .tuple #[.slice A171 vt164.length c172, iV vt165], .slice A171 vt164.length c172, iV vt165, iV vt165, tV, tV, uV, uV, uV, uV, uV, uV, uV, uV, uV, uV, uV, uV, uV, tV, (j137 29)], []⟩) (by kernel_rfl) ?_
                   refine wpList_nil ?_
                   refine hK183 _ _ ?_
                   refine wp_ret ?_
                   refine hr150 _ _ ?_
                   refine hr126 _ _ ?_
                   refine hret _ _ ?_
                   refine ends_still (v := Value.bool false) (by kernel_rfl) (by kernel_rfl) ?_
                   have HS262 := HS178.drop
                   have HS263 := HS262.drop
                   have HS264 := HS263.drop
                   have HS265 := HS264.drop
                   have HS266 := HS265.drop
                   have HS267 := HS266.drop
                   replace h := JR216 _ h
                   injection h with h
                   subst h
                   exact ⟨f176, rfl, (L17.trans (L40.trans (L70.trans (L79.trans (L110.trans (L134.trans L177)))))), HS267⟩
                 · have c181 : ¬ (vt165 ≠ 0) := c181
                   refine seqRwI 82 (x := (vt165 != 0)) (v := false) (by kernel_rfl) (bne_eq_false_iff_eq.mpr (Decidable.of_not_not c181)) ?_
                   refine seqRwI 83 (x := (vt165 != 0)) (v := false) (by kernel_rfl) (bne_eq_false_iff_eq.mpr (Decidable.of_not_not c181)) ?_
                   refine seqL2 (by kernel_rfl) ?_
                   refine seqG (by kernel_rfl) (does_run (run_load rfl Tryd.underlying27 rfl (by kernel_rfl : _ = Value.pointer (some ⟨b28, 3, none⟩)) (HS178.u3.cell 3)) ?_)
                   have hq_ := guard_some h; clear h; obtain ⟨c184, h⟩ := hq_
                   have c184 : 0 ≤ (w64 (x138 * vt55)) := c184
                   have hq_ := guard_some h; clear h; obtain ⟨c185, h⟩ := hq_
                   have c185 : (w64 (x138 * vt55)) ≤ (w64 ((w64 (x138 + 1)) * vt55)) := c185
                   have hq_ := guard_some h; clear h; obtain ⟨c186, h⟩ := hq_
                   have c186 : (w64 ((w64 (x138 + 1)) * vt55)) ≤ (vt13.Counts.length : Int) := c186
                   refine seqL7 (by kernel_rfl) ?_
                   refine seqG (by kernel_rfl) (does_cutLH (e := (tInt .i64)) (xs := vt13.Counts) rfl Tryd.underlying27 (by kernel_rfl) (by kernel_rfl : _ = Value.slice A25 vt13.Counts.length c26) (by kernel_rfl : _ = Value.int .i64 (w64 (x138 * vt55))) (by kernel_rfl : _ = Value.int .i64 (w64 ((w64 (x138 + 1)) * vt55)))  c184 c185 c186 (HR27.mono (L40.trans (L70.trans (L79.trans (L110.trans (L134.trans L177)))))) ?_)
                   intro A187 c188 HR189
                   have HS190 := HS178.u1
                   obtain ⟨f191, L192, HS193, HR194, th195⟩ := HO174.lend HS190
                   have hq_ := bind_some h; clear h; obtain ⟨vt196, hc197, h⟩ := hq_
                   refine seqG (by kernel_rfl) (does_call (f := 13) (args := #[.slice A171 vt164.length c172, .slice A187 ((vt13.Counts.take (w64 ((w64 (x138 + 1)) * vt55)).toNat).drop (w64 (x138 * vt55)).toNat).length c188]) (by kernel_rfl) (slices_Equal_int.calls k A171 c172 A187 c188 vt164 ((vt13.Counts.take (w64 ((w64 (x138 + 1)) * vt55)).toNat).drop (w64 (x138 * vt55)).toNat) HS193 HR194 (HR189.mono L192) vt196 hc197) ?_)
                   rintro _ W200 ⟨f198, rfl, L199, HS201⟩
                   refine ⟨_, rfl, ?_⟩
                   obtain ⟨f202, L203, HS204⟩ := th195 L199 HS201
                   refine seqS2 (a' := ⟨#[.slice A2 l1.length c3, uV, (j137 0), pV b28 0, .slice A43 vt36.length c44, iV vt37, iV vt55, iV vt56, .slice A64 vt57.length c65, iV vt58, iV x138, .slice A171 vt164.length c172, iV vt165, .slice A2 l1.length c3, .agg #[.slice A2 l1.length c3, iV 0], pV b9 0, (ag_Frame vt13 A20 c21 A25 c26), .tuple #[.slice A43 vt36.length c44, iV vt37], pV b28 0, iV vt13.W, pV b28 1, iV vt13.H, pV b28 3, .slice A25 vt13.Counts.length c26, .tuple #[.slice A43 vt36.length c44, iV vt37], .slice A43 vt36.length c44, iV vt37, .tuple #[iV vt55, iV vt56, .slice A64 vt57.length c65, iV vt58], .slice A43 vt36.length c44, .tuple #[iV vt55, iV vt56, .slice A64 vt57.length c65, iV vt58], iV vt55, iV vt56, .slice A64 vt57.length c65, iV vt58, .bool vt76, fV, fV, iV vt37, fV, fV, fV, iV vt58, fV, fV, fV, iV vt55, pV b28 0, iV vt13.W, fV, fV, fV, iV vt56, pV b28 1, iV vt13.H, fV, fV, fV, .slice A64 vt57.length c65, pV b28 3, .slice A25 vt13.Counts.length c26, .bool vt103, fV, fV, fV, .slice A43 vt36.length c44, iV (vt36.length : Int), iV vt56, iV (w64 (72 * vt56)), iV (w64 (2 + (w64 (72 * vt56)))), fV, fV, iV vt56, iV x138, tV, iV x138, .tuple #[.slice A171 vt164.length c172, iV vt165], .slice A43 vt36.length c44, iV x138, .tuple #[.slice A171 vt164.length c172, iV vt165], .slice A171 vt164.length c172, iV vt165, iV vt165, fV, fV, .slice A171 vt164.length c172, pV b28 3, .slice A25 vt13.Counts.length c26, iV x138, iV vt55, iV (w64 (x138 * vt55)), iV x138, iV (w64 (x138 + 1)), iV vt55, iV (w64 ((w64 (x138 + 1)) * vt55)), .slice A187 ((vt13.Counts.take (w64 ((w64 (x138 + 1)) * vt55)).toNat).drop (w64 (x138 * vt55)).toNat).length c188, .bool vt196, .bool (!vt196), .bool (!vt196), (j137 29)], []⟩) (by kernel_rfl) ?_
                   refine wpList_nil ?_
                   refine hK180 _ _ ?_
                   have hq_ := ite_some h; clear h; rcases hq_ with ⟨c206, h⟩ | ⟨c206, h⟩
                   · have c206 : ¬ (vt196 = true) := c206
                     refine wpRwI 96 (x := (!vt196)) (v := true) (by kernel_rfl) (congrArg (fun b_ => !b_) (show vt196 = false from (Bool.eq_false_iff.mpr c206)) : (!vt196) = true) ?_
                     refine wpRwI 97 (x := (!vt196)) (v := true) (by kernel_rfl) (congrArg (fun b_ => !b_) (show vt196 = false from (Bool.eq_false_iff.mpr c206)) : (!vt196) = true) ?_
                     refine condT (by kernel_rfl) ?_
                     refine wp_seq_k (fun K207 hK208 => ?_)
                     refine wp_region_lit ?_
                     refine seqS1 (a' := ⟨#[.slice A2 l1.length c3, uV, fV, pV b28 0, .slice A43 vt36.length c44, iV vt37, iV vt55, iV vt56, .slice A64 vt57.length c65, iV vt58, iV x138, .slice A171 vt164.length c172, iV vt165, .slice A2 l1.length c3, .agg #[.slice A2 l1.length c3, iV 0], pV b9 0, (ag_Frame vt13 A20 c21 A25 c26), .tuple #[.slice A43 vt36.length c44, iV vt37], pV b28 0, iV vt13.W, pV b28 1, iV vt13.H, pV b28 3, .slice A25 vt13.Counts.length c26, .tuple #[.slice A43 vt36.length c44, iV vt37], .slice A43 vt36.length c44, iV vt37, .tuple #[iV vt55, iV vt56, .slice A64 vt57.length c65, iV vt58], .slice A43 vt36.length c44, .tuple #[iV vt55, iV vt56, .slice A64 vt57.length c65, iV vt58], iV vt55, iV vt56, .slice A64 vt57.length c65, iV vt58, .bool vt76, fV, fV, iV vt37, fV, fV, fV, iV vt58, fV, fV, fV, iV vt55, pV b28 0, iV vt13.W, fV, fV, fV, iV vt56, pV b28 1, iV vt13.H, fV, fV, fV, .slice A64 vt57.length c65, pV b28 3, .slice A25 vt13.Counts.length c26, .bool vt103, fV, fV, fV, .slice A43 vt36.length c44, iV (vt36.length : Int), iV vt56, iV (w64 (72 * vt56)), iV (w64 (2 + (w64 (72 * vt56)))), fV, fV, iV vt56, iV x138, tV, iV x138, .tuple #[.slice A171 vt164.length c172, iV vt165], .slice A43 vt36.length c44, iV x138, .tuple #[.slice A171 vt164.length c172, iV vt165], .slice A171 vt164.length c172, iV vt165, iV vt165, fV, fV, .slice A171 vt164.length c172, pV b28 3, .slice A25 vt13.Counts.length c26, iV x138, iV vt55, iV (w64 (x138 * vt55)), iV x138, iV (w64 (x138 + 1)), iV vt55, iV (w64 ((w64 (x138 + 1)) * vt55)), .slice A187 ((vt13.Counts.take (w64 ((w64 (x138 + 1)) * vt55)).toNat).drop (w64 (x138 * vt55)).toNat).length c188, .bool vt196, tV, tV, (j137 29)], []⟩) (by kernel_rfl) ?_
                     refine wpList_nil ?_
                     refine hK208 _ _ ?_
                     refine wp_ret ?_
                     refine hr150 _ _ ?_
                     refine hr126 _ _ ?_
                     refine hret _ _ ?_
                     refine ends_still (v := Value.bool false) (by kernel_rfl) (by kernel_rfl) ?_
                     have HS268 := HS204.drop
                     have HS269 := HS268.drop
                     have HS270 := HS269.drop
                     have HS271 := HS270.drop
                     have HS272 := HS271.drop
                     have HS273 := HS272.drop
                     replace h := JR216 _ h
                     injection h with h
                     subst h
                     exact ⟨f202, rfl, (L17.trans (L40.trans (L70.trans (L79.trans (L110.trans (L134.trans (L177.trans L203))))))), HS273⟩
                   · have c206 : ¬ (¬ (vt196 = true)) := c206
                     refine wpRwI 96 (x := (!vt196)) (v := false) (by kernel_rfl) (congrArg (fun b_ => !b_) (show vt196 = true from (Decidable.of_not_not c206)) : (!vt196) = false) ?_
                     refine wpRwI 97 (x := (!vt196)) (v := false) (by kernel_rfl) (congrArg (fun b_ => !b_) (show vt196 = true from (Decidable.of_not_not c206)) : (!vt196) = false) ?_
                     refine condF (by kernel_rfl) ?_
                     refine wp_skip ?_
                     refine hn149 _ _ ?_
                     refine hK146 _ _ ?_
                     refine wp_region_lit ?_
                     refine seqS2 (a' := ⟨#[.slice A2 l1.length c3, uV, (j137 0), pV b28 0, .slice A43 vt36.length c44, iV vt37, iV vt55, iV vt56, .slice A64 vt57.length c65, iV vt58, iV x138, .slice A171 vt164.length c172, iV vt165, .slice A2 l1.length c3, .agg #[.slice A2 l1.length c3, iV 0], pV b9 0, (ag_Frame vt13 A20 c21 A25 c26), .tuple #[.slice A43 vt36.length c44, iV vt37], pV b28 0, iV vt13.W, pV b28 1, iV vt13.H, pV b28 3, .slice A25 vt13.Counts.length c26, .tuple #[.slice A43 vt36.length c44, iV vt37], .slice A43 vt36.length c44, iV vt37, .tuple #[iV vt55, iV vt56, .slice A64 vt57.length c65, iV vt58], .slice A43 vt36.length c44, .tuple #[iV vt55, iV vt56, .slice A64 vt57.length c65, iV vt58], iV vt55, iV vt56, .slice A64 vt57.length c65, iV vt58, .bool vt76, fV, fV, iV vt37, fV, fV, fV, iV vt58, fV, fV, fV, iV vt55, pV b28 0, iV vt13.W, fV, fV, fV, iV vt56, pV b28 1, iV vt13.H, fV, fV, fV, .slice A64 vt57.length c65, pV b28 3, .slice A25 vt13.Counts.length c26, .bool vt103, fV, fV, fV, .slice A43 vt36.length c44, iV (vt36.length : Int), iV vt56, iV (w64 (72 * vt56)), iV (w64 (2 + (w64 (72 * vt56)))), fV, fV, iV vt56, iV (w64 (x138 + 1)), tV, iV x138, .tuple #[.slice A171 vt164.length c172, iV vt165], .slice A43 vt36.length c44, iV x138, .tuple #[.slice A171 vt164.length c172, iV vt165], .slice A171 vt164.length c172, iV vt165, iV vt165, fV, fV, .slice A171 vt164.length c172, pV b28 3, .slice A25 vt13.Counts.length c26, iV x138, iV vt55, iV (w64 (x138 * vt55)), iV x138, iV (w64 (x138 + 1)), iV vt55, iV (w64 ((w64 (x138 + 1)) * vt55)), .slice A187 ((vt13.Counts.take (w64 ((w64 (x138 + 1)) * vt55)).toNat).drop (w64 (x138 * vt55)).toNat).length c188, .bool vt196, fV, fV, iV (w64 (x138 + 1))], []⟩) (by kernel_rfl) ?_
                     refine wpList_nil ?_
                     refine hK131 n132 _ _ (Nat.lt_succ_self _) ?_
                     have HS218 := HS204.u5
                     have HS219 := HS218.u5
                     have HS220 := HS219.u5
                     have HS221 := HS220.u4
                     have HS222 := HS221.u5
                     have HS223 := HS222.u5
                     have HS224 := HS223.drop
                     exact ⟨f202, (w64 (x138 + 1)), (fun i_ => [(j137 0), Value.int .i64 x138, Value.slice A171 vt164.length c172, Value.int .i64 vt165, Value.bool true, Value.int .i64 x138, Value.tuple #[.slice A171 vt164.length c172, .int .i64 vt165], Value.slice A43 vt36.length c44, Value.int .i64 x138, Value.tuple #[.slice A171 vt164.length c172, .int .i64 vt165], Value.slice A171 vt164.length c172, Value.int .i64 vt165, Value.int .i64 vt165, Value.bool false, Value.bool false, Value.slice A171 vt164.length c172, Value.pointer (some ⟨b28, 3, none⟩), Value.slice A25 vt13.Counts.length c26, Value.int .i64 x138, Value.int .i64 vt55, Value.int .i64 (w64 (x138 * vt55)), Value.int .i64 x138, Value.int .i64 (w64 (x138 + 1)), Value.int .i64 vt55, Value.int .i64 (w64 ((w64 (x138 + 1)) * vt55)), Value.slice A187 ((vt13.Counts.take (w64 ((w64 (x138 + 1)) * vt55)).toNat).drop (w64 (x138 * vt55)).toNat).length c188, Value.bool vt196, Value.bool false, Value.bool false, Value.int .i64 (w64 (x138 + 1))].getD i_ undef), (L134.trans (L177.trans L203)), HS224, h, (by kernel_rfl)⟩
               · have c144 : ¬ (x138 < vt56) := c144
                 refine wpRwI 73 (x := (decide (x138 < vt56))) (v := false) (by kernel_rfl) (decide_eq_false c144) ?_
                 refine condF (by kernel_rfl) ?_
                 refine wp_exit ?_
                 refine hx124 _ _ ?_
                 exact J215 f133 (fun i_ => [(j137 0), (j137 1), (j137 2), (j137 3), Value.int .i64 x138, Value.bool false, (j137 5), (j137 6), (j137 7), (j137 8), (j137 9), (j137 10), (j137 11), (j137 12), (j137 13), (j137 14), (j137 15), (j137 16), (j137 17), (j137 18), (j137 19), (j137 20), (j137 21), (j137 22), (j137 23), (j137 24), (j137 25), (j137 26), (j137 27), (j137 28), (j137 29)].getD i_ undef) W135 _ L134 h HS136 (by kernel_rfl)

end Go.Sp.B1
