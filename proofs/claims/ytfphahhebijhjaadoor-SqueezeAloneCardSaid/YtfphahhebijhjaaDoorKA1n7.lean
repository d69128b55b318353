import Derived.Test.YtfphahhebijhjaaDoorProg
import Derived.Test.YtfphahhebijhjaaDoorSpCopy
import Derived.Test.YtfphahhebijhjaaDoorFA1
import Derived.Test.YtfphahhebijhjaaDoorSpStr
import Derived.Test.YtfphahhebijhjaaDoorConv
import Derived.Test.YtfphahhebijhjaaDoorSpRound
import Derived.Test.YtfphahhebijhjaaDoorKA1n0
import Derived.Test.YtfphahhebijhjaaDoorKA1n1
import Derived.Test.YtfphahhebijhjaaDoorKA1n2
import Derived.Test.YtfphahhebijhjaaDoorKA1n3
import Derived.Test.YtfphahhebijhjaaDoorKA1n4
import Derived.Test.YtfphahhebijhjaaDoorKA1n5
import Derived.Test.YtfphahhebijhjaaDoorKA1n6
namespace Go.Sp.A1
open Go Go.Sp Go.Proofs
set_option linter.unusedVariables false
attribute [local irreducible] wpList AnyL Code.wp Calls Does Code.wpIn wpListIn CallsIn bodyPostM LeavesInM
set_option maxRecDepth 100000 in
set_option maxHeartbeats 4000000 in
theorem spykeep3_SqueezeAlone.calls (k : Nat) (A2 : Option Addr) (c3 : Nat) (l1 : List Int) (y5 : Int) (x6 : Int) {t w : World} {f : FM} {H : List Seg} (HS : St t w f (H)) (HR4 : SlR (tInt .i64) f A2 c3 l1) (HT : TabF Tryd.prog "internal/strconv.uint64pow10" .u64 Go.Lib.pow10Tab f) (rr1 : Bool) (h : spykeep3_SqueezeAlone k l1 y5 x6 = some rr1) :
    Calls Tryd.prog 4 #[.slice A2 l1.length c3, .int .i64 y5, .int .u8 x6] w (fun e w' => ∃ (g : FM), e = .returned (Value.bool rr1) ∧ FM.le f g ∧ St t w' g (H)) := by
 unfold spykeep3_SqueezeAlone at h
 refine enter Tryd.func4 rfl (tm := #[.slice A2 l1.length c3, iV y5, .int .u8 x6, uV, uV, uV, uV, uV, uV, uV, uV, uV, uV, uV, uV, uV, uV, uV, uV, uV, uV, uV, uV, uV, uV, uV, uV, uV, uV, uV, uV, uV, uV, uV, uV, uV, uV, uV, uV, uV, uV, uV, uV, uV, uV, uV, uV, uV, uV, uV, uV, uV, uV, uV, uV, uV, uV, uV, uV, uV, uV, uV, uV, uV, uV, uV, uV, uV, uV, uV, uV, uV, uV, uV, uV, uV, uV, uV, uV, uV, uV, uV, uV, uV, uV, uV, uV, uV, uV, uV, uV, uV, uV, uV, uV, uV, uV, uV, uV, uV, uV, uV, uV, uV, uV, uV, uV, uV, uV, uV, uV, uV, uV, uV, uV]) (by kernel_rfl) ?_
 intro B hret hnor hnp
 refine wp_seq_k (fun K7 hK8 => ?_)
 refine wp_region_lit ?_
 refine seqS1 (a' := ⟨#[.slice A2 l1.length c3, iV y5, .int .u8 x6, uV, uV, uV, fV, uV, uV, uV, uV, uV, uV, uV, uV, uV, uV, uV, uV, uV, uV, uV, uV, uV, uV, uV, uV, uV, uV, uV, uV, uV, uV, uV, uV, uV, uV, uV, uV, uV, uV, uV, uV, uV, uV, uV, uV, uV, uV, uV, uV, uV, uV, uV, uV, uV, uV, uV, uV, uV, uV, uV, uV, uV, uV, uV, uV, uV, uV, uV, uV, uV, uV, uV, uV, uV, uV, uV, uV, uV, uV, uV, uV, uV, uV, uV, uV, uV, uV, uV, uV, uV, uV, uV, uV, uV, uV, uV, uV, uV, uV, uV, uV, uV, uV, uV, uV, uV, uV, uV, uV, uV, uV, uV, uV], []⟩) (by kernel_rfl) ?_
 refine wpList_nil ?_
 refine hK8 _ _ ?_
 refine wp_seq_k (fun K9 hK10 => ?_)
 refine wp_region_lit ?_
 refine seqL2 (by kernel_rfl) ?_
 refine seqK rfl (does_box (cs := #[.slice A2 l1.length c3, .int .i64 0]) rfl (by kernel_rfl : _ = Value.agg #[.slice A2 l1.length c3, .int .i64 0]) rfl HS ?_)
 intro b11 W12 HS13
 have hq_ := bind_some h; clear h; obtain ⟨⟨vt15, vt16⟩, hc17, h⟩ := hq_
 refine seqK rfl (does_call (f := 10) (args := #[.pointer (some ⟨b11, 0, none⟩)]) (by kernel_rfl) (spykeep3_noted.calls k b11 A2 c3 (⟨l1, 0⟩ : S_Stream) HS13 HR4 HT vt15 vt16 hc17) ?_)
 rintro _ W20 ⟨f18, A22, c23, s24, A27, c28, rfl, L19, HS21, HO25, HR29⟩
 refine ⟨_, rfl, ?_⟩
 refine seqK rfl (does_alloc (z := Value.agg #[.int .i64 0, .int .i64 0, .slice none 0 0, .slice none 0 0]) (cs := #[.int .i64 0, .int .i64 0, .slice none 0 0, .slice none 0 0]) rfl (by kernel_rfl) rfl HS21 ?_)
 intro b30 W31 HS32
 refine seqK rfl (does_store (n := 4) (vs := [.int .i64 vt15.W, .int .i64 vt15.H, .slice A22 vt15.Cards.length c23, .slice A27 vt15.Counts.length c28]) (cs' := #[.int .i64 vt15.W, .int .i64 vt15.H, .slice A22 vt15.Cards.length c23, .slice A27 vt15.Counts.length c28]) rfl (by kernel_rfl) (by kernel_rfl : _ = Value.pointer (some ⟨b30, 0, none⟩)) (by kernel_rfl : _ = Value.agg #[.int .i64 vt15.W, .int .i64 vt15.H, .slice A22 vt15.Cards.length c23, .slice A27 vt15.Counts.length c28]) rfl rfl (by intro u_ hu_; simp only [List.mem_cons, List.not_mem_nil, or_false] at hu_; rcases hu_ with rfl | rfl | rfl | rfl <;> rfl) HS32 (Nat.le_of_ble_eq_true rfl) (by kernel_rfl) ?_)
 intro W34 HS35
 refine wpList_nil ?_
 refine hK10 _ _ ?_
 refine wp_seq_k (fun K36 hK37 => ?_)
 refine wp_region_lit ?_
 refine seqL1 (by kernel_rfl) ?_
 refine seqK rfl (does_run (run_load rfl Tryd.underlying3 rfl (by kernel_rfl : _ = Value.pointer (some ⟨b30, 0, none⟩)) (HS35.cell 0)) ?_)
 refine seqL1 (by kernel_rfl) ?_
 refine seqK rfl (does_run (run_load rfl Tryd.underlying3 rfl (by kernel_rfl : _ = Value.pointer (some ⟨b30, 1, none⟩)) (HS35.cell 1)) ?_)
 refine seqL1 (by kernel_rfl) ?_
 refine seqK rfl (does_run (run_load rfl Tryd.underlying27 rfl (by kernel_rfl : _ = Value.pointer (some ⟨b30, 3, none⟩)) (HS35.cell 3)) ?_)
 have hq_ := bind_some h; clear h; obtain ⟨⟨vt38, vt39⟩, hc40, h⟩ := hq_
 refine seqK rfl (does_call (f := 7) (args := #[.int .i64 vt15.W, .int .i64 vt15.H, .slice A27 vt15.Counts.length c28]) (by kernel_rfl) (squeeze_Pack.calls k A27 c28 vt15.W vt15.H vt15.Counts HS35 HR29 vt38 vt39 hc40) ?_)
 rintro _ W43 ⟨f41, A45, c46, s47, rfl, L42, HS44, HO48⟩
 refine ⟨_, rfl, ?_⟩
 refine seqS5 (a' := ⟨#[.slice A2 l1.length c3, iV y5, .int .u8 x6, uV, uV, uV, fV, pV b30 0, .slice A45 vt38.length c46, iV vt39, uV, uV, uV, uV, uV, uV, uV, .slice A2 l1.length c3, .agg #[.slice A2 l1.length c3, iV 0], pV b11 0, (ag_Frame vt15 A22 c23 A27 c28), .tuple #[.slice A45 vt38.length c46, iV vt39], pV b30 0, iV vt15.W, pV b30 1, iV vt15.H, pV b30 3, .slice A27 vt15.Counts.length c28, .tuple #[.slice A45 vt38.length c46, iV vt39], .slice A45 vt38.length c46, iV vt39, uV, uV, uV, uV, uV, uV, uV, uV, uV, uV, uV, uV, uV, uV, uV, uV, uV, uV, uV, uV, uV, uV, uV, uV, uV, uV, uV, uV, uV, uV, uV, uV, uV, uV, uV, uV, uV, uV, uV, uV, uV, uV, uV, uV, uV, uV, uV, uV, uV, uV, uV, uV, uV, uV, uV, uV, uV, uV, uV, uV, uV, uV, uV, uV, uV, uV, uV, uV, uV, uV, uV, uV, uV, uV, uV, uV, uV, uV, uV, uV, uV, uV, uV, uV], []⟩) (by kernel_rfl) ?_
 refine wpList_nil ?_
 refine hK37 _ _ ?_
 refine wp_seq_k (fun K50 hK51 => ?_)
 refine wp_region_lit ?_
 obtain ⟨f52, L53, HS54, HR55, th56⟩ := HO48.lend HS44
 have hq_ := bind_some h; clear h; obtain ⟨⟨vt57, vt58, vt59, vt60⟩, hc61, h⟩ := hq_
 refine seqL1 (by kernel_rfl) ?_
 refine seqK rfl (does_call (f := 11) (args := #[.slice A45 vt38.length c46]) (by kernel_rfl) (squeeze_Index.calls k A45 c46 vt38 HS54 HR55 vt57 vt58 vt59 vt60 hc61) ?_)
 rintro _ W64 ⟨f62, A66, c67, s68, rfl, L63, HS65, HO69⟩
 refine ⟨_, rfl, ?_⟩
 obtain ⟨f71, L72, HS73⟩ := th56 L63 HS65
 replace HO69 := HO69.flat (g := f71) (fun _ _ _ _ h_ => h_)
 refine seqS9 (a' := ⟨#[.slice A2 l1.length c3, iV y5, .int .u8 x6, uV, uV, uV, fV, pV b30 0, .slice A45 vt38.length c46, iV vt39, iV vt57, iV vt58, .slice A66 vt59.length c67, iV vt60, uV, uV, uV, .slice A2 l1.length c3, .agg #[.slice A2 l1.length c3, iV 0], pV b11 0, (ag_Frame vt15 A22 c23 A27 c28), .tuple #[.slice A45 vt38.length c46, iV vt39], pV b30 0, iV vt15.W, pV b30 1, iV vt15.H, pV b30 3, .slice A27 vt15.Counts.length c28, .tuple #[.slice A45 vt38.length c46, iV vt39], .slice A45 vt38.length c46, iV vt39, .tuple #[iV vt57, iV vt58, .slice A66 vt59.length c67, iV vt60], .slice A45 vt38.length c46, .tuple #[iV vt57, iV vt58, .slice A66 vt59.length c67, iV vt60], iV vt57, iV vt58, .slice A66 vt59.length c67, iV vt60, uV, uV, uV, uV, uV, uV, uV, uV, uV, uV, uV, uV, uV, uV, uV, uV, uV, uV, uV, uV, uV, uV, uV, uV, uV, uV, uV, uV, uV, uV, uV, uV, uV, uV, uV, uV, uV, uV, uV, uV, uV, uV, uV, uV, uV, uV, uV, uV, uV, uV, uV, uV, uV, uV, uV, uV, uV, uV, uV, uV, uV, uV, uV, uV, uV, uV, uV, uV, uV, uV, uV, uV, uV, uV, uV, uV, uV], []⟩) (by kernel_rfl) ?_
 refine wpList_nil ?_
 refine hK51 _ _ ?_
 refine wp_seq_k (fun K74 hK75 => ?_)
 refine wp_seq_k (fun K76 hK77 => ?_)
 refine wp_region_lit ?_
 have hq_ := bind_some h; clear h; obtain ⟨vt78, hc79, h⟩ := hq_
 refine seqK rfl (does_call (f := 9) (args := #[]) (by kernel_rfl) (spykeep3_squeezed.calls k  HS73 vt78 hc79) ?_)
 rintro _ W82 ⟨f80, rfl, L81, HS83⟩
 refine ⟨_, rfl, ?_⟩
 refine seqS2 (a' := ⟨#[.slice A2 l1.length c3, iV y5, .int .u8 x6, uV, uV, uV, fV, pV b30 0, .slice A45 vt38.length c46, iV vt39, iV vt57, iV vt58, .slice A66 vt59.length c67, iV vt60, uV, uV, uV, .slice A2 l1.length c3, .agg #[.slice A2 l1.length c3, iV 0], pV b11 0, (ag_Frame vt15 A22 c23 A27 c28), .tuple #[.slice A45 vt38.length c46, iV vt39], pV b30 0, iV vt15.W, pV b30 1, iV vt15.H, pV b30 3, .slice A27 vt15.Counts.length c28, .tuple #[.slice A45 vt38.length c46, iV vt39], .slice A45 vt38.length c46, iV vt39, .tuple #[iV vt57, iV vt58, .slice A66 vt59.length c67, iV vt60], .slice A45 vt38.length c46, .tuple #[iV vt57, iV vt58, .slice A66 vt59.length c67, iV vt60], iV vt57, iV vt58, .slice A66 vt59.length c67, iV vt60, .bool vt78, .bool (!vt78), .bool (!vt78), uV, uV, uV, uV, uV, uV, uV, uV, uV, uV, uV, uV, uV, uV, uV, uV, uV, uV, uV, uV, uV, uV, uV, uV, uV, uV, uV, uV, uV, uV, uV, uV, uV, uV, uV, uV, uV, uV, uV, uV, uV, uV, uV, uV, uV, uV, uV, uV, uV, uV, uV, uV, uV, uV, uV, uV, uV, uV, uV, uV, uV, uV, uV, uV, uV, uV, uV, uV, uV, uV, uV, uV, uV, uV], []⟩) (by kernel_rfl) ?_
 have hq_ := ite_some h; clear h; rcases hq_ with ⟨c84, h⟩ | ⟨c84, h⟩
 · have c84 : ¬ (vt78 = true) := c84
   refine seqRwI 39 (x := (!vt78)) (v := true) (by kernel_rfl) (congrArg (fun b_ => !b_) (show vt78 = false from (Bool.eq_false_iff.mpr c84)) : (!vt78) = true) ?_
   refine seqRwI 40 (x := (!vt78)) (v := true) (by kernel_rfl) (congrArg (fun b_ => !b_) (show vt78 = false from (Bool.eq_false_iff.mpr c84)) : (!vt78) = true) ?_
   refine seqS20 (a' := ⟨#[.slice A2 l1.length c3, iV y5, .int .u8 x6, uV, uV, uV, fV, pV b30 0, .slice A45 vt38.length c46, iV vt39, iV vt57, iV vt58, .slice A66 vt59.length c67, iV vt60, uV, uV, uV, .slice A2 l1.length c3, .agg #[.slice A2 l1.length c3, iV 0], pV b11 0, (ag_Frame vt15 A22 c23 A27 c28), .tuple #[.slice A45 vt38.length c46, iV vt39], pV b30 0, iV vt15.W, pV b30 1, iV vt15.H, pV b30 3, .slice A27 vt15.Counts.length c28, .tuple #[.slice A45 vt38.length c46, iV vt39], .slice A45 vt38.length c46, iV vt39, .tuple #[iV vt57, iV vt58, .slice A66 vt59.length c67, iV vt60], .slice A45 vt38.length c46, .tuple #[iV vt57, iV vt58, .slice A66 vt59.length c67, iV vt60], iV vt57, iV vt58, .slice A66 vt59.length c67, iV vt60, .bool vt78, tV, tV, uV, uV, tV, tV, uV, uV, tV, tV, uV, uV, uV, uV, uV, tV, tV, uV, uV, uV, uV, tV, uV, uV, uV, uV, uV, uV, uV, uV, uV, uV, uV, uV, uV, uV, uV, uV, uV, uV, uV, uV, uV, uV, uV, uV, uV, uV, uV, uV, uV, uV, uV, uV, uV, uV, uV, uV, uV, uV, uV, uV, uV, uV, uV, uV, uV, uV, uV, uV, uV, uV, uV, uV, uV, uV], []⟩) (by kernel_rfl) ?_
   refine wpList_nil ?_
   refine hK77 _ _ ?_
   refine condT (by kernel_rfl) ?_
   refine wp_seq_k (fun K85 hK86 => ?_)
   refine wp_region_lit ?_
   refine seqS1 (a' := ⟨#[.slice A2 l1.length c3, iV y5, .int .u8 x6, uV, uV, uV, fV, pV b30 0, .slice A45 vt38.length c46, iV vt39, iV vt57, iV vt58, .slice A66 vt59.length c67, iV vt60, uV, uV, uV, .slice A2 l1.length c3, .agg #[.slice A2 l1.length c3, iV 0], pV b11 0, (ag_Frame vt15 A22 c23 A27 c28), .tuple #[.slice A45 vt38.length c46, iV vt39], pV b30 0, iV vt15.W, pV b30 1, iV vt15.H, pV b30 3, .slice A27 vt15.Counts.length c28, .tuple #[.slice A45 vt38.length c46, iV vt39], .slice A45 vt38.length c46, iV vt39, .tuple #[iV vt57, iV vt58, .slice A66 vt59.length c67, iV vt60], .slice A45 vt38.length c46, .tuple #[iV vt57, iV vt58, .slice A66 vt59.length c67, iV vt60], iV vt57, iV vt58, .slice A66 vt59.length c67, iV vt60, .bool vt78, tV, tV, uV, uV, tV, tV, uV, uV, tV, tV, uV, uV, uV, uV, uV, tV, tV, uV, uV, uV, uV, tV, uV, uV, uV, uV, uV, uV, uV, uV, uV, uV, uV, uV, uV, uV, uV, uV, uV, uV, uV, uV, uV, uV, uV, uV, uV, uV, uV, uV, uV, uV, uV, uV, uV, uV, uV, uV, uV, uV, uV, uV, uV, uV, uV, uV, uV, uV, uV, uV, uV, uV, uV, uV, uV, uV], []⟩) (by kernel_rfl) ?_
   refine wpList_nil ?_
   refine hK86 _ _ ?_
   refine wp_ret ?_
   refine hret _ _ ?_
   refine ends_still (v := Value.bool false) (by kernel_rfl) (by kernel_rfl) ?_
   have HS282 := HS83.drop
   have HS283 := HS282.drop
   have HS284 := HS283.drop
   have HS285 := HS284.drop
   have HS286 := HS285.drop
   injection h with h
   subst h
   exact ⟨f80, rfl, (L19.trans (L42.trans (L72.trans L81))), HS286⟩
 · have c84 : ¬ (¬ (vt78 = true)) := c84
   refine seqRwI 39 (x := (!vt78)) (v := false) (by kernel_rfl) (congrArg (fun b_ => !b_) (show vt78 = true from (Decidable.of_not_not c84)) : (!vt78) = false) ?_
   refine seqRwI 40 (x := (!vt78)) (v := false) (by kernel_rfl) (congrArg (fun b_ => !b_) (show vt78 = true from (Decidable.of_not_not c84)) : (!vt78) = false) ?_
   refine seqS4 (a' := ⟨#[.slice A2 l1.length c3, iV y5, .int .u8 x6, uV, uV, uV, fV, pV b30 0, .slice A45 vt38.length c46, iV vt39, iV vt57, iV vt58, .slice A66 vt59.length c67, iV vt60, uV, uV, uV, .slice A2 l1.length c3, .agg #[.slice A2 l1.length c3, iV 0], pV b11 0, (ag_Frame vt15 A22 c23 A27 c28), .tuple #[.slice A45 vt38.length c46, iV vt39], pV b30 0, iV vt15.W, pV b30 1, iV vt15.H, pV b30 3, .slice A27 vt15.Counts.length c28, .tuple #[.slice A45 vt38.length c46, iV vt39], .slice A45 vt38.length c46, iV vt39, .tuple #[iV vt57, iV vt58, .slice A66 vt59.length c67, iV vt60], .slice A45 vt38.length c46, .tuple #[iV vt57, iV vt58, .slice A66 vt59.length c67, iV vt60], iV vt57, iV vt58, .slice A66 vt59.length c67, iV vt60, .bool vt78, fV, fV, iV vt39, .bool (vt39 != 0), .bool (vt39 != 0), .bool (vt39 != 0), uV, uV, uV, uV, uV, uV, uV, uV, uV, uV, uV, uV, uV, uV, uV, uV, uV, uV, uV, uV, uV, uV, uV, uV, uV, uV, uV, uV, uV, uV, uV, uV, uV, uV, uV, uV, uV, uV, uV, uV, uV, uV, uV, uV, uV, uV, uV, uV, uV, uV, uV, uV, uV, uV, uV, uV, uV, uV, uV, uV, uV, uV, uV, uV, uV, uV, uV, uV, uV, uV], []⟩) (by kernel_rfl) ?_
   have hq_ := ite_some h; clear h; rcases hq_ with ⟨c87, h⟩ | ⟨c87, h⟩
   · have c87 : vt39 ≠ 0 := c87
     refine seqRwI 42 (x := (vt39 != 0)) (v := true) (by kernel_rfl) (bne_iff_ne.mpr c87) ?_
     refine seqRwI 43 (x := (vt39 != 0)) (v := true) (by kernel_rfl) (bne_iff_ne.mpr c87) ?_
     refine seqRwI 44 (x := (vt39 != 0)) (v := true) (by kernel_rfl) (bne_iff_ne.mpr c87) ?_
     refine seqS16 (a' := ⟨#[.slice A2 l1.length c3, iV y5, .int .u8 x6, uV, uV, uV, fV, pV b30 0, .slice A45 vt38.length c46, iV vt39, iV vt57, iV vt58, .slice A66 vt59.length c67, iV vt60, uV, uV, uV, .slice A2 l1.length c3, .agg #[.slice A2 l1.length c3, iV 0], pV b11 0, (ag_Frame vt15 A22 c23 A27 c28), .tuple #[.slice A45 vt38.length c46, iV vt39], pV b30 0, iV vt15.W, pV b30 1, iV vt15.H, pV b30 3, .slice A27 vt15.Counts.length c28, .tuple #[.slice A45 vt38.length c46, iV vt39], .slice A45 vt38.length c46, iV vt39, .tuple #[iV vt57, iV vt58, .slice A66 vt59.length c67, iV vt60], .slice A45 vt38.length c46, .tuple #[iV vt57, iV vt58, .slice A66 vt59.length c67, iV vt60], iV vt57, iV vt58, .slice A66 vt59.length c67, iV vt60, .bool vt78, fV, fV, iV vt39, tV, tV, tV, uV, uV, tV, tV, uV, uV, uV, uV, uV, tV, tV, uV, uV, uV, uV, tV, uV, uV, uV, uV, uV, uV, uV, uV, uV, uV, uV, uV, uV, uV, uV, uV, uV, uV, uV, uV, uV, uV, uV, uV, uV, uV, uV, uV, uV, uV, uV, uV, uV, uV, uV, uV, uV, uV, uV, uV, uV, uV, uV, uV, uV, uV, uV, uV, uV, uV, uV, uV, uV, uV], []⟩) (by kernel_rfl) ?_
     refine wpList_nil ?_
     refine hK77 _ _ ?_
     refine condT (by kernel_rfl) ?_
     refine wp_seq_k (fun K88 hK89 => ?_)
     refine wp_region_lit ?_
     refine seqS1 (a' := ⟨#[.slice A2 l1.length c3, iV y5, .int .u8 x6, uV, uV, uV, fV, pV b30 0, .slice A45 vt38.length c46, iV vt39, iV vt57, iV vt58, .slice A66 vt59.length c67, iV vt60, uV, uV, uV, .slice A2 l1.length c3, .agg #[.slice A2 l1.length c3, iV 0], pV b11 0, (ag_Frame vt15 A22 c23 A27 c28), .tuple #[.slice A45 vt38.length c46, iV vt39], pV b30 0, iV vt15.W, pV b30 1, iV vt15.H, pV b30 3, .slice A27 vt15.Counts.length c28, .tuple #[.slice A45 vt38.length c46, iV vt39], .slice A45 vt38.length c46, iV vt39, .tuple #[iV vt57, iV vt58, .slice A66 vt59.length c67, iV vt60], .slice A45 vt38.length c46, .tuple #[iV vt57, iV vt58, .slice A66 vt59.length c67, iV vt60], iV vt57, iV vt58, .slice A66 vt59.length c67, iV vt60, .bool vt78, fV, fV, iV vt39, tV, tV, tV, uV, uV, tV, tV, uV, uV, uV, uV, uV, tV, tV, uV, uV, uV, uV, tV, uV, uV, uV, uV, uV, uV, uV, uV, uV, uV, uV, uV, uV, uV, uV, uV, uV, uV, uV, uV, uV, uV, uV, uV, uV, uV, uV, uV, uV, uV, uV, uV, uV, uV, uV, uV, uV, uV, uV, uV, uV, uV, uV, uV, uV, uV, uV, uV, uV, uV, uV, uV, uV, uV], []⟩) (by kernel_rfl) ?_
     refine wpList_nil ?_
     refine hK89 _ _ ?_
     refine wp_ret ?_
     refine hret _ _ ?_
     refine ends_still (v := Value.bool false) (by kernel_rfl) (by kernel_rfl) ?_
     have HS287 := HS83.drop
     have HS288 := HS287.drop
     have HS289 := HS288.drop
     have HS290 := HS289.drop
     have HS291 := HS290.drop
     injection h with h
     subst h
     exact ⟨f80, rfl, (L19.trans (L42.trans (L72.trans L81))), HS291⟩
   · have c87 : ¬ (vt39 ≠ 0) := c87
     refine seqRwI 42 (x := (vt39 != 0)) (v := false) (by kernel_rfl) (bne_eq_false_iff_eq.mpr (Decidable.of_not_not c87)) ?_
     refine seqRwI 43 (x := (vt39 != 0)) (v := false) (by kernel_rfl) (bne_eq_false_iff_eq.mpr (Decidable.of_not_not c87)) ?_
     refine seqRwI 44 (x := (vt39 != 0)) (v := false) (by kernel_rfl) (bne_eq_false_iff_eq.mpr (Decidable.of_not_not c87)) ?_
     refine seqS4 (a' := ⟨#[.slice A2 l1.length c3, iV y5, .int .u8 x6, uV, uV, uV, fV, pV b30 0, .slice A45 vt38.length c46, iV vt39, iV vt57, iV vt58, .slice A66 vt59.length c67, iV vt60, uV, uV, uV, .slice A2 l1.length c3, .agg #[.slice A2 l1.length c3, iV 0], pV b11 0, (ag_Frame vt15 A22 c23 A27 c28), .tuple #[.slice A45 vt38.length c46, iV vt39], pV b30 0, iV vt15.W, pV b30 1, iV vt15.H, pV b30 3, .slice A27 vt15.Counts.length c28, .tuple #[.slice A45 vt38.length c46, iV vt39], .slice A45 vt38.length c46, iV vt39, .tuple #[iV vt57, iV vt58, .slice A66 vt59.length c67, iV vt60], .slice A45 vt38.length c46, .tuple #[iV vt57, iV vt58, .slice A66 vt59.length c67, iV vt60], iV vt57, iV vt58, .slice A66 vt59.length c67, iV vt60, .bool vt78, fV, fV, iV vt39, fV, fV, fV, iV vt60, .bool (vt60 != 0), .bool (vt60 != 0), .bool (vt60 != 0), uV, uV, uV, uV, uV, uV, uV, uV, uV, uV, uV, uV, uV, uV, uV, uV, uV, uV, uV, uV, uV, uV, uV, uV, uV, uV, uV, uV, uV, uV, uV, uV, uV, uV, uV, uV, uV, uV, uV, uV, uV, uV, uV, uV, uV, uV, uV, uV, uV, uV, uV, uV, uV, uV, uV, uV, uV, uV, uV, uV, uV, uV, uV, uV, uV, uV], []⟩) (by kernel_rfl) ?_
     have hq_ := ite_some h; clear h; rcases hq_ with ⟨c90, h⟩ | ⟨c90, h⟩
     · have c90 : vt60 ≠ 0 := c90
       refine seqRwI 46 (x := (vt60 != 0)) (v := true) (by kernel_rfl) (bne_iff_ne.mpr c90) ?_
       refine seqRwI 47 (x := (vt60 != 0)) (v := true) (by kernel_rfl) (bne_iff_ne.mpr c90) ?_
       refine seqRwI 48 (x := (vt60 != 0)) (v := true) (by kernel_rfl) (bne_iff_ne.mpr c90) ?_
       refine seqS12 (a' := ⟨#[.slice A2 l1.length c3, iV y5, .int .u8 x6, uV, uV, uV, fV, pV b30 0, .slice A45 vt38.length c46, iV vt39, iV vt57, iV vt58, .slice A66 vt59.length c67, iV vt60, uV, uV, uV, .slice A2 l1.length c3, .agg #[.slice A2 l1.length c3, iV 0], pV b11 0, (ag_Frame vt15 A22 c23 A27 c28), .tuple #[.slice A45 vt38.length c46, iV vt39], pV b30 0, iV vt15.W, pV b30 1, iV vt15.H, pV b30 3, .slice A27 vt15.Counts.length c28, .tuple #[.slice A45 vt38.length c46, iV vt39], .slice A45 vt38.length c46, iV vt39, .tuple #[iV vt57, iV vt58, .slice A66 vt59.length c67, iV vt60], .slice A45 vt38.length c46, .tuple #[iV vt57, iV vt58, .slice A66 vt59.length c67, iV vt60], iV vt57, iV vt58, .slice A66 vt59.length c67, iV vt60, .bool vt78, fV, fV, iV vt39, fV, fV, fV, iV vt60, tV, tV, tV, uV, uV, uV, uV, uV, tV, tV, uV, uV, uV, uV, tV, uV, uV, uV, uV, uV, uV, uV, uV, uV, uV, uV, uV, uV, uV, uV, uV, uV, uV, uV, uV, uV, uV, uV, uV, uV, uV, uV, uV, uV, uV, uV, uV, uV, uV, uV, uV, uV, uV, uV, uV, uV, uV, uV, uV, uV, uV, uV, uV, uV, uV, uV, uV, uV, uV], []⟩) (by kernel_rfl) ?_
       refine wpList_nil ?_
       refine hK77 _ _ ?_
       refine condT (by kernel_rfl) ?_
       refine wp_seq_k (fun K91 hK92 => ?_)
       refine wp_region_lit ?_
       refine seqS1 (a' := ⟨#[.slice A2 l1.length c3, iV y5, .int .u8 x6, uV, uV, uV, fV, pV b30 0, .slice A45 vt38.length c46, iV vt39, iV vt57, iV vt58, .slice A66 vt59.length c67, iV vt60, uV, uV, uV, .slice A2 l1.length c3, .agg #[.slice A2 l1.length c3, iV 0], pV b11 0, (ag_Frame vt15 A22 c23 A27 c28), .tuple #[.slice A45 vt38.length c46, iV vt39], pV b30 0, iV vt15.W, pV b30 1, iV vt15.H, pV b30 3, .slice A27 vt15.Counts.length c28, .tuple #[.slice A45 vt38.length c46, iV vt39], .slice A45 vt38.length c46, iV vt39, .tuple #[iV vt57, iV vt58, .slice A66 vt59.length c67, iV vt60], .slice A45 vt38.length c46, .tuple #[iV vt57, iV vt58, .slice A66 vt59.length c67, iV vt60], iV vt57, iV vt58, .slice A66 vt59.length c67, iV vt60, .bool vt78, fV, fV, iV vt39, fV, fV, fV, iV vt60, tV, tV, tV, uV, uV, uV, uV, uV, tV, tV, uV, uV, uV, uV, tV, uV, uV, uV, uV, uV, uV, uV, uV, uV, uV, uV, uV, uV, uV, uV, uV, uV, uV, uV, uV, uV, uV, uV, uV, uV, uV, uV, uV, uV, uV, uV, uV, uV, uV, uV, uV, uV, uV, uV, uV, uV, uV, uV, uV, uV, uV, uV, uV, uV, uV, uV, uV, uV, uV], []⟩) (by kernel_rfl) ?_
       refine wpList_nil ?_
       refine hK92 _ _ ?_
       refine wp_ret ?_
       refine hret _ _ ?_
       refine ends_still (v := Value.bool false) (by kernel_rfl) (by kernel_rfl) ?_
       have HS292 := HS83.drop
       have HS293 := HS292.drop
       have HS294 := HS293.drop
       have HS295 := HS294.drop
       have HS296 := HS295.drop
       injection h with h
       subst h
       exact ⟨f80, rfl, (L19.trans (L42.trans (L72.trans L81))), HS296⟩
     · have c90 : ¬ (vt60 ≠ 0) := c90
       refine seqRwI 46 (x := (vt60 != 0)) (v := false) (by kernel_rfl) (bne_eq_false_iff_eq.mpr (Decidable.of_not_not c90)) ?_
       refine seqRwI 47 (x := (vt60 != 0)) (v := false) (by kernel_rfl) (bne_eq_false_iff_eq.mpr (Decidable.of_not_not c90)) ?_
       refine seqRwI 48 (x := (vt60 != 0)) (v := false) (by kernel_rfl) (bne_eq_false_iff_eq.mpr (Decidable.of_not_not c90)) ?_
       refine seqS7 (a' := ⟨#[.slice A2 l1.length c3, iV y5, .int .u8 x6, uV, uV, uV, fV, pV b30 0, .slice A45 vt38.length c46, iV vt39, iV vt57, iV vt58, .slice A66 vt59.length c67, iV vt60, uV, uV, uV, .slice A2 l1.length c3, .agg #[.slice A2 l1.length c3, iV 0], pV b11 0, (ag_Frame vt15 A22 c23 A27 c28), .tuple #[.slice A45 vt38.length c46, iV vt39], pV b30 0, iV vt15.W, pV b30 1, iV vt15.H, pV b30 3, .slice A27 vt15.Counts.length c28, .tuple #[.slice A45 vt38.length c46, iV vt39], .slice A45 vt38.length c46, iV vt39, .tuple #[iV vt57, iV vt58, .slice A66 vt59.length c67, iV vt60], .slice A45 vt38.length c46, .tuple #[iV vt57, iV vt58, .slice A66 vt59.length c67, iV vt60], iV vt57, iV vt58, .slice A66 vt59.length c67, iV vt60, .bool vt78, fV, fV, iV vt39, fV, fV, fV, iV vt60, fV, fV, fV, .slice A66 vt59.length c67, iV (vt59.length : Int), iV vt58, iV (w64 (vt58 + 1)), .bool ((vt59.length : Int) != (w64 (vt58 + 1))), .bool ((vt59.length : Int) != (w64 (vt58 + 1))), .bool ((vt59.length : Int) != (w64 (vt58 + 1))), uV, uV, uV, uV, uV, uV, uV, uV, uV, uV, uV, uV, uV, uV, uV, uV, uV, uV, uV, uV, uV, uV, uV, uV, uV, uV, uV, uV, uV, uV, uV, uV, uV, uV, uV, uV, uV, uV, uV, uV, uV, uV, uV, uV, uV, uV, uV, uV, uV, uV, uV, uV, uV, uV, uV, uV, uV, uV, uV], []⟩) (by kernel_rfl) ?_
       have hq_ := ite_some h; clear h; rcases hq_ with ⟨c93, h⟩ | ⟨c93, h⟩
       · have c93 : (vt59.length : Int) ≠ (w64 (vt58 + 1)) := c93
         refine seqRwI 53 (x := ((vt59.length : Int) != (w64 (vt58 + 1)))) (v := true) (by kernel_rfl) (bne_iff_ne.mpr c93) ?_
         refine seqRwI 54 (x := ((vt59.length : Int) != (w64 (vt58 + 1)))) (v := true) (by kernel_rfl) (bne_iff_ne.mpr c93) ?_
         refine seqRwI 55 (x := ((vt59.length : Int) != (w64 (vt58 + 1)))) (v := true) (by kernel_rfl) (bne_iff_ne.mpr c93) ?_
         refine seqS5 (a' := ⟨#[.slice A2 l1.length c3, iV y5, .int .u8 x6, uV, uV, uV, fV, pV b30 0, .slice A45 vt38.length c46, iV vt39, iV vt57, iV vt58, .slice A66 vt59.length c67, iV vt60, uV, uV, uV, .slice A2 l1.length c3, .agg #[.slice A2 l1.length c3, iV 0], pV b11 0, (ag_Frame vt15 A22 c23 A27 c28), .tuple #[.slice A45 vt38.length c46, iV vt39], pV b30 0, iV vt15.W, pV b30 1, iV vt15.H, pV b30 3, .slice A27 vt15.Counts.length c28, .tuple #[.slice A45 vt38.length c46, iV vt39], .slice A45 vt38.length c46, iV vt39, .tuple #[iV vt57, iV vt58, .slice A66 vt59.length c67, iV vt60], .slice A45 vt38.length c46, .tuple #[iV vt57, iV vt58, .slice A66 vt59.length c67, iV vt60], iV vt57, iV vt58, .slice A66 vt59.length c67, iV vt60, .bool vt78, fV, fV, iV vt39, fV, fV, fV, iV vt60, fV, fV, fV, .slice A66 vt59.length c67, iV (vt59.length : Int), iV vt58, iV (w64 (vt58 + 1)), tV, tV, tV, uV, uV, uV, uV, tV, uV, uV, uV, uV, uV, uV, uV, uV, uV, uV, uV, uV, uV, uV, uV, uV, uV, uV, uV, uV, uV, uV, uV, uV, uV, uV, uV, uV, uV, uV, uV, uV, uV, uV, uV, uV, uV, uV, uV, uV, uV, uV, uV, uV, uV, uV, uV, uV, uV, uV, uV, uV, uV, uV], []⟩) (by kernel_rfl) ?_
         refine wpList_nil ?_
         refine hK77 _ _ ?_
         refine condT (by kernel_rfl) ?_
         refine wp_seq_k (fun K94 hK95 => ?_)
         refine wp_region_lit ?_
         refine seqS1 (a' := ⟨#[.slice A2 l1.length c3, iV y5, .int .u8 x6, uV, uV, uV, fV, pV b30 0, .slice A45 vt38.length c46, iV vt39, iV vt57, iV vt58, .slice A66 vt59.length c67, iV vt60, uV, uV, uV, .slice A2 l1.length c3, .agg #[.slice A2 l1.length c3, iV 0], pV b11 0, (ag_Frame vt15 A22 c23 A27 c28), .tuple #[.slice A45 vt38.length c46, iV vt39], pV b30 0, iV vt15.W, pV b30 1, iV vt15.H, pV b30 3, .slice A27 vt15.Counts.length c28, .tuple #[.slice A45 vt38.length c46, iV vt39], .slice A45 vt38.length c46, iV vt39, .tuple #[iV vt57, iV vt58, .slice A66 vt59.length c67, iV vt60], .slice A45 vt38.length c46, .tuple #[iV vt57, iV vt58, .slice A66 vt59.length c67, iV vt60], iV vt57, iV vt58, .slice A66 vt59.length c67, iV vt60, .bool vt78, fV, fV, iV vt39, fV, fV, fV, iV vt60, fV, fV, fV, .slice A66 vt59.length c67, iV (vt59.length : Int), iV vt58, iV (w64 (vt58 + 1)), tV, tV, tV, uV, uV, uV, uV, tV, uV, uV, uV, uV, uV, uV, uV, uV, uV, uV, uV, uV, uV, uV, uV, uV, uV, uV, uV, uV, uV, uV, uV, uV, uV, uV, uV, uV, uV, uV, uV, uV, uV, uV, uV, uV, uV, uV, uV, uV, uV, uV, uV, uV, uV, uV, uV, uV, uV, uV, uV, uV, uV, uV], []⟩) (by kernel_rfl) ?_
         refine wpList_nil ?_
         refine hK95 _ _ ?_
         refine wp_ret ?_
         refine hret _ _ ?_
         refine ends_still (v := Value.bool false) (by kernel_rfl) (by kernel_rfl) ?_
         have HS297 := HS83.drop
         have HS298 := HS297.drop
         have HS299 := HS298.drop
         have HS300 := HS299.drop
         have HS301 := HS300.drop
         injection h with h
         subst h
         exact ⟨f80, rfl, (L19.trans (L42.trans (L72.trans L81))), HS301⟩
       · have c93 : ¬ ((vt59.length : Int) ≠ (w64 (vt58 + 1))) := c93
         refine seqRwI 53 (x := ((vt59.length : Int) != (w64 (vt58 + 1)))) (v := false) (by kernel_rfl) (bne_eq_false_iff_eq.mpr (Decidable.of_not_not c93)) ?_
         refine seqRwI 54 (x := ((vt59.length : Int) != (w64 (vt58 + 1)))) (v := false) (by kernel_rfl) (bne_eq_false_iff_eq.mpr (Decidable.of_not_not c93)) ?_
         refine seqRwI 55 (x := ((vt59.length : Int) != (w64 (vt58 + 1)))) (v := false) (by kernel_rfl) (bne_eq_false_iff_eq.mpr (Decidable.of_not_not c93)) ?_
         refine seqL2 (by kernel_rfl) ?_
         refine seqG (by kernel_rfl) (does_run (run_load rfl Tryd.underlying3 rfl (by kernel_rfl : _ = Value.pointer (some ⟨b30, 1, none⟩)) (HS83.u2.cell 1)) ?_)
         refine seqS2 (a' := ⟨#[.slice A2 l1.length c3, iV y5, .int .u8 x6, uV, uV, uV, fV, pV b30 0, .slice A45 vt38.length c46, iV vt39, iV vt57, iV vt58, .slice A66 vt59.length c67, iV vt60, uV, uV, uV, .slice A2 l1.length c3, .agg #[.slice A2 l1.length c3, iV 0], pV b11 0, (ag_Frame vt15 A22 c23 A27 c28), .tuple #[.slice A45 vt38.length c46, iV vt39], pV b30 0, iV vt15.W, pV b30 1, iV vt15.H, pV b30 3, .slice A27 vt15.Counts.length c28, .tuple #[.slice A45 vt38.length c46, iV vt39], .slice A45 vt38.length c46, iV vt39, .tuple #[iV vt57, iV vt58, .slice A66 vt59.length c67, iV vt60], .slice A45 vt38.length c46, .tuple #[iV vt57, iV vt58, .slice A66 vt59.length c67, iV vt60], iV vt57, iV vt58, .slice A66 vt59.length c67, iV vt60, .bool vt78, fV, fV, iV vt39, fV, fV, fV, iV vt60, fV, fV, fV, .slice A66 vt59.length c67, iV (vt59.length : Int), iV vt58, iV (w64 (vt58 + 1)), fV, fV, fV, iV vt58, pV b30 1, iV vt15.H, .bool (vt58 != vt15.H), .bool (vt58 != vt15.H), uV, uV, uV, uV, uV, uV, uV, uV, uV, uV, uV, uV, uV, uV, uV, uV, uV, uV, uV, uV, uV, uV, uV, uV, uV, uV, uV, uV, uV, uV, uV, uV, uV, uV, uV, uV, uV, uV, uV, uV, uV, uV, uV, uV, uV, uV, uV, uV, uV, uV, uV, uV, uV, uV], []⟩) (by kernel_rfl) ?_
         refine wpList_nil ?_
         refine hK77 _ _ ?_
         have hq_ := ite_some h; clear h; rcases hq_ with ⟨c97, h⟩ | ⟨c97, h⟩
         · have c97 : vt58 ≠ vt15.H := c97
           refine wpRwI 59 (x := (vt58 != vt15.H)) (v := true) (by kernel_rfl) (bne_iff_ne.mpr c97) ?_
           refine wpRwI 60 (x := (vt58 != vt15.H)) (v := true) (by kernel_rfl) (bne_iff_ne.mpr c97) ?_
           refine condT (by kernel_rfl) ?_
           refine wp_seq_k (fun K98 hK99 => ?_)
           refine wp_region_lit ?_
           refine seqS1 (a' := ⟨#[.slice A2 l1.length c3, iV y5, .int .u8 x6, uV, uV, uV, fV, pV b30 0, .slice A45 vt38.length c46, iV vt39, iV vt57, iV vt58, .slice A66 vt59.length c67, iV vt60, uV, uV, uV, .slice A2 l1.length c3, .agg #[.slice A2 l1.length c3, iV 0], pV b11 0, (ag_Frame vt15 A22 c23 A27 c28), .tuple #[.slice A45 vt38.length c46, iV vt39], pV b30 0, iV vt15.W, pV b30 1, iV vt15.H, pV b30 3, .slice A27 vt15.Counts.length c28, .tuple #[.slice A45 vt38.length c46, iV vt39], .slice A45 vt38.length c46, iV vt39, .tuple #[iV vt57, iV vt58, .slice A66 vt59.length c67, iV vt60], .slice A45 vt38.length c46, .tuple #[iV vt57, iV vt58, .slice A66 vt59.length c67, iV vt60], iV vt57, iV vt58, .slice A66 vt59.length c67, iV vt60, .bool vt78, fV, fV, iV vt39, fV, fV, fV, iV vt60, fV, fV, fV, .slice A66 vt59.length c67, iV (vt59.length : Int), iV vt58, iV (w64 (vt58 + 1)), fV, fV, fV, iV vt58, pV b30 1, iV vt15.H, tV, tV, uV, uV, uV, uV, uV, uV, uV, uV, uV, uV, uV, uV, uV, uV, uV, uV, uV, uV, uV, uV, uV, uV, uV, uV, uV, uV, uV, uV, uV, uV, uV, uV, uV, uV, uV, uV, uV, uV, uV, uV, uV, uV, uV, uV, uV, uV, uV, uV, uV, uV, uV, uV, uV, uV], []⟩) (by kernel_rfl) ?_
           refine wpList_nil ?_
           refine hK99 _ _ ?_
           refine wp_ret ?_
           refine hret _ _ ?_
           refine ends_still (v := Value.bool false) (by kernel_rfl) (by kernel_rfl) ?_
           have HS302 := HS83.drop
           have HS303 := HS302.drop
           have HS304 := HS303.drop
           have HS305 := HS304.drop
           have HS306 := HS305.drop
           injection h with h
           subst h
           exact ⟨f80, rfl, (L19.trans (L42.trans (L72.trans L81))), HS306⟩
         · have c97 : ¬ (vt58 ≠ vt15.H) := c97
           refine wpRwI 59 (x := (vt58 != vt15.H)) (v := false) (by kernel_rfl) (bne_eq_false_iff_eq.mpr (Decidable.of_not_not c97)) ?_
           refine wpRwI 60 (x := (vt58 != vt15.H)) (v := false) (by kernel_rfl) (bne_eq_false_iff_eq.mpr (Decidable.of_not_not c97)) ?_
           refine condF (by kernel_rfl) ?_
           refine wp_skip ?_
           refine hK75 _ _ ?_
           refine wp_seq_k (fun K100 hK101 => ?_)
           refine wp_region_lit ?_
           have hq_ := bind_some h; clear h; obtain ⟨vt102, hc103, h⟩ := hq_
           refine seqL2 (by kernel_rfl) ?_
           refine seqK rfl (does_call (f := 6) (args := #[.int .i64 y5, .int .i64 vt58]) (by kernel_rfl) (spymake_Below.calls k y5 vt58 HS83 vt102 hc103) ?_)
           rintro _ W106 ⟨f104, rfl, L105, HS107⟩
           refine ⟨_, rfl, ?_⟩
           refine seqS1 (a' := ⟨#[.slice A2 l1.length c3, iV vt102, .int .u8 x6, uV, uV, uV, fV, pV b30 0, .slice A45 vt38.length c46, iV vt39, iV vt57, iV vt58, .slice A66 vt59.length c67, iV vt60, uV, uV, uV, .slice A2 l1.length c3, .agg #[.slice A2 l1.length c3, iV 0], pV b11 0, (ag_Frame vt15 A22 c23 A27 c28), .tuple #[.slice A45 vt38.length c46, iV vt39], pV b30 0, iV vt15.W, pV b30 1, iV vt15.H, pV b30 3, .slice A27 vt15.Counts.length c28, .tuple #[.slice A45 vt38.length c46, iV vt39], .slice A45 vt38.length c46, iV vt39, .tuple #[iV vt57, iV vt58, .slice A66 vt59.length c67, iV vt60], .slice A45 vt38.length c46, .tuple #[iV vt57, iV vt58, .slice A66 vt59.length c67, iV vt60], iV vt57, iV vt58, .slice A66 vt59.length c67, iV vt60, .bool vt78, fV, fV, iV vt39, fV, fV, fV, iV vt60, fV, fV, fV, .slice A66 vt59.length c67, iV (vt59.length : Int), iV vt58, iV (w64 (vt58 + 1)), fV, fV, fV, iV vt58, pV b30 1, iV vt15.H, fV, fV, iV y5, iV vt58, iV vt102, uV, uV, uV, uV, uV, uV, uV, uV, uV, uV, uV, uV, uV, uV, uV, uV, uV, uV, uV, uV, uV, uV, uV, uV, uV, uV, uV, uV, uV, uV, uV, uV, uV, uV, uV, uV, uV, uV, uV, uV, uV, uV, uV, uV, uV, uV, uV, uV, uV, uV, uV], []⟩) (by kernel_rfl) ?_
           refine wpList_nil ?_
           refine hK101 _ _ ?_
           refine wp_seq_k (fun K108 hK109 => ?_)
           refine wp_seq_k (fun K110 hK111 => ?_)
           refine wp_region_lit ?_
           refine seqS2 (a' := ⟨#[.slice A2 l1.length c3, iV vt102, .int .u8 x6, uV, uV, uV, fV, pV b30 0, .slice A45 vt38.length c46, iV vt39, iV vt57, iV vt58, .slice A66 vt59.length c67, iV vt60, uV, uV, uV, .slice A2 l1.length c3, .agg #[.slice A2 l1.length c3, iV 0], pV b11 0, (ag_Frame vt15 A22 c23 A27 c28), .tuple #[.slice A45 vt38.length c46, iV vt39], pV b30 0, iV vt15.W, pV b30 1, iV vt15.H, pV b30 3, .slice A27 vt15.Counts.length c28, .tuple #[.slice A45 vt38.length c46, iV vt39], .slice A45 vt38.length c46, iV vt39, .tuple #[iV vt57, iV vt58, .slice A66 vt59.length c67, iV vt60], .slice A45 vt38.length c46, .tuple #[iV vt57, iV vt58, .slice A66 vt59.length c67, iV vt60], iV vt57, iV vt58, .slice A66 vt59.length c67, iV vt60, .bool vt78, fV, fV, iV vt39, fV, fV, fV, iV vt60, fV, fV, fV, .slice A66 vt59.length c67, iV (vt59.length : Int), iV vt58, iV (w64 (vt58 + 1)), fV, fV, fV, iV vt58, pV b30 1, iV vt15.H, fV, fV, iV y5, iV vt58, iV vt102, iV vt58, iV 0, uV, uV, uV, uV, uV, uV, uV, uV, uV, uV, uV, uV, uV, uV, uV, uV, uV, uV, uV, uV, uV, uV, uV, uV, uV, uV, uV, uV, uV, uV, uV, uV, uV, uV, uV, uV, uV, uV, uV, uV, uV, uV, uV, uV, uV, uV, uV, uV, uV], []⟩) (by kernel_rfl) ?_
           refine wpList_nil ?_
           refine hK111 _ _ ?_
           refine blockK (fun B112 hx113 hn114 hr115 ho116 hp117 => ?_)
           have hq_ := bind_some h; clear h; obtain ⟨o169, hv233, h⟩ := hq_
           have J234 : ∀ (f224 : FM) (s230 : Seg) (b229 : List Int) (j228 : Nat → Value) (W226 : World) (a_ : Act), FM.le f104 f224 → some (b229) = some o169 → St t W226 f224 (s230 :: s68 :: [(b30, .cells #[.int .i64 vt15.W, .int .i64 vt15.H, .slice A22 vt15.Cards.length c23, .slice A27 vt15.Counts.length c28] 33 (0, 0))] :: s24 :: [(b11, .cells #[.slice A2 l1.length c3, .int .i64 vt16] 37 (0, 0))] :: H) → Own (tInt .u8) 5 f224 A45 c46 s230 b229 → b229.length = vt38.length → a_ = ⟨#[.slice A2 l1.length c3, iV vt102, .int .u8 x6, uV, uV, uV, fV, pV b30 0, .slice A45 b229.length c46, iV vt39, iV vt57, iV vt58, .slice A66 vt59.length c67, iV vt60, (j228 0), uV, uV, .slice A2 l1.length c3, .agg #[.slice A2 l1.length c3, iV 0], pV b11 0, (ag_Frame vt15 A22 c23 A27 c28), .tuple #[.slice A45 vt38.length c46, iV vt39], pV b30 0, iV vt15.W, pV b30 1, iV vt15.H, pV b30 3, .slice A27 vt15.Counts.length c28, .tuple #[.slice A45 vt38.length c46, iV vt39], (j228 1), iV vt39, .tuple #[iV vt57, iV vt58, .slice A66 vt59.length c67, iV vt60], (j228 2), .tuple #[iV vt57, iV vt58, .slice A66 vt59.length c67, iV vt60], iV vt57, iV vt58, .slice A66 vt59.length c67, iV vt60, .bool vt78, fV, fV, iV vt39, fV, fV, fV, iV vt60, fV, fV, fV, .slice A66 vt59.length c67, iV (vt59.length : Int), iV vt58, iV (w64 (vt58 + 1)), fV, fV, fV, iV vt58, pV b30 1, iV vt15.H, fV, fV, iV y5, iV vt58, iV vt102, iV vt58, (j228 3), (j228 4), (j228 5), (j228 6), (j228 7), (j228 8), (j228 9), (j228 10), (j228 11), (j228 12), (j228 13), (j228 14), (j228 15), (j228 16), (j228 17), (j228 18), (j228 19), (j228 20), (j228 21), (j228 22), (j228 23), (j228 24), (j228 25), (j228 26), (j228 27), (j228 28), uV, uV, uV, uV, uV, uV, uV, uV, uV, uV, uV, uV, uV, uV, uV, uV, uV, uV, uV, uV, uV, uV, uV, uV], []⟩ → K108 a_ W226 := by
            intro f224 s230 b229 j228 W226 a_ L225 hj235 HS227 HO231 HL232 hfr_; subst hfr_
            injection hj235 with hj235; subst hj235; try dsimp only at h
            refine hK109 _ _ ?_
            refine wp_seq_k (fun K236 hK237 => ?_)
            refine wp_region_lit ?_
            obtain ⟨f238, L239, HS240, HR241, th242⟩ := HO231.lend HS227
            have hq_ := bind_some h; clear h; obtain ⟨⟨vt243, vt244⟩, hc245, h⟩ := hq_
            refine seqL2 (by kernel_rfl) ?_
            refine seqK rfl (does_call (f := 12) (args := #[.slice A45 b229.length c46, .int .i64 vt102]) (by kernel_rfl) (squeeze_Row.calls k A45 c46 b229 vt102 HS240 HR241 vt243 vt244 hc245) ?_)
            rintro _ W248 ⟨f246, A250, c251, s252, rfl, L247, HS249, HO253⟩
            refine ⟨_, rfl, ?_⟩
            obtain ⟨f255, L256, HS257⟩ := th242 L247 HS249
            replace HO253 := HO253.flat (g := f255) (fun _ _ _ _ h_ => h_)
            refine seqS5 (a' := ⟨#[.slice A2 l1.length c3, iV vt102, .int .u8 x6, uV, uV, uV, fV, pV b30 0, .slice A45 b229.length c46, iV vt39, iV vt57, iV vt58, .slice A66 vt59.length c67, iV vt60, (j228 0), .slice A250 vt243.length c251, iV vt244, .slice A2 l1.length c3, .agg #[.slice A2 l1.length c3, iV 0], pV b11 0, (ag_Frame vt15 A22 c23 A27 c28), .tuple #[.slice A45 vt38.length c46, iV vt39], pV b30 0, iV vt15.W, pV b30 1, iV vt15.H, pV b30 3, .slice A27 vt15.Counts.length c28, .tuple #[.slice A45 vt38.length c46, iV vt39], (j228 1), iV vt39, .tuple #[iV vt57, iV vt58, .slice A66 vt59.length c67, iV vt60], (j228 2), .tuple #[iV vt57, iV vt58, .slice A66 vt59.length c67, iV vt60], iV vt57, iV vt58, .slice A66 vt59.length c67, iV vt60, .bool vt78, fV, fV, iV vt39, fV, fV, fV, iV vt60, fV, fV, fV, .slice A66 vt59.length c67, iV (vt59.length : Int), iV vt58, iV (w64 (vt58 + 1)), fV, fV, fV, iV vt58, pV b30 1, iV vt15.H, fV, fV, iV y5, iV vt58, iV vt102, iV vt58, (j228 3), (j228 4), (j228 5), (j228 6), (j228 7), (j228 8), (j228 9), (j228 10), (j228 11), (j228 12), (j228 13), (j228 14), (j228 15), (j228 16), (j228 17), (j228 18), (j228 19), (j228 20), (j228 21), (j228 22), (j228 23), (j228 24), (j228 25), (j228 26), (j228 27), (j228 28), .tuple #[.slice A250 vt243.length c251, iV vt244], .slice A45 b229.length c46, iV vt102, .tuple #[.slice A250 vt243.length c251, iV vt244], .slice A250 vt243.length c251, iV vt244, uV, uV, uV, uV, uV, uV, uV, uV, uV, uV, uV, uV, uV, uV, uV, uV, uV, uV], []⟩) (by kernel_rfl) ?_
            refine wpList_nil ?_
            refine hK237 _ _ ?_
            refine wp_seq_k (fun K258 hK259 => ?_)
            refine wp_region_lit ?_
            refine seqS3 (a' := ⟨#[.slice A2 l1.length c3, iV vt102, .int .u8 x6, uV, uV, uV, fV, pV b30 0, .slice A45 b229.length c46, iV vt39, iV vt57, iV vt58, .slice A66 vt59.length c67, iV vt60, (j228 0), .slice A250 vt243.length c251, iV vt244, .slice A2 l1.length c3, .agg #[.slice A2 l1.length c3, iV 0], pV b11 0, (ag_Frame vt15 A22 c23 A27 c28), .tuple #[.slice A45 vt38.length c46, iV vt39], pV b30 0, iV vt15.W, pV b30 1, iV vt15.H, pV b30 3, .slice A27 vt15.Counts.length c28, .tuple #[.slice A45 vt38.length c46, iV vt39], (j228 1), iV vt39, .tuple #[iV vt57, iV vt58, .slice A66 vt59.length c67, iV vt60], (j228 2), .tuple #[iV vt57, iV vt58, .slice A66 vt59.length c67, iV vt60], iV vt57, iV vt58, .slice A66 vt59.length c67, iV vt60, .bool vt78, fV, fV, iV vt39, fV, fV, fV, iV vt60, fV, fV, fV, .slice A66 vt59.length c67, iV (vt59.length : Int), iV vt58, iV (w64 (vt58 + 1)), fV, fV, fV, iV vt58, pV b30 1, iV vt15.H, fV, fV, iV y5, iV vt58, iV vt102, iV vt58, (j228 3), (j228 4), (j228 5), (j228 6), (j228 7), (j228 8), (j228 9), (j228 10), (j228 11), (j228 12), (j228 13), (j228 14), (j228 15), (j228 16), (j228 17), (j228 18), (j228 19), (j228 20), (j228 21), (j228 22), (j228 23), (j228 24), (j228 25), (j228 26), (j228 27), (j228 28), .tuple #[.slice A250 vt243.length c251, iV vt244], .slice A45 b229.length c46, iV vt102, .tuple #[.slice A250 vt243.length c251, iV vt244], .slice A250 vt243.length c251, iV vt244, iV vt244, .bool (vt244 == 0), .bool (vt244 == 0), uV, uV, uV, uV, uV, uV, uV, uV, uV, uV, uV, uV, uV, uV, uV], []⟩) (by kernel_rfl) ?_
            have hq_ := ite_some h; clear h; rcases hq_ with ⟨c260, h⟩ | ⟨c260, h⟩
            · have c260 : vt244 = 0 := c260
              refine seqRwI 98 (x := (vt244 == 0)) (v := true) (by kernel_rfl) (beq_iff_eq.mpr c260) ?_
              refine seqRwI 99 (x := (vt244 == 0)) (v := true) (by kernel_rfl) (beq_iff_eq.mpr c260) ?_
              refine seqL2 (by kernel_rfl) ?_
              refine seqG (by kernel_rfl) (does_run (run_load rfl Tryd.underlying27 rfl (by kernel_rfl : _ = Value.pointer (some ⟨b30, 3, none⟩)) (HS257.u3.cell 3)) ?_)
              refine seqL2 (by kernel_rfl) ?_
              refine seqG (by kernel_rfl) (does_run (run_load rfl Tryd.underlying3 rfl (by kernel_rfl : _ = Value.pointer (some ⟨b30, 0, none⟩)) (HS257.u3.cell 0)) ?_)
              refine seqL4 (by kernel_rfl) ?_
              refine seqG (by kernel_rfl) (does_run (run_load rfl Tryd.underlying3 rfl (by kernel_rfl : _ = Value.pointer (some ⟨b30, 0, none⟩)) (HS257.u3.cell 0)) ?_)
              have hq_ := guard_some h; clear h; obtain ⟨c261, h⟩ := hq_
              have c261 : 0 ≤ (w64 (vt102 * vt15.W)) := c261
              have hq_ := guard_some h; clear h; obtain ⟨c262, h⟩ := hq_
              have c262 : (w64 (vt102 * vt15.W)) ≤ (w64 ((w64 (vt102 + 1)) * vt15.W)) := c262
              have hq_ := guard_some h; clear h; obtain ⟨c263, h⟩ := hq_
              have c263 : (w64 ((w64 (vt102 + 1)) * vt15.W)) ≤ (vt15.Counts.length : Int) := c263
              refine seqL1 (by kernel_rfl) ?_
              refine seqG (by kernel_rfl) (does_cutLH (e := (tInt .i64)) (xs := vt15.Counts) rfl Tryd.underlying27 (by kernel_rfl) (by kernel_rfl : _ = Value.slice A27 vt15.Counts.length c28) (by kernel_rfl : _ = Value.int .i64 (w64 (vt102 * vt15.W))) (by kernel_rfl : _ = Value.int .i64 (w64 ((w64 (vt102 + 1)) * vt15.W)))  c261 c262 c263 (HR29.mono (L42.trans (L72.trans (L81.trans (L105.trans (L225.trans L256)))))) ?_)
              intro A264 c265 HR266
              have HS267 := HS257.u1
              obtain ⟨f268, L269, HS270, HR271, th272⟩ := HO253.lend HS267
              have hq_ := bind_some h; clear h; obtain ⟨vt273, hc274, h⟩ := hq_
              refine seqG (by kernel_rfl) (does_call (f := 13) (args := #[.slice A250 vt243.length c251, .slice A264 ((vt15.Counts.take (w64 ((w64 (vt102 + 1)) * vt15.W)).toNat).drop (w64 (vt102 * vt15.W)).toNat).length c265]) (by kernel_rfl) (slices_Equal_int.calls k A250 c251 A264 c265 vt243 ((vt15.Counts.take (w64 ((w64 (vt102 + 1)) * vt15.W)).toNat).drop (w64 (vt102 * vt15.W)).toNat) HS270 HR271 (HR266.mono L269) vt273 hc274) ?_)
              rintro _ W277 ⟨f275, rfl, L276, HS278⟩
              refine ⟨_, rfl, ?_⟩
              obtain ⟨f279, L280, HS281⟩ := th272 L276 HS278
              refine seqS2 (a' := ⟨#[.slice A2 l1.length c3, iV vt102, .int .u8 x6, uV, uV, uV, .bool vt273, pV b30 0, .slice A45 b229.length c46, iV vt39, iV vt57, iV vt58, .slice A66 vt59.length c67, iV vt60, (j228 0), .slice A250 vt243.length c251, iV vt244, .slice A2 l1.length c3, .agg #[.slice A2 l1.length c3, iV 0], pV b11 0, (ag_Frame vt15 A22 c23 A27 c28), .tuple #[.slice A45 vt38.length c46, iV vt39], pV b30 0, iV vt15.W, pV b30 1, iV vt15.H, pV b30 3, .slice A27 vt15.Counts.length c28, .tuple #[.slice A45 vt38.length c46, iV vt39], (j228 1), iV vt39, .tuple #[iV vt57, iV vt58, .slice A66 vt59.length c67, iV vt60], (j228 2), .tuple #[iV vt57, iV vt58, .slice A66 vt59.length c67, iV vt60], iV vt57, iV vt58, .slice A66 vt59.length c67, iV vt60, .bool vt78, fV, fV, iV vt39, fV, fV, fV, iV vt60, fV, fV, fV, .slice A66 vt59.length c67, iV (vt59.length : Int), iV vt58, iV (w64 (vt58 + 1)), fV, fV, fV, iV vt58, pV b30 1, iV vt15.H, fV, fV, iV y5, iV vt58, iV vt102, iV vt58, (j228 3), (j228 4), (j228 5), (j228 6), (j228 7), (j228 8), (j228 9), (j228 10), (j228 11), (j228 12), (j228 13), (j228 14), (j228 15), (j228 16), (j228 17), (j228 18), (j228 19), (j228 20), (j228 21), (j228 22), (j228 23), (j228 24), (j228 25), (j228 26), (j228 27), (j228 28), .tuple #[.slice A250 vt243.length c251, iV vt244], .slice A45 b229.length c46, iV vt102, .tuple #[.slice A250 vt243.length c251, iV vt244], .slice A250 vt243.length c251, iV vt244, iV vt244, tV, tV, .slice A250 vt243.length c251, pV b30 3, .slice A27 vt15.Counts.length c28, iV vt102, pV b30 0, iV vt15.W, iV (w64 (vt102 * vt15.W)), iV vt102, iV (w64 (vt102 + 1)), pV b30 0, iV vt15.W, iV (w64 ((w64 (vt102 + 1)) * vt15.W)), .slice A264 ((vt15.Counts.take (w64 ((w64 (vt102 + 1)) * vt15.W)).toNat).drop (w64 (vt102 * vt15.W)).toNat).length c265, .bool vt273, .bool vt273], []⟩) (by kernel_rfl) ?_
              refine wpList_nil ?_
              refine hK259 _ _ ?_
              refine wp_ret ?_
              refine hret _ _ ?_
              refine ends_still (v := Value.bool vt273) (by kernel_rfl) (by kernel_rfl) ?_
              have HS307 := HS281.drop
              have HS308 := HS307.drop
              have HS309 := HS308.drop
              have HS310 := HS309.drop
              have HS311 := HS310.drop
              have HS312 := HS311.drop
              injection h with h
              subst h
              exact ⟨f279, rfl, (L19.trans (L42.trans (L72.trans (L81.trans (L105.trans (L225.trans (L256.trans L280))))))), HS312⟩
            · have c260 : ¬ (vt244 = 0) := c260
              refine seqRwI 98 (x := (vt244 == 0)) (v := false) (by kernel_rfl) (beq_eq_false_iff_ne.mpr c260) ?_
              refine seqRwI 99 (x := (vt244 == 0)) (v := false) (by kernel_rfl) (beq_eq_false_iff_ne.mpr c260) ?_
              refine seqS16 (a' := ⟨#[.slice A2 l1.length c3, iV vt102, .int .u8 x6, uV, uV, uV, fV, pV b30 0, .slice A45 b229.length c46, iV vt39, iV vt57, iV vt58, .slice A66 vt59.length c67, iV vt60, (j228 0), .slice A250 vt243.length c251, iV vt244, .slice A2 l1.length c3, .agg #[.slice A2 l1.length c3, iV 0], pV b11 0, (ag_Frame vt15 A22 c23 A27 c28), .tuple #[.slice A45 vt38.length c46, iV vt39], pV b30 0, iV vt15.W, pV b30 1, iV vt15.H, pV b30 3, .slice A27 vt15.Counts.length c28, .tuple #[.slice A45 vt38.length c46, iV vt39], (j228 1), iV vt39, .tuple #[iV vt57, iV vt58, .slice A66 vt59.length c67, iV vt60], (j228 2), .tuple #[iV vt57, iV vt58, .slice A66 vt59.length c67, iV vt60], iV vt57, iV vt58, .slice A66 vt59.length c67, iV vt60, .bool vt78, fV, fV, iV vt39, fV, fV, fV, iV vt60, fV, fV, fV, .slice A66 vt59.length c67, iV (vt59.length : Int), iV vt58, iV (w64 (vt58 + 1)), fV, fV, fV, iV vt58, pV b30 1, iV vt15.H, fV, fV, iV y5, iV vt58, iV vt102, iV vt58, (j228 3), (j228 4), (j228 5), (j228 6), (j228 7), (j228 8), (j228 9), (j228 10), (j228 11), (j228 12), (j228 13), (j228 14), (j228 15), (j228 16), (j228 17), (j228 18), (j228 19), (j228 20), (j228 21), (j228 22), (j228 23), (j228 24), (j228 25), (j228 26), (j228 27), (j228 28), .tuple #[.slice A250 vt243.length c251, iV vt244], .slice A45 b229.length c46, iV vt102, .tuple #[.slice A250 vt243.length c251, iV vt244], .slice A250 vt243.length c251, iV vt244, iV vt244, fV, fV, uV, uV, uV, uV, uV, uV, uV, uV, uV, uV, uV, uV, uV, uV, fV], []⟩) (by kernel_rfl) ?_
              refine wpList_nil ?_
              refine hK259 _ _ ?_
              refine wp_ret ?_
              refine hret _ _ ?_
              refine ends_still (v := Value.bool false) (by kernel_rfl) (by kernel_rfl) ?_
              have HS313 := HS257.drop
              have HS314 := HS313.drop
              have HS315 := HS314.drop
              have HS316 := HS315.drop
              have HS317 := HS316.drop
              have HS318 := HS317.drop
              injection h with h
              subst h
              exact ⟨f255, rfl, (L19.trans (L42.trans (L72.trans (L81.trans (L105.trans (L225.trans L256)))))), HS318⟩
           clear h; have h := hv233; clear hv233
           refine loopK (fun n_ a_ w_ => ∃ (f173 : FM) (s179 : Seg) (b178 : List Int) (x182 : Int) (j177 : Nat → Value), FM.le f104 f173 ∧ St t w_ f173 (s179 :: s68 :: [(b30, .cells #[.int .i64 vt15.W, .int .i64 vt15.H, .slice A22 vt15.Cards.length c23, .slice A27 vt15.Counts.length c28] 33 (0, 0))] :: s24 :: [(b11, .cells #[.slice A2 l1.length c3, .int .i64 vt16] 37 (0, 0))] :: H) ∧ Own (tInt .u8) 5 f173 A45 c46 s179 b178 ∧ b178.length = vt38.length ∧ spykeep3_SqueezeAlone.l0 k vt58 vt102 vt59 x6 n_ b178 x182 = some o169 ∧ a_ = ⟨#[.slice A2 l1.length c3, iV vt102, .int .u8 x6, uV, uV, uV, fV, pV b30 0, .slice A45 b178.length c46, iV vt39, iV vt57, iV vt58, .slice A66 vt59.length c67, iV vt60, (j177 0), uV, uV, .slice A2 l1.length c3, .agg #[.slice A2 l1.length c3, iV 0], pV b11 0, (ag_Frame vt15 A22 c23 A27 c28), .tuple #[.slice A45 vt38.length c46, iV vt39], pV b30 0, iV vt15.W, pV b30 1, iV vt15.H, pV b30 3, .slice A27 vt15.Counts.length c28, .tuple #[.slice A45 vt38.length c46, iV vt39], .slice A45 vt38.length c46, iV vt39, .tuple #[iV vt57, iV vt58, .slice A66 vt59.length c67, iV vt60], .slice A45 vt38.length c46, .tuple #[iV vt57, iV vt58, .slice A66 vt59.length c67, iV vt60], iV vt57, iV vt58, .slice A66 vt59.length c67, iV vt60, .bool vt78, fV, fV, iV vt39, fV, fV, fV, iV vt60, fV, fV, fV, .slice A66 vt59.length c67, iV (vt59.length : Int), iV vt58, iV (w64 (vt58 + 1)), fV, fV, fV, iV vt58, pV b30 1, iV vt15.H, fV, fV, iV y5, iV vt58, iV vt102, iV vt58, iV x182, (j177 1), (j177 2), (j177 3), (j177 4), (j177 5), (j177 6), (j177 7), (j177 8), (j177 9), (j177 10), (j177 11), (j177 12), (j177 13), (j177 14), (j177 15), (j177 16), (j177 17), (j177 18), (j177 19), (j177 20), (j177 21), (j177 22), (j177 23), (j177 24), (j177 25), uV, uV, uV, uV, uV, uV, uV, uV, uV, uV, uV, uV, uV, uV, uV, uV, uV, uV, uV, uV, uV, uV, uV, uV], []⟩) k ⟨f104, s47, vt38, 0, (fun i_ => [undef, undef, undef, undef, undef, undef, undef, undef, undef, undef, undef, undef, undef, undef, undef, undef, undef, undef, undef, undef, undef, undef, undef, undef, undef, undef].getD i_ undef), (FM.le.refl _), HS107, (HO48.mono (L72.trans (L81.trans L105))), rfl, h, (by kernel_rfl)⟩ ?_
           clear h
           rintro n172 _ W175 ⟨f173, s179, b178, x182, j177, L174, HS176, HO180, HL181, h, rfl⟩ K170 hK171
           obtain _ | n172 := n172
           · exact nomatch h
           simp only [spykeep3_SqueezeAlone.l0] at h
           refine wp_seq_k (fun K183 hK184 => ?_)
           refine wp_region_lit ?_
           refine seqS1 (a' := ⟨#[.slice A2 l1.length c3, iV vt102, .int .u8 x6, uV, uV, uV, fV, pV b30 0, .slice A45 b178.length c46, iV vt39, iV vt57, iV vt58, .slice A66 vt59.length c67, iV vt60, (j177 0), uV, uV, .slice A2 l1.length c3, .agg #[.slice A2 l1.length c3, iV 0], pV b11 0, (ag_Frame vt15 A22 c23 A27 c28), .tuple #[.slice A45 vt38.length c46, iV vt39], pV b30 0, iV vt15.W, pV b30 1, iV vt15.H, pV b30 3, .slice A27 vt15.Counts.length c28, .tuple #[.slice A45 vt38.length c46, iV vt39], .slice A45 vt38.length c46, iV vt39, .tuple #[iV vt57, iV vt58, .slice A66 vt59.length c67, iV vt60], .slice A45 vt38.length c46, .tuple #[iV vt57, iV vt58, .slice A66 vt59.length c67, iV vt60], iV vt57, iV vt58, .slice A66 vt59.length c67, iV vt60, .bool vt78, fV, fV, iV vt39, fV, fV, fV, iV vt60, fV, fV, fV, .slice A66 vt59.length c67, iV (vt59.length : Int), iV vt58, iV (w64 (vt58 + 1)), fV, fV, fV, iV vt58, pV b30 1, iV vt15.H, fV, fV, iV y5, iV vt58, iV vt102, iV vt58, iV x182, .bool (decide (x182 < vt58)), (j177 2), (j177 3), (j177 4), (j177 5), (j177 6), (j177 7), (j177 8), (j177 9), (j177 10), (j177 11), (j177 12), (j177 13), (j177 14), (j177 15), (j177 16), (j177 17), (j177 18), (j177 19), (j177 20), (j177 21), (j177 22), (j177 23), (j177 24), (j177 25), uV, uV, uV, uV, uV, uV, uV, uV, uV, uV, uV, uV, uV, uV, uV, uV, uV, uV, uV, uV, uV, uV, uV, uV], []⟩) (by kernel_rfl) ?_
           refine wpList_nil ?_
           refine hK184 _ _ ?_
           refine wp_seq_k (fun K185 hK186 => ?_)
           have hq_ := ite_some h; clear h; rcases hq_ with ⟨c188, h⟩ | ⟨c188, h⟩
           · have c188 : x182 < vt58 := c188
             refine wpRwI 66 (x := (decide (x182 < vt58))) (v := true) (by kernel_rfl) (decide_eq_true c188) ?_
             refine condT (by kernel_rfl) ?_
             refine wp_skip ?_
             refine hK186 _ _ ?_
             refine wp_seq_k (fun K189 hK190 => ?_)
             refine blockK (fun B191 hx192 hn193 hr194 ho195 hp196 => ?_)
             refine wp_seq_k (fun K198 hK199 => ?_)
             refine wp_region_lit ?_
             refine seqS2 (a' := ⟨#[.slice A2 l1.length c3, iV vt102, .int .u8 x6, uV, uV, uV, fV, pV b30 0, .slice A45 b178.length c46, iV vt39, iV vt57, iV vt58, .slice A66 vt59.length c67, iV vt60, iV x182, uV, uV, .slice A2 l1.length c3, .agg #[.slice A2 l1.length c3, iV 0], pV b11 0, (ag_Frame vt15 A22 c23 A27 c28), .tuple #[.slice A45 vt38.length c46, iV vt39], pV b30 0, iV vt15.W, pV b30 1, iV vt15.H, pV b30 3, .slice A27 vt15.Counts.length c28, .tuple #[.slice A45 vt38.length c46, iV vt39], .slice A45 vt38.length c46, iV vt39, .tuple #[iV vt57, iV vt58, .slice A66 vt59.length c67, iV vt60], .slice A45 vt38.length c46, .tuple #[iV vt57, iV vt58, .slice A66 vt59.length c67, iV vt60], iV vt57, iV vt58, .slice A66 vt59.length c67, iV vt60, .bool vt78, fV, fV, iV vt39, fV, fV, fV, iV vt60, fV, fV, fV, .slice A66 vt59.length c67, iV (vt59.length : Int), iV vt58, iV (w64 (vt58 + 1)), fV, fV, fV, iV vt58, pV b30 1, iV vt15.H, fV, fV, iV y5, iV vt58, iV vt102, iV vt58, iV x182, tV, iV x182, (j177 3), (j177 4), (j177 5), (j177 6), (j177 7), (j177 8), (j177 9), (j177 10), (j177 11), (j177 12), (j177 13), (j177 14), (j177 15), (j177 16), (j177 17), (j177 18), (j177 19), (j177 20), (j177 21), (j177 22), (j177 23), (j177 24), (j177 25), uV, uV, uV, uV, uV, uV, uV, uV, uV, uV, uV, uV, uV, uV, uV, uV, uV, uV, uV, uV, uV, uV, uV, uV], []⟩) (by kernel_rfl) ?_
             refine wpList_nil ?_
             refine hK199 _ _ ?_
             refine wp_seq_k (fun K200 hK201 => ?_)
             refine wp_region_lit ?_
             refine seqS4 (a' := ⟨#[.slice A2 l1.length c3, iV vt102, .int .u8 x6, uV, uV, uV, fV, pV b30 0, .slice A45 b178.length c46, iV vt39, iV vt57, iV vt58, .slice A66 vt59.length c67, iV vt60, iV x182, uV, uV, .slice A2 l1.length c3, .agg #[.slice A2 l1.length c3, iV 0], pV b11 0, (ag_Frame vt15 A22 c23 A27 c28), .tuple #[.slice A45 vt38.length c46, iV vt39], pV b30 0, iV vt15.W, pV b30 1, iV vt15.H, pV b30 3, .slice A27 vt15.Counts.length c28, .tuple #[.slice A45 vt38.length c46, iV vt39], .slice A45 vt38.length c46, iV vt39, .tuple #[iV vt57, iV vt58, .slice A66 vt59.length c67, iV vt60], .slice A45 vt38.length c46, .tuple #[iV vt57, iV vt58, .slice A66 vt59.length c67, iV vt60], iV vt57, iV vt58, .slice A66 vt59.length c67, iV vt60, .bool vt78, fV, fV, iV vt39, fV, fV, fV, iV vt60, fV, fV, fV, .slice A66 vt59.length c67, iV (vt59.length : Int), iV vt58, iV (w64 (vt58 + 1)), fV, fV, fV, iV vt58, pV b30 1, iV vt15.H, fV, fV, iV y5, iV vt58, iV vt102, iV vt58, iV x182, tV, iV x182, iV x182, iV vt102, .bool (x182 != vt102), .bool (x182 != vt102), (j177 7), (j177 8), (j177 9), (j177 10), (j177 11), (j177 12), (j177 13), (j177 14), (j177 15), (j177 16), (j177 17), (j177 18), (j177 19), (j177 20), (j177 21), (j177 22), (j177 23), (j177 24), (j177 25), uV, uV, uV, uV, uV, uV, uV, uV, uV, uV, uV, uV, uV, uV, uV, uV, uV, uV, uV, uV, uV, uV, uV, uV], []⟩) (by kernel_rfl) ?_
             have hq_ := ite_some h; clear h; rcases hq_ with ⟨c202, h⟩ | ⟨c202, h⟩
             · have c202 : x182 ≠ vt102 := c202
               refine seqRwI 70 (x := (x182 != vt102)) (v := true) (by kernel_rfl) (bne_iff_ne.mpr c202) ?_
               refine seqRwI 71 (x := (x182 != vt102)) (v := true) (by kernel_rfl) (bne_iff_ne.mpr c202) ?_
               have hq_ := guard_some h; clear h; obtain ⟨c203, h⟩ := hq_
               have c203 : 0 ≤ x182 := c203
               have hq_ := guard_some h; clear h; obtain ⟨c204, h⟩ := hq_
               have c204 : x182 < (vt59.length : Int) := c204
               obtain ⟨b208, of209, cs205, hA210, hr206, hc207⟩ := (HO69.mono (L81.trans (L105.trans L174))).at (i := x182) c203 c204
               obtain rfl := hr206
               refine seqL2 (by kernel_rfl) ?_
               refine seqG (by kernel_rfl) (does_run (run_indexE hA210 (sz := 1) rfl Tryd.underlying27 (by kernel_rfl) (by kernel_rfl : _ = Value.slice A66 vt59.length c67) (by kernel_rfl : _ = Value.int .i64 x182) c203 c204 W175) ?_)
               refine seqG (by kernel_rfl) (does_run (run_load rfl Tryd.underlying3 rfl (by kernel_rfl : _ = Value.pointer (some ⟨b208, of209 + (x182 : Int).toNat * 1, none⟩)) ((hc207 HS176.u1) 0 (by decide))) ?_)
               refine seqS4 (a' := ⟨#[.slice A2 l1.length c3, iV vt102, .int .u8 x6, uV, uV, uV, fV, pV b30 0, .slice A45 b178.length c46, iV vt39, iV vt57, iV vt58, .slice A66 vt59.length c67, iV vt60, iV x182, uV, uV, .slice A2 l1.length c3, .agg #[.slice A2 l1.length c3, iV 0], pV b11 0, (ag_Frame vt15 A22 c23 A27 c28), .tuple #[.slice A45 vt38.length c46, iV vt39], pV b30 0, iV vt15.W, pV b30 1, iV vt15.H, pV b30 3, .slice A27 vt15.Counts.length c28, .tuple #[.slice A45 vt38.length c46, iV vt39], .slice A45 vt38.length c46, iV vt39, .tuple #[iV vt57, iV vt58, .slice A66 vt59.length c67, iV vt60], .slice A45 vt38.length c46, .tuple #[iV vt57, iV vt58, .slice A66 vt59.length c67, iV vt60], iV vt57, iV vt58, .slice A66 vt59.length c67, iV vt60, .bool vt78, fV, fV, iV vt39, fV, fV, fV, iV vt60, fV, fV, fV, .slice A66 vt59.length c67, iV (vt59.length : Int), iV vt58, iV (w64 (vt58 + 1)), fV, fV, fV, iV vt58, pV b30 1, iV vt15.H, fV, fV, iV y5, iV vt58, iV vt102, iV vt58, iV x182, tV, iV x182, iV x182, iV vt102, tV, tV, .slice A66 vt59.length c67, iV x182, pV b208 (of209 + (x182 : Int).toNat * 1), iV (rd vt59 x182), .slice A45 b178.length c46, iV (b178.length : Int), .bool (decide ((rd vt59 x182) < (b178.length : Int))), .bool (decide ((rd vt59 x182) < (b178.length : Int))), (j177 15), (j177 16), (j177 17), (j177 18), (j177 19), (j177 20), (j177 21), (j177 22), (j177 23), (j177 24), (j177 25), uV, uV, uV, uV, uV, uV, uV, uV, uV, uV, uV, uV, uV, uV, uV, uV, uV, uV, uV, uV, uV, uV, uV, uV], []⟩) (by kernel_rfl) ?_
               refine wpList_nil ?_
               refine hK201 _ _ ?_
               have hq_ := ite_some h; clear h; rcases hq_ with ⟨c212, h⟩ | ⟨c212, h⟩
               · have c212 : (rd vt59 x182) < (b178.length : Int) := c212
                 refine wpRwI 78 (x := (decide ((rd vt59 x182) < (b178.length : Int)))) (v := true) (by kernel_rfl) (decide_eq_true c212) ?_
                 refine wpRwI 79 (x := (decide ((rd vt59 x182) < (b178.length : Int)))) (v := true) (by kernel_rfl) (decide_eq_true c212) ?_
                 refine condT (by kernel_rfl) ?_
                 refine wp_region_lit ?_
                 refine seqL3 (by kernel_rfl) ?_
                 refine seqK rfl (does_run (run_indexE hA210 (sz := 1) rfl Tryd.underlying27 (by kernel_rfl) (by kernel_rfl : _ = Value.slice A66 vt59.length c67) (by kernel_rfl : _ = Value.int .i64 x182) c203 c204 W175) ?_)
                 refine seqK rfl (does_run (run_load rfl Tryd.underlying3 rfl (by kernel_rfl : _ = Value.pointer (some ⟨b208, of209 + (x182 : Int).toNat * 1, none⟩)) ((hc207 HS176.u1) 0 (by decide))) ?_)
                 have hq_ := guard_some h; clear h; obtain ⟨c213, h⟩ := hq_
                 have c213 : 0 ≤ (rd vt59 x182) := c213
                 obtain ⟨b217, of218, cs214, hA219, hr215, hc216⟩ := HO180.at (i := (rd vt59 x182)) c213 c212
                 obtain rfl := hr215
                 refine seqK rfl (does_run (run_indexE hA219 (sz := 1) rfl Tryd.underlying23 (by kernel_rfl) (by kernel_rfl : _ = Value.slice A45 b178.length c46) (by kernel_rfl : _ = Value.int .i64 (rd vt59 x182)) c213 c212 W175) ?_)
                 refine seqK rfl (does_run (run_load rfl Tryd.underlying5 rfl (by kernel_rfl : _ = Value.pointer (some ⟨b217, of218 + ((rd vt59 x182) : Int).toNat * 1, none⟩)) ((hc216 HS176) 0 (by decide))) ?_)
                 refine seqL2 (by kernel_rfl) ?_
                 refine seqK rfl (does_run (run_indexE hA219 (sz := 1) rfl Tryd.underlying23 (by kernel_rfl) (by kernel_rfl : _ = Value.slice A45 b178.length c46) (by kernel_rfl : _ = Value.int .i64 (rd vt59 x182)) c213 c212 W175) ?_)
                 refine seqK rfl (does_put (e := (tInt .u8)) (E := 5) (vs := [.int .u8 (Go.bits .xor .u8 (rd b178 (rd vt59 x182)) x6)]) (u := Go.bits .xor .u8 (rd b178 (rd vt59 x182)) x6) (i := (rd vt59 x182)) rfl (by kernel_rfl) HO180 HS176 hA219 (by kernel_rfl : _ = Value.pointer (some ⟨b217, of218 + ((rd vt59 x182) : Int).toNat * 1, none⟩)) (by kernel_rfl : _ = Value.int .u8 (Go.bits .xor .u8 (rd b178 (rd vt59 x182)) x6)) rfl rfl c213 c212 ?_)
                 intro W220 s221 HS222 HO223
                 refine seqRwS 8 (A := A45) (m := b178.length) (n := (b178.set ((rd vt59 x182)).toNat (Go.bits .xor .u8 (rd b178 (rd vt59 x182)) x6)).length) (c := c46) (by kernel_rfl) (List.length_set).symm ?_
                 refine seqRwS 76 (A := A45) (m := b178.length) (n := (b178.set ((rd vt59 x182)).toNat (Go.bits .xor .u8 (rd b178 (rd vt59 x182)) x6)).length) (c := c46) (by kernel_rfl) (List.length_set).symm ?_
                 refine seqRwS 80 (A := A45) (m := b178.length) (n := (b178.set ((rd vt59 x182)).toNat (Go.bits .xor .u8 (rd b178 (rd vt59 x182)) x6)).length) (c := c46) (by kernel_rfl) (List.length_set).symm ?_
                 refine wpList_nil ?_
                 refine hn193 _ _ ?_
                 refine hK190 _ _ ?_
                 refine wp_region_lit ?_
                 refine seqS2 (a' := ⟨#[.slice A2 l1.length c3, iV vt102, .int .u8 x6, uV, uV, uV, fV, pV b30 0, .slice A45 (b178.set ((rd vt59 x182)).toNat (Go.bits .xor .u8 (rd b178 (rd vt59 x182)) x6)).length c46, iV vt39, iV vt57, iV vt58, .slice A66 vt59.length c67, iV vt60, iV x182, uV, uV, .slice A2 l1.length c3, .agg #[.slice A2 l1.length c3, iV 0], pV b11 0, (ag_Frame vt15 A22 c23 A27 c28), .tuple #[.slice A45 vt38.length c46, iV vt39], pV b30 0, iV vt15.W, pV b30 1, iV vt15.H, pV b30 3, .slice A27 vt15.Counts.length c28, .tuple #[.slice A45 vt38.length c46, iV vt39], .slice A45 vt38.length c46, iV vt39, .tuple #[iV vt57, iV vt58, .slice A66 vt59.length c67, iV vt60], .slice A45 vt38.length c46, .tuple #[iV vt57, iV vt58, .slice A66 vt59.length c67, iV vt60], iV vt57, iV vt58, .slice A66 vt59.length c67, iV vt60, .bool vt78, fV, fV, iV vt39, fV, fV, fV, iV vt60, fV, fV, fV, .slice A66 vt59.length c67, iV (vt59.length : Int), iV vt58, iV (w64 (vt58 + 1)), fV, fV, fV, iV vt58, pV b30 1, iV vt15.H, fV, fV, iV y5, iV vt58, iV vt102, iV vt58, iV (w64 (x182 + 1)), tV, iV x182, iV x182, iV vt102, tV, tV, .slice A66 vt59.length c67, iV x182, pV b208 (of209 + (x182 : Int).toNat * 1), iV (rd vt59 x182), .slice A45 (b178.set ((rd vt59 x182)).toNat (Go.bits .xor .u8 (rd b178 (rd vt59 x182)) x6)).length c46, iV (b178.length : Int), tV, tV, .slice A45 (b178.set ((rd vt59 x182)).toNat (Go.bits .xor .u8 (rd b178 (rd vt59 x182)) x6)).length c46, .slice A66 vt59.length c67, iV x182, pV b208 (of209 + (x182 : Int).toNat * 1), iV (rd vt59 x182), pV b217 (of218 + ((rd vt59 x182) : Int).toNat * 1), .int .u8 (rd b178 (rd vt59 x182)), .int .u8 x6, .int .u8 (Go.bits .xor .u8 (rd b178 (rd vt59 x182)) x6), pV b217 (of218 + ((rd vt59 x182) : Int).toNat * 1), iV (w64 (x182 + 1)), uV, uV, uV, uV, uV, uV, uV, uV, uV, uV, uV, uV, uV, uV, uV, uV, uV, uV, uV, uV, uV, uV, uV, uV], []⟩) (by kernel_rfl) ?_
                 refine wpList_nil ?_
                 refine hK171 n172 _ _ (Nat.lt_succ_self _) ?_
                 exact ⟨f173, s221, (b178.set ((rd vt59 x182)).toNat (Go.bits .xor .u8 (rd b178 (rd vt59 x182)) x6)), (w64 (x182 + 1)), (fun i_ => [Value.int .i64 x182, Value.bool true, Value.int .i64 x182, Value.int .i64 x182, Value.int .i64 vt102, Value.bool true, Value.bool true, Value.slice A66 vt59.length c67, Value.int .i64 x182, Value.pointer (some ⟨b208, of209 + (x182 : Int).toNat * 1, none⟩), Value.int .i64 (rd vt59 x182), Value.slice A45 (b178.set ((rd vt59 x182)).toNat (Go.bits .xor .u8 (rd b178 (rd vt59 x182)) x6)).length c46, Value.int .i64 (b178.length : Int), Value.bool true, Value.bool true, Value.slice A45 (b178.set ((rd vt59 x182)).toNat (Go.bits .xor .u8 (rd b178 (rd vt59 x182)) x6)).length c46, Value.slice A66 vt59.length c67, Value.int .i64 x182, Value.pointer (some ⟨b208, of209 + (x182 : Int).toNat * 1, none⟩), Value.int .i64 (rd vt59 x182), Value.pointer (some ⟨b217, of218 + ((rd vt59 x182) : Int).toNat * 1, none⟩), Value.int .u8 (rd b178 (rd vt59 x182)), Value.int .u8 x6, Value.int .u8 (Go.bits .xor .u8 (rd b178 (rd vt59 x182)) x6), Value.pointer (some ⟨b217, of218 + ((rd vt59 x182) : Int).toNat * 1, none⟩), Value.int .i64 (w64 (x182 + 1))].getD i_ undef), L174, HS222, HO223, (List.length_set.trans HL181), h, (by kernel_rfl)⟩
               · have c212 : ¬ ((rd vt59 x182) < (b178.length : Int)) := c212
                 refine wpRwI 78 (x := (decide ((rd vt59 x182) < (b178.length : Int)))) (v := false) (by kernel_rfl) (decide_eq_false c212) ?_
                 refine wpRwI 79 (x := (decide ((rd vt59 x182) < (b178.length : Int)))) (v := false) (by kernel_rfl) (decide_eq_false c212) ?_
                 refine condF (by kernel_rfl) ?_
                 refine wp_skip ?_
                 refine hn193 _ _ ?_
                 refine hK190 _ _ ?_
                 refine wp_region_lit ?_
                 refine seqS2 (a' := ⟨#[.slice A2 l1.length c3, iV vt102, .int .u8 x6, uV, uV, uV, fV, pV b30 0, .slice A45 b178.length c46, iV vt39, iV vt57, iV vt58, .slice A66 vt59.length c67, iV vt60, iV x182, uV, uV, .slice A2 l1.length c3, .agg #[.slice A2 l1.length c3, iV 0], pV b11 0, (ag_Frame vt15 A22 c23 A27 c28), .tuple #[.slice A45 vt38.length c46, iV vt39], pV b30 0, iV vt15.W, pV b30 1, iV vt15.H, pV b30 3, .slice A27 vt15.Counts.length c28, .tuple #[.slice A45 vt38.length c46, iV vt39], .slice A45 vt38.length c46, iV vt39, .tuple #[iV vt57, iV vt58, .slice A66 vt59.length c67, iV vt60], .slice A45 vt38.length c46, .tuple #[iV vt57, iV vt58, .slice A66 vt59.length c67, iV vt60], iV vt57, iV vt58, .slice A66 vt59.length c67, iV vt60, .bool vt78, fV, fV, iV vt39, fV, fV, fV, iV vt60, fV, fV, fV, .slice A66 vt59.length c67, iV (vt59.length : Int), iV vt58, iV (w64 (vt58 + 1)), fV, fV, fV, iV vt58, pV b30 1, iV vt15.H, fV, fV, iV y5, iV vt58, iV vt102, iV vt58, iV (w64 (x182 + 1)), tV, iV x182, iV x182, iV vt102, tV, tV, .slice A66 vt59.length c67, iV x182, pV b208 (of209 + (x182 : Int).toNat * 1), iV (rd vt59 x182), .slice A45 b178.length c46, iV (b178.length : Int), fV, fV, (j177 15), (j177 16), (j177 17), (j177 18), (j177 19), (j177 20), (j177 21), (j177 22), (j177 23), (j177 24), iV (w64 (x182 + 1)), uV, uV, uV, uV, uV, uV, uV, uV, uV, uV, uV, uV, uV, uV, uV, uV, uV, uV, uV, uV, uV, uV, uV, uV], []⟩) (by kernel_rfl) ?_
                 refine wpList_nil ?_
                 refine hK171 n172 _ _ (Nat.lt_succ_self _) ?_
                 exact ⟨f173, s179, b178, (w64 (x182 + 1)), (fun i_ => [Value.int .i64 x182, Value.bool true, Value.int .i64 x182, Value.int .i64 x182, Value.int .i64 vt102, Value.bool true, Value.bool true, Value.slice A66 vt59.length c67, Value.int .i64 x182, Value.pointer (some ⟨b208, of209 + (x182 : Int).toNat * 1, none⟩), Value.int .i64 (rd vt59 x182), Value.slice A45 b178.length c46, Value.int .i64 (b178.length : Int), Value.bool false, Value.bool false, (j177 15), (j177 16), (j177 17), (j177 18), (j177 19), (j177 20), (j177 21), (j177 22), (j177 23), (j177 24), Value.int .i64 (w64 (x182 + 1))].getD i_ undef), L174, HS176, HO180, HL181, h, (by kernel_rfl)⟩
             · have c202 : ¬ (x182 ≠ vt102) := c202
               refine seqRwI 70 (x := (x182 != vt102)) (v := false) (by kernel_rfl) (bne_eq_false_iff_eq.mpr (Decidable.of_not_not c202)) ?_
               refine seqRwI 71 (x := (x182 != vt102)) (v := false) (by kernel_rfl) (bne_eq_false_iff_eq.mpr (Decidable.of_not_not c202)) ?_
               refine seqS8 (a' := ⟨#[.slice A2 l1.length c3, iV vt102, .int .u8 x6, uV, uV, uV, fV, pV b30 0, .slice A45 b178.length c46, iV vt39, iV vt57, iV vt58, .slice A66 vt59.length c67, iV vt60, iV x182, uV, uV, .slice A2 l1.length c3, .agg #[.slice A2 l1.length c3, iV 0], pV b11 0, (ag_Frame vt15 A22 c23 A27 c28), .tuple #[.slice A45 vt38.length c46, iV vt39], pV b30 0, iV vt15.W, pV b30 1, iV vt15.H, pV b30 3, .slice A27 vt15.Counts.length c28, .tuple #[.slice A45 vt38.length c46, iV vt39], .slice A45 vt38.length c46, iV vt39, .tuple #[iV vt57, iV vt58, .slice A66 vt59.length c67, iV vt60], .slice A45 vt38.length c46, .tuple #[iV vt57, iV vt58, .slice A66 vt59.length c67, iV vt60], iV vt57, iV vt58, .slice A66 vt59.length c67, iV vt60, .bool vt78, fV, fV, iV vt39, fV, fV, fV, iV vt60, fV, fV, fV, .slice A66 vt59.length c67, iV (vt59.length : Int), iV vt58, iV (w64 (vt58 + 1)), fV, fV, fV, iV vt58, pV b30 1, iV vt15.H, fV, fV, iV y5, iV vt58, iV vt102, iV vt58, iV x182, tV, iV x182, iV x182, iV vt102, fV, fV, uV, uV, uV, uV, uV, uV, uV, fV, (j177 15), (j177 16), (j177 17), (j177 18), (j177 19), (j177 20), (j177 21), (j177 22), (j177 23), (j177 24), (j177 25), uV, uV, uV, uV, uV, uV, uV, uV, uV, uV, uV, uV, uV, uV, uV, uV, uV, uV, uV, uV, uV, uV, uV, uV], []⟩) (by kernel_rfl) ?_
               refine wpList_nil ?_
               refine hK201 _ _ ?_
               refine condF (by kernel_rfl) ?_
               refine wp_skip ?_
               refine hn193 _ _ ?_
               refine hK190 _ _ ?_
               refine wp_region_lit ?_
               refine seqS2 (a' := ⟨#[.slice A2 l1.length c3, iV vt102, .int .u8 x6, uV, uV, uV, fV, pV b30 0, .slice A45 b178.length c46, iV vt39, iV vt57, iV vt58, .slice A66 vt59.length c67, iV vt60, iV x182, uV, uV, .slice A2 l1.length c3, .agg #[.slice A2 l1.length c3, iV 0], pV b11 0, (ag_Frame vt15 A22 c23 A27 c28), .tuple #[.slice A45 vt38.length c46, iV vt39], pV b30 0, iV vt15.W, pV b30 1, iV vt15.H, pV b30 3, .slice A27 vt15.Counts.length c28, .tuple #[.slice A45 vt38.length c46, iV vt39], .slice A45 vt38.length c46, iV vt39, .tuple #[iV vt57, iV vt58, .slice A66 vt59.length c67, iV vt60], .slice A45 vt38.length c46, .tuple #[iV vt57, iV vt58, .slice A66 vt59.length c67, iV vt60], iV vt57, iV vt58, .slice A66 vt59.length c67, iV vt60, .bool vt78, fV, fV, iV vt39, fV, fV, fV, iV vt60, fV, fV, fV, .slice A66 vt59.length c67, iV (vt59.length : Int), iV vt58, iV (w64 (vt58 + 1)), fV, fV, fV, iV vt58, pV b30 1, iV vt15.H, fV, fV, iV y5, iV vt58, iV vt102, iV vt58, iV (w64 (x182 + 1)), tV, iV x182, iV x182, iV vt102, fV, fV, uV, uV, uV, uV, uV, uV, uV, fV, (j177 15), (j177 16), (j177 17), (j177 18), (j177 19), (j177 20), (j177 21), (j177 22), (j177 23), (j177 24), iV (w64 (x182 + 1)), uV, uV, uV, uV, uV, uV, uV, uV, uV, uV, uV, uV, uV, uV, uV, uV, uV, uV, uV, uV, uV, uV, uV, uV], []⟩) (by kernel_rfl) ?_
               refine wpList_nil ?_
               refine hK171 n172 _ _ (Nat.lt_succ_self _) ?_
               exact ⟨f173, s179, b178, (w64 (x182 + 1)), (fun i_ => [Value.int .i64 x182, Value.bool true, Value.int .i64 x182, Value.int .i64 x182, Value.int .i64 vt102, Value.bool false, Value.bool false, undef, undef, undef, undef, undef, undef, undef, Value.bool false, (j177 15), (j177 16), (j177 17), (j177 18), (j177 19), (j177 20), (j177 21), (j177 22), (j177 23), (j177 24), Value.int .i64 (w64 (x182 + 1))].getD i_ undef), L174, HS176, HO180, HL181, h, (by kernel_rfl)⟩
           · have c188 : ¬ (x182 < vt58) := c188
             refine wpRwI 66 (x := (decide (x182 < vt58))) (v := false) (by kernel_rfl) (decide_eq_false c188) ?_
             refine condF (by kernel_rfl) ?_
             refine wp_exit ?_
             refine hx113 _ _ ?_
             exact J234 f173 s179 b178 (fun i_ => [(j177 0), Value.slice A45 vt38.length c46, Value.slice A45 vt38.length c46, Value.int .i64 x182, Value.bool false, (j177 2), (j177 3), (j177 4), (j177 5), (j177 6), (j177 7), (j177 8), (j177 9), (j177 10), (j177 11), (j177 12), (j177 13), (j177 14), (j177 15), (j177 16), (j177 17), (j177 18), (j177 19), (j177 20), (j177 21), (j177 22), (j177 23), (j177 24), (j177 25)].getD i_ undef) W175 _ L174 h HS176 HO180 HL181 (by kernel_rfl)

end Go.Sp.A1
