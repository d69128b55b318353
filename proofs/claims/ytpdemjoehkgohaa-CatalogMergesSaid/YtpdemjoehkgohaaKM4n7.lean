import Derived.Test.YtpdemjoehkgohaaProg
import Derived.Test.YtpdemjoehkgohaaSpCopy
import Derived.Test.YtpdemjoehkgohaaFM4
import Derived.Test.YtpdemjoehkgohaaSpSort
import Derived.Test.YtpdemjoehkgohaaShelf
import Derived.Test.YtpdemjoehkgohaaSpMapR
import Derived.Test.YtpdemjoehkgohaaSpKeys
import Derived.Test.YtpdemjoehkgohaaSpRound
import Derived.Test.YtpdemjoehkgohaaKM4n0
import Derived.Test.YtpdemjoehkgohaaKM4n1
import Derived.Test.YtpdemjoehkgohaaKM4n2
import Derived.Test.YtpdemjoehkgohaaKM4n3
import Derived.Test.YtpdemjoehkgohaaKM4n4
import Derived.Test.YtpdemjoehkgohaaKM4n5
import Derived.Test.YtpdemjoehkgohaaKM4n6
namespace Go.Sp.M4
open Go Go.Sp Go.Proofs
set_option linter.unusedVariables false
attribute [local irreducible] wpList AnyL Code.wp Calls Does Code.wpIn wpListIn CallsIn bodyPostM LeavesInM
set_option maxRecDepth 100000 in
set_option maxHeartbeats 4000000 in
theorem spykeep3_CatalogMerges.calls (k : Nat) (A2 : Option Addr) (c3 : Nat) (l1 : List Int) (clash5 : Bool) {t w : World} {f : FM} {H : List Seg} (HS : St t w f (H)) (HR4 : SlR (tInt .i64) f A2 c3 l1) (rr1 : Bool) (h : spykeep3_CatalogMerges k l1 clash5 = some rr1) :
    Calls Try.prog 4 #[.slice A2 l1.length c3, .bool clash5] w (fun e w' => ∃ (g : FM), e = .returned (Value.bool rr1) ∧ FM.le f g ∧ St t w' g (H)) := by
 unfold spykeep3_CatalogMerges at h
 refine enter Try.func4 rfl (tm := #[.slice A2 l1.length c3, .bool clash5, uV, uV, uV, uV, uV, uV, uV, uV, uV, uV, uV, uV, uV, uV, uV, uV, uV, uV, uV, uV, uV, uV, uV, uV, uV, uV, uV, uV, uV, uV, uV, uV, uV, uV, uV, uV, uV, uV, uV, uV, uV, uV, uV, uV, uV, uV, uV, uV, uV, uV, uV, uV, uV, uV, uV, uV, uV, uV, uV, uV, uV, uV, uV, uV, uV, uV, uV, uV, uV, uV, uV, uV, uV, uV, uV, uV, uV, uV, uV, uV, uV, uV, uV, uV, uV, uV, uV, uV, uV, uV, uV, uV, uV, uV, uV, uV, uV, uV, uV, uV, uV, uV, uV, uV, uV, uV, uV, uV, uV]) (by kernel_rfl) ?_
 intro B hret hnor hnp
 refine wp_seq_k (fun K6 hK7 => ?_)
 refine wp_region_lit ?_
 refine seqL1 (by kernel_rfl) ?_
 refine wpList_nil ?_
 refine hK7 _ _ ?_
 refine wp_seq_k (fun K8 hK9 => ?_)
 refine wp_region_lit ?_
 refine seqL2 (by kernel_rfl) ?_
 refine seqK rfl (does_box (cs := #[.slice A2 l1.length c3, .int .i64 0]) rfl (by kernel_rfl : _ = Value.agg #[.slice A2 l1.length c3, .int .i64 0]) rfl HS ?_)
 intro b10 W11 HS12
 have hq_ := bind_some h; clear h; obtain ⟨⟨vt14, vt15, vt16, vt17⟩, hc18, h⟩ := hq_
 refine seqL1 (by kernel_rfl) ?_
 refine seqK rfl (does_call (f := 13) (args := #[.pointer (some ⟨b10, 0, none⟩), .bool clash5]) (by kernel_rfl) (spykeep3_parted.calls k b10 A2 c3 (⟨l1, 0⟩ : S_Stream) clash5 HS12 HR4 vt14 vt15 vt16 vt17 hc18) ?_)
 rintro _ W21 ⟨f19, A23, c24, s25, A28, c29, s30, A33, c34, s35, rfl, L20, HS22, HO26, HO31, HO36⟩
 refine ⟨_, rfl, ?_⟩
 refine seqL7 (by kernel_rfl) ?_
 refine wpList_nil ?_
 refine hK9 _ _ ?_
 refine wp_seq_k (fun K38 hK39 => ?_)
 refine wp_region_lit ?_
 refine seqL1 (by kernel_rfl) ?_
 refine wpList_nil ?_
 refine hK39 _ _ ?_
 refine wp_seq_k (fun K40 hK41 => ?_)
 refine wp_region_lit ?_
 obtain ⟨f42, L43, HS44, HR45⟩ := HO26.freeze HS22
 have hq_ := bind_some h; clear h; obtain ⟨⟨vt46, vt47⟩, hc48, h⟩ := hq_
 refine seqL2 (by kernel_rfl) ?_
 refine seqK rfl (does_call (f := 15) (args := #[.slice A23 vt14.length c24, .slice A23 vt14.length c24]) (by kernel_rfl) (catalog_Merge.calls k A23 c24 A23 c24 vt14 vt14 HS44 HR45 HR45 vt46 vt47 hc48) ?_)
 rintro _ W51 ⟨f49, A53, c54, s55, rfl, L50, HS52, HO56⟩
 refine ⟨_, rfl, ?_⟩
 refine seqS5 (a' := ⟨#[.slice A2 l1.length c3, .bool clash5, uV, uV, fV, .slice A23 vt14.length c24, .slice A28 vt15.length c29, .slice A33 vt16.length c34, .func (.func 14) #[] #[], .slice A53 vt46.length c54, iV vt47, uV, uV, uV, uV, uV, uV, uV, uV, uV, uV, .tuple #[.slice A23 vt14.length c24, .slice A28 vt15.length c29, .slice A33 vt16.length c34], .slice A2 l1.length c3, .agg #[.slice A2 l1.length c3, iV 0], pV b10 0, .bool clash5, .tuple #[.slice A23 vt14.length c24, .slice A28 vt15.length c29, .slice A33 vt16.length c34], .slice A23 vt14.length c24, .slice A28 vt15.length c29, .slice A33 vt16.length c34, .tuple #[.slice A53 vt46.length c54, iV vt47], .slice A23 vt14.length c24, .slice A23 vt14.length c24, .tuple #[.slice A53 vt46.length c54, iV vt47], .slice A53 vt46.length c54, iV vt47, uV, uV, uV, uV, uV, uV, uV, uV, uV, uV, uV, uV, uV, uV, uV, uV, uV, uV, uV, uV, uV, uV, uV, uV, uV, uV, uV, uV, uV, uV, uV, uV, uV, uV, uV, uV, uV, uV, uV, uV, uV, uV, uV, uV, uV, uV, uV, uV, uV, uV, uV, uV, uV, uV, uV, uV, uV, uV, uV, uV, uV, uV, uV, uV, uV, uV, uV, uV, uV, uV, uV, uV, uV, uV, uV], []⟩) (by kernel_rfl) ?_
 refine wpList_nil ?_
 refine hK41 _ _ ?_
 refine wp_seq_k (fun K58 hK59 => ?_)
 refine wp_region_lit ?_
 have HS60 := HS52.u1
 obtain ⟨f61, L62, HS63, HR64⟩ := (HO31.mono (L43.trans L50)).freeze HS60
 have hq_ := bind_some h; clear h; obtain ⟨⟨vt65, vt66⟩, hc67, h⟩ := hq_
 refine seqL2 (by kernel_rfl) ?_
 refine seqK rfl (does_call (f := 15) (args := #[.slice A23 vt14.length c24, .slice A28 vt15.length c29]) (by kernel_rfl) (catalog_Merge.calls k A23 c24 A28 c29 vt14 vt15 HS63 (HR45.mono (L50.trans L62)) HR64 vt65 vt66 hc67) ?_)
 rintro _ W70 ⟨f68, A72, c73, s74, rfl, L69, HS71, HO75⟩
 refine ⟨_, rfl, ?_⟩
 refine seqL5 (by kernel_rfl) ?_
 refine wpList_nil ?_
 refine hK59 _ _ ?_
 refine wp_seq_k (fun K77 hK78 => ?_)
 refine wp_region_lit ?_
 have hq_ := bind_some h; clear h; obtain ⟨⟨vt79, vt80⟩, hc81, h⟩ := hq_
 refine seqL2 (by kernel_rfl) ?_
 refine seqK rfl (does_call (f := 15) (args := #[.slice A28 vt15.length c29, .slice A23 vt14.length c24]) (by kernel_rfl) (catalog_Merge.calls k A28 c29 A23 c24 vt15 vt14 HS71 (HR64.mono L69) (HR45.mono (L50.trans (L62.trans L69))) vt79 vt80 hc81) ?_)
 rintro _ W84 ⟨f82, A86, c87, s88, rfl, L83, HS85, HO89⟩
 refine ⟨_, rfl, ?_⟩
 refine seqL5 (by kernel_rfl) ?_
 refine wpList_nil ?_
 refine hK78 _ _ ?_
 refine wp_seq_k (fun K91 hK92 => ?_)
 refine wp_region_lit ?_
 have HS93 := HS85.u3
 obtain ⟨f94, L95, HS96, HR97⟩ := (HO36.mono (L43.trans (L50.trans (L62.trans (L69.trans L83))))).freeze HS93
 have hq_ := bind_some h; clear h; obtain ⟨⟨vt98, vt99⟩, hc100, h⟩ := hq_
 refine seqL2 (by kernel_rfl) ?_
 refine seqK rfl (does_call (f := 15) (args := #[.slice A28 vt15.length c29, .slice A33 vt16.length c34]) (by kernel_rfl) (catalog_Merge.calls k A28 c29 A33 c34 vt15 vt16 HS96 (HR64.mono (L69.trans (L83.trans L95))) HR97 vt98 vt99 hc100) ?_)
 rintro _ W103 ⟨f101, A105, c106, s107, rfl, L102, HS104, HO108⟩
 refine ⟨_, rfl, ?_⟩
 refine seqS5 (a' := ⟨#[.slice A2 l1.length c3, .bool clash5, uV, uV, fV, .slice A23 vt14.length c24, .slice A28 vt15.length c29, .slice A33 vt16.length c34, .func (.func 14) #[] #[], .slice A53 vt46.length c54, iV vt47, .slice A72 vt65.length c73, iV vt66, .slice A86 vt79.length c87, iV vt80, .slice A105 vt98.length c106, iV vt99, uV, uV, uV, uV, .tuple #[.slice A23 vt14.length c24, .slice A28 vt15.length c29, .slice A33 vt16.length c34], .slice A2 l1.length c3, .agg #[.slice A2 l1.length c3, iV 0], pV b10 0, .bool clash5, .tuple #[.slice A23 vt14.length c24, .slice A28 vt15.length c29, .slice A33 vt16.length c34], .slice A23 vt14.length c24, .slice A28 vt15.length c29, .slice A33 vt16.length c34, .tuple #[.slice A53 vt46.length c54, iV vt47], .slice A23 vt14.length c24, .slice A23 vt14.length c24, .tuple #[.slice A53 vt46.length c54, iV vt47], .slice A53 vt46.length c54, iV vt47, .tuple #[.slice A72 vt65.length c73, iV vt66], .slice A23 vt14.length c24, .slice A28 vt15.length c29, .tuple #[.slice A72 vt65.length c73, iV vt66], .slice A72 vt65.length c73, iV vt66, .tuple #[.slice A86 vt79.length c87, iV vt80], .slice A28 vt15.length c29, .slice A23 vt14.length c24, .tuple #[.slice A86 vt79.length c87, iV vt80], .slice A86 vt79.length c87, iV vt80, .tuple #[.slice A105 vt98.length c106, iV vt99], .slice A28 vt15.length c29, .slice A33 vt16.length c34, .tuple #[.slice A105 vt98.length c106, iV vt99], .slice A105 vt98.length c106, iV vt99, uV, uV, uV, uV, uV, uV, uV, uV, uV, uV, uV, uV, uV, uV, uV, uV, uV, uV, uV, uV, uV, uV, uV, uV, uV, uV, uV, uV, uV, uV, uV, uV, uV, uV, uV, uV, uV, uV, uV, uV, uV, uV, uV, uV, uV, uV, uV, uV, uV, uV, uV, uV, uV, uV, uV, uV, uV], []⟩) (by kernel_rfl) ?_
 refine wpList_nil ?_
 refine hK92 _ _ ?_
 refine wp_seq_k (fun K110 hK111 => ?_)
 refine wp_region_lit ?_
 have HS112 := HS104.u2
 obtain ⟨f113, L114, HS115, HR116⟩ := (HO75.mono (L83.trans (L95.trans L102))).freeze HS112
 have hq_ := bind_some h; clear h; obtain ⟨⟨vt117, vt118⟩, hc119, h⟩ := hq_
 refine seqL4 (by kernel_rfl) ?_
 refine seqK rfl (does_call (f := 14) (args := #[.slice A72 vt65.length c73, .slice A33 vt16.length c34, .int .i64 vt66]) (by kernel_rfl) (spykeep3_CatalogMerges_1.calls k A72 c73 A33 c34 vt65 vt16 vt66 HS115 HR116 (HR97.mono (L102.trans L114)) vt117 vt118 hc119) ?_)
 rintro _ W122 ⟨f120, A124, c125, s126, rfl, L121, HS123, HO127⟩
 refine ⟨_, rfl, ?_⟩
 refine seqL5 (by kernel_rfl) ?_
 refine wpList_nil ?_
 refine hK111 _ _ ?_
 refine wp_seq_k (fun K129 hK130 => ?_)
 refine wp_region_lit ?_
 have HS131 := HS123.u1
 obtain ⟨f132, L133, HS134, HR135⟩ := (HO108.mono (L114.trans L121)).freeze HS131
 have hq_ := bind_some h; clear h; obtain ⟨⟨vt136, vt137⟩, hc138, h⟩ := hq_
 refine seqL4 (by kernel_rfl) ?_
 refine seqK rfl (does_call (f := 14) (args := #[.slice A23 vt14.length c24, .slice A105 vt98.length c106, .int .i64 vt99]) (by kernel_rfl) (spykeep3_CatalogMerges_1.calls k A23 c24 A105 c106 vt14 vt98 vt99 HS134 (HR45.mono (L50.trans (L62.trans (L69.trans (L83.trans (L95.trans (L102.trans (L114.trans (L121.trans L133))))))))) HR135 vt136 vt137 hc138) ?_)
 rintro _ W141 ⟨f139, A143, c144, s145, rfl, L140, HS142, HO146⟩
 refine ⟨_, rfl, ?_⟩
 refine seqS5 (a' := ⟨#[.slice A2 l1.length c3, .bool clash5, uV, uV, fV, .slice A23 vt14.length c24, .slice A28 vt15.length c29, .slice A33 vt16.length c34, .func (.func 14) #[] #[], .slice A53 vt46.length c54, iV vt47, .slice A72 vt65.length c73, iV vt66, .slice A86 vt79.length c87, iV vt80, .slice A105 vt98.length c106, iV vt99, .slice A124 vt117.length c125, iV vt118, .slice A143 vt136.length c144, iV vt137, .tuple #[.slice A23 vt14.length c24, .slice A28 vt15.length c29, .slice A33 vt16.length c34], .slice A2 l1.length c3, .agg #[.slice A2 l1.length c3, iV 0], pV b10 0, .bool clash5, .tuple #[.slice A23 vt14.length c24, .slice A28 vt15.length c29, .slice A33 vt16.length c34], .slice A23 vt14.length c24, .slice A28 vt15.length c29, .slice A33 vt16.length c34, .tuple #[.slice A53 vt46.length c54, iV vt47], .slice A23 vt14.length c24, .slice A23 vt14.length c24, .tuple #[.slice A53 vt46.length c54, iV vt47], .slice A53 vt46.length c54, iV vt47, .tuple #[.slice A72 vt65.length c73, iV vt66], .slice A23 vt14.length c24, .slice A28 vt15.length c29, .tuple #[.slice A72 vt65.length c73, iV vt66], .slice A72 vt65.length c73, iV vt66, .tuple #[.slice A86 vt79.length c87, iV vt80], .slice A28 vt15.length c29, .slice A23 vt14.length c24, .tuple #[.slice A86 vt79.length c87, iV vt80], .slice A86 vt79.length c87, iV vt80, .tuple #[.slice A105 vt98.length c106, iV vt99], .slice A28 vt15.length c29, .slice A33 vt16.length c34, .tuple #[.slice A105 vt98.length c106, iV vt99], .slice A105 vt98.length c106, iV vt99, .tuple #[.slice A124 vt117.length c125, iV vt118], .func (.func 14) #[] #[], .slice A72 vt65.length c73, .slice A33 vt16.length c34, iV vt66, .tuple #[.slice A124 vt117.length c125, iV vt118], .slice A124 vt117.length c125, iV vt118, .tuple #[.slice A143 vt136.length c144, iV vt137], .func (.func 14) #[] #[], .slice A23 vt14.length c24, .slice A105 vt98.length c106, iV vt99, .tuple #[.slice A143 vt136.length c144, iV vt137], .slice A143 vt136.length c144, iV vt137, uV, uV, uV, uV, uV, uV, uV, uV, uV, uV, uV, uV, uV, uV, uV, uV, uV, uV, uV, uV, uV, uV, uV, uV, uV, uV, uV, uV, uV, uV, uV, uV, uV, uV, uV, uV, uV, uV, uV, uV, uV], []⟩) (by kernel_rfl) ?_
 refine wpList_nil ?_
 refine hK130 _ _ ?_
 refine wp_seq_k (fun K148 hK149 => ?_)
 refine wp_seq_k (fun K150 hK151 => ?_)
 refine wp_region_lit ?_
 have hq_ := bind_some h; clear h; obtain ⟨vt152, hc153, h⟩ := hq_
 refine seqK rfl (does_call (f := 11) (args := #[]) (by kernel_rfl) (spykeep3_listed.calls k  HS142 vt152 hc153) ?_)
 rintro _ W156 ⟨f154, rfl, L155, HS157⟩
 refine ⟨_, rfl, ?_⟩
 refine seqL2 (by kernel_rfl) ?_
 have hq_ := ite_some h; clear h; rcases hq_ with ⟨c158, h⟩ | ⟨c158, h⟩
 · have c158 : ¬ (vt152 = true) := c158
   refine seqRwI 71 (x := (!vt152)) (v := true) (by kernel_rfl) (congrArg (fun b_ => !b_) (show vt152 = false from (Bool.eq_false_iff.mpr c158)) : (!vt152) = true) ?_
   refine seqRwI 72 (x := (!vt152)) (v := true) (by kernel_rfl) (congrArg (fun b_ => !b_) (show vt152 = false from (Bool.eq_false_iff.mpr c158)) : (!vt152) = true) ?_
   refine seqS30 (a' := ⟨#[.slice A2 l1.length c3, .bool clash5, uV, uV, fV, .slice A23 vt14.length c24, .slice A28 vt15.length c29, .slice A33 vt16.length c34, .func (.func 14) #[] #[], .slice A53 vt46.length c54, iV vt47, .slice A72 vt65.length c73, iV vt66, .slice A86 vt79.length c87, iV vt80, .slice A105 vt98.length c106, iV vt99, .slice A124 vt117.length c125, iV vt118, .slice A143 vt136.length c144, iV vt137, .tuple #[.slice A23 vt14.length c24, .slice A28 vt15.length c29, .slice A33 vt16.length c34], .slice A2 l1.length c3, .agg #[.slice A2 l1.length c3, iV 0], pV b10 0, .bool clash5, .tuple #[.slice A23 vt14.length c24, .slice A28 vt15.length c29, .slice A33 vt16.length c34], .slice A23 vt14.length c24, .slice A28 vt15.length c29, .slice A33 vt16.length c34, .tuple #[.slice A53 vt46.length c54, iV vt47], .slice A23 vt14.length c24, .slice A23 vt14.length c24, .tuple #[.slice A53 vt46.length c54, iV vt47], .slice A53 vt46.length c54, iV vt47, .tuple #[.slice A72 vt65.length c73, iV vt66], .slice A23 vt14.length c24, .slice A28 vt15.length c29, .tuple #[.slice A72 vt65.length c73, iV vt66], .slice A72 vt65.length c73, iV vt66, .tuple #[.slice A86 vt79.length c87, iV vt80], .slice A28 vt15.length c29, .slice A23 vt14.length c24, .tuple #[.slice A86 vt79.length c87, iV vt80], .slice A86 vt79.length c87, iV vt80, .tuple #[.slice A105 vt98.length c106, iV vt99], .slice A28 vt15.length c29, .slice A33 vt16.length c34, .tuple #[.slice A105 vt98.length c106, iV vt99], .slice A105 vt98.length c106, iV vt99, .tuple #[.slice A124 vt117.length c125, iV vt118], .func (.func 14) #[] #[], .slice A72 vt65.length c73, .slice A33 vt16.length c34, iV vt66, .tuple #[.slice A124 vt117.length c125, iV vt118], .slice A124 vt117.length c125, iV vt118, .tuple #[.slice A143 vt136.length c144, iV vt137], .func (.func 14) #[] #[], .slice A23 vt14.length c24, .slice A105 vt98.length c106, iV vt99, .tuple #[.slice A143 vt136.length c144, iV vt137], .slice A143 vt136.length c144, iV vt137, .bool vt152, tV, tV, uV, uV, tV, tV, uV, uV, uV, uV, tV, tV, uV, uV, uV, tV, tV, uV, uV, uV, uV, tV, tV, uV, uV, uV, uV, uV, tV, tV, uV, uV, uV, uV, uV, uV, uV, uV, uV, uV], []⟩) (by kernel_rfl) ?_
   refine seqL3 (by kernel_rfl) ?_
   refine wpList_nil ?_
   refine hK151 _ _ ?_
   refine condT (by kernel_rfl) ?_
   refine wp_seq_k (fun K159 hK160 => ?_)
   refine wp_region_lit ?_
   refine seqL1 (by kernel_rfl) ?_
   refine wpList_nil ?_
   refine hK160 _ _ ?_
   refine wp_ret ?_
   refine hret _ _ ?_
   refine ends_still (v := Value.bool false) (by kernel_rfl) (by kernel_rfl) ?_
   have HS237 := HS157.drop
   have HS238 := HS237.drop
   have HS239 := HS238.drop
   have HS240 := HS239.drop
   have HS241 := HS240.drop
   injection h with h
   subst h
   exact ⟨f154, rfl, (L20.trans (L43.trans (L50.trans (L62.trans (L69.trans (L83.trans (L95.trans (L102.trans (L114.trans (L121.trans (L133.trans (L140.trans L155)))))))))))), HS241⟩
 · have c158 : ¬ (¬ (vt152 = true)) := c158
   refine seqRwI 71 (x := (!vt152)) (v := false) (by kernel_rfl) (congrArg (fun b_ => !b_) (show vt152 = true from (Decidable.of_not_not c158)) : (!vt152) = false) ?_
   refine seqRwI 72 (x := (!vt152)) (v := false) (by kernel_rfl) (congrArg (fun b_ => !b_) (show vt152 = true from (Decidable.of_not_not c158)) : (!vt152) = false) ?_
   refine seqL4 (by kernel_rfl) ?_
   have hq_ := ite_some h; clear h; rcases hq_ with ⟨c161, h⟩ | ⟨c161, h⟩
   · have c161 : vt47 ≠ 0 := c161
     refine seqRwI 74 (x := (vt47 != 0)) (v := true) (by kernel_rfl) (bne_iff_ne.mpr c161) ?_
     refine seqRwI 75 (x := (vt47 != 0)) (v := true) (by kernel_rfl) (bne_iff_ne.mpr c161) ?_
     refine seqRwI 76 (x := (vt47 != 0)) (v := true) (by kernel_rfl) (bne_iff_ne.mpr c161) ?_
     refine seqS29 (a' := ⟨#[.slice A2 l1.length c3, .bool clash5, uV, uV, fV, .slice A23 vt14.length c24, .slice A28 vt15.length c29, .slice A33 vt16.length c34, .func (.func 14) #[] #[], .slice A53 vt46.length c54, iV vt47, .slice A72 vt65.length c73, iV vt66, .slice A86 vt79.length c87, iV vt80, .slice A105 vt98.length c106, iV vt99, .slice A124 vt117.length c125, iV vt118, .slice A143 vt136.length c144, iV vt137, .tuple #[.slice A23 vt14.length c24, .slice A28 vt15.length c29, .slice A33 vt16.length c34], .slice A2 l1.length c3, .agg #[.slice A2 l1.length c3, iV 0], pV b10 0, .bool clash5, .tuple #[.slice A23 vt14.length c24, .slice A28 vt15.length c29, .slice A33 vt16.length c34], .slice A23 vt14.length c24, .slice A28 vt15.length c29, .slice A33 vt16.length c34, .tuple #[.slice A53 vt46.length c54, iV vt47], .slice A23 vt14.length c24, .slice A23 vt14.length c24, .tuple #[.slice A53 vt46.length c54, iV vt47], .slice A53 vt46.length c54, iV vt47, .tuple #[.slice A72 vt65.length c73, iV vt66], .slice A23 vt14.length c24, .slice A28 vt15.length c29, .tuple #[.slice A72 vt65.length c73, iV vt66], .slice A72 vt65.length c73, iV vt66, .tuple #[.slice A86 vt79.length c87, iV vt80], .slice A28 vt15.length c29, .slice A23 vt14.length c24, .tuple #[.slice A86 vt79.length c87, iV vt80], .slice A86 vt79.length c87, iV vt80, .tuple #[.slice A105 vt98.length c106, iV vt99], .slice A28 vt15.length c29, .slice A33 vt16.length c34, .tuple #[.slice A105 vt98.length c106, iV vt99], .slice A105 vt98.length c106, iV vt99, .tuple #[.slice A124 vt117.length c125, iV vt118], .func (.func 14) #[] #[], .slice A72 vt65.length c73, .slice A33 vt16.length c34, iV vt66, .tuple #[.slice A124 vt117.length c125, iV vt118], .slice A124 vt117.length c125, iV vt118, .tuple #[.slice A143 vt136.length c144, iV vt137], .func (.func 14) #[] #[], .slice A23 vt14.length c24, .slice A105 vt98.length c106, iV vt99, .tuple #[.slice A143 vt136.length c144, iV vt137], .slice A143 vt136.length c144, iV vt137, .bool vt152, fV, fV, iV vt47, tV, tV, tV, uV, uV, uV, uV, tV, tV, uV, uV, uV, tV, tV, uV, uV, uV, uV, tV, tV, uV, uV, uV, uV, uV, tV, tV, uV, uV, uV, uV, tV, uV, uV, uV, uV, uV], []⟩) (by kernel_rfl) ?_
     refine wpList_nil ?_
     refine hK151 _ _ ?_
     refine condT (by kernel_rfl) ?_
     refine wp_seq_k (fun K162 hK163 => ?_)
     refine wp_region_lit ?_
     refine seqL1 (by kernel_rfl) ?_
     refine wpList_nil ?_
     refine hK163 _ _ ?_
     refine wp_ret ?_
     refine hret _ _ ?_
     refine ends_still (v := Value.bool false) (by kernel_rfl) (by kernel_rfl) ?_
     have HS242 := HS157.drop
     have HS243 := HS242.drop
     have HS244 := HS243.drop
     have HS245 := HS244.drop
     have HS246 := HS245.drop
     injection h with h
     subst h
     exact ⟨f154, rfl, (L20.trans (L43.trans (L50.trans (L62.trans (L69.trans (L83.trans (L95.trans (L102.trans (L114.trans (L121.trans (L133.trans (L140.trans L155)))))))))))), HS246⟩
   · have c161 : ¬ (vt47 ≠ 0) := c161
     refine seqRwI 74 (x := (vt47 != 0)) (v := false) (by kernel_rfl) (bne_eq_false_iff_eq.mpr (Decidable.of_not_not c161)) ?_
     refine seqRwI 75 (x := (vt47 != 0)) (v := false) (by kernel_rfl) (bne_eq_false_iff_eq.mpr (Decidable.of_not_not c161)) ?_
     refine seqRwI 76 (x := (vt47 != 0)) (v := false) (by kernel_rfl) (bne_eq_false_iff_eq.mpr (Decidable.of_not_not c161)) ?_
     have HS164 := HS157.u3
     obtain ⟨f165, L166, HS167, HR168, th169⟩ := (HO56.mono (L62.trans (L69.trans (L83.trans (L95.trans (L102.trans (L114.trans (L121.trans (L133.trans (L140.trans L155)))))))))).lend HS164
     have hq_ := bind_some h; clear h; obtain ⟨vt170, hc171, h⟩ := hq_
     refine seqL2 (by kernel_rfl) ?_
     refine seqG (by kernel_rfl) (does_call (f := 12) (args := #[.slice A53 vt46.length c54, .slice A23 vt14.length c24]) (by kernel_rfl) (spykeep3_sameRows.calls k A53 c54 A23 c24 vt46 vt14 HS167 HR168 (HR45.mono (L50.trans (L62.trans (L69.trans (L83.trans (L95.trans (L102.trans (L114.trans (L121.trans (L133.trans (L140.trans (L155.trans L166)))))))))))) vt170 hc171) ?_)
     rintro _ W174 ⟨f172, rfl, L173, HS175⟩
     refine ⟨_, rfl, ?_⟩
     obtain ⟨f176, L177, HS178⟩ := th169 L173 HS175
     refine seqL3 (by kernel_rfl) ?_
     have hq_ := ite_some h; clear h; rcases hq_ with ⟨c179, h⟩ | ⟨c179, h⟩
     · have c179 : ¬ (vt170 = true) := c179
       refine seqRwI 80 (x := (!vt170)) (v := true) (by kernel_rfl) (congrArg (fun b_ => !b_) (show vt170 = false from (Bool.eq_false_iff.mpr c179)) : (!vt170) = true) ?_
       refine seqRwI 81 (x := (!vt170)) (v := true) (by kernel_rfl) (congrArg (fun b_ => !b_) (show vt170 = false from (Bool.eq_false_iff.mpr c179)) : (!vt170) = true) ?_
       refine seqRwI 82 (x := (!vt170)) (v := true) (by kernel_rfl) (congrArg (fun b_ => !b_) (show vt170 = false from (Bool.eq_false_iff.mpr c179)) : (!vt170) = true) ?_
       refine seqS23 (a' := ⟨#[.slice A2 l1.length c3, .bool clash5, uV, uV, fV, .slice A23 vt14.length c24, .slice A28 vt15.length c29, .slice A33 vt16.length c34, .func (.func 14) #[] #[], .slice A53 vt46.length c54, iV vt47, .slice A72 vt65.length c73, iV vt66, .slice A86 vt79.length c87, iV vt80, .slice A105 vt98.length c106, iV vt99, .slice A124 vt117.length c125, iV vt118, .slice A143 vt136.length c144, iV vt137, .tuple #[.slice A23 vt14.length c24, .slice A28 vt15.length c29, .slice A33 vt16.length c34], .slice A2 l1.length c3, .agg #[.slice A2 l1.length c3, iV 0], pV b10 0, .bool clash5, .tuple #[.slice A23 vt14.length c24, .slice A28 vt15.length c29, .slice A33 vt16.length c34], .slice A23 vt14.length c24, .slice A28 vt15.length c29, .slice A33 vt16.length c34, .tuple #[.slice A53 vt46.length c54, iV vt47], .slice A23 vt14.length c24, .slice A23 vt14.length c24, .tuple #[.slice A53 vt46.length c54, iV vt47], .slice A53 vt46.length c54, iV vt47, .tuple #[.slice A72 vt65.length c73, iV vt66], .slice A23 vt14.length c24, .slice A28 vt15.length c29, .tuple #[.slice A72 vt65.length c73, iV vt66], .slice A72 vt65.length c73, iV vt66, .tuple #[.slice A86 vt79.length c87, iV vt80], .slice A28 vt15.length c29, .slice A23 vt14.length c24, .tuple #[.slice A86 vt79.length c87, iV vt80], .slice A86 vt79.length c87, iV vt80, .tuple #[.slice A105 vt98.length c106, iV vt99], .slice A28 vt15.length c29, .slice A33 vt16.length c34, .tuple #[.slice A105 vt98.length c106, iV vt99], .slice A105 vt98.length c106, iV vt99, .tuple #[.slice A124 vt117.length c125, iV vt118], .func (.func 14) #[] #[], .slice A72 vt65.length c73, .slice A33 vt16.length c34, iV vt66, .tuple #[.slice A124 vt117.length c125, iV vt118], .slice A124 vt117.length c125, iV vt118, .tuple #[.slice A143 vt136.length c144, iV vt137], .func (.func 14) #[] #[], .slice A23 vt14.length c24, .slice A105 vt98.length c106, iV vt99, .tuple #[.slice A143 vt136.length c144, iV vt137], .slice A143 vt136.length c144, iV vt137, .bool vt152, fV, fV, iV vt47, fV, fV, fV, .slice A53 vt46.length c54, .slice A23 vt14.length c24, .bool vt170, tV, tV, tV, uV, uV, uV, tV, tV, uV, uV, uV, uV, tV, tV, uV, uV, uV, uV, uV, tV, tV, uV, uV, uV, uV, tV, uV, uV, uV, uV, uV], []⟩) (by kernel_rfl) ?_
       refine wpList_nil ?_
       refine hK151 _ _ ?_
       refine condT (by kernel_rfl) ?_
       refine wp_seq_k (fun K180 hK181 => ?_)
       refine wp_region_lit ?_
       refine seqL1 (by kernel_rfl) ?_
       refine wpList_nil ?_
       refine hK181 _ _ ?_
       refine wp_ret ?_
       refine hret _ _ ?_
       refine ends_still (v := Value.bool false) (by kernel_rfl) (by kernel_rfl) ?_
       have HS247 := HS178.drop
       have HS248 := HS247.drop
       have HS249 := HS248.drop
       have HS250 := HS249.drop
       have HS251 := HS250.drop
       injection h with h
       subst h
       exact ⟨f176, rfl, (L20.trans (L43.trans (L50.trans (L62.trans (L69.trans (L83.trans (L95.trans (L102.trans (L114.trans (L121.trans (L133.trans (L140.trans (L155.trans L177))))))))))))), HS251⟩
     · have c179 : ¬ (¬ (vt170 = true)) := c179
       refine seqRwI 80 (x := (!vt170)) (v := false) (by kernel_rfl) (congrArg (fun b_ => !b_) (show vt170 = true from (Decidable.of_not_not c179)) : (!vt170) = false) ?_
       refine seqRwI 81 (x := (!vt170)) (v := false) (by kernel_rfl) (congrArg (fun b_ => !b_) (show vt170 = true from (Decidable.of_not_not c179)) : (!vt170) = false) ?_
       refine seqRwI 82 (x := (!vt170)) (v := false) (by kernel_rfl) (congrArg (fun b_ => !b_) (show vt170 = true from (Decidable.of_not_not c179)) : (!vt170) = false) ?_
       refine seqS5 (a' := ⟨#[.slice A2 l1.length c3, .bool clash5, uV, uV, fV, .slice A23 vt14.length c24, .slice A28 vt15.length c29, .slice A33 vt16.length c34, .func (.func 14) #[] #[], .slice A53 vt46.length c54, iV vt47, .slice A72 vt65.length c73, iV vt66, .slice A86 vt79.length c87, iV vt80, .slice A105 vt98.length c106, iV vt99, .slice A124 vt117.length c125, iV vt118, .slice A143 vt136.length c144, iV vt137, .tuple #[.slice A23 vt14.length c24, .slice A28 vt15.length c29, .slice A33 vt16.length c34], .slice A2 l1.length c3, .agg #[.slice A2 l1.length c3, iV 0], pV b10 0, .bool clash5, .tuple #[.slice A23 vt14.length c24, .slice A28 vt15.length c29, .slice A33 vt16.length c34], .slice A23 vt14.length c24, .slice A28 vt15.length c29, .slice A33 vt16.length c34, .tuple #[.slice A53 vt46.length c54, iV vt47], .slice A23 vt14.length c24, .slice A23 vt14.length c24, .tuple #[.slice A53 vt46.length c54, iV vt47], .slice A53 vt46.length c54, iV vt47, .tuple #[.slice A72 vt65.length c73, iV vt66], .slice A23 vt14.length c24, .slice A28 vt15.length c29, .tuple #[.slice A72 vt65.length c73, iV vt66], .slice A72 vt65.length c73, iV vt66, .tuple #[.slice A86 vt79.length c87, iV vt80], .slice A28 vt15.length c29, .slice A23 vt14.length c24, .tuple #[.slice A86 vt79.length c87, iV vt80], .slice A86 vt79.length c87, iV vt80, .tuple #[.slice A105 vt98.length c106, iV vt99], .slice A28 vt15.length c29, .slice A33 vt16.length c34, .tuple #[.slice A105 vt98.length c106, iV vt99], .slice A105 vt98.length c106, iV vt99, .tuple #[.slice A124 vt117.length c125, iV vt118], .func (.func 14) #[] #[], .slice A72 vt65.length c73, .slice A33 vt16.length c34, iV vt66, .tuple #[.slice A124 vt117.length c125, iV vt118], .slice A124 vt117.length c125, iV vt118, .tuple #[.slice A143 vt136.length c144, iV vt137], .func (.func 14) #[] #[], .slice A23 vt14.length c24, .slice A105 vt98.length c106, iV vt99, .tuple #[.slice A143 vt136.length c144, iV vt137], .slice A143 vt136.length c144, iV vt137, .bool vt152, fV, fV, iV vt47, fV, fV, fV, .slice A53 vt46.length c54, .slice A23 vt14.length c24, .bool vt170, fV, fV, fV, iV vt66, iV vt80, .bool (vt66 != vt80), .bool (vt66 != vt80), .bool (vt66 != vt80), uV, uV, uV, uV, uV, uV, uV, uV, uV, uV, uV, uV, uV, uV, uV, uV, uV, uV, uV, uV, uV, uV, uV], []⟩) (by kernel_rfl) ?_
       have hq_ := ite_some h; clear h; rcases hq_ with ⟨c182, h⟩ | ⟨c182, h⟩
       · have c182 : vt66 ≠ vt80 := c182
         refine seqRwI 85 (x := (vt66 != vt80)) (v := true) (by kernel_rfl) (bne_iff_ne.mpr c182) ?_
         refine seqRwI 86 (x := (vt66 != vt80)) (v := true) (by kernel_rfl) (bne_iff_ne.mpr c182) ?_
         refine seqRwI 87 (x := (vt66 != vt80)) (v := true) (by kernel_rfl) (bne_iff_ne.mpr c182) ?_
         refine seqS18 (a' := ⟨#[.slice A2 l1.length c3, .bool clash5, uV, uV, fV, .slice A23 vt14.length c24, .slice A28 vt15.length c29, .slice A33 vt16.length c34, .func (.func 14) #[] #[], .slice A53 vt46.length c54, iV vt47, .slice A72 vt65.length c73, iV vt66, .slice A86 vt79.length c87, iV vt80, .slice A105 vt98.length c106, iV vt99, .slice A124 vt117.length c125, iV vt118, .slice A143 vt136.length c144, iV vt137, .tuple #[.slice A23 vt14.length c24, .slice A28 vt15.length c29, .slice A33 vt16.length c34], .slice A2 l1.length c3, .agg #[.slice A2 l1.length c3, iV 0], pV b10 0, .bool clash5, .tuple #[.slice A23 vt14.length c24, .slice A28 vt15.length c29, .slice A33 vt16.length c34], .slice A23 vt14.length c24, .slice A28 vt15.length c29, .slice A33 vt16.length c34, .tuple #[.slice A53 vt46.length c54, iV vt47], .slice A23 vt14.length c24, .slice A23 vt14.length c24, .tuple #[.slice A53 vt46.length c54, iV vt47], .slice A53 vt46.length c54, iV vt47, .tuple #[.slice A72 vt65.length c73, iV vt66], .slice A23 vt14.length c24, .slice A28 vt15.length c29, .tuple #[.slice A72 vt65.length c73, iV vt66], .slice A72 vt65.length c73, iV vt66, .tuple #[.slice A86 vt79.length c87, iV vt80], .slice A28 vt15.length c29, .slice A23 vt14.length c24, .tuple #[.slice A86 vt79.length c87, iV vt80], .slice A86 vt79.length c87, iV vt80, .tuple #[.slice A105 vt98.length c106, iV vt99], .slice A28 vt15.length c29, .slice A33 vt16.length c34, .tuple #[.slice A105 vt98.length c106, iV vt99], .slice A105 vt98.length c106, iV vt99, .tuple #[.slice A124 vt117.length c125, iV vt118], .func (.func 14) #[] #[], .slice A72 vt65.length c73, .slice A33 vt16.length c34, iV vt66, .tuple #[.slice A124 vt117.length c125, iV vt118], .slice A124 vt117.length c125, iV vt118, .tuple #[.slice A143 vt136.length c144, iV vt137], .func (.func 14) #[] #[], .slice A23 vt14.length c24, .slice A105 vt98.length c106, iV vt99, .tuple #[.slice A143 vt136.length c144, iV vt137], .slice A143 vt136.length c144, iV vt137, .bool vt152, fV, fV, iV vt47, fV, fV, fV, .slice A53 vt46.length c54, .slice A23 vt14.length c24, .bool vt170, fV, fV, fV, iV vt66, iV vt80, tV, tV, tV, uV, uV, uV, uV, tV, tV, uV, uV, uV, uV, uV, tV, tV, uV, uV, uV, uV, tV, uV, uV, uV, uV, uV], []⟩) (by kernel_rfl) ?_
         refine wpList_nil ?_
         refine hK151 _ _ ?_
         refine condT (by kernel_rfl) ?_
         refine wp_seq_k (fun K183 hK184 => ?_)
         refine wp_region_lit ?_
         refine seqL1 (by kernel_rfl) ?_
         refine wpList_nil ?_
         refine hK184 _ _ ?_
         refine wp_ret ?_
         refine hret _ _ ?_
         refine ends_still (v := Value.bool false) (by kernel_rfl) (by kernel_rfl) ?_
         have HS252 := HS178.drop
         have HS253 := HS252.drop
         have HS254 := HS253.drop
         have HS255 := HS254.drop
         have HS256 := HS255.drop
         injection h with h
         subst h
         exact ⟨f176, rfl, (L20.trans (L43.trans (L50.trans (L62.trans (L69.trans (L83.trans (L95.trans (L102.trans (L114.trans (L121.trans (L133.trans (L140.trans (L155.trans L177))))))))))))), HS256⟩
       · have c182 : ¬ (vt66 ≠ vt80) := c182
         refine seqRwI 85 (x := (vt66 != vt80)) (v := false) (by kernel_rfl) (bne_eq_false_iff_eq.mpr (Decidable.of_not_not c182)) ?_
         refine seqRwI 86 (x := (vt66 != vt80)) (v := false) (by kernel_rfl) (bne_eq_false_iff_eq.mpr (Decidable.of_not_not c182)) ?_
         refine seqRwI 87 (x := (vt66 != vt80)) (v := false) (by kernel_rfl) (bne_eq_false_iff_eq.mpr (Decidable.of_not_not c182)) ?_
         have HS185 := HS178.u3
         obtain ⟨f186, L187, HS188, HR189, th190⟩ := (HO89.mono (L95.trans (L102.trans (L114.trans (L121.trans (L133.trans (L140.trans (L155.trans L177)))))))).lend HS185
         have hq_ := bind_some h; clear h; obtain ⟨vt191, hc192, h⟩ := hq_
         refine seqL2 (by kernel_rfl) ?_
         refine seqG (by kernel_rfl) (does_call (f := 12) (args := #[.slice A72 vt65.length c73, .slice A86 vt79.length c87]) (by kernel_rfl) (spykeep3_sameRows.calls k A72 c73 A86 c87 vt65 vt79 HS188 (HR116.mono (L121.trans (L133.trans (L140.trans (L155.trans (L177.trans L187)))))) HR189 vt191 hc192) ?_)
         rintro _ W195 ⟨f193, rfl, L194, HS196⟩
         refine ⟨_, rfl, ?_⟩
         obtain ⟨f197, L198, HS199⟩ := th190 L194 HS196
         refine seqL3 (by kernel_rfl) ?_
         have hq_ := ite_some h; clear h; rcases hq_ with ⟨c200, h⟩ | ⟨c200, h⟩
         · have c200 : ¬ (vt191 = true) := c200
           refine seqRwI 91 (x := (!vt191)) (v := true) (by kernel_rfl) (congrArg (fun b_ => !b_) (show vt191 = false from (Bool.eq_false_iff.mpr c200)) : (!vt191) = true) ?_
           refine seqRwI 92 (x := (!vt191)) (v := true) (by kernel_rfl) (congrArg (fun b_ => !b_) (show vt191 = false from (Bool.eq_false_iff.mpr c200)) : (!vt191) = true) ?_
           refine seqRwI 93 (x := (!vt191)) (v := true) (by kernel_rfl) (congrArg (fun b_ => !b_) (show vt191 = false from (Bool.eq_false_iff.mpr c200)) : (!vt191) = true) ?_
           refine seqS12 (a' := ⟨#[.slice A2 l1.length c3, .bool clash5, uV, uV, fV, .slice A23 vt14.length c24, .slice A28 vt15.length c29, .slice A33 vt16.length c34, .func (.func 14) #[] #[], .slice A53 vt46.length c54, iV vt47, .slice A72 vt65.length c73, iV vt66, .slice A86 vt79.length c87, iV vt80, .slice A105 vt98.length c106, iV vt99, .slice A124 vt117.length c125, iV vt118, .slice A143 vt136.length c144, iV vt137, .tuple #[.slice A23 vt14.length c24, .slice A28 vt15.length c29, .slice A33 vt16.length c34], .slice A2 l1.length c3, .agg #[.slice A2 l1.length c3, iV 0], pV b10 0, .bool clash5, .tuple #[.slice A23 vt14.length c24, .slice A28 vt15.length c29, .slice A33 vt16.length c34], .slice A23 vt14.length c24, .slice A28 vt15.length c29, .slice A33 vt16.length c34, .tuple #[.slice A53 vt46.length c54, iV vt47], .slice A23 vt14.length c24, .slice A23 vt14.length c24, .tuple #[.slice A53 vt46.length c54, iV vt47], .slice A53 vt46.length c54, iV vt47, .tuple #[.slice A72 vt65.length c73, iV vt66], .slice A23 vt14.length c24, .slice A28 vt15.length c29, .tuple #[.slice A72 vt65.length c73, iV vt66], .slice A72 vt65.length c73, iV vt66, .tuple #[.slice A86 vt79.length c87, iV vt80], .slice A28 vt15.length c29, .slice A23 vt14.length c24, .tuple #[.slice A86 vt79.length c87, iV vt80], .slice A86 vt79.length c87, iV vt80, .tuple #[.slice A105 vt98.length c106, iV vt99], .slice A28 vt15.length c29, .slice A33 vt16.length c34, .tuple #[.slice A105 vt98.length c106, iV vt99], .slice A105 vt98.length c106, iV vt99, .tuple #[.slice A124 vt117.length c125, iV vt118], .func (.func 14) #[] #[], .slice A72 vt65.length c73, .slice A33 vt16.length c34, iV vt66, .tuple #[.slice A124 vt117.length c125, iV vt118], .slice A124 vt117.length c125, iV vt118, .tuple #[.slice A143 vt136.length c144, iV vt137], .func (.func 14) #[] #[], .slice A23 vt14.length c24, .slice A105 vt98.length c106, iV vt99, .tuple #[.slice A143 vt136.length c144, iV vt137], .slice A143 vt136.length c144, iV vt137, .bool vt152, fV, fV, iV vt47, fV, fV, fV, .slice A53 vt46.length c54, .slice A23 vt14.length c24, .bool vt170, fV, fV, fV, iV vt66, iV vt80, fV, fV, fV, .slice A72 vt65.length c73, .slice A86 vt79.length c87, .bool vt191, tV, tV, tV, uV, uV, uV, uV, uV, tV, tV, uV, uV, uV, uV, tV, uV, uV, uV, uV, uV], []⟩) (by kernel_rfl) ?_
           refine wpList_nil ?_
           refine hK151 _ _ ?_
           refine condT (by kernel_rfl) ?_
           refine wp_seq_k (fun K201 hK202 => ?_)
           refine wp_region_lit ?_
           refine seqL1 (by kernel_rfl) ?_
           refine wpList_nil ?_
           refine hK202 _ _ ?_
           refine wp_ret ?_
           refine hret _ _ ?_
           refine ends_still (v := Value.bool false) (by kernel_rfl) (by kernel_rfl) ?_
           have HS257 := HS199.drop
           have HS258 := HS257.drop
           have HS259 := HS258.drop
           have HS260 := HS259.drop
           have HS261 := HS260.drop
           injection h with h
           subst h
           exact ⟨f197, rfl, (L20.trans (L43.trans (L50.trans (L62.trans (L69.trans (L83.trans (L95.trans (L102.trans (L114.trans (L121.trans (L133.trans (L140.trans (L155.trans (L177.trans L198)))))))))))))), HS261⟩
         · have c200 : ¬ (¬ (vt191 = true)) := c200
           refine seqRwI 91 (x := (!vt191)) (v := false) (by kernel_rfl) (congrArg (fun b_ => !b_) (show vt191 = true from (Decidable.of_not_not c200)) : (!vt191) = false) ?_
           refine seqRwI 92 (x := (!vt191)) (v := false) (by kernel_rfl) (congrArg (fun b_ => !b_) (show vt191 = true from (Decidable.of_not_not c200)) : (!vt191) = false) ?_
           refine seqRwI 93 (x := (!vt191)) (v := false) (by kernel_rfl) (congrArg (fun b_ => !b_) (show vt191 = true from (Decidable.of_not_not c200)) : (!vt191) = false) ?_
           refine seqL7 (by kernel_rfl) ?_
           have hq_ := ite_some h; clear h; rcases hq_ with ⟨c203, h⟩ | ⟨c203, h⟩
           · have c203 : ((vt118 == 0) != (vt137 == 0)) = true := c203
             refine seqRwI 98 (x := ((vt118 == 0) != (vt137 == 0))) (v := true) (by kernel_rfl) c203 ?_
             refine seqRwI 99 (x := ((vt118 == 0) != (vt137 == 0))) (v := true) (by kernel_rfl) c203 ?_
             refine seqRwI 100 (x := ((vt118 == 0) != (vt137 == 0))) (v := true) (by kernel_rfl) c203 ?_
             refine seqS5 (a' := ⟨#[.slice A2 l1.length c3, .bool clash5, uV, uV, fV, .slice A23 vt14.length c24, .slice A28 vt15.length c29, .slice A33 vt16.length c34, .func (.func 14) #[] #[], .slice A53 vt46.length c54, iV vt47, .slice A72 vt65.length c73, iV vt66, .slice A86 vt79.length c87, iV vt80, .slice A105 vt98.length c106, iV vt99, .slice A124 vt117.length c125, iV vt118, .slice A143 vt136.length c144, iV vt137, .tuple #[.slice A23 vt14.length c24, .slice A28 vt15.length c29, .slice A33 vt16.length c34], .slice A2 l1.length c3, .agg #[.slice A2 l1.length c3, iV 0], pV b10 0, .bool clash5, .tuple #[.slice A23 vt14.length c24, .slice A28 vt15.length c29, .slice A33 vt16.length c34], .slice A23 vt14.length c24, .slice A28 vt15.length c29, .slice A33 vt16.length c34, .tuple #[.slice A53 vt46.length c54, iV vt47], .slice A23 vt14.length c24, .slice A23 vt14.length c24, .tuple #[.slice A53 vt46.length c54, iV vt47], .slice A53 vt46.length c54, iV vt47, .tuple #[.slice A72 vt65.length c73, iV vt66], .slice A23 vt14.length c24, .slice A28 vt15.length c29, .tuple #[.slice A72 vt65.length c73, iV vt66], .slice A72 vt65.length c73, iV vt66, .tuple #[.slice A86 vt79.length c87, iV vt80], .slice A28 vt15.length c29, .slice A23 vt14.length c24, .tuple #[.slice A86 vt79.length c87, iV vt80], .slice A86 vt79.length c87, iV vt80, .tuple #[.slice A105 vt98.length c106, iV vt99], .slice A28 vt15.length c29, .slice A33 vt16.length c34, .tuple #[.slice A105 vt98.length c106, iV vt99], .slice A105 vt98.length c106, iV vt99, .tuple #[.slice A124 vt117.length c125, iV vt118], .func (.func 14) #[] #[], .slice A72 vt65.length c73, .slice A33 vt16.length c34, iV vt66, .tuple #[.slice A124 vt117.length c125, iV vt118], .slice A124 vt117.length c125, iV vt118, .tuple #[.slice A143 vt136.length c144, iV vt137], .func (.func 14) #[] #[], .slice A23 vt14.length c24, .slice A105 vt98.length c106, iV vt99, .tuple #[.slice A143 vt136.length c144, iV vt137], .slice A143 vt136.length c144, iV vt137, .bool vt152, fV, fV, iV vt47, fV, fV, fV, .slice A53 vt46.length c54, .slice A23 vt14.length c24, .bool vt170, fV, fV, fV, iV vt66, iV vt80, fV, fV, fV, .slice A72 vt65.length c73, .slice A86 vt79.length c87, .bool vt191, fV, fV, fV, iV vt118, .bool (vt118 == 0), iV vt137, .bool (vt137 == 0), tV, tV, tV, uV, uV, uV, uV, tV, uV, uV, uV, uV, uV], []⟩) (by kernel_rfl) ?_
             refine wpList_nil ?_
             refine hK151 _ _ ?_
             refine condT (by kernel_rfl) ?_
             refine wp_seq_k (fun K204 hK205 => ?_)
             refine wp_region_lit ?_
             refine seqL1 (by kernel_rfl) ?_
             refine wpList_nil ?_
             refine hK205 _ _ ?_
             refine wp_ret ?_
             refine hret _ _ ?_
             refine ends_still (v := Value.bool false) (by kernel_rfl) (by kernel_rfl) ?_
             have HS262 := HS199.drop
             have HS263 := HS262.drop
             have HS264 := HS263.drop
             have HS265 := HS264.drop
             have HS266 := HS265.drop
             injection h with h
             subst h
             exact ⟨f197, rfl, (L20.trans (L43.trans (L50.trans (L62.trans (L69.trans (L83.trans (L95.trans (L102.trans (L114.trans (L121.trans (L133.trans (L140.trans (L155.trans (L177.trans L198)))))))))))))), HS266⟩
           · have c203 : ¬ (((vt118 == 0) != (vt137 == 0)) = true) := c203
             refine seqRwI 98 (x := ((vt118 == 0) != (vt137 == 0))) (v := false) (by kernel_rfl) (Bool.eq_false_iff.mpr c203) ?_
             refine seqRwI 99 (x := ((vt118 == 0) != (vt137 == 0))) (v := false) (by kernel_rfl) (Bool.eq_false_iff.mpr c203) ?_
             refine seqRwI 100 (x := ((vt118 == 0) != (vt137 == 0))) (v := false) (by kernel_rfl) (Bool.eq_false_iff.mpr c203) ?_
             have HS206 := HS199.u3
             obtain ⟨f207, L208, HS209, HR210, th211⟩ := (HO127.mono (L133.trans (L140.trans (L155.trans (L177.trans L198))))).lend HS206
             have HS212 := HS209.u2
             obtain ⟨f213, L214, HS215, HR216, th217⟩ := (HO146.mono (L155.trans (L177.trans (L198.trans L208)))).lend HS212
             have hq_ := bind_some h; clear h; obtain ⟨vt218, hc219, h⟩ := hq_
             refine seqL2 (by kernel_rfl) ?_
             refine seqG (by kernel_rfl) (does_call (f := 12) (args := #[.slice A124 vt117.length c125, .slice A143 vt136.length c144]) (by kernel_rfl) (spykeep3_sameRows.calls k A124 c125 A143 c144 vt117 vt136 HS215 (HR210.mono L214) HR216 vt218 hc219) ?_)
             rintro _ W222 ⟨f220, rfl, L221, HS223⟩
             refine ⟨_, rfl, ?_⟩
             obtain ⟨f224, L225, HS226⟩ := th217 L221 HS223
             obtain ⟨f227, L228, HS229⟩ := th211 L225 HS226
             refine seqS2 (a' := ⟨#[.slice A2 l1.length c3, .bool clash5, uV, uV, fV, .slice A23 vt14.length c24, .slice A28 vt15.length c29, .slice A33 vt16.length c34, .func (.func 14) #[] #[], .slice A53 vt46.length c54, iV vt47, .slice A72 vt65.length c73, iV vt66, .slice A86 vt79.length c87, iV vt80, .slice A105 vt98.length c106, iV vt99, .slice A124 vt117.length c125, iV vt118, .slice A143 vt136.length c144, iV vt137, .tuple #[.slice A23 vt14.length c24, .slice A28 vt15.length c29, .slice A33 vt16.length c34], .slice A2 l1.length c3, .agg #[.slice A2 l1.length c3, iV 0], pV b10 0, .bool clash5, .tuple #[.slice A23 vt14.length c24, .slice A28 vt15.length c29, .slice A33 vt16.length c34], .slice A23 vt14.length c24, .slice A28 vt15.length c29, .slice A33 vt16.length c34, .tuple #[.slice A53 vt46.length c54, iV vt47], .slice A23 vt14.length c24, .slice A23 vt14.length c24, .tuple #[.slice A53 vt46.length c54, iV vt47], .slice A53 vt46.length c54, iV vt47, .tuple #[.slice A72 vt65.length c73, iV vt66], .slice A23 vt14.length c24, .slice A28 vt15.length c29, .tuple #[.slice A72 vt65.length c73, iV vt66], .slice A72 vt65.length c73, iV vt66, .tuple #[.slice A86 vt79.length c87, iV vt80], .slice A28 vt15.length c29, .slice A23 vt14.length c24, .tuple #[.slice A86 vt79.length c87, iV vt80], .slice A86 vt79.length c87, iV vt80, .tuple #[.slice A105 vt98.length c106, iV vt99], .slice A28 vt15.length c29, .slice A33 vt16.length c34, .tuple #[.slice A105 vt98.length c106, iV vt99], .slice A105 vt98.length c106, iV vt99, .tuple #[.slice A124 vt117.length c125, iV vt118], .func (.func 14) #[] #[], .slice A72 vt65.length c73, .slice A33 vt16.length c34, iV vt66, .tuple #[.slice A124 vt117.length c125, iV vt118], .slice A124 vt117.length c125, iV vt118, .tuple #[.slice A143 vt136.length c144, iV vt137], .func (.func 14) #[] #[], .slice A23 vt14.length c24, .slice A105 vt98.length c106, iV vt99, .tuple #[.slice A143 vt136.length c144, iV vt137], .slice A143 vt136.length c144, iV vt137, .bool vt152, fV, fV, iV vt47, fV, fV, fV, .slice A53 vt46.length c54, .slice A23 vt14.length c24, .bool vt170, fV, fV, fV, iV vt66, iV vt80, fV, fV, fV, .slice A72 vt65.length c73, .slice A86 vt79.length c87, .bool vt191, fV, fV, fV, iV vt118, .bool (vt118 == 0), iV vt137, .bool (vt137 == 0), fV, fV, fV, .slice A124 vt117.length c125, .slice A143 vt136.length c144, .bool vt218, .bool (!vt218), .bool (!vt218), uV, uV, uV, uV, uV], []⟩) (by kernel_rfl) ?_
             refine wpList_nil ?_
             refine hK151 _ _ ?_
             have hq_ := ite_some h; clear h; rcases hq_ with ⟨c231, h⟩ | ⟨c231, h⟩
             · have c231 : ¬ (vt218 = true) := c231
               refine wpRwI 104 (x := (!vt218)) (v := true) (by kernel_rfl) (congrArg (fun b_ => !b_) (show vt218 = false from (Bool.eq_false_iff.mpr c231)) : (!vt218) = true) ?_
               refine wpRwI 105 (x := (!vt218)) (v := true) (by kernel_rfl) (congrArg (fun b_ => !b_) (show vt218 = false from (Bool.eq_false_iff.mpr c231)) : (!vt218) = true) ?_
               refine condT (by kernel_rfl) ?_
               refine wp_seq_k (fun K232 hK233 => ?_)
               refine wp_region_lit ?_
               refine seqL1 (by kernel_rfl) ?_
               refine wpList_nil ?_
               refine hK233 _ _ ?_
               refine wp_ret ?_
               refine hret _ _ ?_
               refine ends_still (v := Value.bool false) (by kernel_rfl) (by kernel_rfl) ?_
               have HS267 := HS229.drop
               have HS268 := HS267.drop
               have HS269 := HS268.drop
               have HS270 := HS269.drop
               have HS271 := HS270.drop
               injection h with h
               subst h
               exact ⟨f227, rfl, (L20.trans (L43.trans (L50.trans (L62.trans (L69.trans (L83.trans (L95.trans (L102.trans (L114.trans (L121.trans (L133.trans (L140.trans (L155.trans (L177.trans (L198.trans L228))))))))))))))), HS271⟩
             · have c231 : ¬ (¬ (vt218 = true)) := c231
               refine wpRwI 104 (x := (!vt218)) (v := false) (by kernel_rfl) (congrArg (fun b_ => !b_) (show vt218 = true from (Decidable.of_not_not c231)) : (!vt218) = false) ?_
               refine wpRwI 105 (x := (!vt218)) (v := false) (by kernel_rfl) (congrArg (fun b_ => !b_) (show vt218 = true from (Decidable.of_not_not c231)) : (!vt218) = false) ?_
               refine condF (by kernel_rfl) ?_
               refine wp_skip ?_
               refine hK149 _ _ ?_
               refine wp_seq_k (fun K234 hK235 => ?_)
               refine wp_region_lit ?_
               refine seqL2 (by kernel_rfl) ?_
               have hq_ := ite_some h; clear h; rcases hq_ with ⟨c236, h⟩ | ⟨c236, h⟩
               · have c236 : clash5 = true := c236
                 refine seqRwI 1 (x := clash5) (v := true) (by kernel_rfl) c236 ?_
                 refine seqRwI 25 (x := clash5) (v := true) (by kernel_rfl) c236 ?_
                 refine seqRwI 106 (x := clash5) (v := true) (by kernel_rfl) c236 ?_
                 refine seqRwI 107 (x := clash5) (v := true) (by kernel_rfl) c236 ?_
                 refine seqL4 (by kernel_rfl) ?_
                 refine wpList_nil ?_
                 refine hK235 _ _ ?_
                 refine wp_ret ?_
                 refine hret _ _ ?_
                 refine ends_still (v := Value.bool true) (by kernel_rfl) (by kernel_rfl) ?_
                 have HS272 := HS229.drop
                 have HS273 := HS272.drop
                 have HS274 := HS273.drop
                 have HS275 := HS274.drop
                 have HS276 := HS275.drop
                 injection h with h
                 subst h
                 exact ⟨f227, rfl, (L20.trans (L43.trans (L50.trans (L62.trans (L69.trans (L83.trans (L95.trans (L102.trans (L114.trans (L121.trans (L133.trans (L140.trans (L155.trans (L177.trans (L198.trans L228))))))))))))))), HS276⟩
               · have c236 : ¬ (clash5 = true) := c236
                 refine seqRwI 1 (x := clash5) (v := false) (by kernel_rfl) (Bool.eq_false_iff.mpr c236) ?_
                 refine seqRwI 25 (x := clash5) (v := false) (by kernel_rfl) (Bool.eq_false_iff.mpr c236) ?_
                 refine seqRwI 106 (x := clash5) (v := false) (by kernel_rfl) (Bool.eq_false_iff.mpr c236) ?_
                 refine seqRwI 107 (x := clash5) (v := false) (by kernel_rfl) (Bool.eq_false_iff.mpr c236) ?_
                 refine seqL4 (by kernel_rfl) ?_
                 refine wpList_nil ?_
                 refine hK235 _ _ ?_
                 refine wp_ret ?_
                 refine hret _ _ ?_
                 refine ends_still (v := Value.bool (vt118 == 0)) (by kernel_rfl) (by kernel_rfl) ?_
                 have HS277 := HS229.drop
                 have HS278 := HS277.drop
                 have HS279 := HS278.drop
                 have HS280 := HS279.drop
                 have HS281 := HS280.drop
                 injection h with h
                 subst h
                 exact ⟨f227, rfl, (L20.trans (L43.trans (L50.trans (L62.trans (L69.trans (L83.trans (L95.trans (L102.trans (L114.trans (L121.trans (L133.trans (L140.trans (L155.trans (L177.trans (L198.trans L228))))))))))))))), HS281⟩

end Go.Sp.M4
