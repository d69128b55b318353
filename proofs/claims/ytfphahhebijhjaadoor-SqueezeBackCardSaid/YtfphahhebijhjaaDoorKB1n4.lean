import Derived.Test.YtfphahhebijhjaaDoorProg
import Derived.Test.YtfphahhebijhjaaDoorSpCopy
import Derived.Test.YtfphahhebijhjaaDoorFB1
import Derived.Test.YtfphahhebijhjaaDoorSpStr
import Derived.Test.YtfphahhebijhjaaDoorConv
import Derived.Test.YtfphahhebijhjaaDoorSpRound
import Derived.Test.YtfphahhebijhjaaDoorKB1n0
import Derived.Test.YtfphahhebijhjaaDoorKB1n1
import Derived.Test.YtfphahhebijhjaaDoorKB1n2
import Derived.Test.YtfphahhebijhjaaDoorKB1n3
namespace Go.Sp.B1
open Go Go.Sp Go.Proofs
set_option linter.unusedVariables false
attribute [local irreducible] wpList AnyL Code.wp Calls Does Code.wpIn wpListIn CallsIn bodyPostM LeavesInM
set_option maxRecDepth 100000 in
set_option maxHeartbeats 4000000 in
theorem squeeze_row.calls (k : Nat) (A2 : Option Addr) (c3 : Nat) (counts1 : List Int) {t w : World} {f : FM} {H : List Seg} (HS : St t w f (H)) (HR4 : SlR (tInt .i64) f A2 c3 counts1) (rr1 : List Int) (h : squeeze_row k counts1 = some rr1) :
    Calls Tryd.prog 17 #[.slice A2 counts1.length c3] w (fun e w' => ∃ (g : FM) (A2730 : Option Addr) (c2731 : Nat) (s2732 : Seg), e = .returned (Value.slice A2730 rr1.length c2731) ∧ FM.le f g ∧ St t w' g (s2732 :: H) ∧ Own (tInt .u8) 5 g A2730 c2731 s2732 rr1) := by
 unfold squeeze_row at h
 refine enterM Tryd.func17 rfl (tm := #[.slice A2 counts1.length c3, uV, uV, uV, uV, uV, uV, uV, uV, uV, uV, uV, uV, uV, uV, uV, uV, uV, uV, uV, uV, uV, uV, uV, uV, uV, uV, uV, uV, uV, uV, uV, uV, uV, uV, uV, uV, uV, uV, uV, uV, uV, uV, uV, uV, uV, uV, uV, uV, uV, uV, uV, uV, uV, uV, uV, uV, uV, uV, uV, uV, uV, uV, uV, uV, uV, uV, uV, uV, uV, uV, uV, uV, uV, uV, uV, uV, uV, uV, uV, uV, uV, uV, uV, uV, uV]) (by kernel_rfl) ?_
 intro B hret hnor hnp
 refine wp_seq_k (fun K5 hK6 => ?_)
 refine wp_region_lit ?_
 refine seqS1 (a' := ⟨#[.slice A2 counts1.length c3, uV, .slice none 0 0, uV, uV, uV, uV, uV, uV, uV, uV, uV, uV, uV, uV, uV, uV, uV, uV, uV, uV, uV, uV, uV, uV, uV, uV, uV, uV, uV, uV, uV, uV, uV, uV, uV, uV, uV, uV, uV, uV, uV, uV, uV, uV, uV, uV, uV, uV, uV, uV, uV, uV, uV, uV, uV, uV, uV, uV, uV, uV, uV, uV, uV, uV, uV, uV, uV, uV, uV, uV, uV, uV, uV, uV, uV, uV, uV, uV, uV, uV, uV, uV, uV, uV, uV], []⟩) (by kernel_rfl) ?_
 refine wpList_nil ?_
 refine hK6 _ _ ?_
 refine wp_seq_k (fun K7 hK8 => ?_)
 refine wp_region_lit ?_
 refine seqL1 (by kernel_rfl) ?_
 refine seqK rfl (does_box (cs := #[.slice none 0 0, .int .i64 0]) rfl (by kernel_rfl : _ = Value.agg #[.slice none 0 0, .int .i64 0]) rfl HS ?_)
 intro b9 W10 HS11
 refine seqK rfl (does_alloc (z := Value.pointer none) (cs := #[.pointer none]) rfl (by kernel_rfl) rfl HS11 ?_)
 intro b13 W14 HS15
 refine seqK rfl (does_store (n := 1) (vs := [.pointer (some ⟨b9, 0, none⟩)]) (cs' := #[.pointer (some ⟨b9, 0, none⟩)]) rfl (by kernel_rfl) (by kernel_rfl : _ = Value.pointer (some ⟨b13, 0, none⟩)) (by kernel_rfl : _ = Value.pointer (some ⟨b9, 0, none⟩)) rfl rfl (by intro u_ hu_; simp only [List.mem_cons, List.not_mem_nil, or_false] at hu_; subst hu_; rfl) HS15 (Nat.le_of_ble_eq_true rfl) (by kernel_rfl) ?_)
 intro W17 HS18
 refine wpList_nil ?_
 refine hK8 _ _ ?_
 refine wp_seq_k (fun K19 hK20 => ?_)
 have HS21 := HS18.u1
 refine heldG (S := Sg t f ([(b13, .cells #[.pointer (some ⟨b9, 0, none⟩)] 78 (0, 0))] :: H) [(4, [(b9, .cells #[.slice none 0 0, .int .i64 0] 80 (0, 0))])]) (n := 5) (by kernel_rfl) rfl HS21 ?_
 intro W22 HS23
 refine takeGQ 0 [] rfl (by kernel_rfl) (by kernel_rfl) (by kernel_rfl) (by kernel_rfl) (by kernel_rfl) (by kernel_rfl) hnp (Sg.g1 (Sx.of [[(b9, .cells #[.slice none 0 0, .int .i64 0] 80 (0, 0))]] (FM.le.refl _) HS23) (fun _ => St.only [] HS23 (FM.le.refl _))) (fun w_ hw_ => by obtain ⟨g_, hl_, hS_⟩ := hw_.st; exact run_load rfl Tryd.underlying78 rfl (by kernel_rfl : _ = Value.pointer (some ⟨b13, 0, none⟩)) (hS_.cell 0)) ?_
 have hq_ := guard_some h; clear h; obtain ⟨c24, h⟩ := hq_
 have c24 : 0 < (counts1.length : Int) := c24
 obtain ⟨b28, of29, cs25, hA30, hr26, hc27⟩ := HR4.at (i := 0) (by decide) c24
 obtain rfl := hr26
 refine takeG [1] (n := 4) (fuel := 3) (l' := #[true, true, false, false, false]) (a' := ⟨#[.slice A2 counts1.length c3, uV, .slice none 0 0, pV b13 0, uV, uV, uV, uV, uV, uV, uV, .agg #[.slice none 0 0, iV 0], pV b9 0, pV b9 0, .slice A2 counts1.length c3, uV, uV, uV, uV, uV, uV, uV, uV, uV, uV, uV, uV, uV, uV, uV, uV, uV, uV, uV, uV, uV, uV, uV, uV, uV, uV, uV, uV, uV, uV, uV, uV, uV, uV, uV, uV, uV, uV, uV, uV, uV, uV, uV, uV, uV, uV, uV, uV, uV, uV, uV, uV, uV, uV, uV, uV, uV, uV, uV, uV, uV, uV, uV, uV, uV, uV, uV, uV, uV, uV, uV], []⟩) rfl (by kernel_rfl) (by kernel_rfl) (by kernel_rfl) hnp (Sg.g1 (Sx.of [[(b9, .cells #[.slice none 0 0, .int .i64 0] 80 (0, 0))]] (FM.le.refl _) HS23) (fun _ => St.only [] HS23 (FM.le.refl _))) ?_
 refine takeGQ 2 [] rfl (by kernel_rfl) (by kernel_rfl) (by kernel_rfl) (by kernel_rfl) (by kernel_rfl) (by kernel_rfl) hnp (Sg.g1 (Sx.of [[(b9, .cells #[.slice none 0 0, .int .i64 0] 80 (0, 0))]] (FM.le.refl _) HS23) (fun _ => St.only [] HS23 (FM.le.refl _))) (fun w_ hw_ => by obtain ⟨g_, hl_, hS_⟩ := hw_.st; exact run_indexE hA30 (sz := 1) rfl Tryd.underlying27 (by kernel_rfl) (by kernel_rfl : _ = Value.slice A2 counts1.length c3) (by kernel_rfl : _ = Value.int .i64 0) (by decide) c24 w_) ?_
 refine takeGQ 3 [] rfl (by kernel_rfl) (by kernel_rfl) (by kernel_rfl) (by kernel_rfl) (by kernel_rfl) (by kernel_rfl) hnp (Sg.g1 (Sx.of [[(b9, .cells #[.slice none 0 0, .int .i64 0] 80 (0, 0))]] (FM.le.refl _) HS23) (fun _ => St.only [] HS23 (FM.le.refl _))) (fun w_ hw_ => by obtain ⟨g_, hl_, hS_⟩ := hw_.st; exact run_load rfl Tryd.underlying3 rfl (by kernel_rfl : _ = Value.pointer (some ⟨b28, of29 + (0 : Int).toNat * 1, none⟩)) ((hc27 hl_ hS_) 0 (by decide))) ?_
 have HS32 := HS23.cons_nil
 have HO33 : Own (tInt .u8) 5 f none 0 [] ([] : List Int) := Own.nil _
 have HS34 : St t W22 f (([] : Seg) :: [(b9, .cells #[.slice none ([] : List Int).length 0, .int .i64 0] 80 (0, 0))] :: [(b13, .cells #[.pointer (some ⟨b9, 0, none⟩)] 78 (0, 0))] :: H) := HS32
 have HS35 := HS34.u1
 have hq_ := bind_some h; clear h; obtain ⟨⟨vt36, vt37⟩, hc38, h⟩ := hq_
 refine takeGE 4 (by kernel_rfl) rfl (by kernel_rfl) (does_call (f := 31) (args := #[.pointer (some ⟨b9, 0, none⟩), .int .i64 (rd counts1 0), .int .i64 16]) (by kernel_rfl) (squeeze_writer_put.calls k b9 none 0 ([] : Seg) (⟨([] : List Int), 0⟩ : S_writer) (rd counts1 0) 16 HS35 HO33 vt36 vt37 hc38) ?_)
 rintro _ W41 ⟨f39, A43, c44, s45, rfl, L40, HS42, HO46⟩
 refine ⟨_, rfl, ?_⟩
 refine ⟨(Sg.g1 (Sx.of [s45, [(b9, .cells #[.slice A43 vt36.length c44, .int .i64 vt37] 80 (0, 0))]] L40 HS42) (fun hl_ => Bool.noConfusion (show true = false from hl_))), ?_⟩
 refine doneG (by kernel_rfl) ?_ _
 refine hK20 _ _ ?_
 refine wp_seq_k (fun K48 hK49 => ?_)
 refine wp_region_lit ?_
 refine seqS1 (a' := ⟨#[.slice A2 counts1.length c3, uV, .slice none 0 0, pV b13 0, .slice none 0 0, uV, uV, uV, uV, uV, uV, .agg #[.slice none 0 0, iV 0], pV b9 0, pV b9 0, .slice A2 counts1.length c3, pV b28 (of29 + (0 : Int).toNat * 1), iV (rd counts1 0), .tuple #[], uV, uV, uV, uV, uV, uV, uV, uV, uV, uV, uV, uV, uV, uV, uV, uV, uV, uV, uV, uV, uV, uV, uV, uV, uV, uV, uV, uV, uV, uV, uV, uV, uV, uV, uV, uV, uV, uV, uV, uV, uV, uV, uV, uV, uV, uV, uV, uV, uV, uV, uV, uV, uV, uV, uV, uV, uV, uV, uV, uV, uV, uV, uV, uV, uV, uV, uV, uV], []⟩) (by kernel_rfl) ?_
 refine wpList_nil ?_
 refine hK49 _ _ ?_
 refine wp_seq_k (fun K50 hK51 => ?_)
 refine wp_seq_k (fun K52 hK53 => ?_)
 refine wp_region_lit ?_
 refine seqS1 (a' := ⟨#[.slice A2 counts1.length c3, uV, .slice none 0 0, pV b13 0, .slice none 0 0, iV 1, uV, uV, uV, uV, uV, .agg #[.slice none 0 0, iV 0], pV b9 0, pV b9 0, .slice A2 counts1.length c3, pV b28 (of29 + (0 : Int).toNat * 1), iV (rd counts1 0), .tuple #[], uV, uV, uV, uV, uV, uV, uV, uV, uV, uV, uV, uV, uV, uV, uV, uV, uV, uV, uV, uV, uV, uV, uV, uV, uV, uV, uV, uV, uV, uV, uV, uV, uV, uV, uV, uV, uV, uV, uV, uV, uV, uV, uV, uV, uV, uV, uV, uV, uV, uV, uV, uV, uV, uV, uV, uV, uV, uV, uV, uV, uV, uV, uV, uV, uV, uV, uV, uV], []⟩) (by kernel_rfl) ?_
 refine wpList_nil ?_
 refine hK53 _ _ ?_
 refine blockK (fun B54 hx55 hn56 hr57 ho58 hp59 => ?_)
 have hq_ := bind_some h; clear h; obtain ⟨o60, hv144, h⟩ := hq_
 have J145 : ∀ (f133 : FM) (A139 : Option Addr) (c140 : Nat) (s141 : Seg) (folds138 : List Int) (j137 : Nat → Value) (W135 : World) (a_ : Act), FM.le f39 f133 → some (folds138) = some o60 → St t W135 f133 (s141 :: s45 :: [(b9, .cells #[.slice A43 vt36.length c44, .int .i64 vt37] 80 (0, 0))] :: [(b13, .cells #[.pointer (some ⟨b9, 0, none⟩)] 78 (0, 0))] :: H) → Own (tInt .i64) 3 f133 A139 c140 s141 folds138 → a_ = ⟨#[.slice A2 counts1.length c3, uV, .slice none 0 0, pV b13 0, .slice A139 folds138.length c140, (j137 0), uV, uV, uV, uV, uV, .agg #[.slice none 0 0, iV 0], pV b9 0, pV b9 0, .slice A2 counts1.length c3, pV b28 (of29 + (0 : Int).toNat * 1), iV (rd counts1 0), .tuple #[], (j137 1), (j137 2), (j137 3), (j137 4), (j137 5), (j137 6), (j137 7), (j137 8), (j137 9), (j137 10), (j137 11), (j137 12), (j137 13), (j137 14), (j137 15), (j137 16), (j137 17), (j137 18), (j137 19), (j137 20), uV, uV, uV, uV, uV, uV, uV, uV, uV, uV, uV, uV, uV, uV, uV, uV, uV, uV, uV, uV, uV, uV, uV, uV, uV, uV, uV, uV, uV, uV, uV, uV, uV, uV, uV, uV, uV, uV, uV, uV, uV, uV, uV, uV, uV, uV, uV, uV], []⟩ → K50 a_ W135 := by
  intro f133 A139 c140 s141 folds138 j137 W135 a_ L134 hj146 HS136 HO142 hfr_; subst hfr_
  injection hj146 with hj146; subst hj146; try dsimp only at h
  refine hK51 _ _ ?_
  refine wp_seq_k (fun K149 hK150 => ?_)
  refine wp_seq_k (fun K151 hK152 => ?_)
  refine wp_region_lit ?_
  obtain ⟨f153, L154, HS155, HR156⟩ := HO142.freeze HS136
  have hq_ := bind_some h; clear h; obtain ⟨⟨vt157, vt158⟩, hc159, h⟩ := hq_
  refine seqL1 (by kernel_rfl) ?_
  refine seqK rfl (does_call (f := 16) (args := #[.slice A139 folds138.length c140, .int .i64 8]) (by kernel_rfl) (slices_Chunk_int.calls k A139 c140 folds138 8 HS155 HR156 vt157 vt158 hc159) ?_)
  rintro _ W162 ⟨f160, b164, A165, c166, b169, rfl, L161, HS163, HF168, HR167, HF170⟩
  refine ⟨_, rfl, ?_⟩
  refine wpList_nil ?_
  refine hK152 _ _ ?_
  refine blockK (fun B171 hx172 hn173 hr174 ho175 hp176 => ?_)
  have hq_ := bind_some h; clear h; obtain ⟨xs177, hc178, h⟩ := hq_
  have hit179 := slices_Chunk_int_1.iter k b164 A165 c166 b169 vt157 vt158 (f := f160) HR167 HF168 HF170 xs177 hc178
  have hq_ := bind_some h; clear h; obtain ⟨o1861, hv2705, h⟩ := hq_
  have J2717 : ∀ (D : Nat) (f2706 : FM) (A2712 : Option Addr) (c2713 : Nat) (s2714 : Seg) (x2711 : List Int) (x2716 : Int) (W2708 : World) (a_ : Act), FM.le f160 f2706 → some ((x2711, x2716)) = some o1861 → St t W2708 f2706 (s2714 :: [(b9, .cells #[.slice A2712 x2711.length c2713, .int .i64 x2716] 80 (0, 0))] :: [(b13, .cells #[.pointer (some ⟨b9, 0, none⟩)] 78 (0, 0))] :: [(D, .deferred (some []))] :: H) → Own (tInt .u8) 5 f2706 A2712 c2713 s2714 x2711 → a_ = ⟨#[.slice A2 counts1.length c3, uV, .slice none 0 0, pV b13 0, .slice A139 folds138.length c140, (j137 0), uV, uV, uV, uV, uV, .agg #[.slice none 0 0, iV 0], pV b9 0, pV b9 0, .slice A2 counts1.length c3, pV b28 (of29 + (0 : Int).toNat * 1), iV (rd counts1 0), .tuple #[], (j137 1), (j137 2), (j137 3), (j137 4), (j137 5), (j137 6), (j137 7), (j137 8), (j137 9), (j137 10), (j137 11), (j137 12), (j137 13), (j137 14), (j137 15), (j137 16), (j137 17), (j137 18), (j137 19), (j137 20), .slice A139 folds138.length c140, .func (.func 30) #[] #[pV b164 0, pV b169 0], uV, uV, uV, uV, uV, uV, uV, uV, uV, uV, uV, uV, uV, uV, uV, uV, uV, uV, uV, uV, uV, uV, uV, uV, uV, uV, uV, uV, uV, uV, uV, uV, uV, uV, uV, uV, uV, uV, uV, uV, uV, uV, uV, uV, uV, uV], [mark D]⟩ → K149 a_ W2708 := by
   intro D f2706 A2712 c2713 s2714 x2711 x2716 W2708 a_ L2707 hj2719 HS2709 HO2715 hfr_; subst hfr_
   injection hj2719 with hj2719; subst hj2719; try dsimp only at h
   refine hK150 _ _ ?_
   refine wp_seq_k (fun K2721 hK2722 => ?_)
   refine wp_region_lit ?_
   refine seqK rfl (does_run (run_load rfl Tryd.underlying78 rfl (by kernel_rfl : _ = Value.pointer (some ⟨b13, 0, none⟩)) (HS2709.u2.cell 0)) ?_)
   refine seqL2 (by kernel_rfl) ?_
   refine seqK rfl (does_run (run_load rfl Tryd.underlying23 rfl (by kernel_rfl : _ = Value.pointer (some ⟨b9, 0, none⟩)) (HS2709.u1.cell 0)) ?_)
   refine seqS1 (a' := ⟨#[.slice A2 counts1.length c3, uV, .slice A2712 x2711.length c2713, pV b13 0, .slice A139 folds138.length c140, (j137 0), uV, uV, uV, uV, uV, .agg #[.slice none 0 0, iV 0], pV b9 0, pV b9 0, .slice A2 counts1.length c3, pV b28 (of29 + (0 : Int).toNat * 1), iV (rd counts1 0), .tuple #[], (j137 1), (j137 2), (j137 3), (j137 4), (j137 5), (j137 6), (j137 7), (j137 8), (j137 9), (j137 10), (j137 11), (j137 12), (j137 13), (j137 14), (j137 15), (j137 16), (j137 17), (j137 18), (j137 19), (j137 20), .slice A139 folds138.length c140, .func (.func 30) #[] #[pV b164 0, pV b169 0], uV, uV, uV, uV, uV, uV, uV, uV, uV, uV, uV, uV, uV, uV, uV, uV, uV, uV, uV, uV, uV, uV, uV, uV, uV, uV, uV, uV, uV, uV, uV, uV, uV, uV, uV, uV, uV, uV, uV, uV, uV, uV, pV b9 0, pV b9 0, pV b9 0, .slice A2712 x2711.length c2713], [mark D]⟩) (by kernel_rfl) ?_
   refine wpList_nil ?_
   refine hK2722 _ _ ?_
   refine wp_ret ?_
   refine hret _ _ ?_
   have HS2723 := HS2709.u3
   refine marked HS2723 (by kernel_rfl) ?_
   intro W2724 HS2725
   refine endsM_still (v := Value.slice A2712 x2711.length c2713) (by kernel_rfl) (by kernel_rfl) ?_
   have HS2726 := HS2725.u2
   have HS2727 := HS2726.u2
   have HS2728 := HS2727.drop
   have HS2729 := HS2728.drop
   injection h with h
   subst h
   exact ⟨f2706, A2712, c2713, s2714, rfl, (L40.trans (L134.trans (L154.trans (L161.trans L2707)))), HS2729, HO2715⟩
  clear h; have h := hv2705; clear hv2705
  refine rangeK (gf := 30) (lb := #[Value.pointer (some ⟨b164, 0, none⟩), Value.pointer (some ⟨b169, 0, none⟩)]) (Hs0 := [s45, [(b9, .cells #[.slice A43 vt36.length c44, .int .i64 vt37] 80 (0, 0))], [(b13, .cells #[.pointer (some ⟨b9, 0, none⟩)] 78 (0, 0))]]) (by kernel_rfl) (fun a_ w_ => still_run (still_call Tryd.func30 rfl rfl a_) w_) hit179 (by rintro _ _ _ ⟨_, _, rfl, _⟩; rfl) (FM.le.refl _) (fun pre_ f1862 Hs_ => ∃ (A1868 : Option Addr) (c1869 : Nat) (s1870 : Seg) (x1867 : List Int) (x1872 : Int) (rest_ : List _), Hs_ = [s1870, [(b9, .cells #[.slice A1868 x1867.length c1869, .int .i64 x1872] 80 (0, 0))], [(b13, .cells #[.pointer (some ⟨b9, 0, none⟩)] 78 (0, 0))]] ∧ FM.le f160 f1862 ∧ Own (tInt .u8) 5 f1862 A1868 c1869 s1870 x1867 ∧ xs177 = pre_ ++ rest_ ∧ squeeze_row.g1 k rest_ x1867 x1872 = some o1861) (fun c_ pre_ g_ Hs_ => (False) ∨ (False)) HS163 ⟨A43, c44, s45, vt36, vt37, xs177, rfl, (FM.le.refl _), (HO46.mono (L134.trans (L154.trans L161))), rfl, h⟩ (by rintro pre_ g_ g2_ Hs_ ⟨A1868, c1869, s1870, x1867, x1872, rest_, rfl, hl_, HO1871, hx_, h_⟩ hgg_; exact ⟨A1868, c1869, s1870, x1867, x1872, rest_, rfl, hl_.trans hgg_, (HO1871.mono hgg_), hx_, h_⟩) ?_ ?_ ?_ ?_
  · rintro c_ pre_ g_ g2_ Hs_ (hf_ | hf_) hgg_
    · exact hf_.elim
    · exact hf_.elim
  · clear h
    intro l_ H pre_ x_ rest_ vs_ W1864 f1862 Hs_ hx_ hv_ hk_ HS1865 A_ hA1882 hnA1883
    obtain ⟨A1868, c1869, s1870, x1867, x1872, rest2_, rfl, L1863, HO1871, hx2_, h⟩ := hk_
    have HS1865 : St t W1864 f1862 (s1870 :: [(b9, .cells #[.slice A1868 x1867.length c1869, .int .i64 x1872] 80 (0, 0))] :: [(b13, .cells #[.pointer (some ⟨b9, 0, none⟩)] 78 (0, 0))] :: H) := HS1865
    obtain rfl : rest2_ = x_ :: rest_ := List.append_cancel_left (hx2_.symm.trans hx_)
    obtain ⟨x1873, rfl⟩ : ∃ y_, y_ = x_ := ⟨_, rfl⟩
    obtain ⟨A1874, c1875, hv_, HR1876⟩ := hv_
    have hv_ : vs_ = #[Value.slice A1874 x1873.length c1875] := hv_; subst hv_
    simp only [squeeze_row.g1] at h
    refine RwpRwA (a' := ⟨#[.slice A2 counts1.length c3, uV, .slice none 0 0, pV b13 0, .slice A139 folds138.length c140, (j137 0), uV, uV, uV, uV, uV, .agg #[.slice none 0 0, iV 0], pV b9 0, pV b9 0, .slice A2 counts1.length c3, pV b28 (of29 + (0 : Int).toNat * 1), iV (rd counts1 0), .tuple #[], (j137 1), (j137 2), (j137 3), (j137 4), (j137 5), (j137 6), (j137 7), (j137 8), (j137 9), (j137 10), (j137 11), (j137 12), (j137 13), (j137 14), (j137 15), (j137 16), (j137 17), (j137 18), (j137 19), (j137 20), .slice A139 folds138.length c140, .func (.func 30) #[] #[pV b164 0, pV b169 0], .slice A1874 x1873.length c1875, uV, uV, uV, uV, uV, uV, uV, uV, uV, uV, uV, uV, uV, uV, uV, uV, uV, uV, uV, uV, uV, uV, uV, uV, uV, uV, uV, uV, uV, uV, uV, uV, uV, uV, uV, uV, uV, uV, uV, uV, uV, uV, uV, uV, uV], []⟩) (by kernel_rfl) ?_
    refine Rwp_region_lit (by kernel_rfl) ?_
    refine seqS1 (a' := ⟨#[.slice A2 counts1.length c3, uV, .slice none 0 0, pV b13 0, .slice A139 folds138.length c140, (j137 0), .slice A1874 x1873.length c1875, uV, uV, uV, uV, .agg #[.slice none 0 0, iV 0], pV b9 0, pV b9 0, .slice A2 counts1.length c3, pV b28 (of29 + (0 : Int).toNat * 1), iV (rd counts1 0), .tuple #[], (j137 1), (j137 2), (j137 3), (j137 4), (j137 5), (j137 6), (j137 7), (j137 8), (j137 9), (j137 10), (j137 11), (j137 12), (j137 13), (j137 14), (j137 15), (j137 16), (j137 17), (j137 18), (j137 19), (j137 20), .slice A139 folds138.length c140, .func (.func 30) #[] #[pV b164 0, pV b169 0], .slice A1874 x1873.length c1875, uV, uV, uV, uV, uV, uV, uV, uV, uV, uV, uV, uV, uV, uV, uV, uV, uV, uV, uV, uV, uV, uV, uV, uV, uV, uV, uV, uV, uV, uV, uV, uV, uV, uV, uV, uV, uV, uV, uV, uV, uV, uV, uV, uV, uV], []⟩) (by kernel_rfl) ?_
    refine RwpList_nil ?_
    refine hA1882 _ _ _ [s1870, [(b9, .cells #[.slice A1868 x1867.length c1869, .int .i64 x1872] 80 (0, 0))], [(b13, .cells #[.pointer (some ⟨b9, 0, none⟩)] 78 (0, 0))]] (FM.le.refl _) HS1865 ?_
    intro H W1884 HS1885 B1877 hag1878 hrt1879 hbk1880 hnp1881
    have HS1885 : St t W1884 f1862 (s1870 :: [(b9, .cells #[.slice A1868 x1867.length c1869, .int .i64 x1872] 80 (0, 0))] :: [(b13, .cells #[.pointer (some ⟨b9, 0, none⟩)] 78 (0, 0))] :: H) := HS1885
    refine RblockK (fun B1886 hx1887 hn1888 hr1889 ho1890 hp1891 => ?_)
    refine Rwp_seq_k (fun K1893 hK1894 => ?_)
    refine Rwp_region_lit (by kernel_rfl) ?_
    refine seqS1 (a' := ⟨#[.slice A2 counts1.length c3, uV, .slice none 0 0, pV b13 0, .slice A139 folds138.length c140, (j137 0), .slice A1874 x1873.length c1875, iV 0, uV, uV, uV, .agg #[.slice none 0 0, iV 0], pV b9 0, pV b9 0, .slice A2 counts1.length c3, pV b28 (of29 + (0 : Int).toNat * 1), iV (rd counts1 0), .tuple #[], (j137 1), (j137 2), (j137 3), (j137 4), (j137 5), (j137 6), (j137 7), (j137 8), (j137 9), (j137 10), (j137 11), (j137 12), (j137 13), (j137 14), (j137 15), (j137 16), (j137 17), (j137 18), (j137 19), (j137 20), .slice A139 folds138.length c140, .func (.func 30) #[] #[pV b164 0, pV b169 0], .slice A1874 x1873.length c1875, uV, uV, uV, uV, uV, uV, uV, uV, uV, uV, uV, uV, uV, uV, uV, uV, uV, uV, uV, uV, uV, uV, uV, uV, uV, uV, uV, uV, uV, uV, uV, uV, uV, uV, uV, uV, uV, uV, uV, uV, uV, uV, uV, uV, uV], []⟩) (by kernel_rfl) ?_
    refine RwpList_nil ?_
    refine hK1894 _ _ ?_
    refine Rwp_seq_k (fun K1895 hK1896 => ?_)
    refine Rwp_seq_k (fun K1897 hK1898 => ?_)
    refine Rwp_region_lit (by kernel_rfl) ?_
    refine seqS1 (a' := ⟨#[.slice A2 counts1.length c3, uV, .slice none 0 0, pV b13 0, .slice A139 folds138.length c140, (j137 0), .slice A1874 x1873.length c1875, iV 0, uV, uV, uV, .agg #[.slice none 0 0, iV 0], pV b9 0, pV b9 0, .slice A2 counts1.length c3, pV b28 (of29 + (0 : Int).toNat * 1), iV (rd counts1 0), .tuple #[], (j137 1), (j137 2), (j137 3), (j137 4), (j137 5), (j137 6), (j137 7), (j137 8), (j137 9), (j137 10), (j137 11), (j137 12), (j137 13), (j137 14), (j137 15), (j137 16), (j137 17), (j137 18), (j137 19), (j137 20), .slice A139 folds138.length c140, .func (.func 30) #[] #[pV b164 0, pV b169 0], .slice A1874 x1873.length c1875, iV 0, uV, uV, uV, uV, uV, uV, uV, uV, uV, uV, uV, uV, uV, uV, uV, uV, uV, uV, uV, uV, uV, uV, uV, uV, uV, uV, uV, uV, uV, uV, uV, uV, uV, uV, uV, uV, uV, uV, uV, uV, uV, uV, uV, uV], []⟩) (by kernel_rfl) ?_
    refine RwpList_nil ?_
    refine hK1898 _ _ ?_
    refine RblockK (fun B1899 hx1900 hn1901 hr1902 ho1903 hp1904 => ?_)
    have hq_ := bind_some h; clear h; obtain ⟨o1905, hv1955, h⟩ := hq_
    have J1956 : ∀ (f1949 : FM) (best1954 : Int) (j1953 : Nat → Value) (W1951 : World) (a_ : Act), FM.le f1862 f1949 → some (best1954) = some o1905 → St t W1951 f1949 (s1870 :: [(b9, .cells #[.slice A1868 x1867.length c1869, .int .i64 x1872] 80 (0, 0))] :: [(b13, .cells #[.pointer (some ⟨b9, 0, none⟩)] 78 (0, 0))] :: H) → a_ = ⟨#[.slice A2 counts1.length c3, uV, .slice none 0 0, pV b13 0, .slice A139 folds138.length c140, (j137 0), .slice A1874 x1873.length c1875, iV best1954, (j1953 0), uV, uV, .agg #[.slice none 0 0, iV 0], pV b9 0, pV b9 0, .slice A2 counts1.length c3, pV b28 (of29 + (0 : Int).toNat * 1), iV (rd counts1 0), .tuple #[], (j137 1), (j137 2), (j137 3), (j137 4), (j137 5), (j137 6), (j137 7), (j137 8), (j137 9), (j137 10), (j137 11), (j137 12), (j137 13), (j137 14), (j137 15), (j137 16), (j137 17), (j137 18), (j137 19), (j137 20), .slice A139 folds138.length c140, .func (.func 30) #[] #[pV b164 0, pV b169 0], .slice A1874 x1873.length c1875, (j1953 1), (j1953 2), (j1953 3), (j1953 4), (j1953 5), (j1953 6), (j1953 7), (j1953 8), (j1953 9), (j1953 10), (j1953 11), (j1953 12), uV, uV, uV, uV, uV, uV, uV, uV, uV, uV, uV, uV, uV, uV, uV, uV, uV, uV, uV, uV, uV, uV, uV, uV, uV, uV, uV, uV, uV, uV, uV, uV, uV], []⟩ → K1895 a_ W1951 := by
     intro f1949 best1954 j1953 W1951 a_ L1950 hj1957 HS1952  hfr_; subst hfr_
     injection hj1957 with hj1957; subst hj1957; try dsimp only at h
     refine hK1896 _ _ ?_
     refine Rwp_seq_k (fun K1958 hK1959 => ?_)
     refine Rwp_region_lit (by kernel_rfl) ?_
     refine seqK rfl (does_run (run_load rfl Tryd.underlying78 rfl (by kernel_rfl : _ = Value.pointer (some ⟨b13, 0, none⟩)) (HS1952.u2.cell 0)) ?_)
     have HS1960 := HS1952.u1
     have hq_ := bind_some h; clear h; obtain ⟨⟨vt1961, vt1962⟩, hc1963, h⟩ := hq_
     refine seqL1 (by kernel_rfl) ?_
     refine seqK rfl (does_call (f := 31) (args := #[.pointer (some ⟨b9, 0, none⟩), .int .i64 best1954, .int .i64 4]) (by kernel_rfl) (squeeze_writer_put.calls k b9 A1868 c1869 s1870 (⟨x1867, x1872⟩ : S_writer) best1954 4 HS1960 (HO1871.mono L1950) vt1961 vt1962 hc1963) ?_)
     rintro _ W1966 ⟨f1964, A1968, c1969, s1970, rfl, L1965, HS1967, HO1971⟩
     refine ⟨_, rfl, ?_⟩
     refine RwpList_nil ?_
     refine hK1959 _ _ ?_
     refine Rwp_seq_k (fun K1973 hK1974 => ?_)
     refine Rwp_region_lit (by kernel_rfl) ?_
     refine seqS3 (a' := ⟨#[.slice A2 counts1.length c3, uV, .slice none 0 0, pV b13 0, .slice A139 folds138.length c140, (j137 0), .slice A1874 x1873.length c1875, iV best1954, (j1953 0), uV, uV, .agg #[.slice none 0 0, iV 0], pV b9 0, pV b9 0, .slice A2 counts1.length c3, pV b28 (of29 + (0 : Int).toNat * 1), iV (rd counts1 0), .tuple #[], (j137 1), (j137 2), (j137 3), (j137 4), (j137 5), (j137 6), (j137 7), (j137 8), (j137 9), (j137 10), (j137 11), (j137 12), (j137 13), (j137 14), (j137 15), (j137 16), (j137 17), (j137 18), (j137 19), (j137 20), .slice A139 folds138.length c140, .func (.func 30) #[] #[pV b164 0, pV b169 0], .slice A1874 x1873.length c1875, (j1953 1), (j1953 2), (j1953 3), (j1953 4), (j1953 5), (j1953 6), (j1953 7), (j1953 8), (j1953 9), (j1953 10), (j1953 11), (j1953 12), pV b9 0, iV best1954, .tuple #[], .slice A1874 x1873.length c1875, iV (x1873.length : Int), iV 0, uV, uV, uV, uV, uV, uV, uV, uV, uV, uV, uV, uV, uV, uV, uV, uV, uV, uV, uV, uV, uV, uV, uV, uV, uV, uV, uV], []⟩) (by kernel_rfl) ?_
     refine RwpList_nil ?_
     refine hK1974 _ _ ?_
     refine RblockK (fun B1975 hx1976 hn1977 hr1978 ho1979 hp1980 => ?_)
     have hq_ := bind_some h; clear h; obtain ⟨o2452, hv2702, h⟩ := hq_
     have J2703 : ∀ (f2691 : FM) (A2697 : Option Addr) (c2698 : Nat) (s2699 : Seg) (x2696 : List Int) (x2701 : Int) (j2695 : Nat → Value) (W2693 : World) (a_ : Act), FM.le f1964 f2691 → some ((x2696, x2701)) = some o2452 → St t W2693 f2691 (s2699 :: [(b9, .cells #[.slice A2697 x2696.length c2698, .int .i64 x2701] 80 (0, 0))] :: [(b13, .cells #[.pointer (some ⟨b9, 0, none⟩)] 78 (0, 0))] :: H) → Own (tInt .u8) 5 f2691 A2697 c2698 s2699 x2696 → a_ = ⟨#[.slice A2 counts1.length c3, uV, .slice none 0 0, pV b13 0, .slice A139 folds138.length c140, (j137 0), .slice A1874 x1873.length c1875, iV best1954, (j1953 0), uV, (j2695 0), .agg #[.slice none 0 0, iV 0], pV b9 0, pV b9 0, .slice A2 counts1.length c3, pV b28 (of29 + (0 : Int).toNat * 1), iV (rd counts1 0), .tuple #[], (j137 1), (j137 2), (j137 3), (j137 4), (j137 5), (j137 6), (j137 7), (j137 8), (j137 9), (j137 10), (j137 11), (j137 12), (j137 13), (j137 14), (j137 15), (j137 16), (j137 17), (j137 18), (j137 19), (j137 20), .slice A139 folds138.length c140, .func (.func 30) #[] #[pV b164 0, pV b169 0], .slice A1874 x1873.length c1875, (j1953 1), (j1953 2), (j1953 3), (j1953 4), (j1953 5), (j1953 6), (j1953 7), (j1953 8), (j1953 9), (j1953 10), (j1953 11), (j1953 12), pV b9 0, iV best1954, .tuple #[], .slice A1874 x1873.length c1875, iV (x1873.length : Int), (j2695 1), (j2695 2), (j2695 3), (j2695 4), (j2695 5), (j2695 6), (j2695 7), (j2695 8), (j2695 9), (j2695 10), (j2695 11), (j2695 12), (j2695 13), (j2695 14), (j2695 15), (j2695 16), (j2695 17), (j2695 18), (j2695 19), (j2695 20), (j2695 21), (j2695 22), (j2695 23), (j2695 24), uV, uV, uV, uV], []⟩ → B1886 Exit.normal a_ W2693 := by
      intro f2691 A2697 c2698 s2699 x2696 x2701 j2695 W2693 a_ L2692 hj2704 HS2694 HO2700 hfr_; subst hfr_
      injection hj2704 with hj2704; subst hj2704; try dsimp only at h
      refine hn1888 _ _ ?_
      exact hag1878 _ _ f2691 [s2699, [(b9, .cells #[.slice A2697 x2696.length c2698, .int .i64 x2701] 80 (0, 0))], [(b13, .cells #[.pointer (some ⟨b9, 0, none⟩)] 78 (0, 0))]] (L1950.trans (L1965.trans L2692)) ⟨A2697, c2698, s2699, x2696, x2701, rest_, rfl, (L1863.trans (L1950.trans (L1965.trans L2692))), HO2700, hx_.trans (List.append_cons _ _ _), h⟩ HS2694
     clear h; have h := hv2702; clear hv2702
     refine RloopK (fun n_ a_ w_ => ∃ (f2456 : FM) (A2463 : Option Addr) (c2464 : Nat) (s2465 : Seg) (x2461 : Int) (x2462 : List Int) (x2467 : Int) (j2460 : Nat → Value), FM.le f1964 f2456 ∧ St t w_ f2456 (s2465 :: [(b9, .cells #[.slice A2463 x2462.length c2464, .int .i64 x2467] 80 (0, 0))] :: [(b13, .cells #[.pointer (some ⟨b9, 0, none⟩)] 78 (0, 0))] :: H) ∧ Own (tInt .u8) 5 f2456 A2463 c2464 s2465 x2462 ∧ squeeze_row.l3 k x1873 best1954 n_ x2461 x2462 x2467 = some o2452 ∧ a_ = ⟨#[.slice A2 counts1.length c3, uV, .slice none 0 0, pV b13 0, .slice A139 folds138.length c140, (j137 0), .slice A1874 x1873.length c1875, iV best1954, (j1953 0), uV, (j2460 0), .agg #[.slice none 0 0, iV 0], pV b9 0, pV b9 0, .slice A2 counts1.length c3, pV b28 (of29 + (0 : Int).toNat * 1), iV (rd counts1 0), .tuple #[], (j137 1), (j137 2), (j137 3), (j137 4), (j137 5), (j137 6), (j137 7), (j137 8), (j137 9), (j137 10), (j137 11), (j137 12), (j137 13), (j137 14), (j137 15), (j137 16), (j137 17), (j137 18), (j137 19), (j137 20), .slice A139 folds138.length c140, .func (.func 30) #[] #[pV b164 0, pV b169 0], .slice A1874 x1873.length c1875, (j1953 1), (j1953 2), (j1953 3), (j1953 4), (j1953 5), (j1953 6), (j1953 7), (j1953 8), (j1953 9), (j1953 10), (j1953 11), (j1953 12), pV b9 0, iV best1954, .tuple #[], .slice A1874 x1873.length c1875, iV (x1873.length : Int), iV x2461, (j2460 1), (j2460 2), (j2460 3), (j2460 4), (j2460 5), (j2460 6), (j2460 7), (j2460 8), (j2460 9), (j2460 10), (j2460 11), (j2460 12), (j2460 13), (j2460 14), (j2460 15), (j2460 16), (j2460 17), (j2460 18), (j2460 19), (j2460 20), (j2460 21), (j2460 22), (j2460 23), uV, uV, uV, uV], []⟩) k ⟨f1964, A1968, c1969, s1970, 0, vt1961, vt1962, (fun i_ => [undef, undef, undef, undef, undef, undef, undef, undef, undef, undef, undef, undef, undef, undef, undef, undef, undef, undef, undef, undef, undef, undef, undef, undef].getD i_ undef), (FM.le.refl _), HS1967, HO1971, h, (by kernel_rfl)⟩ ?_
     clear h
     rintro n2455 _ W2458 ⟨f2456, A2463, c2464, s2465, x2461, x2462, x2467, j2460, L2457, HS2459, HO2466, h, rfl⟩ K2453 hK2454
     obtain _ | n2455 := n2455
     · exact nomatch h
     simp only [squeeze_row.l3] at h
     refine Rwp_seq_k (fun K2468 hK2469 => ?_)
     refine Rwp_region_lit (by kernel_rfl) ?_
     refine seqS1 (a' := ⟨#[.slice A2 counts1.length c3, uV, .slice none 0 0, pV b13 0, .slice A139 folds138.length c140, (j137 0), .slice A1874 x1873.length c1875, iV best1954, (j1953 0), uV, (j2460 0), .agg #[.slice none 0 0, iV 0], pV b9 0, pV b9 0, .slice A2 counts1.length c3, pV b28 (of29 + (0 : Int).toNat * 1), iV (rd counts1 0), .tuple #[], (j137 1), (j137 2), (j137 3), (j137 4), (j137 5), (j137 6), (j137 7), (j137 8), (j137 9), (j137 10), (j137 11), (j137 12), (j137 13), (j137 14), (j137 15), (j137 16), (j137 17), (j137 18), (j137 19), (j137 20), .slice A139 folds138.length c140, .func (.func 30) #[] #[pV b164 0, pV b169 0], .slice A1874 x1873.length c1875, (j1953 1), (j1953 2), (j1953 3), (j1953 4), (j1953 5), (j1953 6), (j1953 7), (j1953 8), (j1953 9), (j1953 10), (j1953 11), (j1953 12), pV b9 0, iV best1954, .tuple #[], .slice A1874 x1873.length c1875, iV (x1873.length : Int), iV x2461, .bool (decide (x2461 < (x1873.length : Int))), (j2460 2), (j2460 3), (j2460 4), (j2460 5), (j2460 6), (j2460 7), (j2460 8), (j2460 9), (j2460 10), (j2460 11), (j2460 12), (j2460 13), (j2460 14), (j2460 15), (j2460 16), (j2460 17), (j2460 18), (j2460 19), (j2460 20), (j2460 21), (j2460 22), (j2460 23), uV, uV, uV, uV], []⟩) (by kernel_rfl) ?_
     refine RwpList_nil ?_
     refine hK2469 _ _ ?_
     refine Rwp_seq_k (fun K2470 hK2471 => ?_)
     have hq_ := ite_some h; clear h; rcases hq_ with ⟨c2473, h⟩ | ⟨c2473, h⟩
     · have c2473 : x2461 < (x1873.length : Int) := c2473
       refine RwpRwI 59 (x := (decide (x2461 < (x1873.length : Int)))) (v := true) (by kernel_rfl) (decide_eq_true c2473) ?_
       refine RcondT (by kernel_rfl) ?_
       refine Rwp_skip ?_
       refine hK2471 _ _ ?_
       refine Rwp_seq_k (fun K2474 hK2475 => ?_)
       refine RblockK (fun B2476 hx2477 hn2478 hr2479 ho2480 hp2481 => ?_)
       refine Rwp_seq_k (fun K2483 hK2484 => ?_)
       refine Rwp_region_lit (by kernel_rfl) ?_
       have hq_ := guard_some h; clear h; obtain ⟨c2485, h⟩ := hq_
       have c2485 : 0 ≤ x2461 := c2485
       obtain ⟨b2489, of2490, cs2486, hA2491, hr2487, hc2488⟩ := (HR1876.mono (L1950.trans (L1965.trans L2457))).at (i := x2461) c2485 c2473
       obtain rfl := hr2487
       refine seqK rfl (does_run (run_indexE hA2491 (sz := 1) rfl Tryd.underlying27 (by kernel_rfl) (by kernel_rfl : _ = Value.slice A1874 x1873.length c1875) (by kernel_rfl : _ = Value.int .i64 x2461) c2485 c2473 W2458) ?_)
       refine seqK rfl (does_run (run_load rfl Tryd.underlying3 rfl (by kernel_rfl : _ = Value.pointer (some ⟨b2489, of2490 + (x2461 : Int).toNat * 1, none⟩)) ((hc2488 (FM.le.refl _) HS2459) 0 (by decide))) ?_)
       refine seqS1 (a' := ⟨#[.slice A2 counts1.length c3, uV, .slice none 0 0, pV b13 0, .slice A139 folds138.length c140, (j137 0), .slice A1874 x1873.length c1875, iV best1954, (j1953 0), uV, iV (rd x1873 x2461), .agg #[.slice none 0 0, iV 0], pV b9 0, pV b9 0, .slice A2 counts1.length c3, pV b28 (of29 + (0 : Int).toNat * 1), iV (rd counts1 0), .tuple #[], (j137 1), (j137 2), (j137 3), (j137 4), (j137 5), (j137 6), (j137 7), (j137 8), (j137 9), (j137 10), (j137 11), (j137 12), (j137 13), (j137 14), (j137 15), (j137 16), (j137 17), (j137 18), (j137 19), (j137 20), .slice A139 folds138.length c140, .func (.func 30) #[] #[pV b164 0, pV b169 0], .slice A1874 x1873.length c1875, (j1953 1), (j1953 2), (j1953 3), (j1953 4), (j1953 5), (j1953 6), (j1953 7), (j1953 8), (j1953 9), (j1953 10), (j1953 11), (j1953 12), pV b9 0, iV best1954, .tuple #[], .slice A1874 x1873.length c1875, iV (x1873.length : Int), iV x2461, tV, pV b2489 (of2490 + (x2461 : Int).toNat * 1), iV (rd x1873 x2461), (j2460 4), (j2460 5), (j2460 6), (j2460 7), (j2460 8), (j2460 9), (j2460 10), (j2460 11), (j2460 12), (j2460 13), (j2460 14), (j2460 15), (j2460 16), (j2460 17), (j2460 18), (j2460 19), (j2460 20), (j2460 21), (j2460 22), (j2460 23), uV, uV, uV, uV], []⟩) (by kernel_rfl) ?_
       refine RwpList_nil ?_
       refine hK2484 _ _ ?_
       refine Rwp_seq_k (fun K2492 hK2493 => ?_)
       refine Rwp_seq_k (fun K2494 hK2495 => ?_)
       refine Rwp_region_lit (by kernel_rfl) ?_
       refine seqS2 (a' := ⟨#[.slice A2 counts1.length c3, uV, .slice none 0 0, pV b13 0, .slice A139 folds138.length c140, (j137 0), .slice A1874 x1873.length c1875, iV best1954, (j1953 0), uV, iV (rd x1873 x2461), .agg #[.slice none 0 0, iV 0], pV b9 0, pV b9 0, .slice A2 counts1.length c3, pV b28 (of29 + (0 : Int).toNat * 1), iV (rd counts1 0), .tuple #[], (j137 1), (j137 2), (j137 3), (j137 4), (j137 5), (j137 6), (j137 7), (j137 8), (j137 9), (j137 10), (j137 11), (j137 12), (j137 13), (j137 14), (j137 15), (j137 16), (j137 17), (j137 18), (j137 19), (j137 20), .slice A139 folds138.length c140, .func (.func 30) #[] #[pV b164 0, pV b169 0], .slice A1874 x1873.length c1875, (j1953 1), (j1953 2), (j1953 3), (j1953 4), (j1953 5), (j1953 6), (j1953 7), (j1953 8), (j1953 9), (j1953 10), (j1953 11), (j1953 12), pV b9 0, iV best1954, .tuple #[], .slice A1874 x1873.length c1875, iV (x1873.length : Int), iV x2461, tV, pV b2489 (of2490 + (x2461 : Int).toNat * 1), iV (rd x1873 x2461), iV best1954, .bool (best1954 == 15), (j2460 6), (j2460 7), (j2460 8), (j2460 9), (j2460 10), (j2460 11), (j2460 12), (j2460 13), (j2460 14), (j2460 15), (j2460 16), (j2460 17), (j2460 18), (j2460 19), (j2460 20), (j2460 21), (j2460 22), (j2460 23), uV, uV, uV, uV], []⟩) (by kernel_rfl) ?_
       refine RwpList_nil ?_
       refine hK2495 _ _ ?_
       have hq_ := ite_some h; clear h; rcases hq_ with ⟨c2497, h⟩ | ⟨c2497, h⟩
       · have c2497 : best1954 = 15 := c2497
         refine RwpRwI 63 (x := (best1954 == 15)) (v := true) (by kernel_rfl) (beq_iff_eq.mpr c2497) ?_
         refine RcondT (by kernel_rfl) ?_
         refine Rwp_seq_k (fun K2498 hK2499 => ?_)
         refine Rwp_region_lit (by kernel_rfl) ?_
         refine seqK rfl (does_run (run_load rfl Tryd.underlying78 rfl (by kernel_rfl : _ = Value.pointer (some ⟨b13, 0, none⟩)) (HS2459.u2.cell 0)) ?_)
         have HS2500 := HS2459.u1
         have hq_ := bind_some h; clear h; obtain ⟨⟨vt2501, vt2502⟩, hc2503, h⟩ := hq_
         refine seqL1 (by kernel_rfl) ?_
         refine seqK rfl (does_call (f := 31) (args := #[.pointer (some ⟨b9, 0, none⟩), .int .i64 (rd x1873 x2461), .int .i64 17]) (by kernel_rfl) (squeeze_writer_put.calls k b9 A2463 c2464 s2465 (⟨x2462, x2467⟩ : S_writer) (rd x1873 x2461) 17 HS2500 HO2466 vt2501 vt2502 hc2503) ?_)
         rintro _ W2506 ⟨f2504, A2508, c2509, s2510, rfl, L2505, HS2507, HO2511⟩
         refine ⟨_, rfl, ?_⟩
         refine RwpList_nil ?_
         refine hK2499 _ _ ?_
         refine Rwp_exit ?_
         refine hx2477 _ _ ?_
         refine hK2475 _ _ ?_
         refine Rwp_region_lit (by kernel_rfl) ?_
         refine seqS2 (a' := ⟨#[.slice A2 counts1.length c3, uV, .slice none 0 0, pV b13 0, .slice A139 folds138.length c140, (j137 0), .slice A1874 x1873.length c1875, iV best1954, (j1953 0), uV, iV (rd x1873 x2461), .agg #[.slice none 0 0, iV 0], pV b9 0, pV b9 0, .slice A2 counts1.length c3, pV b28 (of29 + (0 : Int).toNat * 1), iV (rd counts1 0), .tuple #[], (j137 1), (j137 2), (j137 3), (j137 4), (j137 5), (j137 6), (j137 7), (j137 8), (j137 9), (j137 10), (j137 11), (j137 12), (j137 13), (j137 14), (j137 15), (j137 16), (j137 17), (j137 18), (j137 19), (j137 20), .slice A139 folds138.length c140, .func (.func 30) #[] #[pV b164 0, pV b169 0], .slice A1874 x1873.length c1875, (j1953 1), (j1953 2), (j1953 3), (j1953 4), (j1953 5), (j1953 6), (j1953 7), (j1953 8), (j1953 9), (j1953 10), (j1953 11), (j1953 12), pV b9 0, iV best1954, .tuple #[], .slice A1874 x1873.length c1875, iV (x1873.length : Int), iV (w64 (x2461 + 1)), tV, pV b2489 (of2490 + (x2461 : Int).toNat * 1), iV (rd x1873 x2461), iV best1954, tV, pV b9 0, iV (rd x1873 x2461), .tuple #[], (j2460 9), (j2460 10), (j2460 11), (j2460 12), (j2460 13), (j2460 14), (j2460 15), (j2460 16), (j2460 17), (j2460 18), (j2460 19), (j2460 20), (j2460 21), (j2460 22), iV (w64 (x2461 + 1)), uV, uV, uV, uV], []⟩) (by kernel_rfl) ?_
         refine RwpList_nil ?_
         refine hK2454 n2455 _ _ (Nat.lt_succ_self _) ?_
         exact ⟨f2504, A2508, c2509, s2510, (w64 (x2461 + 1)), vt2501, vt2502, (fun i_ => [Value.int .i64 (rd x1873 x2461), Value.bool true, Value.pointer (some ⟨b2489, of2490 + (x2461 : Int).toNat * 1, none⟩), Value.int .i64 (rd x1873 x2461), Value.int .i64 best1954, Value.bool true, Value.pointer (some ⟨b9, 0, none⟩), Value.int .i64 (rd x1873 x2461), Value.tuple #[], (j2460 9), (j2460 10), (j2460 11), (j2460 12), (j2460 13), (j2460 14), (j2460 15), (j2460 16), (j2460 17), (j2460 18), (j2460 19), (j2460 20), (j2460 21), (j2460 22), Value.int .i64 (w64 (x2461 + 1))].getD i_ undef), (L2457.trans L2505), HS2507, HO2511, h, (by kernel_rfl)⟩
       · have c2497 : ¬ (best1954 = 15) := c2497
         refine RwpRwI 63 (x := (best1954 == 15)) (v := false) (by kernel_rfl) (beq_eq_false_iff_ne.mpr c2497) ?_
         refine RcondF (by kernel_rfl) ?_
         refine Rwp_skip ?_
         refine hK2493 _ _ ?_
         refine Rwp_seq_k (fun K2513 hK2514 => ?_)
         refine Rwp_seq_k (fun K2515 hK2516 => ?_)
         refine Rwp_region_lit (by kernel_rfl) ?_
         have hq_ := guard_some h; clear h; obtain ⟨c2517, h⟩ := hq_
         have c2517 : ¬ (best1954 < 0) := c2517
         refine seqL2 (by kernel_rfl) ?_
         refine seqK rfl (does_run (run_shr rfl (by kernel_rfl : _ = Value.int .i64 (rd x1873 x2461)) (by kernel_rfl : _ = Value.int .i64 best1954) c2517 W2458) ?_)
         refine seqS1 (a' := ⟨#[.slice A2 counts1.length c3, uV, .slice none 0 0, pV b13 0, .slice A139 folds138.length c140, (j137 0), .slice A1874 x1873.length c1875, iV best1954, (j1953 0), uV, iV (rd x1873 x2461), .agg #[.slice none 0 0, iV 0], pV b9 0, pV b9 0, .slice A2 counts1.length c3, pV b28 (of29 + (0 : Int).toNat * 1), iV (rd counts1 0), .tuple #[], (j137 1), (j137 2), (j137 3), (j137 4), (j137 5), (j137 6), (j137 7), (j137 8), (j137 9), (j137 10), (j137 11), (j137 12), (j137 13), (j137 14), (j137 15), (j137 16), (j137 17), (j137 18), (j137 19), (j137 20), .slice A139 folds138.length c140, .func (.func 30) #[] #[pV b164 0, pV b169 0], .slice A1874 x1873.length c1875, (j1953 1), (j1953 2), (j1953 3), (j1953 4), (j1953 5), (j1953 6), (j1953 7), (j1953 8), (j1953 9), (j1953 10), (j1953 11), (j1953 12), pV b9 0, iV best1954, .tuple #[], .slice A1874 x1873.length c1875, iV (x1873.length : Int), iV x2461, tV, pV b2489 (of2490 + (x2461 : Int).toNat * 1), iV (rd x1873 x2461), iV best1954, fV, (j2460 6), (j2460 7), (j2460 8), iV (rd x1873 x2461), iV best1954, iV (shr (rd x1873 x2461) (min (best1954).toNat 64)), iV 0, (j2460 13), (j2460 14), (j2460 15), (j2460 16), (j2460 17), (j2460 18), (j2460 19), (j2460 20), (j2460 21), (j2460 22), (j2460 23), uV, uV, uV, uV], []⟩) (by kernel_rfl) ?_
         refine RwpList_nil ?_
         refine hK2516 _ _ ?_
         refine RblockK (fun B2518 hx2519 hn2520 hr2521 ho2522 hp2523 => ?_)
         have hq_ := bind_some h; clear h; obtain ⟨o2605, hv2660, h⟩ := hq_
         have J2661 : ∀ (f2649 : FM) (A2655 : Option Addr) (c2656 : Nat) (s2657 : Seg) (x2654 : List Int) (x2659 : Int) (j2653 : Nat → Value) (W2651 : World) (a_ : Act), FM.le f2456 f2649 → some ((x2654, x2659)) = some o2605 → St t W2651 f2649 (s2657 :: [(b9, .cells #[.slice A2655 x2654.length c2656, .int .i64 x2659] 80 (0, 0))] :: [(b13, .cells #[.pointer (some ⟨b9, 0, none⟩)] 78 (0, 0))] :: H) → Own (tInt .u8) 5 f2649 A2655 c2656 s2657 x2654 → a_ = ⟨#[.slice A2 counts1.length c3, uV, .slice none 0 0, pV b13 0, .slice A139 folds138.length c140, (j137 0), .slice A1874 x1873.length c1875, iV best1954, (j1953 0), uV, iV (rd x1873 x2461), .agg #[.slice none 0 0, iV 0], pV b9 0, pV b9 0, .slice A2 counts1.length c3, pV b28 (of29 + (0 : Int).toNat * 1), iV (rd counts1 0), .tuple #[], (j137 1), (j137 2), (j137 3), (j137 4), (j137 5), (j137 6), (j137 7), (j137 8), (j137 9), (j137 10), (j137 11), (j137 12), (j137 13), (j137 14), (j137 15), (j137 16), (j137 17), (j137 18), (j137 19), (j137 20), .slice A139 folds138.length c140, .func (.func 30) #[] #[pV b164 0, pV b169 0], .slice A1874 x1873.length c1875, (j1953 1), (j1953 2), (j1953 3), (j1953 4), (j1953 5), (j1953 6), (j1953 7), (j1953 8), (j1953 9), (j1953 10), (j1953 11), (j1953 12), pV b9 0, iV best1954, .tuple #[], .slice A1874 x1873.length c1875, iV (x1873.length : Int), iV x2461, tV, pV b2489 (of2490 + (x2461 : Int).toNat * 1), iV (rd x1873 x2461), iV best1954, fV, (j2460 6), (j2460 7), (j2460 8), iV (rd x1873 x2461), iV best1954, iV (shr (rd x1873 x2461) (min (best1954).toNat 64)), (j2653 0), (j2653 1), (j2653 2), (j2653 3), (j2653 4), (j2460 17), (j2460 18), (j2460 19), (j2460 20), (j2460 21), (j2460 22), (j2460 23), uV, uV, uV, uV], []⟩ → K2513 a_ W2651 := by
          intro f2649 A2655 c2656 s2657 x2654 x2659 j2653 W2651 a_ L2650 hj2662 HS2652 HO2658 hfr_; subst hfr_
          injection hj2662 with hj2662; subst hj2662; try dsimp only at h
          refine hK2514 _ _ ?_
          refine Rwp_seq_k (fun K2663 hK2664 => ?_)
          refine Rwp_region_lit (by kernel_rfl) ?_
          refine seqK rfl (does_run (run_load rfl Tryd.underlying78 rfl (by kernel_rfl : _ = Value.pointer (some ⟨b13, 0, none⟩)) (HS2652.u2.cell 0)) ?_)
          have HS2665 := HS2652.u1
          have hq_ := bind_some h; clear h; obtain ⟨⟨vt2666, vt2667⟩, hc2668, h⟩ := hq_
          refine seqK rfl (does_call (f := 31) (args := #[.pointer (some ⟨b9, 0, none⟩), .int .i64 0, .int .i64 1]) (by kernel_rfl) (squeeze_writer_put.calls k b9 A2655 c2656 s2657 (⟨x2654, x2659⟩ : S_writer) 0 1 HS2665 HO2658 vt2666 vt2667 hc2668) ?_)
          rintro _ W2671 ⟨f2669, A2673, c2674, s2675, rfl, L2670, HS2672, HO2676⟩
          refine ⟨_, rfl, ?_⟩
          refine RwpList_nil ?_
          refine hK2664 _ _ ?_
          refine Rwp_region_lit (by kernel_rfl) ?_
          refine seqK rfl (does_run (run_load rfl Tryd.underlying78 rfl (by kernel_rfl : _ = Value.pointer (some ⟨b13, 0, none⟩)) (HS2672.u2.cell 0)) ?_)
          have HS2678 := HS2672.u1
          have hq_ := bind_some h; clear h; obtain ⟨⟨vt2679, vt2680⟩, hc2681, h⟩ := hq_
          refine seqL2 (by kernel_rfl) ?_
          refine seqK rfl (does_call (f := 31) (args := #[.pointer (some ⟨b9, 0, none⟩), .int .i64 (rd x1873 x2461), .int .i64 best1954]) (by kernel_rfl) (squeeze_writer_put.calls k b9 A2673 c2674 s2675 (⟨vt2666, vt2667⟩ : S_writer) (rd x1873 x2461) best1954 HS2678 HO2676 vt2679 vt2680 hc2681) ?_)
          rintro _ W2684 ⟨f2682, A2686, c2687, s2688, rfl, L2683, HS2685, HO2689⟩
          refine ⟨_, rfl, ?_⟩
          refine RwpList_nil ?_
          refine hn2478 _ _ ?_
          refine hK2475 _ _ ?_
          refine Rwp_region_lit (by kernel_rfl) ?_
          refine seqS2 (a' := ⟨#[.slice A2 counts1.length c3, uV, .slice none 0 0, pV b13 0, .slice A139 folds138.length c140, (j137 0), .slice A1874 x1873.length c1875, iV best1954, (j1953 0), uV, iV (rd x1873 x2461), .agg #[.slice none 0 0, iV 0], pV b9 0, pV b9 0, .slice A2 counts1.length c3, pV b28 (of29 + (0 : Int).toNat * 1), iV (rd counts1 0), .tuple #[], (j137 1), (j137 2), (j137 3), (j137 4), (j137 5), (j137 6), (j137 7), (j137 8), (j137 9), (j137 10), (j137 11), (j137 12), (j137 13), (j137 14), (j137 15), (j137 16), (j137 17), (j137 18), (j137 19), (j137 20), .slice A139 folds138.length c140, .func (.func 30) #[] #[pV b164 0, pV b169 0], .slice A1874 x1873.length c1875, (j1953 1), (j1953 2), (j1953 3), (j1953 4), (j1953 5), (j1953 6), (j1953 7), (j1953 8), (j1953 9), (j1953 10), (j1953 11), (j1953 12), pV b9 0, iV best1954, .tuple #[], .slice A1874 x1873.length c1875, iV (x1873.length : Int), iV (w64 (x2461 + 1)), tV, pV b2489 (of2490 + (x2461 : Int).toNat * 1), iV (rd x1873 x2461), iV best1954, fV, (j2460 6), (j2460 7), (j2460 8), iV (rd x1873 x2461), iV best1954, iV (shr (rd x1873 x2461) (min (best1954).toNat 64)), (j2653 0), (j2653 1), (j2653 2), (j2653 3), (j2653 4), pV b9 0, .tuple #[], pV b9 0, iV (rd x1873 x2461), iV best1954, .tuple #[], iV (w64 (x2461 + 1)), uV, uV, uV, uV], []⟩) (by kernel_rfl) ?_
          refine RwpList_nil ?_
          refine hK2454 n2455 _ _ (Nat.lt_succ_self _) ?_
          exact ⟨f2682, A2686, c2687, s2688, (w64 (x2461 + 1)), vt2679, vt2680, (fun i_ => [Value.int .i64 (rd x1873 x2461), Value.bool true, Value.pointer (some ⟨b2489, of2490 + (x2461 : Int).toNat * 1, none⟩), Value.int .i64 (rd x1873 x2461), Value.int .i64 best1954, Value.bool false, (j2460 6), (j2460 7), (j2460 8), Value.int .i64 (rd x1873 x2461), Value.int .i64 best1954, Value.int .i64 (shr (rd x1873 x2461) (min (best1954).toNat 64)), (j2653 0), (j2653 1), (j2653 2), (j2653 3), (j2653 4), Value.pointer (some ⟨b9, 0, none⟩), Value.tuple #[], Value.pointer (some ⟨b9, 0, none⟩), Value.int .i64 (rd x1873 x2461), Value.int .i64 best1954, Value.tuple #[], Value.int .i64 (w64 (x2461 + 1))].getD i_ undef), (L2457.trans (L2650.trans (L2670.trans L2683))), HS2685, HO2689, h, (by kernel_rfl)⟩
         clear h; have h := hv2660; clear hv2660
         refine RloopK (fun n_ a_ w_ => ∃ (f2609 : FM) (A2616 : Option Addr) (c2617 : Nat) (s2618 : Seg) (x2614 : Int) (x2615 : List Int) (x2620 : Int) (j2613 : Nat → Value), FM.le f2456 f2609 ∧ St t w_ f2609 (s2618 :: [(b9, .cells #[.slice A2616 x2615.length c2617, .int .i64 x2620] 80 (0, 0))] :: [(b13, .cells #[.pointer (some ⟨b9, 0, none⟩)] 78 (0, 0))] :: H) ∧ Own (tInt .u8) 5 f2609 A2616 c2617 s2618 x2615 ∧ squeeze_row.l4 k x1873 x2461 best1954 n_ x2614 x2615 x2620 = some o2605 ∧ a_ = ⟨#[.slice A2 counts1.length c3, uV, .slice none 0 0, pV b13 0, .slice A139 folds138.length c140, (j137 0), .slice A1874 x1873.length c1875, iV best1954, (j1953 0), uV, iV (rd x1873 x2461), .agg #[.slice none 0 0, iV 0], pV b9 0, pV b9 0, .slice A2 counts1.length c3, pV b28 (of29 + (0 : Int).toNat * 1), iV (rd counts1 0), .tuple #[], (j137 1), (j137 2), (j137 3), (j137 4), (j137 5), (j137 6), (j137 7), (j137 8), (j137 9), (j137 10), (j137 11), (j137 12), (j137 13), (j137 14), (j137 15), (j137 16), (j137 17), (j137 18), (j137 19), (j137 20), .slice A139 folds138.length c140, .func (.func 30) #[] #[pV b164 0, pV b169 0], .slice A1874 x1873.length c1875, (j1953 1), (j1953 2), (j1953 3), (j1953 4), (j1953 5), (j1953 6), (j1953 7), (j1953 8), (j1953 9), (j1953 10), (j1953 11), (j1953 12), pV b9 0, iV best1954, .tuple #[], .slice A1874 x1873.length c1875, iV (x1873.length : Int), iV x2461, tV, pV b2489 (of2490 + (x2461 : Int).toNat * 1), iV (rd x1873 x2461), iV best1954, fV, (j2460 6), (j2460 7), (j2460 8), iV (rd x1873 x2461), iV best1954, iV (shr (rd x1873 x2461) (min (best1954).toNat 64)), iV x2614, (j2613 0), (j2613 1), (j2613 2), (j2613 3), (j2460 17), (j2460 18), (j2460 19), (j2460 20), (j2460 21), (j2460 22), (j2460 23), uV, uV, uV, uV], []⟩) k ⟨f2456, A2463, c2464, s2465, 0, x2462, x2467, (fun i_ => [(j2460 13), (j2460 14), (j2460 15), (j2460 16)].getD i_ undef), (FM.le.refl _), HS2459, HO2466, h, (by kernel_rfl)⟩ ?_
         clear h
         rintro n2608 _ W2611 ⟨f2609, A2616, c2617, s2618, x2614, x2615, x2620, j2613, L2610, HS2612, HO2619, h, rfl⟩ K2606 hK2607
         obtain _ | n2608 := n2608
         · exact nomatch h
         simp only [squeeze_row.l4] at h
         refine Rwp_seq_k (fun K2621 hK2622 => ?_)
         refine Rwp_region_lit (by kernel_rfl) ?_
         refine seqS1 (a' := ⟨#[.slice A2 counts1.length c3, uV, .slice none 0 0, pV b13 0, .slice A139 folds138.length c140, (j137 0), .slice A1874 x1873.length c1875, iV best1954, (j1953 0), uV, iV (rd x1873 x2461), .agg #[.slice none 0 0, iV 0], pV b9 0, pV b9 0, .slice A2 counts1.length c3, pV b28 (of29 + (0 : Int).toNat * 1), iV (rd counts1 0), .tuple #[], (j137 1), (j137 2), (j137 3), (j137 4), (j137 5), (j137 6), (j137 7), (j137 8), (j137 9), (j137 10), (j137 11), (j137 12), (j137 13), (j137 14), (j137 15), (j137 16), (j137 17), (j137 18), (j137 19), (j137 20), .slice A139 folds138.length c140, .func (.func 30) #[] #[pV b164 0, pV b169 0], .slice A1874 x1873.length c1875, (j1953 1), (j1953 2), (j1953 3), (j1953 4), (j1953 5), (j1953 6), (j1953 7), (j1953 8), (j1953 9), (j1953 10), (j1953 11), (j1953 12), pV b9 0, iV best1954, .tuple #[], .slice A1874 x1873.length c1875, iV (x1873.length : Int), iV x2461, tV, pV b2489 (of2490 + (x2461 : Int).toNat * 1), iV (rd x1873 x2461), iV best1954, fV, (j2460 6), (j2460 7), (j2460 8), iV (rd x1873 x2461), iV best1954, iV (shr (rd x1873 x2461) (min (best1954).toNat 64)), iV x2614, .bool (decide (x2614 < (shr (rd x1873 x2461) (min (best1954).toNat 64)))), (j2613 1), (j2613 2), (j2613 3), (j2460 17), (j2460 18), (j2460 19), (j2460 20), (j2460 21), (j2460 22), (j2460 23), uV, uV, uV, uV], []⟩) (by kernel_rfl) ?_
         refine RwpList_nil ?_
         refine hK2622 _ _ ?_
         refine Rwp_seq_k (fun K2623 hK2624 => ?_)
         have hq_ := ite_some h; clear h; rcases hq_ with ⟨c2626, h⟩ | ⟨c2626, h⟩
         · have c2626 : x2614 < (shr (rd x1873 x2461) (min (best1954).toNat 64)) := c2626
           refine RwpRwI 71 (x := (decide (x2614 < (shr (rd x1873 x2461) (min (best1954).toNat 64))))) (v := true) (by kernel_rfl) (decide_eq_true c2626) ?_
           refine RcondT (by kernel_rfl) ?_
           refine Rwp_skip ?_
           refine hK2624 _ _ ?_
           refine Rwp_seq_k (fun K2627 hK2628 => ?_)
           refine RblockK (fun B2629 hx2630 hn2631 hr2632 ho2633 hp2634 => ?_)
           refine Rwp_region_lit (by kernel_rfl) ?_
           refine seqK rfl (does_run (run_load rfl Tryd.underlying78 rfl (by kernel_rfl : _ = Value.pointer (some ⟨b13, 0, none⟩)) (HS2612.u2.cell 0)) ?_)
           have HS2636 := HS2612.u1
           have hq_ := bind_some h; clear h; obtain ⟨⟨vt2637, vt2638⟩, hc2639, h⟩ := hq_
           refine seqK rfl (does_call (f := 31) (args := #[.pointer (some ⟨b9, 0, none⟩), .int .i64 1, .int .i64 1]) (by kernel_rfl) (squeeze_writer_put.calls k b9 A2616 c2617 s2618 (⟨x2615, x2620⟩ : S_writer) 1 1 HS2636 HO2619 vt2637 vt2638 hc2639) ?_)
           rintro _ W2642 ⟨f2640, A2644, c2645, s2646, rfl, L2641, HS2643, HO2647⟩
           refine ⟨_, rfl, ?_⟩
           refine RwpList_nil ?_
           refine hn2631 _ _ ?_
           refine hK2628 _ _ ?_
           refine Rwp_region_lit (by kernel_rfl) ?_
           refine seqS2 (a' := ⟨#[.slice A2 counts1.length c3, uV, .slice none 0 0, pV b13 0, .slice A139 folds138.length c140, (j137 0), .slice A1874 x1873.length c1875, iV best1954, (j1953 0), uV, iV (rd x1873 x2461), .agg #[.slice none 0 0, iV 0], pV b9 0, pV b9 0, .slice A2 counts1.length c3, pV b28 (of29 + (0 : Int).toNat * 1), iV (rd counts1 0), .tuple #[], (j137 1), (j137 2), (j137 3), (j137 4), (j137 5), (j137 6), (j137 7), (j137 8), (j137 9), (j137 10), (j137 11), (j137 12), (j137 13), (j137 14), (j137 15), (j137 16), (j137 17), (j137 18), (j137 19), (j137 20), .slice A139 folds138.length c140, .func (.func 30) #[] #[pV b164 0, pV b169 0], .slice A1874 x1873.length c1875, (j1953 1), (j1953 2), (j1953 3), (j1953 4), (j1953 5), (j1953 6), (j1953 7), (j1953 8), (j1953 9), (j1953 10), (j1953 11), (j1953 12), pV b9 0, iV best1954, .tuple #[], .slice A1874 x1873.length c1875, iV (x1873.length : Int), iV x2461, tV, pV b2489 (of2490 + (x2461 : Int).toNat * 1), iV (rd x1873 x2461), iV best1954, fV, (j2460 6), (j2460 7), (j2460 8), iV (rd x1873 x2461), iV best1954, iV (shr (rd x1873 x2461) (min (best1954).toNat 64)), iV (w64 (x2614 + 1)), tV, pV b9 0, .tuple #[], iV (w64 (x2614 + 1)), (j2460 17), (j2460 18), (j2460 19), (j2460 20), (j2460 21), (j2460 22), (j2460 23), uV, uV, uV, uV], []⟩) (by kernel_rfl) ?_
           refine RwpList_nil ?_
           refine hK2607 n2608 _ _ (Nat.lt_succ_self _) ?_
           exact ⟨f2640, A2644, c2645, s2646, (w64 (x2614 + 1)), vt2637, vt2638, (fun i_ => [Value.bool true, Value.pointer (some ⟨b9, 0, none⟩), Value.tuple #[], Value.int .i64 (w64 (x2614 + 1))].getD i_ undef), (L2610.trans L2641), HS2643, HO2647, h, (by kernel_rfl)⟩
         · have c2626 : ¬ (x2614 < (shr (rd x1873 x2461) (min (best1954).toNat 64))) := c2626
           refine RwpRwI 71 (x := (decide (x2614 < (shr (rd x1873 x2461) (min (best1954).toNat 64))))) (v := false) (by kernel_rfl) (decide_eq_false c2626) ?_
           refine RcondF (by kernel_rfl) ?_
           refine Rwp_exit ?_
           refine hx2519 _ _ ?_
           exact J2661 f2609 A2616 c2617 s2618 x2615 x2620 (fun i_ => [Value.int .i64 x2614, Value.bool false, (j2613 1), (j2613 2), (j2613 3)].getD i_ undef) W2611 _ L2610 h HS2612 HO2619 (by kernel_rfl)
     · have c2473 : ¬ (x2461 < (x1873.length : Int)) := c2473
       refine RwpRwI 59 (x := (decide (x2461 < (x1873.length : Int)))) (v := false) (by kernel_rfl) (decide_eq_false c2473) ?_
       refine RcondF (by kernel_rfl) ?_
       refine Rwp_exit ?_
       refine hx1976 _ _ ?_
       exact J2703 f2456 A2463 c2464 s2465 x2462 x2467 (fun i_ => [(j2460 0), Value.int .i64 x2461, Value.bool false, (j2460 2), (j2460 3), (j2460 4), (j2460 5), (j2460 6), (j2460 7), (j2460 8), (j2460 9), (j2460 10), (j2460 11), (j2460 12), (j2460 13), (j2460 14), (j2460 15), (j2460 16), (j2460 17), (j2460 18), (j2460 19), (j2460 20), (j2460 21), (j2460 22), (j2460 23)].getD i_ undef) W2458 _ L2457 h HS2459 HO2466 (by kernel_rfl)
    clear h; have h := hv1955; clear hv1955
    refine RloopK (fun n_ a_ w_ => ∃ (f1909 : FM) (best1914 : Int) (x1915 : Int) (j1913 : Nat → Value), FM.le f1862 f1909 ∧ St t w_ f1909 (s1870 :: [(b9, .cells #[.slice A1868 x1867.length c1869, .int .i64 x1872] 80 (0, 0))] :: [(b13, .cells #[.pointer (some ⟨b9, 0, none⟩)] 78 (0, 0))] :: H) ∧ squeeze_row.l2 k x1873 n_ best1914 x1915 = some o1905 ∧ a_ = ⟨#[.slice A2 counts1.length c3, uV, .slice none 0 0, pV b13 0, .slice A139 folds138.length c140, (j137 0), .slice A1874 x1873.length c1875, iV best1914, (j1913 0), uV, uV, .agg #[.slice none 0 0, iV 0], pV b9 0, pV b9 0, .slice A2 counts1.length c3, pV b28 (of29 + (0 : Int).toNat * 1), iV (rd counts1 0), .tuple #[], (j137 1), (j137 2), (j137 3), (j137 4), (j137 5), (j137 6), (j137 7), (j137 8), (j137 9), (j137 10), (j137 11), (j137 12), (j137 13), (j137 14), (j137 15), (j137 16), (j137 17), (j137 18), (j137 19), (j137 20), .slice A139 folds138.length c140, .func (.func 30) #[] #[pV b164 0, pV b169 0], .slice A1874 x1873.length c1875, iV x1915, (j1913 1), (j1913 2), (j1913 3), (j1913 4), (j1913 5), (j1913 6), (j1913 7), (j1913 8), (j1913 9), (j1913 10), (j1913 11), uV, uV, uV, uV, uV, uV, uV, uV, uV, uV, uV, uV, uV, uV, uV, uV, uV, uV, uV, uV, uV, uV, uV, uV, uV, uV, uV, uV, uV, uV, uV, uV, uV], []⟩) k ⟨f1862, 0, 0, (fun i_ => [undef, undef, undef, undef, undef, undef, undef, undef, undef, undef, undef, undef].getD i_ undef), (FM.le.refl _), HS1885, h, (by kernel_rfl)⟩ ?_
    clear h
    rintro n1908 _ W1911 ⟨f1909, best1914, x1915, j1913, L1910, HS1912, h, rfl⟩ K1906 hK1907
    obtain _ | n1908 := n1908
    · exact nomatch h
    simp only [squeeze_row.l2] at h
    refine Rwp_seq_k (fun K1916 hK1917 => ?_)
    refine Rwp_region_lit (by kernel_rfl) ?_
    refine seqS1 (a' := ⟨#[.slice A2 counts1.length c3, uV, .slice none 0 0, pV b13 0, .slice A139 folds138.length c140, (j137 0), .slice A1874 x1873.length c1875, iV best1914, (j1913 0), uV, uV, .agg #[.slice none 0 0, iV 0], pV b9 0, pV b9 0, .slice A2 counts1.length c3, pV b28 (of29 + (0 : Int).toNat * 1), iV (rd counts1 0), .tuple #[], (j137 1), (j137 2), (j137 3), (j137 4), (j137 5), (j137 6), (j137 7), (j137 8), (j137 9), (j137 10), (j137 11), (j137 12), (j137 13), (j137 14), (j137 15), (j137 16), (j137 17), (j137 18), (j137 19), (j137 20), .slice A139 folds138.length c140, .func (.func 30) #[] #[pV b164 0, pV b169 0], .slice A1874 x1873.length c1875, iV x1915, .bool (decide (x1915 < 16)), (j1913 2), (j1913 3), (j1913 4), (j1913 5), (j1913 6), (j1913 7), (j1913 8), (j1913 9), (j1913 10), (j1913 11), uV, uV, uV, uV, uV, uV, uV, uV, uV, uV, uV, uV, uV, uV, uV, uV, uV, uV, uV, uV, uV, uV, uV, uV, uV, uV, uV, uV, uV, uV, uV, uV, uV], []⟩) (by kernel_rfl) ?_
    refine RwpList_nil ?_
    refine hK1917 _ _ ?_
    refine Rwp_seq_k (fun K1918 hK1919 => ?_)
    have hq_ := ite_some h; clear h; rcases hq_ with ⟨c1921, h⟩ | ⟨c1921, h⟩
    · have c1921 : x1915 < 16 := c1921
      refine RwpRwI 42 (x := (decide (x1915 < 16))) (v := true) (by kernel_rfl) (decide_eq_true c1921) ?_
      refine RcondT (by kernel_rfl) ?_
      refine Rwp_skip ?_
      refine hK1919 _ _ ?_
      refine Rwp_seq_k (fun K1922 hK1923 => ?_)
      refine RblockK (fun B1924 hx1925 hn1926 hr1927 ho1928 hp1929 => ?_)
      refine Rwp_seq_k (fun K1931 hK1932 => ?_)
      refine Rwp_region_lit (by kernel_rfl) ?_
      refine seqS2 (a' := ⟨#[.slice A2 counts1.length c3, uV, .slice none 0 0, pV b13 0, .slice A139 folds138.length c140, (j137 0), .slice A1874 x1873.length c1875, iV best1914, iV x1915, uV, uV, .agg #[.slice none 0 0, iV 0], pV b9 0, pV b9 0, .slice A2 counts1.length c3, pV b28 (of29 + (0 : Int).toNat * 1), iV (rd counts1 0), .tuple #[], (j137 1), (j137 2), (j137 3), (j137 4), (j137 5), (j137 6), (j137 7), (j137 8), (j137 9), (j137 10), (j137 11), (j137 12), (j137 13), (j137 14), (j137 15), (j137 16), (j137 17), (j137 18), (j137 19), (j137 20), .slice A139 folds138.length c140, .func (.func 30) #[] #[pV b164 0, pV b169 0], .slice A1874 x1873.length c1875, iV x1915, tV, iV x1915, (j1913 3), (j1913 4), (j1913 5), (j1913 6), (j1913 7), (j1913 8), (j1913 9), (j1913 10), (j1913 11), uV, uV, uV, uV, uV, uV, uV, uV, uV, uV, uV, uV, uV, uV, uV, uV, uV, uV, uV, uV, uV, uV, uV, uV, uV, uV, uV, uV, uV, uV, uV, uV, uV], []⟩) (by kernel_rfl) ?_
      refine RwpList_nil ?_
      refine hK1932 _ _ ?_
      refine Rwp_seq_k (fun K1933 hK1934 => ?_)
      refine Rwp_region_lit (by kernel_rfl) ?_
      have hq_ := bind_some h; clear h; obtain ⟨vt1935, hc1936, h⟩ := hq_
      refine seqL2 (by kernel_rfl) ?_
      refine seqK rfl (does_call (f := 33) (args := #[.slice A1874 x1873.length c1875, .int .i64 x1915]) (by kernel_rfl) (squeeze_cost.calls k A1874 c1875 x1873 x1915 HS1912 (HR1876.mono L1910) vt1935 hc1936) ?_)
      rintro _ W1939 ⟨f1937, rfl, L1938, HS1940⟩
      refine ⟨_, rfl, ?_⟩
      have hq_ := bind_some h; clear h; obtain ⟨vt1941, hc1942, h⟩ := hq_
      refine seqL2 (by kernel_rfl) ?_
      refine seqK rfl (does_call (f := 33) (args := #[.slice A1874 x1873.length c1875, .int .i64 best1914]) (by kernel_rfl) (squeeze_cost.calls k A1874 c1875 x1873 best1914 HS1940 (HR1876.mono (L1910.trans L1938)) vt1941 hc1942) ?_)
      rintro _ W1945 ⟨f1943, rfl, L1944, HS1946⟩
      refine ⟨_, rfl, ?_⟩
      refine seqS1 (a' := ⟨#[.slice A2 counts1.length c3, uV, .slice none 0 0, pV b13 0, .slice A139 folds138.length c140, (j137 0), .slice A1874 x1873.length c1875, iV best1914, iV x1915, uV, uV, .agg #[.slice none 0 0, iV 0], pV b9 0, pV b9 0, .slice A2 counts1.length c3, pV b28 (of29 + (0 : Int).toNat * 1), iV (rd counts1 0), .tuple #[], (j137 1), (j137 2), (j137 3), (j137 4), (j137 5), (j137 6), (j137 7), (j137 8), (j137 9), (j137 10), (j137 11), (j137 12), (j137 13), (j137 14), (j137 15), (j137 16), (j137 17), (j137 18), (j137 19), (j137 20), .slice A139 folds138.length c140, .func (.func 30) #[] #[pV b164 0, pV b169 0], .slice A1874 x1873.length c1875, iV x1915, tV, iV x1915, .slice A1874 x1873.length c1875, iV x1915, iV vt1935, .slice A1874 x1873.length c1875, iV best1914, iV vt1941, .bool (decide (vt1935 < vt1941)), (j1913 10), (j1913 11), uV, uV, uV, uV, uV, uV, uV, uV, uV, uV, uV, uV, uV, uV, uV, uV, uV, uV, uV, uV, uV, uV, uV, uV, uV, uV, uV, uV, uV, uV, uV, uV, uV], []⟩) (by kernel_rfl) ?_
      refine RwpList_nil ?_
      refine hK1934 _ _ ?_
      have hq_ := ite_some h; clear h; rcases hq_ with ⟨c1948, h⟩ | ⟨c1948, h⟩
      · have c1948 : vt1935 < vt1941 := c1948
        refine RwpRwI 50 (x := (decide (vt1935 < vt1941))) (v := true) (by kernel_rfl) (decide_eq_true c1948) ?_
        refine RcondT (by kernel_rfl) ?_
        refine Rwp_region_lit (by kernel_rfl) ?_
        refine seqS2 (a' := ⟨#[.slice A2 counts1.length c3, uV, .slice none 0 0, pV b13 0, .slice A139 folds138.length c140, (j137 0), .slice A1874 x1873.length c1875, iV x1915, iV x1915, uV, uV, .agg #[.slice none 0 0, iV 0], pV b9 0, pV b9 0, .slice A2 counts1.length c3, pV b28 (of29 + (0 : Int).toNat * 1), iV (rd counts1 0), .tuple #[], (j137 1), (j137 2), (j137 3), (j137 4), (j137 5), (j137 6), (j137 7), (j137 8), (j137 9), (j137 10), (j137 11), (j137 12), (j137 13), (j137 14), (j137 15), (j137 16), (j137 17), (j137 18), (j137 19), (j137 20), .slice A139 folds138.length c140, .func (.func 30) #[] #[pV b164 0, pV b169 0], .slice A1874 x1873.length c1875, iV x1915, tV, iV x1915, .slice A1874 x1873.length c1875, iV x1915, iV vt1935, .slice A1874 x1873.length c1875, iV best1914, iV vt1941, tV, iV x1915, (j1913 11), uV, uV, uV, uV, uV, uV, uV, uV, uV, uV, uV, uV, uV, uV, uV, uV, uV, uV, uV, uV, uV, uV, uV, uV, uV, uV, uV, uV, uV, uV, uV, uV, uV], []⟩) (by kernel_rfl) ?_
        refine RwpList_nil ?_
        refine hn1926 _ _ ?_
        refine hK1923 _ _ ?_
        refine Rwp_region_lit (by kernel_rfl) ?_
        refine seqS2 (a' := ⟨#[.slice A2 counts1.length c3, uV, .slice none 0 0, pV b13 0, .slice A139 folds138.length c140, (j137 0), .slice A1874 x1873.length c1875, iV x1915, iV x1915, uV, uV, .agg #[.slice none 0 0, iV 0], pV b9 0, pV b9 0, .slice A2 counts1.length c3, pV b28 (of29 + (0 : Int).toNat * 1), iV (rd counts1 0), .tuple #[], (j137 1), (j137 2), (j137 3), (j137 4), (j137 5), (j137 6), (j137 7), (j137 8), (j137 9), (j137 10), (j137 11), (j137 12), (j137 13), (j137 14), (j137 15), (j137 16), (j137 17), (j137 18), (j137 19), (j137 20), .slice A139 folds138.length c140, .func (.func 30) #[] #[pV b164 0, pV b169 0], .slice A1874 x1873.length c1875, iV (w64 (x1915 + 1)), tV, iV x1915, .slice A1874 x1873.length c1875, iV x1915, iV vt1935, .slice A1874 x1873.length c1875, iV best1914, iV vt1941, tV, iV x1915, iV (w64 (x1915 + 1)), uV, uV, uV, uV, uV, uV, uV, uV, uV, uV, uV, uV, uV, uV, uV, uV, uV, uV, uV, uV, uV, uV, uV, uV, uV, uV, uV, uV, uV, uV, uV, uV, uV], []⟩) (by kernel_rfl) ?_
        refine RwpList_nil ?_
        refine hK1907 n1908 _ _ (Nat.lt_succ_self _) ?_
        exact ⟨f1943, x1915, (w64 (x1915 + 1)), (fun i_ => [Value.int .i64 x1915, Value.bool true, Value.int .i64 x1915, Value.slice A1874 x1873.length c1875, Value.int .i64 x1915, Value.int .i64 vt1935, Value.slice A1874 x1873.length c1875, Value.int .i64 best1914, Value.int .i64 vt1941, Value.bool true, Value.int .i64 x1915, Value.int .i64 (w64 (x1915 + 1))].getD i_ undef), (L1910.trans (L1938.trans L1944)), HS1946, h, (by kernel_rfl)⟩
      · have c1948 : ¬ (vt1935 < vt1941) := c1948
        refine RwpRwI 50 (x := (decide (vt1935 < vt1941))) (v := false) (by kernel_rfl) (decide_eq_false c1948) ?_
        refine RcondF (by kernel_rfl) ?_
        refine Rwp_skip ?_
        refine hn1926 _ _ ?_
        refine hK1923 _ _ ?_
        refine Rwp_region_lit (by kernel_rfl) ?_
        refine seqS2 (a' := ⟨#[.slice A2 counts1.length c3, uV, .slice none 0 0, pV b13 0, .slice A139 folds138.length c140, (j137 0), .slice A1874 x1873.length c1875, iV best1914, iV x1915, uV, uV, .agg #[.slice none 0 0, iV 0], pV b9 0, pV b9 0, .slice A2 counts1.length c3, pV b28 (of29 + (0 : Int).toNat * 1), iV (rd counts1 0), .tuple #[], (j137 1), (j137 2), (j137 3), (j137 4), (j137 5), (j137 6), (j137 7), (j137 8), (j137 9), (j137 10), (j137 11), (j137 12), (j137 13), (j137 14), (j137 15), (j137 16), (j137 17), (j137 18), (j137 19), (j137 20), .slice A139 folds138.length c140, .func (.func 30) #[] #[pV b164 0, pV b169 0], .slice A1874 x1873.length c1875, iV (w64 (x1915 + 1)), tV, iV x1915, .slice A1874 x1873.length c1875, iV x1915, iV vt1935, .slice A1874 x1873.length c1875, iV best1914, iV vt1941, fV, (j1913 10), iV (w64 (x1915 + 1)), uV, uV, uV, uV, uV, uV, uV, uV, uV, uV, uV, uV, uV, uV, uV, uV, uV, uV, uV, uV, uV, uV, uV, uV, uV, uV, uV, uV, uV, uV, uV, uV, uV], []⟩) (by kernel_rfl) ?_
        refine RwpList_nil ?_
        refine hK1907 n1908 _ _ (Nat.lt_succ_self _) ?_
        exact ⟨f1943, best1914, (w64 (x1915 + 1)), (fun i_ => [Value.int .i64 x1915, Value.bool true, Value.int .i64 x1915, Value.slice A1874 x1873.length c1875, Value.int .i64 x1915, Value.int .i64 vt1935, Value.slice A1874 x1873.length c1875, Value.int .i64 best1914, Value.int .i64 vt1941, Value.bool false, (j1913 10), Value.int .i64 (w64 (x1915 + 1))].getD i_ undef), (L1910.trans (L1938.trans L1944)), HS1946, h, (by kernel_rfl)⟩
    · have c1921 : ¬ (x1915 < 16) := c1921
      refine RwpRwI 42 (x := (decide (x1915 < 16))) (v := false) (by kernel_rfl) (decide_eq_false c1921) ?_
      refine RcondF (by kernel_rfl) ?_
      refine Rwp_exit ?_
      refine hx1900 _ _ ?_
      exact J1956 f1909 best1914 (fun i_ => [(j1913 0), Value.int .i64 x1915, Value.bool false, (j1913 2), (j1913 3), (j1913 4), (j1913 5), (j1913 6), (j1913 7), (j1913 8), (j1913 9), (j1913 10), (j1913 11)].getD i_ undef) W1911 _ L1910 h HS1912 (by kernel_rfl)
  · clear h
    intro D W1864 f1862 Hs_ hk_ HS1865
    obtain ⟨A1868, c1869, s1870, x1867, x1872, rest2_, rfl, L1863, HO1871, hx2_, h⟩ := hk_
    have HS1865 : St t W1864 f1862 (s1870 :: [(b9, .cells #[.slice A1868 x1867.length c1869, .int .i64 x1872] 80 (0, 0))] :: [(b13, .cells #[.pointer (some ⟨b9, 0, none⟩)] 78 (0, 0))] :: [(D, .deferred (some []))] :: H) := HS1865
    obtain rfl : rest2_ = [] := List.append_cancel_left (hx2_.symm.trans (List.append_nil _).symm)
    simp only [squeeze_row.g1] at h
    refine hn173 _ _ ?_
    exact J2717 D f1862 A1868 c1869 s1870 x1867 x1872 W1864 _ L1863 h HS1865 HO1871 (by kernel_rfl)
  · clear h
    intro D c_ pre_ x_ rest_ w9_ g_ Hs_ hc_ hx_ hk_ HS9_
    clear hc_
    rcases hk_ with hk_ | hk_
    · exact hk_.elim
    · exact hk_.elim
 clear h; have h := hv144; clear hv144
 have HS147 := HS42.cons_nil
 refine loopK (fun n_ a_ w_ => ∃ (f64 : FM) (A70 : Option Addr) (c71 : Nat) (s72 : Seg) (folds69 : List Int) (i75 : Int) (j68 : Nat → Value), FM.le f39 f64 ∧ St t w_ f64 (s72 :: s45 :: [(b9, .cells #[.slice A43 vt36.length c44, .int .i64 vt37] 80 (0, 0))] :: [(b13, .cells #[.pointer (some ⟨b9, 0, none⟩)] 78 (0, 0))] :: H) ∧ Own (tInt .i64) 3 f64 A70 c71 s72 folds69 ∧ squeeze_row.l0 k counts1 n_ folds69 i75 = some o60 ∧ a_ = ⟨#[.slice A2 counts1.length c3, uV, .slice none 0 0, pV b13 0, .slice A70 folds69.length c71, iV i75, uV, uV, uV, uV, uV, .agg #[.slice none 0 0, iV 0], pV b9 0, pV b9 0, .slice A2 counts1.length c3, pV b28 (of29 + (0 : Int).toNat * 1), iV (rd counts1 0), .tuple #[], (j68 0), (j68 1), (j68 2), (j68 3), (j68 4), (j68 5), (j68 6), (j68 7), (j68 8), (j68 9), (j68 10), (j68 11), (j68 12), (j68 13), (j68 14), (j68 15), (j68 16), (j68 17), (j68 18), (j68 19), uV, uV, uV, uV, uV, uV, uV, uV, uV, uV, uV, uV, uV, uV, uV, uV, uV, uV, uV, uV, uV, uV, uV, uV, uV, uV, uV, uV, uV, uV, uV, uV, uV, uV, uV, uV, uV, uV, uV, uV, uV, uV, uV, uV, uV, uV, uV, uV], []⟩) k ⟨f39, none, 0, [], ([] : List Int), 1, (fun i_ => [undef, undef, undef, undef, undef, undef, undef, undef, undef, undef, undef, undef, undef, undef, undef, undef, undef, undef, undef, undef].getD i_ undef), (FM.le.refl _), HS147, (Own.nil _), h, (by kernel_rfl)⟩ ?_
 clear h
 rintro n63 _ W66 ⟨f64, A70, c71, s72, folds69, i75, j68, L65, HS67, HO73, h, rfl⟩ K61 hK62
 obtain _ | n63 := n63
 · exact nomatch h
 simp only [squeeze_row.l0] at h
 refine wp_seq_k (fun K76 hK77 => ?_)
 refine wp_seq_k (fun K78 hK79 => ?_)
 refine wp_region_lit ?_
 refine seqS4 (a' := ⟨#[.slice A2 counts1.length c3, uV, .slice none 0 0, pV b13 0, .slice A70 folds69.length c71, iV i75, uV, uV, uV, uV, uV, .agg #[.slice none 0 0, iV 0], pV b9 0, pV b9 0, .slice A2 counts1.length c3, pV b28 (of29 + (0 : Int).toNat * 1), iV (rd counts1 0), .tuple #[], iV i75, .slice A2 counts1.length c3, iV (counts1.length : Int), .bool (decide (i75 < (counts1.length : Int))), (j68 4), (j68 5), (j68 6), (j68 7), (j68 8), (j68 9), (j68 10), (j68 11), (j68 12), (j68 13), (j68 14), (j68 15), (j68 16), (j68 17), (j68 18), (j68 19), uV, uV, uV, uV, uV, uV, uV, uV, uV, uV, uV, uV, uV, uV, uV, uV, uV, uV, uV, uV, uV, uV, uV, uV, uV, uV, uV, uV, uV, uV, uV, uV, uV, uV, uV, uV, uV, uV, uV, uV, uV, uV, uV, uV, uV, uV, uV, uV], []⟩) (by kernel_rfl) ?_
 refine wpList_nil ?_
 refine hK79 _ _ ?_
 have hq_ := ite_some h; clear h; rcases hq_ with ⟨c81, h⟩ | ⟨c81, h⟩
 · have c81 : i75 < (counts1.length : Int) := c81
   refine wpRwI 21 (x := (decide (i75 < (counts1.length : Int)))) (v := true) (by kernel_rfl) (decide_eq_true c81) ?_
   refine condT (by kernel_rfl) ?_
   refine wp_skip ?_
   refine hK77 _ _ ?_
   refine wp_seq_k (fun K82 hK83 => ?_)
   refine blockK (fun B84 hx85 hn86 hr87 ho88 hp89 => ?_)
   have HS91 := HS67.u3
   have HS92 := HS91.u3
   have HS93 := HS92.u3
   have HS94 := HS93.u3
   refine heldG (S := Sg t f64 (s45 :: [(b9, .cells #[.slice A43 vt36.length c44, .int .i64 vt37] 80 (0, 0))] :: [(b13, .cells #[.pointer (some ⟨b9, 0, none⟩)] 78 (0, 0))] :: H) [(13, s72)]) (n := 15) (by kernel_rfl) rfl HS94 ?_
   intro W95 HS96
   have hq_ := guard_some h; clear h; obtain ⟨c97, h⟩ := hq_
   have c97 : 0 ≤ i75 := c97
   obtain ⟨b101, of102, cs98, hA103, hr99, hc100⟩ := (HR4.mono (L40.trans L65)).at (i := i75) c97 c81
   obtain rfl := hr99
   refine takeG [0, 1, 2] (n := 15) (fuel := 12) (l' := #[true, true, true, false, false, false, false, false, false, false, false, false, false, false, false]) (a' := ⟨#[.slice A2 counts1.length c3, uV, .slice none 0 0, pV b13 0, .slice A70 folds69.length c71, iV i75, uV, uV, uV, uV, uV, .agg #[.slice none 0 0, iV 0], pV b9 0, pV b9 0, .slice A2 counts1.length c3, pV b28 (of29 + (0 : Int).toNat * 1), iV (rd counts1 0), .tuple #[], iV i75, .slice A2 counts1.length c3, iV (counts1.length : Int), tV, (j68 4), (j68 5), .slice A70 folds69.length c71, .slice A2 counts1.length c3, iV i75, (j68 9), (j68 10), (j68 11), (j68 12), (j68 13), (j68 14), (j68 15), (j68 16), (j68 17), (j68 18), (j68 19), uV, uV, uV, uV, uV, uV, uV, uV, uV, uV, uV, uV, uV, uV, uV, uV, uV, uV, uV, uV, uV, uV, uV, uV, uV, uV, uV, uV, uV, uV, uV, uV, uV, uV, uV, uV, uV, uV, uV, uV, uV, uV, uV, uV, uV, uV, uV, uV], []⟩) rfl (by kernel_rfl) (by kernel_rfl) (by kernel_rfl) (fun ch_ a_ w_ q_ => (fun ch_ a_ w_ q_ => hnp ch_ a_ w_ (hp59 ch_ a_ w_ q_)) ch_ a_ w_ (hp89 ch_ a_ w_ q_)) (Sg.g1 (Sx.of [s72] (FM.le.refl _) HS96) (fun _ => St.only [] HS96 (FM.le.refl _))) ?_
   refine takeGQ 3 [] rfl (by kernel_rfl) (by kernel_rfl) (by kernel_rfl) (by kernel_rfl) (by kernel_rfl) (by kernel_rfl) (fun ch_ a_ w_ q_ => (fun ch_ a_ w_ q_ => hnp ch_ a_ w_ (hp59 ch_ a_ w_ q_)) ch_ a_ w_ (hp89 ch_ a_ w_ q_)) (Sg.g1 (Sx.of [s72] (FM.le.refl _) HS96) (fun _ => St.only [] HS96 (FM.le.refl _))) (fun w_ hw_ => by obtain ⟨g_, hl_, hS_⟩ := hw_.st; exact run_indexE hA103 (sz := 1) rfl Tryd.underlying27 (by kernel_rfl) (by kernel_rfl : _ = Value.slice A2 counts1.length c3) (by kernel_rfl : _ = Value.int .i64 i75) c97 c81 w_) ?_
   refine takeGQ 4 [] rfl (by kernel_rfl) (by kernel_rfl) (by kernel_rfl) (by kernel_rfl) (by kernel_rfl) (by kernel_rfl) (fun ch_ a_ w_ q_ => (fun ch_ a_ w_ q_ => hnp ch_ a_ w_ (hp59 ch_ a_ w_ q_)) ch_ a_ w_ (hp89 ch_ a_ w_ q_)) (Sg.g1 (Sx.of [s72] (FM.le.refl _) HS96) (fun _ => St.only [] HS96 (FM.le.refl _))) (fun w_ hw_ => by obtain ⟨g_, hl_, hS_⟩ := hw_.st; exact run_load rfl Tryd.underlying3 rfl (by kernel_rfl : _ = Value.pointer (some ⟨b101, of102 + (i75 : Int).toNat * 1, none⟩)) ((hc100 hl_ hS_) 0 (by decide))) ?_
   have hq_ := guard_some h; clear h; obtain ⟨c104, h⟩ := hq_
   have c104 : 0 ≤ (w64 (i75 - 1)) := c104
   have hq_ := guard_some h; clear h; obtain ⟨c105, h⟩ := hq_
   have c105 : (w64 (i75 - 1)) < (counts1.length : Int) := c105
   obtain ⟨b109, of110, cs106, hA111, hr107, hc108⟩ := (HR4.mono (L40.trans L65)).at (i := w64 (i75 - 1)) c104 c105
   obtain rfl := hr107
   refine takeG [5, 6, 7] (n := 10) (fuel := 7) (l' := #[true, true, true, true, true, true, true, true, false, false, false, false, false, false, false]) (a' := ⟨#[.slice A2 counts1.length c3, uV, .slice none 0 0, pV b13 0, .slice A70 folds69.length c71, iV i75, uV, uV, uV, uV, uV, .agg #[.slice none 0 0, iV 0], pV b9 0, pV b9 0, .slice A2 counts1.length c3, pV b28 (of29 + (0 : Int).toNat * 1), iV (rd counts1 0), .tuple #[], iV i75, .slice A2 counts1.length c3, iV (counts1.length : Int), tV, (j68 4), (j68 5), .slice A70 folds69.length c71, .slice A2 counts1.length c3, iV i75, pV b101 (of102 + (i75 : Int).toNat * 1), iV (rd counts1 i75), .slice A2 counts1.length c3, iV i75, iV (w64 (i75 - 1)), (j68 14), (j68 15), (j68 16), (j68 17), (j68 18), (j68 19), uV, uV, uV, uV, uV, uV, uV, uV, uV, uV, uV, uV, uV, uV, uV, uV, uV, uV, uV, uV, uV, uV, uV, uV, uV, uV, uV, uV, uV, uV, uV, uV, uV, uV, uV, uV, uV, uV, uV, uV, uV, uV, uV, uV, uV, uV, uV, uV], []⟩) rfl (by kernel_rfl) (by kernel_rfl) (by kernel_rfl) (fun ch_ a_ w_ q_ => (fun ch_ a_ w_ q_ => hnp ch_ a_ w_ (hp59 ch_ a_ w_ q_)) ch_ a_ w_ (hp89 ch_ a_ w_ q_)) (Sg.g1 (Sx.of [s72] (FM.le.refl _) HS96) (fun _ => St.only [] HS96 (FM.le.refl _))) ?_
   refine takeGQ 8 [] rfl (by kernel_rfl) (by kernel_rfl) (by kernel_rfl) (by kernel_rfl) (by kernel_rfl) (by kernel_rfl) (fun ch_ a_ w_ q_ => (fun ch_ a_ w_ q_ => hnp ch_ a_ w_ (hp59 ch_ a_ w_ q_)) ch_ a_ w_ (hp89 ch_ a_ w_ q_)) (Sg.g1 (Sx.of [s72] (FM.le.refl _) HS96) (fun _ => St.only [] HS96 (FM.le.refl _))) (fun w_ hw_ => by obtain ⟨g_, hl_, hS_⟩ := hw_.st; exact run_indexE hA111 (sz := 1) rfl Tryd.underlying27 (by kernel_rfl) (by kernel_rfl : _ = Value.slice A2 counts1.length c3) (by kernel_rfl : _ = Value.int .i64 (w64 (i75 - 1))) c104 c105 w_) ?_
   refine takeGQ 9 [] rfl (by kernel_rfl) (by kernel_rfl) (by kernel_rfl) (by kernel_rfl) (by kernel_rfl) (by kernel_rfl) (fun ch_ a_ w_ q_ => (fun ch_ a_ w_ q_ => hnp ch_ a_ w_ (hp59 ch_ a_ w_ q_)) ch_ a_ w_ (hp89 ch_ a_ w_ q_)) (Sg.g1 (Sx.of [s72] (FM.le.refl _) HS96) (fun _ => St.only [] HS96 (FM.le.refl _))) (fun w_ hw_ => by obtain ⟨g_, hl_, hS_⟩ := hw_.st; exact run_load rfl Tryd.underlying3 rfl (by kernel_rfl : _ = Value.pointer (some ⟨b109, of110 + (w64 (i75 - 1) : Int).toNat * 1, none⟩)) ((hc108 hl_ hS_) 0 (by decide))) ?_
   refine takeG [10] (n := 5) (fuel := 4) (l' := #[true, true, true, true, true, true, true, true, true, true, true, false, false, false, false]) (a' := ⟨#[.slice A2 counts1.length c3, uV, .slice none 0 0, pV b13 0, .slice A70 folds69.length c71, iV i75, uV, uV, uV, uV, uV, .agg #[.slice none 0 0, iV 0], pV b9 0, pV b9 0, .slice A2 counts1.length c3, pV b28 (of29 + (0 : Int).toNat * 1), iV (rd counts1 0), .tuple #[], iV i75, .slice A2 counts1.length c3, iV (counts1.length : Int), tV, (j68 4), (j68 5), .slice A70 folds69.length c71, .slice A2 counts1.length c3, iV i75, pV b101 (of102 + (i75 : Int).toNat * 1), iV (rd counts1 i75), .slice A2 counts1.length c3, iV i75, iV (w64 (i75 - 1)), pV b109 (of110 + (w64 (i75 - 1) : Int).toNat * 1), iV (rd counts1 (w64 (i75 - 1))), iV (w64 ((rd counts1 i75) - (rd counts1 (w64 (i75 - 1))))), (j68 17), (j68 18), (j68 19), uV, uV, uV, uV, uV, uV, uV, uV, uV, uV, uV, uV, uV, uV, uV, uV, uV, uV, uV, uV, uV, uV, uV, uV, uV, uV, uV, uV, uV, uV, uV, uV, uV, uV, uV, uV, uV, uV, uV, uV, uV, uV, uV, uV, uV, uV, uV, uV], []⟩) rfl (by kernel_rfl) (by kernel_rfl) (by kernel_rfl) (fun ch_ a_ w_ q_ => (fun ch_ a_ w_ q_ => hnp ch_ a_ w_ (hp59 ch_ a_ w_ q_)) ch_ a_ w_ (hp89 ch_ a_ w_ q_)) (Sg.g1 (Sx.of [s72] (FM.le.refl _) HS96) (fun _ => St.only [] HS96 (FM.le.refl _))) ?_
   have hq_ := bind_some h; clear h; obtain ⟨vt112, hc113, h⟩ := hq_
   refine takeGE 11 (by kernel_rfl) rfl (by kernel_rfl) (does_call (f := 32) (args := #[.int .i64 (w64 ((rd counts1 i75) - (rd counts1 (w64 (i75 - 1)))))]) (by kernel_rfl) (squeeze_fold.calls k (w64 ((rd counts1 i75) - (rd counts1 (w64 (i75 - 1))))) HS96 vt112 hc113) ?_)
   rintro _ W116 ⟨f114, rfl, L115, HS117⟩
   refine ⟨_, rfl, ?_⟩
   refine ⟨(Sg.g1 (Sx.of [s72] L115 HS117) (fun _ => St.only [] HS117 L115)), ?_⟩
   refine takeGE 12 (by kernel_rfl) rfl (by kernel_rfl) (does_lit (e := (tInt .i64)) (E := 3) (vs := #[(0, Value.int .i64 vt112)]) (cs := #[.int .i64 vt112]) (xs := ([vt112] : List Int)) rfl Tryd.underlying27 (by kernel_rfl) (by kernel_rfl) ⟨[.int .i64 vt112], _, rfl, rfl, rfl⟩ rfl HS117 ?_ (by decide))
   intro b118 W119 s120 HS121 _ HO122
   refine ⟨(Sg.g1 (Sx.of [s120, s72] L115 HS121) (fun _ => St.only [s120] HS121 L115)), ?_⟩
   have hq_ := guard_some h; clear h; obtain ⟨c124, h⟩ := hq_
   have c124 : (folds69.length + 1) * 8 ≤ 140737488355328 := c124
   have HS125 := HS121.u1
   have HS126 := HS125.u1
   refine takeGE 13 (by kernel_rfl) rfl (by kernel_rfl) (does_append1 (e := (tInt .i64)) (E := 3) (xs := folds69) (ys := ([vt112] : List Int)) rfl (by kernel_rfl : _ = Value.slice A70 folds69.length c71) (by kernel_rfl : _ = Value.slice (some ⟨b118, 0, none⟩) ([vt112] : List Int).length 1) Tryd.underlying27 inf3 (HO73.mono L115) HO122 HS126 c124 (lim63 c124 (by decide)) ?_)
   intro A127 c128 s129 W130 HS131 HO132
   refine ⟨(Sg.g1 (Sx.of [s129] L115 HS131) (fun hl_ => Bool.noConfusion (show true = false from hl_))), ?_⟩
   refine takeG [14] (n := 1) (fuel := 0) (l' := #[true, true, true, true, true, true, true, true, true, true, true, true, true, true, true]) (a' := ⟨#[.slice A2 counts1.length c3, uV, .slice none 0 0, pV b13 0, .slice A127 (folds69 ++ ([vt112] : List Int)).length c128, iV i75, uV, uV, uV, uV, uV, .agg #[.slice none 0 0, iV 0], pV b9 0, pV b9 0, .slice A2 counts1.length c3, pV b28 (of29 + (0 : Int).toNat * 1), iV (rd counts1 0), .tuple #[], iV i75, .slice A2 counts1.length c3, iV (counts1.length : Int), tV, (j68 4), (j68 5), .slice A70 folds69.length c71, .slice A2 counts1.length c3, iV i75, pV b101 (of102 + (i75 : Int).toNat * 1), iV (rd counts1 i75), .slice A2 counts1.length c3, iV i75, iV (w64 (i75 - 1)), pV b109 (of110 + (w64 (i75 - 1) : Int).toNat * 1), iV (rd counts1 (w64 (i75 - 1))), iV (w64 ((rd counts1 i75) - (rd counts1 (w64 (i75 - 1))))), iV vt112, .slice (some ⟨b118, 0, none⟩) ([vt112] : List Int).length 1, .slice A127 (folds69 ++ ([vt112] : List Int)).length c128, uV, uV, uV, uV, uV, uV, uV, uV, uV, uV, uV, uV, uV, uV, uV, uV, uV, uV, uV, uV, uV, uV, uV, uV, uV, uV, uV, uV, uV, uV, uV, uV, uV, uV, uV, uV, uV, uV, uV, uV, uV, uV, uV, uV, uV, uV, uV, uV], []⟩) rfl (by kernel_rfl) (by kernel_rfl) (by kernel_rfl) (fun ch_ a_ w_ q_ => (fun ch_ a_ w_ q_ => hnp ch_ a_ w_ (hp59 ch_ a_ w_ q_)) ch_ a_ w_ (hp89 ch_ a_ w_ q_)) (Sg.g1 (Sx.of [s129] L115 HS131) (fun hl_ => Bool.noConfusion (show true = false from hl_))) ?_
   refine doneG (by kernel_rfl) ?_ _
   refine hn86 _ _ ?_
   refine hK83 _ _ ?_
   refine wp_region_lit ?_
   refine seqS3 (a' := ⟨#[.slice A2 counts1.length c3, uV, .slice none 0 0, pV b13 0, .slice A127 (folds69 ++ ([vt112] : List Int)).length c128, iV (w64 (i75 + 1)), uV, uV, uV, uV, uV, .agg #[.slice none 0 0, iV 0], pV b9 0, pV b9 0, .slice A2 counts1.length c3, pV b28 (of29 + (0 : Int).toNat * 1), iV (rd counts1 0), .tuple #[], iV i75, .slice A2 counts1.length c3, iV (counts1.length : Int), tV, iV i75, iV (w64 (i75 + 1)), .slice A70 folds69.length c71, .slice A2 counts1.length c3, iV i75, pV b101 (of102 + (i75 : Int).toNat * 1), iV (rd counts1 i75), .slice A2 counts1.length c3, iV i75, iV (w64 (i75 - 1)), pV b109 (of110 + (w64 (i75 - 1) : Int).toNat * 1), iV (rd counts1 (w64 (i75 - 1))), iV (w64 ((rd counts1 i75) - (rd counts1 (w64 (i75 - 1))))), iV vt112, .slice (some ⟨b118, 0, none⟩) ([vt112] : List Int).length 1, .slice A127 (folds69 ++ ([vt112] : List Int)).length c128, uV, uV, uV, uV, uV, uV, uV, uV, uV, uV, uV, uV, uV, uV, uV, uV, uV, uV, uV, uV, uV, uV, uV, uV, uV, uV, uV, uV, uV, uV, uV, uV, uV, uV, uV, uV, uV, uV, uV, uV, uV, uV, uV, uV, uV, uV, uV, uV], []⟩) (by kernel_rfl) ?_
   refine wpList_nil ?_
   refine hK62 n63 _ _ (Nat.lt_succ_self _) ?_
   exact ⟨f114, A127, c128, s129, (folds69 ++ ([vt112] : List Int)), (w64 (i75 + 1)), (fun i_ => [Value.int .i64 i75, Value.slice A2 counts1.length c3, Value.int .i64 (counts1.length : Int), Value.bool true, Value.int .i64 i75, Value.int .i64 (w64 (i75 + 1)), Value.slice A70 folds69.length c71, Value.slice A2 counts1.length c3, Value.int .i64 i75, Value.pointer (some ⟨b101, of102 + (i75 : Int).toNat * 1, none⟩), Value.int .i64 (rd counts1 i75), Value.slice A2 counts1.length c3, Value.int .i64 i75, Value.int .i64 (w64 (i75 - 1)), Value.pointer (some ⟨b109, of110 + (w64 (i75 - 1) : Int).toNat * 1, none⟩), Value.int .i64 (rd counts1 (w64 (i75 - 1))), Value.int .i64 (w64 ((rd counts1 i75) - (rd counts1 (w64 (i75 - 1))))), Value.int .i64 vt112, Value.slice (some ⟨b118, 0, none⟩) ([vt112] : List Int).length 1, Value.slice A127 (folds69 ++ ([vt112] : List Int)).length c128].getD i_ undef), (L65.trans L115), HS131, HO132, h, (by kernel_rfl)⟩
 · have c81 : ¬ (i75 < (counts1.length : Int)) := c81
   refine wpRwI 21 (x := (decide (i75 < (counts1.length : Int)))) (v := false) (by kernel_rfl) (decide_eq_false c81) ?_
   refine condF (by kernel_rfl) ?_
   refine wp_exit ?_
   refine hx55 _ _ ?_
   exact J145 f64 A70 c71 s72 folds69 (fun i_ => [Value.int .i64 i75, Value.int .i64 i75, Value.slice A2 counts1.length c3, Value.int .i64 (counts1.length : Int), Value.bool false, (j68 4), (j68 5), (j68 6), (j68 7), (j68 8), (j68 9), (j68 10), (j68 11), (j68 12), (j68 13), (j68 14), (j68 15), (j68 16), (j68 17), (j68 18), (j68 19)].getD i_ undef) W66 _ L65 h HS67 HO73 (by kernel_rfl)

set_option maxRecDepth 100000 in
set_option maxHeartbeats 4000000 in
theorem squeeze_Pack.calls (k : Nat) (A4 : Option Addr) (c5 : Nat) (vw1 : Int) (vh2 : Int) (counts3 : List Int) {t w : World} {f : FM} {H : List Seg} (HS : St t w f (H)) (HR6 : SlR (tInt .i64) f A4 c5 counts3) (rr1 : List Int) (rr2 : Int) (h : squeeze_Pack k vw1 vh2 counts3 = some (rr1, rr2)) :
    Calls Tryd.prog 7 #[.int .i64 vw1, .int .i64 vh2, .slice A4 counts3.length c5] w (fun e w' => ∃ (g : FM) (A293 : Option Addr) (c294 : Nat) (s295 : Seg), e = .returned (Value.tuple #[.slice A293 rr1.length c294, .int .i64 rr2]) ∧ FM.le f g ∧ St t w' g (s295 :: H) ∧ Own (tInt .u8) 5 g A293 c294 s295 rr1) := by
 unfold squeeze_Pack at h
 refine enterM Tryd.func7 rfl (tm := #[iV vw1, iV vh2, .slice A4 counts3.length c5, uV, uV, uV, uV, uV, uV, uV, uV, uV, uV, uV, uV, uV, uV, uV, uV, uV, uV, uV, uV, uV, uV, uV, uV, uV, uV, uV, uV, uV, uV, uV, uV, uV, uV, uV, uV, uV, uV, uV, uV, uV]) (by kernel_rfl) ?_
 intro B hret hnor hnp
 refine wp_seq_k (fun K7 hK8 => ?_)
 refine wp_region_lit ?_
 refine seqS2 (a' := ⟨#[iV vw1, iV vh2, .slice A4 counts3.length c5, uV, uV, uV, .slice none 0 0, iV 0, uV, uV, uV, uV, uV, uV, uV, uV, uV, uV, uV, uV, uV, uV, uV, uV, uV, uV, uV, uV, uV, uV, uV, uV, uV, uV, uV, uV, uV, uV, uV, uV, uV, uV, uV, uV], []⟩) (by kernel_rfl) ?_
 refine wpList_nil ?_
 refine hK8 _ _ ?_
 refine wp_seq_k (fun K9 hK10 => ?_)
 refine wp_seq_k (fun K11 hK12 => ?_)
 refine wp_region_lit ?_
 have hq_ := bind_some h; clear h; obtain ⟨vt13, hc14, h⟩ := hq_
 refine seqL4 (by kernel_rfl) ?_
 refine seqK rfl (does_call (f := 15) (args := #[.agg #[.int .i64 vw1, .int .i64 vh2, .slice none 0 0, .slice A4 counts3.length c5]]) (by kernel_rfl) (frame_Check.calls k A4 c5 (⟨vw1, vh2, ([] : List S_Card), counts3⟩ : S_Frame) HS HR6 vt13 hc14) ?_)
 rintro _ W17 ⟨f15, rfl, L16, HS18⟩
 refine ⟨_, rfl, ?_⟩
 refine seqS1 (a' := ⟨#[iV vw1, iV vh2, .slice A4 counts3.length c5, uV, uV, uV, .slice none 0 0, iV 0, iV vt13, uV, uV, uV, iV vw1, iV vh2, .slice A4 counts3.length c5, .agg #[iV vw1, iV vh2, .slice none 0 0, .slice A4 counts3.length c5], iV vt13, uV, uV, uV, uV, uV, uV, uV, uV, uV, uV, uV, uV, uV, uV, uV, uV, uV, uV, uV, uV, uV, uV, uV, uV, uV, uV, uV], []⟩) (by kernel_rfl) ?_
 refine wpList_nil ?_
 refine hK12 _ _ ?_
 refine wp_seq_k (fun K19 hK20 => ?_)
 refine wp_region_lit ?_
 refine seqS2 (a' := ⟨#[iV vw1, iV vh2, .slice A4 counts3.length c5, uV, uV, uV, .slice none 0 0, iV 0, iV vt13, uV, uV, uV, iV vw1, iV vh2, .slice A4 counts3.length c5, .agg #[iV vw1, iV vh2, .slice none 0 0, .slice A4 counts3.length c5], iV vt13, iV vt13, .bool (vt13 != 0), uV, uV, uV, uV, uV, uV, uV, uV, uV, uV, uV, uV, uV, uV, uV, uV, uV, uV, uV, uV, uV, uV, uV, uV, uV], []⟩) (by kernel_rfl) ?_
 refine wpList_nil ?_
 refine hK20 _ _ ?_
 have hq_ := ite_some h; clear h; rcases hq_ with ⟨c22, h⟩ | ⟨c22, h⟩
 · have c22 : vt13 ≠ 0 := c22
   refine wpRwI 18 (x := (vt13 != 0)) (v := true) (by kernel_rfl) (bne_iff_ne.mpr c22) ?_
   refine condT (by kernel_rfl) ?_
   refine wp_seq_k (fun K23 hK24 => ?_)
   refine wp_region_lit ?_
   refine seqS3 (a' := ⟨#[iV vw1, iV vh2, .slice A4 counts3.length c5, uV, uV, uV, .slice none 0 0, iV vt13, iV vt13, uV, uV, uV, iV vw1, iV vh2, .slice A4 counts3.length c5, .agg #[iV vw1, iV vh2, .slice none 0 0, .slice A4 counts3.length c5], iV vt13, iV vt13, tV, iV vt13, uV, uV, uV, uV, uV, uV, uV, uV, uV, uV, uV, uV, uV, uV, uV, uV, uV, uV, uV, uV, uV, uV, uV, uV], []⟩) (by kernel_rfl) ?_
   refine wpList_nil ?_
   refine hK24 _ _ ?_
   refine wp_ret ?_
   refine hret _ _ ?_
   have HS287 := HS18.cons_nil
   refine endsM_still (v := Value.tuple #[.slice none 0 0, .int .i64 vt13]) (by kernel_rfl) (by kernel_rfl) ?_
   injection h with h
   injection h with h0_ h
   subst h0_ h
   exact ⟨f15, none, 0, [], rfl, L16, HS287, (Own.nil _)⟩
 · have c22 : ¬ (vt13 ≠ 0) := c22
   refine wpRwI 18 (x := (vt13 != 0)) (v := false) (by kernel_rfl) (bne_eq_false_iff_eq.mpr (Decidable.of_not_not c22)) ?_
   refine condF (by kernel_rfl) ?_
   refine wp_skip ?_
   refine hK10 _ _ ?_
   refine wp_seq_k (fun K25 hK26 => ?_)
   refine wp_region_lit ?_
   refine seqL4 (by kernel_rfl) ?_
   refine seqK rfl (does_lit (e := (tInt .u8)) (E := 5) (vs := #[(0, Value.int .u8 (u8 (vw1))), (1, Value.int .u8 (u8 (vh2)))]) (cs := #[.int .u8 (u8 (vw1)), .int .u8 (u8 (vh2))]) (xs := ([u8 (vw1), u8 (vh2)] : List Int)) rfl Tryd.underlying23 (by kernel_rfl) (by kernel_rfl) ⟨[.int .u8 (u8 (vw1))], _, rfl, rfl, ⟨[.int .u8 (u8 (vh2))], _, rfl, rfl, rfl⟩⟩ rfl HS18 ?_ (by decide))
   intro b27 W28 s29 HS30 _ HO31
   refine seqK rfl (does_alloc (z := Value.slice none 0 0) (cs := #[.slice none 0 0]) rfl (by kernel_rfl) rfl HS30 ?_)
   intro b33 W34 HS35
   refine seqK rfl (does_store (n := 1) (vs := [.slice (some ⟨b27, 0, none⟩) ([u8 (vw1), u8 (vh2)] : List Int).length 2]) (cs' := #[.slice (some ⟨b27, 0, none⟩) ([u8 (vw1), u8 (vh2)] : List Int).length 2]) rfl (by kernel_rfl) (by kernel_rfl : _ = Value.pointer (some ⟨b33, 0, none⟩)) (by kernel_rfl : _ = Value.slice (some ⟨b27, 0, none⟩) ([u8 (vw1), u8 (vh2)] : List Int).length 2) rfl rfl (by intro u_ hu_; simp only [List.mem_cons, List.not_mem_nil, or_false] at hu_; subst hu_; rfl) HS35 (Nat.le_of_ble_eq_true rfl) (by kernel_rfl) ?_)
   intro W37 HS38
   refine wpList_nil ?_
   refine hK26 _ _ ?_
   refine wp_seq_k (fun K39 hK40 => ?_)
   refine wp_seq_k (fun K41 hK42 => ?_)
   refine wp_region_lit ?_
   have hq_ := bind_some h; clear h; obtain ⟨⟨vt43, vt44⟩, hc45, h⟩ := hq_
   refine seqL2 (by kernel_rfl) ?_
   refine seqK rfl (does_call (f := 16) (args := #[.slice A4 counts3.length c5, .int .i64 vw1]) (by kernel_rfl) (slices_Chunk_int.calls k A4 c5 counts3 vw1 HS38 (HR6.mono L16) vt43 vt44 hc45) ?_)
   rintro _ W48 ⟨f46, b50, A51, c52, b55, rfl, L47, HS49, HF54, HR53, HF56⟩
   refine ⟨_, rfl, ?_⟩
   refine wpList_nil ?_
   refine hK42 _ _ ?_
   refine blockK (fun B57 hx58 hn59 hr60 ho61 hp62 => ?_)
   have hq_ := bind_some h; clear h; obtain ⟨xs63, hc64, h⟩ := hq_
   have hit65 := slices_Chunk_int_1.iter k b50 A51 c52 b55 vt43 vt44 (f := f46) HR53 HF54 HF56 xs63 hc64
   have hq_ := bind_some h; clear h; obtain ⟨o200, hv270, h⟩ := hq_
   have J281 : ∀ (D : Nat) (f271 : FM) (A277 : Option Addr) (c278 : Nat) (s279 : Seg) (x276 : List Int) (j275 : Nat → Value) (W273 : World) (a_ : Act), FM.le f46 f271 → some (x276) = some o200 → St t W273 f271 ([(b33, .cells #[.slice A277 x276.length c278] 23 (0, 0))] :: s279 :: [(D, .deferred (some []))] :: H) → Own (tInt .u8) 5 f271 A277 c278 s279 x276 → a_ = ⟨#[iV vw1, iV vh2, .slice A4 counts3.length c5, uV, uV, uV, .slice none 0 0, iV 0, iV vt13, pV b33 0, uV, uV, iV vw1, iV vh2, .slice A4 counts3.length c5, .agg #[iV vw1, iV vh2, .slice none 0 0, .slice A4 counts3.length c5], iV vt13, iV vt13, fV, uV, iV vw1, .int .u8 (u8 (vw1)), iV vh2, .int .u8 (u8 (vh2)), (j275 0), .slice A4 counts3.length c5, iV vw1, .func (.func 30) #[] #[pV b50 0, pV b55 0], uV, uV, uV, uV, uV, uV, uV, uV, uV, uV, uV, uV, uV, uV, uV, uV], [mark D]⟩ → K39 a_ W273 := by
    intro D f271 A277 c278 s279 x276 j275 W273 a_ L272 hj283 HS274 HO280 hfr_; subst hfr_
    injection hj283 with hj283; subst hj283; try dsimp only at h
    refine hK40 _ _ ?_
    refine wp_seq_k (fun K285 hK286 => ?_)
    refine wp_region_lit ?_
    refine seqK rfl (does_run (run_load rfl Tryd.underlying23 rfl (by kernel_rfl : _ = Value.pointer (some ⟨b33, 0, none⟩)) (HS274.cell 0)) ?_)
    refine seqS2 (a' := ⟨#[iV vw1, iV vh2, .slice A4 counts3.length c5, uV, uV, uV, .slice A277 x276.length c278, iV 0, iV vt13, pV b33 0, uV, uV, iV vw1, iV vh2, .slice A4 counts3.length c5, .agg #[iV vw1, iV vh2, .slice none 0 0, .slice A4 counts3.length c5], iV vt13, iV vt13, fV, uV, iV vw1, .int .u8 (u8 (vw1)), iV vh2, .int .u8 (u8 (vh2)), (j275 0), .slice A4 counts3.length c5, iV vw1, .func (.func 30) #[] #[pV b50 0, pV b55 0], uV, uV, uV, uV, uV, uV, uV, uV, uV, uV, uV, uV, uV, uV, uV, .slice A277 x276.length c278], [mark D]⟩) (by kernel_rfl) ?_
    refine wpList_nil ?_
    refine hK286 _ _ ?_
    refine wp_ret ?_
    refine hret _ _ ?_
    have HS289 := HS274.u2
    refine marked HS289 (by kernel_rfl) ?_
    intro W290 HS291
    refine endsM_still (v := Value.tuple #[.slice A277 x276.length c278, .int .i64 0]) (by kernel_rfl) (by kernel_rfl) ?_
    have HS292 := HS291.drop
    injection h with h
    injection h with h0_ h
    subst h0_ h
    exact ⟨f271, A277, c278, s279, rfl, (L16.trans (L47.trans L272)), HS292, HO280⟩
   clear h; have h := hv270; clear hv270
   refine rangeK (gf := 30) (lb := #[Value.pointer (some ⟨b50, 0, none⟩), Value.pointer (some ⟨b55, 0, none⟩)]) (Hs0 := [[(b33, .cells #[.slice (some ⟨b27, 0, none⟩) ([u8 (vw1), u8 (vh2)] : List Int).length 2] 23 (0, 0))], s29]) (by kernel_rfl) (fun a_ w_ => still_run (still_call Tryd.func30 rfl rfl a_) w_) hit65 (by rintro _ _ _ ⟨_, _, rfl, _⟩; rfl) (FM.le.refl _) (fun pre_ f201 Hs_ => ∃ (A207 : Option Addr) (c208 : Nat) (s209 : Seg) (x206 : List Int) (rest_ : List _), Hs_ = [[(b33, .cells #[.slice A207 x206.length c208] 23 (0, 0))], s209] ∧ FM.le f46 f201 ∧ Own (tInt .u8) 5 f201 A207 c208 s209 x206 ∧ xs63 = pre_ ++ rest_ ∧ squeeze_Pack.g0 k rest_ x206 = some o200) (fun c_ pre_ g_ Hs_ => (False) ∨ (False)) HS49 ⟨(some ⟨b27, 0, none⟩), 2, s29, ([u8 (vw1), u8 (vh2)] : List Int), xs63, rfl, (FM.le.refl _), (HO31.mono L47), rfl, h⟩ (by rintro pre_ g_ g2_ Hs_ ⟨A207, c208, s209, x206, rest_, rfl, hl_, HO210, hx_, h_⟩ hgg_; exact ⟨A207, c208, s209, x206, rest_, rfl, hl_.trans hgg_, (HO210.mono hgg_), hx_, h_⟩) ?_ ?_ ?_ ?_
   · rintro c_ pre_ g_ g2_ Hs_ (hf_ | hf_) hgg_
     · exact hf_.elim
     · exact hf_.elim
   · clear h
     intro l_ H pre_ x_ rest_ vs_ W203 f201 Hs_ hx_ hv_ hk_ HS204 A_ hA220 hnA221
     obtain ⟨A207, c208, s209, x206, rest2_, rfl, L202, HO210, hx2_, h⟩ := hk_
     have HS204 : St t W203 f201 ([(b33, .cells #[.slice A207 x206.length c208] 23 (0, 0))] :: s209 :: H) := HS204
     obtain rfl : rest2_ = x_ :: rest_ := List.append_cancel_left (hx2_.symm.trans hx_)
     obtain ⟨x211, rfl⟩ : ∃ y_, y_ = x_ := ⟨_, rfl⟩
     obtain ⟨A212, c213, hv_, HR214⟩ := hv_
     have hv_ : vs_ = #[Value.slice A212 x211.length c213] := hv_; subst hv_
     simp only [squeeze_Pack.g0] at h
     refine RwpRwA (a' := ⟨#[iV vw1, iV vh2, .slice A4 counts3.length c5, uV, uV, uV, .slice none 0 0, iV 0, iV vt13, pV b33 0, uV, uV, iV vw1, iV vh2, .slice A4 counts3.length c5, .agg #[iV vw1, iV vh2, .slice none 0 0, .slice A4 counts3.length c5], iV vt13, iV vt13, fV, uV, iV vw1, .int .u8 (u8 (vw1)), iV vh2, .int .u8 (u8 (vh2)), .slice (some ⟨b27, 0, none⟩) ([u8 (vw1), u8 (vh2)] : List Int).length 2, .slice A4 counts3.length c5, iV vw1, .func (.func 30) #[] #[pV b50 0, pV b55 0], .slice A212 x211.length c213, uV, uV, uV, uV, uV, uV, uV, uV, uV, uV, uV, uV, uV, uV, uV], []⟩) (by kernel_rfl) ?_
     refine Rwp_region_lit (by kernel_rfl) ?_
     refine seqS1 (a' := ⟨#[iV vw1, iV vh2, .slice A4 counts3.length c5, uV, uV, uV, .slice none 0 0, iV 0, iV vt13, pV b33 0, .slice A212 x211.length c213, uV, iV vw1, iV vh2, .slice A4 counts3.length c5, .agg #[iV vw1, iV vh2, .slice none 0 0, .slice A4 counts3.length c5], iV vt13, iV vt13, fV, uV, iV vw1, .int .u8 (u8 (vw1)), iV vh2, .int .u8 (u8 (vh2)), .slice (some ⟨b27, 0, none⟩) ([u8 (vw1), u8 (vh2)] : List Int).length 2, .slice A4 counts3.length c5, iV vw1, .func (.func 30) #[] #[pV b50 0, pV b55 0], .slice A212 x211.length c213, uV, uV, uV, uV, uV, uV, uV, uV, uV, uV, uV, uV, uV, uV, uV], []⟩) (by kernel_rfl) ?_
     refine RwpList_nil ?_
     refine hA220 _ _ _ [[(b33, .cells #[.slice A207 x206.length c208] 23 (0, 0))], s209] (FM.le.refl _) HS204 ?_
     intro H W222 HS223 B215 hag216 hrt217 hbk218 hnp219
     have HS223 : St t W222 f201 ([(b33, .cells #[.slice A207 x206.length c208] 23 (0, 0))] :: s209 :: H) := HS223
     refine RblockK (fun B224 hx225 hn226 hr227 ho228 hp229 => ?_)
     refine Rwp_seq_k (fun K231 hK232 => ?_)
     refine Rwp_region_lit (by kernel_rfl) ?_
     have hq_ := bind_some h; clear h; obtain ⟨vt233, hc234, h⟩ := hq_
     refine seqL1 (by kernel_rfl) ?_
     refine seqK rfl (does_call (f := 17) (args := #[.slice A212 x211.length c213]) (by kernel_rfl) (squeeze_row.calls k A212 c213 x211 HS223 HR214 vt233 hc234) ?_)
     rintro _ W237 ⟨f235, A239, c240, s241, rfl, L236, HS238, HO242⟩
     refine ⟨_, rfl, ?_⟩
     refine seqS1 (a' := ⟨#[iV vw1, iV vh2, .slice A4 counts3.length c5, uV, uV, uV, .slice none 0 0, iV 0, iV vt13, pV b33 0, .slice A212 x211.length c213, .slice A239 vt233.length c240, iV vw1, iV vh2, .slice A4 counts3.length c5, .agg #[iV vw1, iV vh2, .slice none 0 0, .slice A4 counts3.length c5], iV vt13, iV vt13, fV, uV, iV vw1, .int .u8 (u8 (vw1)), iV vh2, .int .u8 (u8 (vh2)), .slice (some ⟨b27, 0, none⟩) ([u8 (vw1), u8 (vh2)] : List Int).length 2, .slice A4 counts3.length c5, iV vw1, .func (.func 30) #[] #[pV b50 0, pV b55 0], .slice A212 x211.length c213, .slice A212 x211.length c213, .slice A239 vt233.length c240, uV, uV, uV, uV, uV, uV, uV, uV, uV, uV, uV, uV, uV], []⟩) (by kernel_rfl) ?_
     refine RwpList_nil ?_
     refine hK232 _ _ ?_
     refine Rwp_region_lit (by kernel_rfl) ?_
     refine seqK rfl (does_run (run_load rfl Tryd.underlying23 rfl (by kernel_rfl : _ = Value.pointer (some ⟨b33, 0, none⟩)) (HS238.u1.cell 0)) ?_)
     refine seqL7 (by kernel_rfl) ?_
     refine seqK rfl (does_lit (e := (tInt .u8)) (E := 5) (vs := #[(0, Value.int .u8 (u8 (shr (vt233.length : Int) 8))), (1, Value.int .u8 (u8 ((vt233.length : Int))))]) (cs := #[.int .u8 (u8 (shr (vt233.length : Int) 8)), .int .u8 (u8 ((vt233.length : Int)))]) (xs := ([u8 (shr (vt233.length : Int) 8), u8 ((vt233.length : Int))] : List Int)) rfl Tryd.underlying23 (by kernel_rfl) (by kernel_rfl) ⟨[.int .u8 (u8 (shr (vt233.length : Int) 8))], _, rfl, rfl, ⟨[.int .u8 (u8 ((vt233.length : Int)))], _, rfl, rfl, rfl⟩⟩ rfl HS238 ?_ (by decide))
     intro b244 W245 s246 HS247 _ HO248
     have hq_ := guard_some h; clear h; obtain ⟨c250, h⟩ := hq_
     have c250 : (x206.length + 2) * 1 ≤ 140737488355328 := c250
     have HS251 := HS247.u3
     have HS252 := HS251.u1
     refine seqK rfl (does_append1 (e := (tInt .u8)) (E := 5) (xs := x206) (ys := ([u8 (shr (vt233.length : Int) 8), u8 ((vt233.length : Int))] : List Int)) rfl (by kernel_rfl : _ = Value.slice A207 x206.length c208) (by kernel_rfl : _ = Value.slice (some ⟨b244, 0, none⟩) ([u8 (shr (vt233.length : Int) 8), u8 ((vt233.length : Int))] : List Int).length 2) Tryd.underlying23 inf5 (HO210.mono L236) HO248 HS252 c250 (lim63 c250 (by decide)) ?_)
     intro A253 c254 s255 W256 HS257 HO258
     have hq_ := guard_some h; clear h; obtain ⟨c259, h⟩ := hq_
     have c259 : ((x206 ++ ([u8 (shr (vt233.length : Int) 8), u8 ((vt233.length : Int))] : List Int)).length + vt233.length) * 1 ≤ 140737488355328 := c259
     have HS260 := HS257.u1
     refine seqL1 (by kernel_rfl) ?_
     refine seqK rfl (does_append1 (e := (tInt .u8)) (E := 5) (xs := (x206 ++ ([u8 (shr (vt233.length : Int) 8), u8 ((vt233.length : Int))] : List Int))) (ys := vt233) rfl (by kernel_rfl : _ = Value.slice A253 (x206 ++ ([u8 (shr (vt233.length : Int) 8), u8 ((vt233.length : Int))] : List Int)).length c254) (by kernel_rfl : _ = Value.slice A239 vt233.length c240) Tryd.underlying23 inf5 HO258 HO242 HS260 c259 (lim63 c259 (by decide)) ?_)
     intro A261 c262 s263 W264 HS265 HO266
     have HS267 := HS265.u1
     refine seqK rfl (does_store (n := 1) (vs := [.slice A261 ((x206 ++ ([u8 (shr (vt233.length : Int) 8), u8 ((vt233.length : Int))] : List Int)) ++ vt233).length c262]) (cs' := #[.slice A261 ((x206 ++ ([u8 (shr (vt233.length : Int) 8), u8 ((vt233.length : Int))] : List Int)) ++ vt233).length c262]) rfl (by kernel_rfl) (by kernel_rfl : _ = Value.pointer (some ⟨b33, 0, none⟩)) (by kernel_rfl : _ = Value.slice A261 ((x206 ++ ([u8 (shr (vt233.length : Int) 8), u8 ((vt233.length : Int))] : List Int)) ++ vt233).length c262) rfl rfl (by intro u_ hu_; simp only [List.mem_cons, List.not_mem_nil, or_false] at hu_; subst hu_; rfl) HS267 (Nat.le_of_ble_eq_true rfl) (by kernel_rfl) ?_)
     intro W268 HS269
     refine RwpList_nil ?_
     refine hn226 _ _ ?_
     exact hag216 _ _ f235 [[(b33, .cells #[.slice A261 ((x206 ++ ([u8 (shr (vt233.length : Int) 8), u8 ((vt233.length : Int))] : List Int)) ++ vt233).length c262] 23 (0, 0))], s263] L236 ⟨A261, c262, s263, ((x206 ++ ([u8 (shr (vt233.length : Int) 8), u8 ((vt233.length : Int))] : List Int)) ++ vt233), rest_, rfl, (L202.trans L236), HO266, hx_.trans (List.append_cons _ _ _), h⟩ HS269
   · clear h
     intro D W203 f201 Hs_ hk_ HS204
     obtain ⟨A207, c208, s209, x206, rest2_, rfl, L202, HO210, hx2_, h⟩ := hk_
     have HS204 : St t W203 f201 ([(b33, .cells #[.slice A207 x206.length c208] 23 (0, 0))] :: s209 :: [(D, .deferred (some []))] :: H) := HS204
     obtain rfl : rest2_ = [] := List.append_cancel_left (hx2_.symm.trans (List.append_nil _).symm)
     simp only [squeeze_Pack.g0] at h
     refine hn59 _ _ ?_
     exact J281 D f201 A207 c208 s209 x206 (fun i_ => [Value.slice (some ⟨b27, 0, none⟩) ([u8 (vw1), u8 (vh2)] : List Int).length 2].getD i_ undef) W203 _ L202 h HS204 HO210 (by kernel_rfl)
   · clear h
     intro D c_ pre_ x_ rest_ w9_ g_ Hs_ hc_ hx_ hk_ HS9_
     clear hc_
     rcases hk_ with hk_ | hk_
     · exact hk_.elim
     · exact hk_.elim

end Go.Sp.B1
