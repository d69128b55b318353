import Derived.Test.YtfphahhebijhjaaDoorProg
import Derived.Test.YtfphahhebijhjaaDoorSpCopy
import Derived.Test.YtfphahhebijhjaaDoorFB1
import Derived.Test.YtfphahhebijhjaaDoorSpStr
import Derived.Test.YtfphahhebijhjaaDoorConv
import Derived.Test.YtfphahhebijhjaaDoorSpRound
import Derived.Test.YtfphahhebijhjaaDoorKB1n0
import Derived.Test.YtfphahhebijhjaaDoorKB1n1
import Derived.Test.YtfphahhebijhjaaDoorKB1n2
namespace Go.Sp.B1
open Go Go.Sp Go.Proofs
set_option linter.unusedVariables false
attribute [local irreducible] wpList AnyL Code.wp Calls Does Code.wpIn wpListIn CallsIn bodyPostM LeavesInM
set_option maxRecDepth 100000 in
set_option maxHeartbeats 4000000 in
theorem slices_Chunk_int.calls (k : Nat) (A2 : Option Addr) (c3 : Nat) (s1 : List Int) (n5 : Int) {t w : World} {f : FM} {H : List Seg} (HS : St t w f (H)) (HR4 : SlR (tInt .i64) f A2 c3 s1) (rr1 : List Int) (rr2 : Int) (h : slices_Chunk_int k s1 n5 = some (rr1, rr2)) :
    Calls Tryd.prog 16 #[.slice A2 s1.length c3, .int .i64 n5] w (fun e w' => ∃ (g : FM) (b33 : Nat) (A34 : Option Addr) (c35 : Nat) (b36 : Nat), e = .returned (Value.func (.func 30) #[] #[.pointer (some ⟨b33, 0, none⟩), .pointer (some ⟨b36, 0, none⟩)]) ∧ FM.le f g ∧ St t w' g (H) ∧ g b33 = some (.cells #[.slice A34 rr1.length c35] 27 (0, 0)) ∧ SlR (tInt .i64) g A34 c35 rr1 ∧ g b36 = some (.cells #[.int .i64 rr2] 3 (0, 0))) := by
 unfold slices_Chunk_int at h
 refine enter Tryd.func16 rfl (tm := #[.slice A2 s1.length c3, iV n5, uV, uV, uV, uV, uV, uV, uV]) (by kernel_rfl) ?_
 intro B hret hnor hnp
 refine wp_seq_k (fun K6 hK7 => ?_)
 refine wp_region_lit ?_
 refine seqK rfl (does_box (cs := #[.slice A2 s1.length c3]) rfl (by kernel_rfl : _ = Value.slice A2 s1.length c3) rfl HS ?_)
 intro b8 W9 HS10
 refine seqK rfl (does_box (cs := #[.int .i64 n5]) rfl (by kernel_rfl : _ = Value.int .i64 n5) rfl HS10 ?_)
 intro b12 W13 HS14
 refine seqS1 (a' := ⟨#[.slice A2 s1.length c3, iV n5, pV b8 0, pV b12 0, .nilFunc, uV, uV, uV, uV], []⟩) (by kernel_rfl) ?_
 refine wpList_nil ?_
 refine hK7 _ _ ?_
 refine wp_seq_k (fun K16 hK17 => ?_)
 refine wp_seq_k (fun K18 hK19 => ?_)
 refine wp_region_lit ?_
 refine seqK rfl (does_run (run_load rfl Tryd.underlying3 rfl (by kernel_rfl : _ = Value.pointer (some ⟨b12, 0, none⟩)) (HS14.cell 0)) ?_)
 refine seqS1 (a' := ⟨#[.slice A2 s1.length c3, iV n5, pV b8 0, pV b12 0, .nilFunc, iV n5, .bool (decide (n5 < 1)), uV, uV], []⟩) (by kernel_rfl) ?_
 refine wpList_nil ?_
 refine hK19 _ _ ?_
 have hq_ := ite_some h; clear h; rcases hq_ with ⟨c21, h⟩ | ⟨c21, h⟩
 · have c21 : n5 < 1 := c21
   refine wpRwI 6 (x := (decide (n5 < 1))) (v := true) (by kernel_rfl) (decide_eq_true c21) ?_
   refine condT (by kernel_rfl) ?_
   exact nomatch h
 · have c21 : ¬ (n5 < 1) := c21
   refine wpRwI 6 (x := (decide (n5 < 1))) (v := false) (by kernel_rfl) (decide_eq_false c21) ?_
   refine condF (by kernel_rfl) ?_
   refine wp_skip ?_
   refine hK17 _ _ ?_
   refine wp_seq_k (fun K22 hK23 => ?_)
   refine wp_region_lit ?_
   refine seqS2 (a' := ⟨#[.slice A2 s1.length c3, iV n5, pV b8 0, pV b12 0, .func (.func 30) #[] #[pV b8 0, pV b12 0], iV n5, fV, uV, .func (.func 30) #[] #[pV b8 0, pV b12 0]], []⟩) (by kernel_rfl) ?_
   refine wpList_nil ?_
   refine hK23 _ _ ?_
   refine wp_ret ?_
   refine hret _ _ ?_
   have HS24 := HS14.u1
   obtain ⟨f25, L26, HS27, HF28⟩ := HS24.freezeB
   obtain ⟨f29, L30, HS31, HF32⟩ := HS27.freezeB
   refine ends_still (v := Value.func (.func 30) #[] #[.pointer (some ⟨b8, 0, none⟩), .pointer (some ⟨b12, 0, none⟩)]) (by kernel_rfl) (by kernel_rfl) ?_
   injection h with h
   injection h with h0_ h
   subst h0_ h
   exact ⟨f29, b8, A2, c3, b12, rfl, (L26.trans L30), HS31, (L30 _ _ HF28), (HR4.mono (L26.trans L30)), HF32⟩

set_option maxRecDepth 100000 in
set_option maxHeartbeats 4000000 in
theorem slices_Chunk_int_1.iter (k : Nat) (b1 : Nat) (A3 : Option Addr) (c4 : Nat) (b7 : Nat) (x2 : List Int) (x8 : Int) {f : FM} (HR5 : SlR (tInt .i64) f A3 c4 x2) (HF6 : f b1 = some (.cells #[.slice A3 x2.length c4] 27 (0, 0))) (HF9 : f b7 = some (.cells #[.int .i64 x8] 3 (0, 0))) (xs : List (List Int)) (h : slices_Chunk_int_1 k x2 x8 = some xs) :
    Iter Tryd.prog 30 #[Value.pointer (some ⟨b1, 0, none⟩), Value.pointer (some ⟨b7, 0, none⟩)] (fun (g_ : FM) (x_ : (List Int)) vs_ => ∃ (A_0 : Option Addr) (c_0 : Nat), vs_ = #[Value.slice A_0 x_.length c_0] ∧ SlR (tInt .i64) g_ A_0 c_0 x_) xs f := by
 unfold slices_Chunk_int_1 at h
 obtain ⟨v_, hX, hv_⟩ : ∃ v_, xs = [] ++ v_ ∧ xs = v_ := ⟨xs, rfl, rfl⟩
 rw [hv_] at h
 intro l t w g0 H KJ KX hl0 hKJ HS hmJ hmX hY
 refine enterI Tryd.func30 rfl (tm := #[.func (.yield l) #[] #[], pV b1 0, pV b7 0, uV, uV, uV, uV, uV, uV, uV, uV, uV, uV, uV, uV, uV, uV, uV, uV, uV, uV, uV, uV, uV, uV, uV, uV, uV, uV, uV, uV]) (by kernel_rfl) ?_
 intro B hret hnor hnp
 refine Rwp_seq_k (fun K10 hK11 => ?_)
 refine Rwp_region_lit (by kernel_rfl) ?_
 refine seqS1 (a' := ⟨#[.func (.yield l) #[] #[], pV b1 0, pV b7 0, uV, iV 0, uV, uV, uV, uV, uV, uV, uV, uV, uV, uV, uV, uV, uV, uV, uV, uV, uV, uV, uV, uV, uV, uV, uV, uV, uV, uV], []⟩) (by kernel_rfl) ?_
 refine RwpList_nil ?_
 refine hK11 _ _ ?_
 refine RblockK (fun B12 hx13 hn14 hr15 ho16 hp17 => ?_)
 refine RloopK (fun n_ a_ w_ => ∃ (f22 : FM) (i27 : Int) (j26 : Nat → Value) (H : List Seg) (pre_ v_ : List _), FM.le g0 f22 ∧ St t w_ f22 (H) ∧ slices_Chunk_int_1.l0 k x2 x8 n_ i27 = some v_ ∧ xs = pre_ ++ v_ ∧ KJ pre_ f22 H ∧ a_ = ⟨#[.func (.yield l) #[] #[], pV b1 0, pV b7 0, uV, iV i27, (j26 0), (j26 1), (j26 2), (j26 3), (j26 4), (j26 5), (j26 6), (j26 7), (j26 8), (j26 9), (j26 10), (j26 11), (j26 12), (j26 13), (j26 14), (j26 15), (j26 16), (j26 17), (j26 18), (j26 19), (j26 20), (j26 21), (j26 22), (j26 23), (j26 24), (j26 25)], []⟩) k ⟨g0, 0, (fun i_ => [undef, undef, undef, undef, undef, undef, undef, undef, undef, undef, undef, undef, undef, undef, undef, undef, undef, undef, undef, undef, undef, undef, undef, undef, undef, undef].getD i_ undef), H, [], v_, (FM.le.refl _), HS, h, hX, hKJ, (by kernel_rfl)⟩ ?_
 clear h
 rintro n21 _ W24 ⟨f22, i27, j26, H, pre28, v29, L23, HS25, h, hX30, hK31, rfl⟩ K19 hK20
 obtain _ | n21 := n21
 · exact nomatch h
 simp only [slices_Chunk_int_1.l0] at h
 refine Rwp_seq_k (fun K32 hK33 => ?_)
 refine Rwp_seq_k (fun K34 hK35 => ?_)
 refine Rwp_region_lit (by kernel_rfl) ?_
 refine seqL1 (by kernel_rfl) ?_
 refine seqK rfl (does_run (run_load rfl Tryd.underlying27 rfl (by kernel_rfl : _ = Value.pointer (some ⟨b1, 0, none⟩)) (HS25.fcell HF6 (hl0.trans L23) 0)) ?_)
 refine seqS2 (a' := ⟨#[.func (.yield l) #[] #[], pV b1 0, pV b7 0, uV, iV i27, (j26 0), iV i27, .slice A3 x2.length c4, iV (x2.length : Int), .bool (decide (i27 < (x2.length : Int))), (j26 5), (j26 6), (j26 7), (j26 8), (j26 9), (j26 10), (j26 11), (j26 12), (j26 13), (j26 14), (j26 15), (j26 16), (j26 17), (j26 18), (j26 19), (j26 20), (j26 21), (j26 22), (j26 23), (j26 24), (j26 25)], []⟩) (by kernel_rfl) ?_
 refine RwpList_nil ?_
 refine hK35 _ _ ?_
 have hq_ := ite_some h; clear h; rcases hq_ with ⟨c37, h⟩ | ⟨c37, h⟩
 · have c37 : i27 < (x2.length : Int) := c37
   refine RwpRwI 9 (x := (decide (i27 < (x2.length : Int)))) (v := true) (by kernel_rfl) (decide_eq_true c37) ?_
   refine RcondT (by kernel_rfl) ?_
   refine Rwp_skip ?_
   refine hK33 _ _ ?_
   refine Rwp_seq_k (fun K38 hK39 => ?_)
   refine RblockK (fun B40 hx41 hn42 hr43 ho44 hp45 => ?_)
   refine Rwp_seq_k (fun K47 hK48 => ?_)
   refine RheldG (by kernel_rfl) (S := Sg t f22 (H) []) (n := 7) (by kernel_rfl) rfl HS25 ?_
   intro W49 HS50
   refine takeGQ 0 [] rfl (by kernel_rfl) (by kernel_rfl) (by kernel_rfl) (by kernel_rfl) (by kernel_rfl) (by kernel_rfl) (fun ch_ a_ w_ q_ => (fun ch_ a_ w_ q_ => hnp ch_ a_ w_ (hp17 ch_ a_ w_ q_)) ch_ a_ w_ (hp45 ch_ a_ w_ q_)) (Sg.g0 (Sx.of [] (FM.le.refl _) HS50)) (fun w_ hw_ => by obtain ⟨g_, hl_, hS_⟩ := hw_.st; exact run_load rfl Tryd.underlying3 rfl (by kernel_rfl : _ = Value.pointer (some ⟨b7, 0, none⟩)) (hS_.fcell HF9 ((hl0.trans L23).trans hl_) 0)) ?_
   refine takeGQ 1 [] rfl (by kernel_rfl) (by kernel_rfl) (by kernel_rfl) (by kernel_rfl) (by kernel_rfl) (by kernel_rfl) (fun ch_ a_ w_ q_ => (fun ch_ a_ w_ q_ => hnp ch_ a_ w_ (hp17 ch_ a_ w_ q_)) ch_ a_ w_ (hp45 ch_ a_ w_ q_)) (Sg.g0 (Sx.of [] (FM.le.refl _) HS50)) (fun w_ hw_ => by obtain ⟨g_, hl_, hS_⟩ := hw_.st; exact run_load rfl Tryd.underlying27 rfl (by kernel_rfl : _ = Value.pointer (some ⟨b1, 0, none⟩)) (hS_.fcell HF6 ((hl0.trans L23).trans hl_) 0)) ?_
   have hq_ := guard_some h; clear h; obtain ⟨c51, h⟩ := hq_
   have c51 : 0 ≤ i27 := c51
   have hq_ := guard_some h; clear h; obtain ⟨c52, h⟩ := hq_
   have c52 : i27 ≤ (x2.length : Int) := c52
   refine takeG [2] (n := 5) (fuel := 4) (l' := #[true, true, true, false, false, false, false]) (a' := ⟨#[.func (.yield l) #[] #[], pV b1 0, pV b7 0, uV, iV i27, (j26 0), iV i27, .slice A3 x2.length c4, iV (x2.length : Int), tV, (j26 5), (j26 6), (j26 7), iV x8, .slice A3 x2.length c4, iV i27, (j26 11), (j26 12), (j26 13), (j26 14), (j26 15), (j26 16), (j26 17), (j26 18), (j26 19), (j26 20), (j26 21), (j26 22), (j26 23), (j26 24), (j26 25)], []⟩) rfl (by kernel_rfl) (by kernel_rfl) (by kernel_rfl) (fun ch_ a_ w_ q_ => (fun ch_ a_ w_ q_ => hnp ch_ a_ w_ (hp17 ch_ a_ w_ q_)) ch_ a_ w_ (hp45 ch_ a_ w_ q_)) (Sg.g0 (Sx.of [] (FM.le.refl _) HS50)) ?_
   refine takeGE 3 (by kernel_rfl) rfl (by kernel_rfl) (does_cutL (e := (tInt .i64)) (xs := x2) rfl Tryd.underlying27 (by kernel_rfl) (by kernel_rfl : _ = Value.slice A3 x2.length c4) (by kernel_rfl : _ = Value.int .i64 i27) c51 c52 (HR5.mono (hl0.trans L23)) ?_)
   intro A53 c54 HR55
   refine ⟨(Sg.g0 (Sx.of [] (FM.le.refl _) HS50)), ?_⟩
   refine takeG [4, 5, 6] (n := 3) (fuel := 0) (l' := #[true, true, true, true, true, true, true]) (a' := ⟨#[.func (.yield l) #[] #[], pV b1 0, pV b7 0, uV, iV i27, iV (mn x8 ((x2.drop (i27).toNat).length : Int)), iV i27, .slice A3 x2.length c4, iV (x2.length : Int), tV, (j26 5), (j26 6), (j26 7), iV x8, .slice A3 x2.length c4, iV i27, .slice A53 (x2.drop (i27).toNat).length c54, iV ((x2.drop (i27).toNat).length : Int), iV (mn x8 ((x2.drop (i27).toNat).length : Int)), (j26 14), (j26 15), (j26 16), (j26 17), (j26 18), (j26 19), (j26 20), (j26 21), (j26 22), (j26 23), (j26 24), (j26 25)], []⟩) rfl (by kernel_rfl) (by kernel_rfl) (by kernel_rfl) (fun ch_ a_ w_ q_ => (fun ch_ a_ w_ q_ => hnp ch_ a_ w_ (hp17 ch_ a_ w_ q_)) ch_ a_ w_ (hp45 ch_ a_ w_ q_)) (Sg.g0 (Sx.of [] (FM.le.refl _) HS50)) ?_
   refine RdoneG (by kernel_rfl) ?_ _
   refine hK48 _ _ ?_
   refine Rwp_seq_k (fun K56 hK57 => ?_)
   refine RregionY 10 (by kernel_rfl) ?_
   refine seqL1 (by kernel_rfl) ?_
   refine seqK rfl (does_run (run_load rfl Tryd.underlying27 rfl (by kernel_rfl : _ = Value.pointer (some ⟨b1, 0, none⟩)) (HS50.fcell HF6 (hl0.trans L23) 0)) ?_)
   have hq_ := guard_some h; clear h; obtain ⟨c58, h⟩ := hq_
   have c58 : i27 ≤ (w64 (i27 + (mn x8 ((x2.drop (i27).toNat).length : Int)))) := c58
   have hq_ := guard_some h; clear h; obtain ⟨c59, h⟩ := hq_
   have c59 : (w64 (i27 + (mn x8 ((x2.drop (i27).toNat).length : Int)))) ≤ (x2.length : Int) := c59
   refine seqL7 (by kernel_rfl) ?_
   refine seqK rfl (does_cutLHM (e := (tInt .i64)) (xs := x2) rfl Tryd.underlying27 (by kernel_rfl) (by kernel_rfl : _ = Value.slice A3 x2.length c4) (by kernel_rfl : _ = Value.int .i64 i27) (by kernel_rfl : _ = Value.int .i64 (w64 (i27 + (mn x8 ((x2.drop (i27).toNat).length : Int))))) (by kernel_rfl : _ = Value.int .i64 (w64 (i27 + (mn x8 ((x2.drop (i27).toNat).length : Int))))) c51 c58 c59 (HR5.mono (hl0.trans L23)) ?_)
   intro A60 c61 HR62
   have hq_ := bind_some h; clear h; obtain ⟨z63, h, hz_⟩ := hq_; injection hz_ with hz_; have hX64 := hX30.trans (congrArg (fun y_ => pre28 ++ y_) hz_.symm)
   have hy65 := hY pre28 ((x2.take (w64 (i27 + (mn x8 ((x2.drop (i27).toNat).length : Int)))).toNat).drop (i27).toNat) z63 #[Value.slice A60 ((x2.take (w64 (i27 + (mn x8 ((x2.drop (i27).toNat).length : Int)))).toNat).drop (i27).toNat).length c61] W49 f22 [] H hX64 ⟨A60, c61, rfl, HR62⟩ hK31 HS50
   refine listN ?_
   refine yieldK (l := l) (vs := #[Value.slice A60 ((x2.take (w64 (i27 + (mn x8 ((x2.drop (i27).toNat).length : Int)))).toNat).drop (i27).toNat).length c61]) (by kernel_rfl) (by kernel_rfl) (by kernel_rfl) hy65 ?_
   rintro _ W66 ⟨f67, H, L68, HS69, (⟨rfl, hK70⟩ | ⟨rfl, hK70⟩)⟩
   · refine ⟨_, rfl, ?_⟩
     refine listR (by kernel_rfl) ?_
     have hX71 := hX64.trans (List.append_cons pre28 ((x2.take (w64 (i27 + (mn x8 ((x2.drop (i27).toNat).length : Int)))).toNat).drop (i27).toNat) z63)
     refine seqS1 (a' := ⟨#[.func (.yield l) #[] #[], pV b1 0, pV b7 0, uV, iV i27, iV (mn x8 ((x2.drop (i27).toNat).length : Int)), iV i27, .slice A3 x2.length c4, iV (x2.length : Int), tV, (j26 5), (j26 6), (j26 7), iV x8, .slice A3 x2.length c4, iV i27, .slice A53 (x2.drop (i27).toNat).length c54, iV ((x2.drop (i27).toNat).length : Int), iV (mn x8 ((x2.drop (i27).toNat).length : Int)), .func (.yield l) #[] #[], .slice A3 x2.length c4, iV i27, iV i27, iV (mn x8 ((x2.drop (i27).toNat).length : Int)), iV (w64 (i27 + (mn x8 ((x2.drop (i27).toNat).length : Int)))), iV i27, iV (mn x8 ((x2.drop (i27).toNat).length : Int)), iV (w64 (i27 + (mn x8 ((x2.drop (i27).toNat).length : Int)))), .slice A60 ((x2.take (w64 (i27 + (mn x8 ((x2.drop (i27).toNat).length : Int)))).toNat).drop (i27).toNat).length c61, tV, fV], []⟩) (by kernel_rfl) ?_
     refine RwpList_nil ?_
     refine hK57 _ _ ?_
     refine RcondF (by kernel_rfl) ?_
     refine Rwp_skip ?_
     refine hn42 _ _ ?_
     refine hK39 _ _ ?_
     refine Rwp_region_lit (by kernel_rfl) ?_
     refine seqL1 (by kernel_rfl) ?_
     refine seqK rfl (does_run (run_load rfl Tryd.underlying3 rfl (by kernel_rfl : _ = Value.pointer (some ⟨b7, 0, none⟩)) (HS69.fcell HF9 (hl0.trans (L23.trans L68)) 0)) ?_)
     refine seqS2 (a' := ⟨#[.func (.yield l) #[] #[], pV b1 0, pV b7 0, uV, iV (w64 (i27 + x8)), iV (mn x8 ((x2.drop (i27).toNat).length : Int)), iV i27, .slice A3 x2.length c4, iV (x2.length : Int), tV, iV i27, iV x8, iV (w64 (i27 + x8)), iV x8, .slice A3 x2.length c4, iV i27, .slice A53 (x2.drop (i27).toNat).length c54, iV ((x2.drop (i27).toNat).length : Int), iV (mn x8 ((x2.drop (i27).toNat).length : Int)), .func (.yield l) #[] #[], .slice A3 x2.length c4, iV i27, iV i27, iV (mn x8 ((x2.drop (i27).toNat).length : Int)), iV (w64 (i27 + (mn x8 ((x2.drop (i27).toNat).length : Int)))), iV i27, iV (mn x8 ((x2.drop (i27).toNat).length : Int)), iV (w64 (i27 + (mn x8 ((x2.drop (i27).toNat).length : Int)))), .slice A60 ((x2.take (w64 (i27 + (mn x8 ((x2.drop (i27).toNat).length : Int)))).toNat).drop (i27).toNat).length c61, tV, fV], []⟩) (by kernel_rfl) ?_
     refine RwpList_nil ?_
     refine hK20 n21 _ _ (Nat.lt_succ_self _) ?_
     exact ⟨f67, (w64 (i27 + x8)), (fun i_ => [Value.int .i64 (mn x8 ((x2.drop (i27).toNat).length : Int)), Value.int .i64 i27, Value.slice A3 x2.length c4, Value.int .i64 (x2.length : Int), Value.bool true, Value.int .i64 i27, Value.int .i64 x8, Value.int .i64 (w64 (i27 + x8)), Value.int .i64 x8, Value.slice A3 x2.length c4, Value.int .i64 i27, Value.slice A53 (x2.drop (i27).toNat).length c54, Value.int .i64 ((x2.drop (i27).toNat).length : Int), Value.int .i64 (mn x8 ((x2.drop (i27).toNat).length : Int)), Value.func (.yield l) #[] #[], Value.slice A3 x2.length c4, Value.int .i64 i27, Value.int .i64 i27, Value.int .i64 (mn x8 ((x2.drop (i27).toNat).length : Int)), Value.int .i64 (w64 (i27 + (mn x8 ((x2.drop (i27).toNat).length : Int)))), Value.int .i64 i27, Value.int .i64 (mn x8 ((x2.drop (i27).toNat).length : Int)), Value.int .i64 (w64 (i27 + (mn x8 ((x2.drop (i27).toNat).length : Int)))), Value.slice A60 ((x2.take (w64 (i27 + (mn x8 ((x2.drop (i27).toNat).length : Int)))).toNat).drop (i27).toNat).length c61, Value.bool true, Value.bool false].getD i_ undef), H, (pre28 ++ [((x2.take (w64 (i27 + (mn x8 ((x2.drop (i27).toNat).length : Int)))).toNat).drop (i27).toNat)]), z63, (L23.trans L68), HS69, h, hX71, hK70, (by kernel_rfl)⟩
   · refine ⟨_, rfl, ?_⟩
     refine listR (by kernel_rfl) ?_
     refine seqS1 (a' := ⟨#[.func (.yield l) #[] #[], pV b1 0, pV b7 0, uV, iV i27, iV (mn x8 ((x2.drop (i27).toNat).length : Int)), iV i27, .slice A3 x2.length c4, iV (x2.length : Int), tV, (j26 5), (j26 6), (j26 7), iV x8, .slice A3 x2.length c4, iV i27, .slice A53 (x2.drop (i27).toNat).length c54, iV ((x2.drop (i27).toNat).length : Int), iV (mn x8 ((x2.drop (i27).toNat).length : Int)), .func (.yield l) #[] #[], .slice A3 x2.length c4, iV i27, iV i27, iV (mn x8 ((x2.drop (i27).toNat).length : Int)), iV (w64 (i27 + (mn x8 ((x2.drop (i27).toNat).length : Int)))), iV i27, iV (mn x8 ((x2.drop (i27).toNat).length : Int)), iV (w64 (i27 + (mn x8 ((x2.drop (i27).toNat).length : Int)))), .slice A60 ((x2.take (w64 (i27 + (mn x8 ((x2.drop (i27).toNat).length : Int)))).toNat).drop (i27).toNat).length c61, fV, tV], []⟩) (by kernel_rfl) ?_
     refine RwpList_nil ?_
     refine hK57 _ _ ?_
     refine RcondT (by kernel_rfl) ?_
     refine Rwp_ret ?_
     refine hr43 _ _ ?_
     refine hr15 _ _ ?_
     refine hret _ _ ?_
     refine ends_still (v := Value.tuple #[]) (by kernel_rfl) (by kernel_rfl) ?_
     exact ⟨_, f67, H, rfl, (L23.trans L68), HS69, .inr ⟨pre28, ((x2.take (w64 (i27 + (mn x8 ((x2.drop (i27).toNat).length : Int)))).toNat).drop (i27).toNat), z63, hX64, hK70⟩⟩
 · have c37 : ¬ (i27 < (x2.length : Int)) := c37
   refine RwpRwI 9 (x := (decide (i27 < (x2.length : Int)))) (v := false) (by kernel_rfl) (decide_eq_false c37) ?_
   refine RcondF (by kernel_rfl) ?_
   refine Rwp_exit ?_
   refine hx13 _ _ ?_
   refine hnor _ _ ?_
   refine ends_still (v := Value.tuple #[]) (by kernel_rfl) (by kernel_rfl) ?_
   injection h with h
   have hx9_ := hX30
   rw [← h, List.append_nil] at hx9_
   exact ⟨_, f22, H, rfl, L23, HS25, .inl (by rw [hx9_]; exact hK31)⟩

set_option maxRecDepth 100000 in
set_option maxHeartbeats 4000000 in
theorem squeeze_writer_put.calls (k : Nat) (b1 : Nat) (A4 : Option Addr) (c5 : Nat) (s6 : Seg) (vw3 : S_writer) (v9 : Int) (n10 : Int) {t w : World} {f : FM} {H : List Seg} (HS : St t w f ([(b1, .cells #[.slice A4 vw3.out.length c5, .int .i64 vw3.used] 80 (0, 0))] :: s6 :: H)) (HO7 : Own (tInt .u8) 5 f A4 c5 s6 vw3.out) (rr1 : List Int) (rr2 : Int) (h : squeeze_writer_put k vw3 v9 n10 = some (rr1, rr2)) :
    Calls Tryd.prog 31 #[.pointer (some ⟨b1, 0, none⟩), .int .i64 v9, .int .i64 n10] w (fun e w' => ∃ (g : FM) (A342 : Option Addr) (c343 : Nat) (s344 : Seg), e = .returned (Value.tuple #[]) ∧ FM.le f g ∧ St t w' g (s344 :: [(b1, .cells #[.slice A342 rr1.length c343, .int .i64 rr2] 80 (0, 0))] :: H) ∧ Own (tInt .u8) 5 g A342 c343 s344 rr1) := by
 unfold squeeze_writer_put at h
 refine enter Tryd.func31 rfl (tm := #[pV b1 0, iV v9, iV n10, uV, uV, uV, uV, uV, uV, uV, uV, uV, uV, uV, uV, uV, uV, uV, uV, uV, uV, uV, uV, uV, uV, uV, uV, uV, uV, uV, uV, uV, uV, uV, uV, uV, uV, uV, uV, uV, uV, uV, uV, uV, uV, uV, uV, uV, uV, uV, uV, uV, uV, uV, uV, uV, uV, uV, uV, uV]) (by kernel_rfl) ?_
 intro B hret hnor hnp
 refine wp_seq_k (fun K11 hK12 => ?_)
 refine wp_region_lit ?_
 refine seqS3 (a' := ⟨#[pV b1 0, iV v9, iV (w64 (n10 - 1)), uV, uV, uV, iV n10, iV (w64 (n10 - 1)), uV, uV, uV, uV, uV, uV, uV, uV, uV, uV, uV, uV, uV, uV, uV, uV, uV, uV, uV, uV, uV, uV, uV, uV, uV, uV, uV, uV, uV, uV, uV, uV, uV, uV, uV, uV, uV, uV, uV, uV, uV, uV, uV, uV, uV, uV, uV, uV, uV, uV, uV, uV], []⟩) (by kernel_rfl) ?_
 refine wpList_nil ?_
 refine hK12 _ _ ?_
 refine blockK (fun B13 hx14 hn15 hr16 ho17 hp18 => ?_)
 have hq_ := bind_some h; clear h; obtain ⟨o222, hv338, h⟩ := hq_
 have J339 : ∀ (f327 : FM) (A333 : Option Addr) (c334 : Nat) (s335 : Seg) (x332 : List Int) (x337 : Int) (j331 : Nat → Value) (W329 : World) (a_ : Act), FM.le f f327 → some ((x332, x337)) = some o222 → St t W329 f327 ([(b1, .cells #[.slice A333 x332.length c334, .int .i64 x337] 80 (0, 0))] :: s335 :: H) → Own (tInt .u8) 5 f327 A333 c334 s335 x332 → a_ = ⟨#[pV b1 0, iV v9, (j331 0), uV, uV, uV, iV n10, iV (w64 (n10 - 1)), (j331 1), (j331 2), (j331 3), (j331 4), (j331 5), (j331 6), (j331 7), (j331 8), (j331 9), (j331 10), (j331 11), (j331 12), (j331 13), (j331 14), (j331 15), (j331 16), (j331 17), (j331 18), (j331 19), (j331 20), (j331 21), (j331 22), (j331 23), (j331 24), (j331 25), (j331 26), (j331 27), (j331 28), (j331 29), (j331 30), (j331 31), (j331 32), (j331 33), (j331 34), (j331 35), (j331 36), (j331 37), (j331 38), (j331 39), (j331 40), (j331 41), (j331 42), (j331 43), (j331 44), (j331 45), (j331 46), (j331 47), (j331 48), (j331 49), (j331 50), (j331 51), (j331 52)], []⟩ → B Exit.normal a_ W329 := by
  intro f327 A333 c334 s335 x332 x337 j331 W329 a_ L328 hj340 HS330 HO336 hfr_; subst hfr_
  injection hj340 with hj340; subst hj340; try dsimp only at h
  refine hnor _ _ ?_
  refine ends_still (v := Value.tuple #[]) (by kernel_rfl) (by kernel_rfl) ?_
  have HS341 := HS330.u1
  injection h with h
  injection h with h0_ h
  subst h0_ h
  exact ⟨f327, A333, c334, s335, rfl, L328, HS341, HO336⟩
 clear h; have h := hv338; clear hv338
 refine loopK (fun n_ a_ w_ => ∃ (f226 : FM) (A233 : Option Addr) (c234 : Nat) (s235 : Seg) (n231 : Int) (x232 : List Int) (x237 : Int) (j230 : Nat → Value), FM.le f f226 ∧ St t w_ f226 ([(b1, .cells #[.slice A233 x232.length c234, .int .i64 x237] 80 (0, 0))] :: s235 :: H) ∧ Own (tInt .u8) 5 f226 A233 c234 s235 x232 ∧ squeeze_writer_put.l0 k v9 n_ n231 x232 x237 = some o222 ∧ a_ = ⟨#[pV b1 0, iV v9, iV n231, uV, uV, uV, iV n10, iV (w64 (n10 - 1)), (j230 0), (j230 1), (j230 2), (j230 3), (j230 4), (j230 5), (j230 6), (j230 7), (j230 8), (j230 9), (j230 10), (j230 11), (j230 12), (j230 13), (j230 14), (j230 15), (j230 16), (j230 17), (j230 18), (j230 19), (j230 20), (j230 21), (j230 22), (j230 23), (j230 24), (j230 25), (j230 26), (j230 27), (j230 28), (j230 29), (j230 30), (j230 31), (j230 32), (j230 33), (j230 34), (j230 35), (j230 36), (j230 37), (j230 38), (j230 39), (j230 40), (j230 41), (j230 42), (j230 43), (j230 44), (j230 45), (j230 46), (j230 47), (j230 48), (j230 49), (j230 50), (j230 51)], []⟩) k ⟨f, A4, c5, s6, (w64 (n10 - 1)), vw3.out, vw3.used, (fun i_ => [undef, undef, undef, undef, undef, undef, undef, undef, undef, undef, undef, undef, undef, undef, undef, undef, undef, undef, undef, undef, undef, undef, undef, undef, undef, undef, undef, undef, undef, undef, undef, undef, undef, undef, undef, undef, undef, undef, undef, undef, undef, undef, undef, undef, undef, undef, undef, undef, undef, undef, undef, undef].getD i_ undef), (FM.le.refl _), HS, HO7, h, (by kernel_rfl)⟩ ?_
 clear h
 rintro n225 _ W228 ⟨f226, A233, c234, s235, n231, x232, x237, j230, L227, HS229, HO236, h, rfl⟩ K223 hK224
 obtain _ | n225 := n225
 · exact nomatch h
 simp only [squeeze_writer_put.l0] at h
 refine wp_seq_k (fun K238 hK239 => ?_)
 refine wp_seq_k (fun K240 hK241 => ?_)
 refine wp_region_lit ?_
 refine seqS2 (a' := ⟨#[pV b1 0, iV v9, iV n231, uV, uV, uV, iV n10, iV (w64 (n10 - 1)), iV n231, .bool (decide (n231 ≥ 0)), (j230 2), (j230 3), (j230 4), (j230 5), (j230 6), (j230 7), (j230 8), (j230 9), (j230 10), (j230 11), (j230 12), (j230 13), (j230 14), (j230 15), (j230 16), (j230 17), (j230 18), (j230 19), (j230 20), (j230 21), (j230 22), (j230 23), (j230 24), (j230 25), (j230 26), (j230 27), (j230 28), (j230 29), (j230 30), (j230 31), (j230 32), (j230 33), (j230 34), (j230 35), (j230 36), (j230 37), (j230 38), (j230 39), (j230 40), (j230 41), (j230 42), (j230 43), (j230 44), (j230 45), (j230 46), (j230 47), (j230 48), (j230 49), (j230 50), (j230 51)], []⟩) (by kernel_rfl) ?_
 refine wpList_nil ?_
 refine hK241 _ _ ?_
 have hq_ := ite_some h; clear h; rcases hq_ with ⟨c243, h⟩ | ⟨c243, h⟩
 · have c243 : n231 ≥ 0 := c243
   refine wpRwI 9 (x := (decide (n231 ≥ 0))) (v := true) (by kernel_rfl) (decide_eq_true c243) ?_
   refine condT (by kernel_rfl) ?_
   refine wp_skip ?_
   refine hK239 _ _ ?_
   refine wp_seq_k (fun K244 hK245 => ?_)
   refine blockK (fun B246 hx247 hn248 hr249 ho250 hp251 => ?_)
   refine wp_seq_k (fun K253 hK254 => ?_)
   refine wp_seq_k (fun K255 hK256 => ?_)
   refine wp_region_lit ?_
   refine seqL3 (by kernel_rfl) ?_
   refine seqK rfl (does_run (run_load rfl Tryd.underlying3 rfl (by kernel_rfl : _ = Value.pointer (some ⟨b1, 1, none⟩)) (HS229.cell 1)) ?_)
   refine seqS2 (a' := ⟨#[pV b1 0, iV v9, iV n231, uV, uV, uV, iV n10, iV (w64 (n10 - 1)), iV n231, tV, (j230 2), (j230 3), pV b1 0, pV b1 0, pV b1 1, iV x237, iV (Int.tmod x237 8), .bool ((Int.tmod x237 8) == 0), (j230 10), (j230 11), (j230 12), (j230 13), (j230 14), (j230 15), (j230 16), (j230 17), (j230 18), (j230 19), (j230 20), (j230 21), (j230 22), (j230 23), (j230 24), (j230 25), (j230 26), (j230 27), (j230 28), (j230 29), (j230 30), (j230 31), (j230 32), (j230 33), (j230 34), (j230 35), (j230 36), (j230 37), (j230 38), (j230 39), (j230 40), (j230 41), (j230 42), (j230 43), (j230 44), (j230 45), (j230 46), (j230 47), (j230 48), (j230 49), (j230 50), (j230 51)], []⟩) (by kernel_rfl) ?_
   refine wpList_nil ?_
   refine hK256 _ _ ?_
   have hq_ := ite_some h; clear h; rcases hq_ with ⟨c258, h⟩ | ⟨c258, h⟩
   · have c258 : (Int.tmod x237 8) = 0 := c258
     refine wpRwI 17 (x := ((Int.tmod x237 8) == 0)) (v := true) (by kernel_rfl) (beq_iff_eq.mpr c258) ?_
     refine condT (by kernel_rfl) ?_
     refine wp_region_lit ?_
     refine seqL4 (by kernel_rfl) ?_
     refine seqK rfl (does_run (run_load rfl Tryd.underlying23 rfl (by kernel_rfl : _ = Value.pointer (some ⟨b1, 0, none⟩)) (HS229.cell 0)) ?_)
     refine seqK rfl (does_lit (e := (tInt .u8)) (E := 5) (vs := #[(0, Value.int .u8 0)]) (cs := #[.int .u8 0]) (xs := ([0] : List Int)) rfl Tryd.underlying23 (by kernel_rfl) (by kernel_rfl) ⟨[.int .u8 0], _, rfl, rfl, rfl⟩ rfl HS229 ?_ (by decide))
     intro b259 W260 s261 HS262 _ HO263
     have hq_ := guard_some h; clear h; obtain ⟨c265, h⟩ := hq_
     have c265 : (x232.length + 1) * 1 ≤ 140737488355328 := c265
     have HS266 := HS262.u2
     have HS267 := HS266.u1
     refine seqK rfl (does_append1 (e := (tInt .u8)) (E := 5) (xs := x232) (ys := ([0] : List Int)) rfl (by kernel_rfl : _ = Value.slice A233 x232.length c234) (by kernel_rfl : _ = Value.slice (some ⟨b259, 0, none⟩) ([0] : List Int).length 1) Tryd.underlying23 inf5 HO236 HO263 HS267 c265 (lim63 c265 (by decide)) ?_)
     intro A268 c269 s270 W271 HS272 HO273
     have HS274 := HS272.u1
     refine seqL2 (by kernel_rfl) ?_
     refine seqK rfl (does_store (n := 1) (vs := [.slice A268 (x232 ++ ([0] : List Int)).length c269]) (cs' := #[.slice A268 (x232 ++ ([0] : List Int)).length c269, .int .i64 x237]) rfl (by kernel_rfl) (by kernel_rfl : _ = Value.pointer (some ⟨b1, 0, none⟩)) (by kernel_rfl : _ = Value.slice A268 (x232 ++ ([0] : List Int)).length c269) rfl rfl (by intro u_ hu_; simp only [List.mem_cons, List.not_mem_nil, or_false] at hu_; subst hu_; rfl) HS274 (Nat.le_of_ble_eq_true rfl) (by kernel_rfl) ?_)
     intro W275 HS276
     refine wpList_nil ?_
     refine hK254 _ _ ?_
     refine wp_seq_k (fun K277 hK278 => ?_)
     have HS279 := HS276.u1
     have HS280 := HS279.u1
     refine heldG (S := Sg t f226 (H) [(26, [(b1, .cells #[.slice A268 (x232 ++ ([0] : List Int)).length c269, .int .i64 x237] 80 (0, 0))]), (26, s270)]) (n := 27) (by kernel_rfl) rfl HS280 ?_
     intro W281 HS282
     refine takeG [0, 1, 2] (n := 27) (fuel := 24) (l' := #[true, true, true, false, false, false, false, false, false, false, false, false, false, false, false, false, false, false, false, false, false, false, false, false, false, false, false]) (a' := ⟨#[pV b1 0, iV v9, iV n231, uV, uV, uV, iV n10, iV (w64 (n10 - 1)), iV n231, tV, (j230 2), (j230 3), pV b1 0, pV b1 0, pV b1 1, iV x237, iV (Int.tmod x237 8), tV, pV b1 0, pV b1 0, pV b1 0, pV b1 0, .slice A233 x232.length c234, .slice (some ⟨b259, 0, none⟩) ([0] : List Int).length 1, .slice A268 (x232 ++ ([0] : List Int)).length c269, pV b1 0, pV b1 0, pV b1 0, pV b1 0, pV b1 0, (j230 22), (j230 23), (j230 24), (j230 25), (j230 26), (j230 27), (j230 28), (j230 29), (j230 30), (j230 31), (j230 32), (j230 33), (j230 34), (j230 35), (j230 36), (j230 37), (j230 38), (j230 39), (j230 40), (j230 41), (j230 42), (j230 43), (j230 44), (j230 45), (j230 46), (j230 47), (j230 48), (j230 49), (j230 50), (j230 51)], []⟩) rfl (by kernel_rfl) (by kernel_rfl) (by kernel_rfl) (fun ch_ a_ w_ q_ => (fun ch_ a_ w_ q_ => hnp ch_ a_ w_ (hp18 ch_ a_ w_ q_)) ch_ a_ w_ (hp251 ch_ a_ w_ q_)) (Sg.g2 (Sx.of [[(b1, .cells #[.slice A268 (x232 ++ ([0] : List Int)).length c269, .int .i64 x237] 80 (0, 0))], s270] (FM.le.refl _) HS282) (fun _ => St.only [] HS282 (FM.le.refl _)) (fun _ => St.only [[(b1, .cells #[.slice A268 (x232 ++ ([0] : List Int)).length c269, .int .i64 x237] 80 (0, 0))]] HS282 (FM.le.refl _))) ?_
     refine takeGQ 3 [26] rfl (by kernel_rfl) (by kernel_rfl) (by kernel_rfl) (by kernel_rfl) (by kernel_rfl) (by kernel_rfl) (fun ch_ a_ w_ q_ => (fun ch_ a_ w_ q_ => hnp ch_ a_ w_ (hp18 ch_ a_ w_ q_)) ch_ a_ w_ (hp251 ch_ a_ w_ q_)) (Sg.g2 (Sx.of [[(b1, .cells #[.slice A268 (x232 ++ ([0] : List Int)).length c269, .int .i64 x237] 80 (0, 0))], s270] (FM.le.refl _) HS282) (fun _ => St.only [] HS282 (FM.le.refl _)) (fun _ => St.only [[(b1, .cells #[.slice A268 (x232 ++ ([0] : List Int)).length c269, .int .i64 x237] 80 (0, 0))]] HS282 (FM.le.refl _))) (fun w_ hw_ => by obtain ⟨g_, hl_, hS_⟩ := hw_.seg (j := 26) (s := [(b1, .cells #[.slice A268 (x232 ++ ([0] : List Int)).length c269, .int .i64 x237] 80 (0, 0))]) (by simp) (by simp); exact run_load rfl Tryd.underlying23 rfl (by kernel_rfl : _ = Value.pointer (some ⟨b1, 0, none⟩)) (hS_.cell 0)) ?_
     refine takeG [4, 5, 6] (n := 23) (fuel := 20) (l' := #[true, true, true, true, true, true, true, false, false, false, false, false, false, false, false, false, false, false, false, false, false, false, false, false, false, false, false]) (a' := ⟨#[pV b1 0, iV v9, iV n231, uV, uV, uV, iV n10, iV (w64 (n10 - 1)), iV n231, tV, (j230 2), (j230 3), pV b1 0, pV b1 0, pV b1 1, iV x237, iV (Int.tmod x237 8), tV, pV b1 0, pV b1 0, pV b1 0, pV b1 0, .slice A233 x232.length c234, .slice (some ⟨b259, 0, none⟩) ([0] : List Int).length 1, .slice A268 (x232 ++ ([0] : List Int)).length c269, pV b1 0, pV b1 0, pV b1 0, pV b1 0, pV b1 0, .slice A268 (x232 ++ ([0] : List Int)).length c269, pV b1 0, pV b1 0, pV b1 0, (j230 26), (j230 27), (j230 28), (j230 29), (j230 30), (j230 31), (j230 32), (j230 33), (j230 34), (j230 35), (j230 36), (j230 37), (j230 38), (j230 39), (j230 40), (j230 41), (j230 42), (j230 43), (j230 44), (j230 45), (j230 46), (j230 47), (j230 48), (j230 49), (j230 50), (j230 51)], []⟩) rfl (by kernel_rfl) (by kernel_rfl) (by kernel_rfl) (fun ch_ a_ w_ q_ => (fun ch_ a_ w_ q_ => hnp ch_ a_ w_ (hp18 ch_ a_ w_ q_)) ch_ a_ w_ (hp251 ch_ a_ w_ q_)) (Sg.g2 (Sx.of [[(b1, .cells #[.slice A268 (x232 ++ ([0] : List Int)).length c269, .int .i64 x237] 80 (0, 0))], s270] (FM.le.refl _) HS282) (fun _ => St.only [] HS282 (FM.le.refl _)) (fun _ => St.only [[(b1, .cells #[.slice A268 (x232 ++ ([0] : List Int)).length c269, .int .i64 x237] 80 (0, 0))]] HS282 (FM.le.refl _))) ?_
     refine takeGQ 7 [26] rfl (by kernel_rfl) (by kernel_rfl) (by kernel_rfl) (by kernel_rfl) (by kernel_rfl) (by kernel_rfl) (fun ch_ a_ w_ q_ => (fun ch_ a_ w_ q_ => hnp ch_ a_ w_ (hp18 ch_ a_ w_ q_)) ch_ a_ w_ (hp251 ch_ a_ w_ q_)) (Sg.g2 (Sx.of [[(b1, .cells #[.slice A268 (x232 ++ ([0] : List Int)).length c269, .int .i64 x237] 80 (0, 0))], s270] (FM.le.refl _) HS282) (fun _ => St.only [] HS282 (FM.le.refl _)) (fun _ => St.only [[(b1, .cells #[.slice A268 (x232 ++ ([0] : List Int)).length c269, .int .i64 x237] 80 (0, 0))]] HS282 (FM.le.refl _))) (fun w_ hw_ => by obtain ⟨g_, hl_, hS_⟩ := hw_.seg (j := 26) (s := [(b1, .cells #[.slice A268 (x232 ++ ([0] : List Int)).length c269, .int .i64 x237] 80 (0, 0))]) (by simp) (by simp); exact run_load rfl Tryd.underlying23 rfl (by kernel_rfl : _ = Value.pointer (some ⟨b1, 0, none⟩)) (hS_.cell 0)) ?_
     have hq_ := guard_some h; clear h; obtain ⟨c283, h⟩ := hq_
     have c283 : 0 ≤ (w64 (((x232 ++ ([0] : List Int)).length : Int) - 1)) := c283
     have hq_ := guard_some h; clear h; obtain ⟨c284, h⟩ := hq_
     have c284 : (w64 (((x232 ++ ([0] : List Int)).length : Int) - 1)) < ((x232 ++ ([0] : List Int)).length : Int) := c284
     obtain ⟨b288, of289, cs285, hA290, hr286, hc287⟩ := HO273.at (i := w64 (((x232 ++ ([0] : List Int)).length : Int) - 1)) c283 c284
     obtain rfl := hr286
     refine takeG [8, 9] (n := 19) (fuel := 17) (l' := #[true, true, true, true, true, true, true, true, true, true, false, false, false, false, false, false, false, false, false, false, false, false, false, false, false, false, false]) (a' := ⟨#[pV b1 0, iV v9, iV n231, uV, uV, uV, iV n10, iV (w64 (n10 - 1)), iV n231, tV, (j230 2), (j230 3), pV b1 0, pV b1 0, pV b1 1, iV x237, iV (Int.tmod x237 8), tV, pV b1 0, pV b1 0, pV b1 0, pV b1 0, .slice A233 x232.length c234, .slice (some ⟨b259, 0, none⟩) ([0] : List Int).length 1, .slice A268 (x232 ++ ([0] : List Int)).length c269, pV b1 0, pV b1 0, pV b1 0, pV b1 0, pV b1 0, .slice A268 (x232 ++ ([0] : List Int)).length c269, pV b1 0, pV b1 0, pV b1 0, .slice A268 (x232 ++ ([0] : List Int)).length c269, iV ((x232 ++ ([0] : List Int)).length : Int), iV (w64 (((x232 ++ ([0] : List Int)).length : Int) - 1)), (j230 29), (j230 30), (j230 31), (j230 32), (j230 33), (j230 34), (j230 35), (j230 36), (j230 37), (j230 38), (j230 39), (j230 40), (j230 41), (j230 42), (j230 43), (j230 44), (j230 45), (j230 46), (j230 47), (j230 48), (j230 49), (j230 50), (j230 51)], []⟩) rfl (by kernel_rfl) (by kernel_rfl) (by kernel_rfl) (fun ch_ a_ w_ q_ => (fun ch_ a_ w_ q_ => hnp ch_ a_ w_ (hp18 ch_ a_ w_ q_)) ch_ a_ w_ (hp251 ch_ a_ w_ q_)) (Sg.g2 (Sx.of [[(b1, .cells #[.slice A268 (x232 ++ ([0] : List Int)).length c269, .int .i64 x237] 80 (0, 0))], s270] (FM.le.refl _) HS282) (fun _ => St.only [] HS282 (FM.le.refl _)) (fun _ => St.only [[(b1, .cells #[.slice A268 (x232 ++ ([0] : List Int)).length c269, .int .i64 x237] 80 (0, 0))]] HS282 (FM.le.refl _))) ?_
     refine takeGQ 10 [] rfl (by kernel_rfl) (by kernel_rfl) (by kernel_rfl) (by kernel_rfl) (by kernel_rfl) (by kernel_rfl) (fun ch_ a_ w_ q_ => (fun ch_ a_ w_ q_ => hnp ch_ a_ w_ (hp18 ch_ a_ w_ q_)) ch_ a_ w_ (hp251 ch_ a_ w_ q_)) (Sg.g2 (Sx.of [[(b1, .cells #[.slice A268 (x232 ++ ([0] : List Int)).length c269, .int .i64 x237] 80 (0, 0))], s270] (FM.le.refl _) HS282) (fun _ => St.only [] HS282 (FM.le.refl _)) (fun _ => St.only [[(b1, .cells #[.slice A268 (x232 ++ ([0] : List Int)).length c269, .int .i64 x237] 80 (0, 0))]] HS282 (FM.le.refl _))) (fun w_ hw_ => by obtain ⟨g_, hl_, hS_⟩ := hw_.st; exact run_indexE hA290 (sz := 1) rfl Tryd.underlying23 (by kernel_rfl) (by kernel_rfl : _ = Value.slice A268 (x232 ++ ([0] : List Int)).length c269) (by kernel_rfl : _ = Value.int .i64 (w64 (((x232 ++ ([0] : List Int)).length : Int) - 1))) c283 c284 w_) ?_
     refine takeGQ 11 [26] rfl (by kernel_rfl) (by kernel_rfl) (by kernel_rfl) (by kernel_rfl) (by kernel_rfl) (by kernel_rfl) (fun ch_ a_ w_ q_ => (fun ch_ a_ w_ q_ => hnp ch_ a_ w_ (hp18 ch_ a_ w_ q_)) ch_ a_ w_ (hp251 ch_ a_ w_ q_)) (Sg.g2 (Sx.of [[(b1, .cells #[.slice A268 (x232 ++ ([0] : List Int)).length c269, .int .i64 x237] 80 (0, 0))], s270] (FM.le.refl _) HS282) (fun _ => St.only [] HS282 (FM.le.refl _)) (fun _ => St.only [[(b1, .cells #[.slice A268 (x232 ++ ([0] : List Int)).length c269, .int .i64 x237] 80 (0, 0))]] HS282 (FM.le.refl _))) (fun w_ hw_ => by obtain ⟨g_, hl_, hS_⟩ := hw_.seg (j := 26) (s := s270) (by simp) (by simp); exact run_load rfl Tryd.underlying5 rfl (by kernel_rfl : _ = Value.pointer (some ⟨b288, of289 + (w64 (((x232 ++ ([0] : List Int)).length : Int) - 1) : Int).toNat * 1, none⟩)) ((hc287 hS_) 0 (by decide))) ?_
     have hq_ := guard_some h; clear h; obtain ⟨c291, h⟩ := hq_
     have c291 : ¬ (n231 < 0) := c291
     refine takeG [12, 13] (n := 15) (fuel := 13) (l' := #[true, true, true, true, true, true, true, true, true, true, true, true, true, true, false, false, false, false, false, false, false, false, false, false, false, false, false]) (a' := ⟨#[pV b1 0, iV v9, iV n231, uV, uV, uV, iV n10, iV (w64 (n10 - 1)), iV n231, tV, (j230 2), (j230 3), pV b1 0, pV b1 0, pV b1 1, iV x237, iV (Int.tmod x237 8), tV, pV b1 0, pV b1 0, pV b1 0, pV b1 0, .slice A233 x232.length c234, .slice (some ⟨b259, 0, none⟩) ([0] : List Int).length 1, .slice A268 (x232 ++ ([0] : List Int)).length c269, pV b1 0, pV b1 0, pV b1 0, pV b1 0, pV b1 0, .slice A268 (x232 ++ ([0] : List Int)).length c269, pV b1 0, pV b1 0, pV b1 0, .slice A268 (x232 ++ ([0] : List Int)).length c269, iV ((x232 ++ ([0] : List Int)).length : Int), iV (w64 (((x232 ++ ([0] : List Int)).length : Int) - 1)), pV b288 (of289 + (w64 (((x232 ++ ([0] : List Int)).length : Int) - 1) : Int).toNat * 1), .int .u8 (rd (x232 ++ ([0] : List Int)) (w64 (((x232 ++ ([0] : List Int)).length : Int) - 1))), iV v9, iV n231, (j230 33), (j230 34), (j230 35), (j230 36), (j230 37), (j230 38), (j230 39), (j230 40), (j230 41), (j230 42), (j230 43), (j230 44), (j230 45), (j230 46), (j230 47), (j230 48), (j230 49), (j230 50), (j230 51)], []⟩) rfl (by kernel_rfl) (by kernel_rfl) (by kernel_rfl) (fun ch_ a_ w_ q_ => (fun ch_ a_ w_ q_ => hnp ch_ a_ w_ (hp18 ch_ a_ w_ q_)) ch_ a_ w_ (hp251 ch_ a_ w_ q_)) (Sg.g2 (Sx.of [[(b1, .cells #[.slice A268 (x232 ++ ([0] : List Int)).length c269, .int .i64 x237] 80 (0, 0))], s270] (FM.le.refl _) HS282) (fun _ => St.only [] HS282 (FM.le.refl _)) (fun _ => St.only [[(b1, .cells #[.slice A268 (x232 ++ ([0] : List Int)).length c269, .int .i64 x237] 80 (0, 0))]] HS282 (FM.le.refl _))) ?_
     refine takeGQ 14 [] rfl (by kernel_rfl) (by kernel_rfl) (by kernel_rfl) (by kernel_rfl) (by kernel_rfl) (by kernel_rfl) (fun ch_ a_ w_ q_ => (fun ch_ a_ w_ q_ => hnp ch_ a_ w_ (hp18 ch_ a_ w_ q_)) ch_ a_ w_ (hp251 ch_ a_ w_ q_)) (Sg.g2 (Sx.of [[(b1, .cells #[.slice A268 (x232 ++ ([0] : List Int)).length c269, .int .i64 x237] 80 (0, 0))], s270] (FM.le.refl _) HS282) (fun _ => St.only [] HS282 (FM.le.refl _)) (fun _ => St.only [[(b1, .cells #[.slice A268 (x232 ++ ([0] : List Int)).length c269, .int .i64 x237] 80 (0, 0))]] HS282 (FM.le.refl _))) (fun w_ hw_ => by obtain ⟨g_, hl_, hS_⟩ := hw_.st; exact run_shr rfl (by kernel_rfl : _ = Value.int .i64 v9) (by kernel_rfl : _ = Value.int .i64 n231) c291 w_) ?_
     refine takeG [15, 16, 17, 18, 19] (n := 12) (fuel := 7) (l' := #[true, true, true, true, true, true, true, true, true, true, true, true, true, true, true, true, true, true, true, true, false, false, false, false, false, false, false]) (a' := ⟨#[pV b1 0, iV v9, iV n231, uV, uV, uV, iV n10, iV (w64 (n10 - 1)), iV n231, tV, (j230 2), (j230 3), pV b1 0, pV b1 0, pV b1 1, iV x237, iV (Int.tmod x237 8), tV, pV b1 0, pV b1 0, pV b1 0, pV b1 0, .slice A233 x232.length c234, .slice (some ⟨b259, 0, none⟩) ([0] : List Int).length 1, .slice A268 (x232 ++ ([0] : List Int)).length c269, pV b1 0, pV b1 0, pV b1 0, pV b1 0, pV b1 0, .slice A268 (x232 ++ ([0] : List Int)).length c269, pV b1 0, pV b1 0, pV b1 0, .slice A268 (x232 ++ ([0] : List Int)).length c269, iV ((x232 ++ ([0] : List Int)).length : Int), iV (w64 (((x232 ++ ([0] : List Int)).length : Int) - 1)), pV b288 (of289 + (w64 (((x232 ++ ([0] : List Int)).length : Int) - 1) : Int).toNat * 1), .int .u8 (rd (x232 ++ ([0] : List Int)) (w64 (((x232 ++ ([0] : List Int)).length : Int) - 1))), iV v9, iV n231, iV (shr v9 (min (n231).toNat 64)), iV (Go.bits .and .i64 (shr v9 (min (n231).toNat 64)) 1), .int .u8 (u8 (Go.bits .and .i64 (shr v9 (min (n231).toNat 64)) 1)), pV b1 0, pV b1 0, pV b1 1, (j230 39), (j230 40), (j230 41), (j230 42), (j230 43), (j230 44), (j230 45), (j230 46), (j230 47), (j230 48), (j230 49), (j230 50), (j230 51)], []⟩) rfl (by kernel_rfl) (by kernel_rfl) (by kernel_rfl) (fun ch_ a_ w_ q_ => (fun ch_ a_ w_ q_ => hnp ch_ a_ w_ (hp18 ch_ a_ w_ q_)) ch_ a_ w_ (hp251 ch_ a_ w_ q_)) (Sg.g2 (Sx.of [[(b1, .cells #[.slice A268 (x232 ++ ([0] : List Int)).length c269, .int .i64 x237] 80 (0, 0))], s270] (FM.le.refl _) HS282) (fun _ => St.only [] HS282 (FM.le.refl _)) (fun _ => St.only [[(b1, .cells #[.slice A268 (x232 ++ ([0] : List Int)).length c269, .int .i64 x237] 80 (0, 0))]] HS282 (FM.le.refl _))) ?_
     refine takeGQ 20 [26] rfl (by kernel_rfl) (by kernel_rfl) (by kernel_rfl) (by kernel_rfl) (by kernel_rfl) (by kernel_rfl) (fun ch_ a_ w_ q_ => (fun ch_ a_ w_ q_ => hnp ch_ a_ w_ (hp18 ch_ a_ w_ q_)) ch_ a_ w_ (hp251 ch_ a_ w_ q_)) (Sg.g2 (Sx.of [[(b1, .cells #[.slice A268 (x232 ++ ([0] : List Int)).length c269, .int .i64 x237] 80 (0, 0))], s270] (FM.le.refl _) HS282) (fun _ => St.only [] HS282 (FM.le.refl _)) (fun _ => St.only [[(b1, .cells #[.slice A268 (x232 ++ ([0] : List Int)).length c269, .int .i64 x237] 80 (0, 0))]] HS282 (FM.le.refl _))) (fun w_ hw_ => by obtain ⟨g_, hl_, hS_⟩ := hw_.seg (j := 26) (s := [(b1, .cells #[.slice A268 (x232 ++ ([0] : List Int)).length c269, .int .i64 x237] 80 (0, 0))]) (by simp) (by simp); exact run_load rfl Tryd.underlying3 rfl (by kernel_rfl : _ = Value.pointer (some ⟨b1, 1, none⟩)) (hS_.cell 1)) ?_
     have hq_ := guard_some h; clear h; obtain ⟨c292, h⟩ := hq_
     have c292 : ¬ ((w64 (7 - (Int.tmod x237 8))) < 0) := c292
     refine takeG [21, 22] (n := 6) (fuel := 4) (l' := #[true, true, true, true, true, true, true, true, true, true, true, true, true, true, true, true, true, true, true, true, true, true, true, false, false, false, false]) (a' := ⟨#[pV b1 0, iV v9, iV n231, uV, uV, uV, iV n10, iV (w64 (n10 - 1)), iV n231, tV, (j230 2), (j230 3), pV b1 0, pV b1 0, pV b1 1, iV x237, iV (Int.tmod x237 8), tV, pV b1 0, pV b1 0, pV b1 0, pV b1 0, .slice A233 x232.length c234, .slice (some ⟨b259, 0, none⟩) ([0] : List Int).length 1, .slice A268 (x232 ++ ([0] : List Int)).length c269, pV b1 0, pV b1 0, pV b1 0, pV b1 0, pV b1 0, .slice A268 (x232 ++ ([0] : List Int)).length c269, pV b1 0, pV b1 0, pV b1 0, .slice A268 (x232 ++ ([0] : List Int)).length c269, iV ((x232 ++ ([0] : List Int)).length : Int), iV (w64 (((x232 ++ ([0] : List Int)).length : Int) - 1)), pV b288 (of289 + (w64 (((x232 ++ ([0] : List Int)).length : Int) - 1) : Int).toNat * 1), .int .u8 (rd (x232 ++ ([0] : List Int)) (w64 (((x232 ++ ([0] : List Int)).length : Int) - 1))), iV v9, iV n231, iV (shr v9 (min (n231).toNat 64)), iV (Go.bits .and .i64 (shr v9 (min (n231).toNat 64)) 1), .int .u8 (u8 (Go.bits .and .i64 (shr v9 (min (n231).toNat 64)) 1)), pV b1 0, pV b1 0, pV b1 1, iV x237, iV (Int.tmod x237 8), iV (w64 (7 - (Int.tmod x237 8))), (j230 42), (j230 43), (j230 44), (j230 45), (j230 46), (j230 47), (j230 48), (j230 49), (j230 50), (j230 51)], []⟩) rfl (by kernel_rfl) (by kernel_rfl) (by kernel_rfl) (fun ch_ a_ w_ q_ => (fun ch_ a_ w_ q_ => hnp ch_ a_ w_ (hp18 ch_ a_ w_ q_)) ch_ a_ w_ (hp251 ch_ a_ w_ q_)) (Sg.g2 (Sx.of [[(b1, .cells #[.slice A268 (x232 ++ ([0] : List Int)).length c269, .int .i64 x237] 80 (0, 0))], s270] (FM.le.refl _) HS282) (fun _ => St.only [] HS282 (FM.le.refl _)) (fun _ => St.only [[(b1, .cells #[.slice A268 (x232 ++ ([0] : List Int)).length c269, .int .i64 x237] 80 (0, 0))]] HS282 (FM.le.refl _))) ?_
     refine takeGQ 23 [] rfl (by kernel_rfl) (by kernel_rfl) (by kernel_rfl) (by kernel_rfl) (by kernel_rfl) (by kernel_rfl) (fun ch_ a_ w_ q_ => (fun ch_ a_ w_ q_ => hnp ch_ a_ w_ (hp18 ch_ a_ w_ q_)) ch_ a_ w_ (hp251 ch_ a_ w_ q_)) (Sg.g2 (Sx.of [[(b1, .cells #[.slice A268 (x232 ++ ([0] : List Int)).length c269, .int .i64 x237] 80 (0, 0))], s270] (FM.le.refl _) HS282) (fun _ => St.only [] HS282 (FM.le.refl _)) (fun _ => St.only [[(b1, .cells #[.slice A268 (x232 ++ ([0] : List Int)).length c269, .int .i64 x237] 80 (0, 0))]] HS282 (FM.le.refl _))) (fun w_ hw_ => by obtain ⟨g_, hl_, hS_⟩ := hw_.st; exact run_shl rfl (by kernel_rfl : _ = Value.int .u8 (u8 (Go.bits .and .i64 (shr v9 (min (n231).toNat 64)) 1))) (by kernel_rfl : _ = Value.int .i64 (w64 (7 - (Int.tmod x237 8)))) c292 w_) ?_
     refine takeG [24] (n := 3) (fuel := 2) (l' := #[true, true, true, true, true, true, true, true, true, true, true, true, true, true, true, true, true, true, true, true, true, true, true, true, true, false, false]) (a' := ⟨#[pV b1 0, iV v9, iV n231, uV, uV, uV, iV n10, iV (w64 (n10 - 1)), iV n231, tV, (j230 2), (j230 3), pV b1 0, pV b1 0, pV b1 1, iV x237, iV (Int.tmod x237 8), tV, pV b1 0, pV b1 0, pV b1 0, pV b1 0, .slice A233 x232.length c234, .slice (some ⟨b259, 0, none⟩) ([0] : List Int).length 1, .slice A268 (x232 ++ ([0] : List Int)).length c269, pV b1 0, pV b1 0, pV b1 0, pV b1 0, pV b1 0, .slice A268 (x232 ++ ([0] : List Int)).length c269, pV b1 0, pV b1 0, pV b1 0, .slice A268 (x232 ++ ([0] : List Int)).length c269, iV ((x232 ++ ([0] : List Int)).length : Int), iV (w64 (((x232 ++ ([0] : List Int)).length : Int) - 1)), pV b288 (of289 + (w64 (((x232 ++ ([0] : List Int)).length : Int) - 1) : Int).toNat * 1), .int .u8 (rd (x232 ++ ([0] : List Int)) (w64 (((x232 ++ ([0] : List Int)).length : Int) - 1))), iV v9, iV n231, iV (shr v9 (min (n231).toNat 64)), iV (Go.bits .and .i64 (shr v9 (min (n231).toNat 64)) 1), .int .u8 (u8 (Go.bits .and .i64 (shr v9 (min (n231).toNat 64)) 1)), pV b1 0, pV b1 0, pV b1 1, iV x237, iV (Int.tmod x237 8), iV (w64 (7 - (Int.tmod x237 8))), .int .u8 (u8 ((u8 (Go.bits .and .i64 (shr v9 (min (n231).toNat 64)) 1)) * 2 ^ (min (w64 (7 - (Int.tmod x237 8))).toNat 8))), .int .u8 (Go.bits .or .u8 (rd (x232 ++ ([0] : List Int)) (w64 (((x232 ++ ([0] : List Int)).length : Int) - 1))) (u8 ((u8 (Go.bits .and .i64 (shr v9 (min (n231).toNat 64)) 1)) * 2 ^ (min (w64 (7 - (Int.tmod x237 8))).toNat 8)))), (j230 44), (j230 45), (j230 46), (j230 47), (j230 48), (j230 49), (j230 50), (j230 51)], []⟩) rfl (by kernel_rfl) (by kernel_rfl) (by kernel_rfl) (fun ch_ a_ w_ q_ => (fun ch_ a_ w_ q_ => hnp ch_ a_ w_ (hp18 ch_ a_ w_ q_)) ch_ a_ w_ (hp251 ch_ a_ w_ q_)) (Sg.g2 (Sx.of [[(b1, .cells #[.slice A268 (x232 ++ ([0] : List Int)).length c269, .int .i64 x237] 80 (0, 0))], s270] (FM.le.refl _) HS282) (fun _ => St.only [] HS282 (FM.le.refl _)) (fun _ => St.only [[(b1, .cells #[.slice A268 (x232 ++ ([0] : List Int)).length c269, .int .i64 x237] 80 (0, 0))]] HS282 (FM.le.refl _))) ?_
     refine takeGQ 25 [] rfl (by kernel_rfl) (by kernel_rfl) (by kernel_rfl) (by kernel_rfl) (by kernel_rfl) (by kernel_rfl) (fun ch_ a_ w_ q_ => (fun ch_ a_ w_ q_ => hnp ch_ a_ w_ (hp18 ch_ a_ w_ q_)) ch_ a_ w_ (hp251 ch_ a_ w_ q_)) (Sg.g2 (Sx.of [[(b1, .cells #[.slice A268 (x232 ++ ([0] : List Int)).length c269, .int .i64 x237] 80 (0, 0))], s270] (FM.le.refl _) HS282) (fun _ => St.only [] HS282 (FM.le.refl _)) (fun _ => St.only [[(b1, .cells #[.slice A268 (x232 ++ ([0] : List Int)).length c269, .int .i64 x237] 80 (0, 0))]] HS282 (FM.le.refl _))) (fun w_ hw_ => by obtain ⟨g_, hl_, hS_⟩ := hw_.st; exact run_indexE hA290 (sz := 1) rfl Tryd.underlying23 (by kernel_rfl) (by kernel_rfl : _ = Value.slice A268 (x232 ++ ([0] : List Int)).length c269) (by kernel_rfl : _ = Value.int .i64 (w64 (((x232 ++ ([0] : List Int)).length : Int) - 1))) c283 c284 w_) ?_
     have HS293 := HS282.u1
     refine takeGE 26 (by kernel_rfl) rfl (by kernel_rfl) (does_put (e := (tInt .u8)) (E := 5) (vs := [.int .u8 (Go.bits .or .u8 (rd (x232 ++ ([0] : List Int)) (w64 (((x232 ++ ([0] : List Int)).length : Int) - 1))) (u8 ((u8 (Go.bits .and .i64 (shr v9 (min (n231).toNat 64)) 1)) * 2 ^ (min (w64 (7 - (Int.tmod x237 8))).toNat 8))))]) (u := Go.bits .or .u8 (rd (x232 ++ ([0] : List Int)) (w64 (((x232 ++ ([0] : List Int)).length : Int) - 1))) (u8 ((u8 (Go.bits .and .i64 (shr v9 (min (n231).toNat 64)) 1)) * 2 ^ (min (w64 (7 - (Int.tmod x237 8))).toNat 8)))) (i := w64 (((x232 ++ ([0] : List Int)).length : Int) - 1)) rfl (by kernel_rfl) HO273 HS293 hA290 (by kernel_rfl : _ = Value.pointer (some ⟨b288, of289 + (w64 (((x232 ++ ([0] : List Int)).length : Int) - 1) : Int).toNat * 1, none⟩)) (by kernel_rfl : _ = Value.int .u8 (Go.bits .or .u8 (rd (x232 ++ ([0] : List Int)) (w64 (((x232 ++ ([0] : List Int)).length : Int) - 1))) (u8 ((u8 (Go.bits .and .i64 (shr v9 (min (n231).toNat 64)) 1)) * 2 ^ (min (w64 (7 - (Int.tmod x237 8))).toNat 8))))) rfl rfl c283 c284 ?_)
     intro W294 s295 HS296 HO297
     have HS298 : St t W294 f226 (s295 :: [(b1, .cells #[.slice A268 ((x232 ++ ([0] : List Int)).set (w64 (((x232 ++ ([0] : List Int)).length : Int) - 1)).toNat (Go.bits .or .u8 (rd (x232 ++ ([0] : List Int)) (w64 (((x232 ++ ([0] : List Int)).length : Int) - 1))) (u8 ((u8 (Go.bits .and .i64 (shr v9 (min (n231).toNat 64)) 1)) * 2 ^ (min (w64 (7 - (Int.tmod x237 8))).toNat 8))))).length c269, .int .i64 x237] 80 (0, 0))] :: H) := by rw [show ((x232 ++ ([0] : List Int)).set (w64 (((x232 ++ ([0] : List Int)).length : Int) - 1)).toNat (Go.bits .or .u8 (rd (x232 ++ ([0] : List Int)) (w64 (((x232 ++ ([0] : List Int)).length : Int) - 1))) (u8 ((u8 (Go.bits .and .i64 (shr v9 (min (n231).toNat 64)) 1)) * 2 ^ (min (w64 (7 - (Int.tmod x237 8))).toNat 8))))).length = (x232 ++ ([0] : List Int)).length from List.length_set]; exact HS296
     refine ⟨(Sg.g2 (Sx.of [s295, [(b1, .cells #[.slice A268 ((x232 ++ ([0] : List Int)).set (w64 (((x232 ++ ([0] : List Int)).length : Int) - 1)).toNat (Go.bits .or .u8 (rd (x232 ++ ([0] : List Int)) (w64 (((x232 ++ ([0] : List Int)).length : Int) - 1))) (u8 ((u8 (Go.bits .and .i64 (shr v9 (min (n231).toNat 64)) 1)) * 2 ^ (min (w64 (7 - (Int.tmod x237 8))).toNat 8))))).length c269, .int .i64 x237] 80 (0, 0))]] (FM.le.refl _) HS298) (fun hl_ => Bool.noConfusion (show true = false from hl_)) (fun hl_ => Bool.noConfusion (show true = false from hl_))), ?_⟩
     refine gateRwS 24 (A := A268) (m := (x232 ++ ([0] : List Int)).length) (n := ((x232 ++ ([0] : List Int)).set (w64 (((x232 ++ ([0] : List Int)).length : Int) - 1)).toNat (Go.bits .or .u8 (rd (x232 ++ ([0] : List Int)) (w64 (((x232 ++ ([0] : List Int)).length : Int) - 1))) (u8 ((u8 (Go.bits .and .i64 (shr v9 (min (n231).toNat 64)) 1)) * 2 ^ (min (w64 (7 - (Int.tmod x237 8))).toNat 8))))).length) (c := c269) (by kernel_rfl) (List.length_set).symm ?_
     refine gateRwS 30 (A := A268) (m := (x232 ++ ([0] : List Int)).length) (n := ((x232 ++ ([0] : List Int)).set (w64 (((x232 ++ ([0] : List Int)).length : Int) - 1)).toNat (Go.bits .or .u8 (rd (x232 ++ ([0] : List Int)) (w64 (((x232 ++ ([0] : List Int)).length : Int) - 1))) (u8 ((u8 (Go.bits .and .i64 (shr v9 (min (n231).toNat 64)) 1)) * 2 ^ (min (w64 (7 - (Int.tmod x237 8))).toNat 8))))).length) (c := c269) (by kernel_rfl) (List.length_set).symm ?_
     refine gateRwS 34 (A := A268) (m := (x232 ++ ([0] : List Int)).length) (n := ((x232 ++ ([0] : List Int)).set (w64 (((x232 ++ ([0] : List Int)).length : Int) - 1)).toNat (Go.bits .or .u8 (rd (x232 ++ ([0] : List Int)) (w64 (((x232 ++ ([0] : List Int)).length : Int) - 1))) (u8 ((u8 (Go.bits .and .i64 (shr v9 (min (n231).toNat 64)) 1)) * 2 ^ (min (w64 (7 - (Int.tmod x237 8))).toNat 8))))).length) (c := c269) (by kernel_rfl) (List.length_set).symm ?_
     refine doneG (by kernel_rfl) ?_ _
     refine hK278 _ _ ?_
     refine wp_region_lit ?_
     refine seqL3 (by kernel_rfl) ?_
     refine seqK rfl (does_run (run_load rfl Tryd.underlying3 rfl (by kernel_rfl : _ = Value.pointer (some ⟨b1, 1, none⟩)) (HS298.u1.cell 1)) ?_)
     have HS299 := HS298.u1
     refine seqL3 (by kernel_rfl) ?_
     refine seqK rfl (does_store (n := 1) (vs := [.int .i64 (w64 (x237 + 1))]) (cs' := #[.slice A268 ((x232 ++ ([0] : List Int)).set (w64 (((x232 ++ ([0] : List Int)).length : Int) - 1)).toNat (Go.bits .or .u8 (rd (x232 ++ ([0] : List Int)) (w64 (((x232 ++ ([0] : List Int)).length : Int) - 1))) (u8 ((u8 (Go.bits .and .i64 (shr v9 (min (n231).toNat 64)) 1)) * 2 ^ (min (w64 (7 - (Int.tmod x237 8))).toNat 8))))).length c269, .int .i64 (w64 (x237 + 1))]) rfl (by kernel_rfl) (by kernel_rfl : _ = Value.pointer (some ⟨b1, 1, none⟩)) (by kernel_rfl : _ = Value.int .i64 (w64 (x237 + 1))) rfl rfl (by intro u_ hu_; simp only [List.mem_cons, List.not_mem_nil, or_false] at hu_; subst hu_; rfl) HS299 (Nat.le_of_ble_eq_true rfl) (by kernel_rfl) ?_)
     intro W300 HS301
     refine wpList_nil ?_
     refine hn248 _ _ ?_
     refine hK245 _ _ ?_
     refine wp_region_lit ?_
     refine seqS3 (a' := ⟨#[pV b1 0, iV v9, iV (w64 (n231 - 1)), uV, uV, uV, iV n10, iV (w64 (n10 - 1)), iV n231, tV, iV n231, iV (w64 (n231 - 1)), pV b1 0, pV b1 0, pV b1 1, iV x237, iV (Int.tmod x237 8), tV, pV b1 0, pV b1 0, pV b1 0, pV b1 0, .slice A233 x232.length c234, .slice (some ⟨b259, 0, none⟩) ([0] : List Int).length 1, .slice A268 ((x232 ++ ([0] : List Int)).set (w64 (((x232 ++ ([0] : List Int)).length : Int) - 1)).toNat (Go.bits .or .u8 (rd (x232 ++ ([0] : List Int)) (w64 (((x232 ++ ([0] : List Int)).length : Int) - 1))) (u8 ((u8 (Go.bits .and .i64 (shr v9 (min (n231).toNat 64)) 1)) * 2 ^ (min (w64 (7 - (Int.tmod x237 8))).toNat 8))))).length c269, pV b1 0, pV b1 0, pV b1 0, pV b1 0, pV b1 0, .slice A268 ((x232 ++ ([0] : List Int)).set (w64 (((x232 ++ ([0] : List Int)).length : Int) - 1)).toNat (Go.bits .or .u8 (rd (x232 ++ ([0] : List Int)) (w64 (((x232 ++ ([0] : List Int)).length : Int) - 1))) (u8 ((u8 (Go.bits .and .i64 (shr v9 (min (n231).toNat 64)) 1)) * 2 ^ (min (w64 (7 - (Int.tmod x237 8))).toNat 8))))).length c269, pV b1 0, pV b1 0, pV b1 0, .slice A268 ((x232 ++ ([0] : List Int)).set (w64 (((x232 ++ ([0] : List Int)).length : Int) - 1)).toNat (Go.bits .or .u8 (rd (x232 ++ ([0] : List Int)) (w64 (((x232 ++ ([0] : List Int)).length : Int) - 1))) (u8 ((u8 (Go.bits .and .i64 (shr v9 (min (n231).toNat 64)) 1)) * 2 ^ (min (w64 (7 - (Int.tmod x237 8))).toNat 8))))).length c269, iV ((x232 ++ ([0] : List Int)).length : Int), iV (w64 (((x232 ++ ([0] : List Int)).length : Int) - 1)), pV b288 (of289 + (w64 (((x232 ++ ([0] : List Int)).length : Int) - 1) : Int).toNat * 1), .int .u8 (rd (x232 ++ ([0] : List Int)) (w64 (((x232 ++ ([0] : List Int)).length : Int) - 1))), iV v9, iV n231, iV (shr v9 (min (n231).toNat 64)), iV (Go.bits .and .i64 (shr v9 (min (n231).toNat 64)) 1), .int .u8 (u8 (Go.bits .and .i64 (shr v9 (min (n231).toNat 64)) 1)), pV b1 0, pV b1 0, pV b1 1, iV x237, iV (Int.tmod x237 8), iV (w64 (7 - (Int.tmod x237 8))), .int .u8 (u8 ((u8 (Go.bits .and .i64 (shr v9 (min (n231).toNat 64)) 1)) * 2 ^ (min (w64 (7 - (Int.tmod x237 8))).toNat 8))), .int .u8 (Go.bits .or .u8 (rd (x232 ++ ([0] : List Int)) (w64 (((x232 ++ ([0] : List Int)).length : Int) - 1))) (u8 ((u8 (Go.bits .and .i64 (shr v9 (min (n231).toNat 64)) 1)) * 2 ^ (min (w64 (7 - (Int.tmod x237 8))).toNat 8)))), pV b288 (of289 + (w64 (((x232 ++ ([0] : List Int)).length : Int) - 1) : Int).toNat * 1), pV b1 0, pV b1 0, pV b1 1, iV x237, iV (w64 (x237 + 1)), pV b1 0, pV b1 1], []⟩) (by kernel_rfl) ?_
     refine wpList_nil ?_
     refine hK224 n225 _ _ (Nat.lt_succ_self _) ?_
     exact ⟨f226, A268, c269, s295, (w64 (n231 - 1)), ((x232 ++ ([0] : List Int)).set (w64 (((x232 ++ ([0] : List Int)).length : Int) - 1)).toNat (Go.bits .or .u8 (rd (x232 ++ ([0] : List Int)) (w64 (((x232 ++ ([0] : List Int)).length : Int) - 1))) (u8 ((u8 (Go.bits .and .i64 (shr v9 (min (n231).toNat 64)) 1)) * 2 ^ (min (w64 (7 - (Int.tmod x237 8))).toNat 8))))), (w64 (x237 + 1)), (fun i_ => [Value.int .i64 n231, Value.bool true, Value.int .i64 n231, Value.int .i64 (w64 (n231 - 1)), Value.pointer (some ⟨b1, 0, none⟩), Value.pointer (some ⟨b1, 0, none⟩), Value.pointer (some ⟨b1, 1, none⟩), Value.int .i64 x237, Value.int .i64 (Int.tmod x237 8), Value.bool true, Value.pointer (some ⟨b1, 0, none⟩), Value.pointer (some ⟨b1, 0, none⟩), Value.pointer (some ⟨b1, 0, none⟩), Value.pointer (some ⟨b1, 0, none⟩), Value.slice A233 x232.length c234, Value.slice (some ⟨b259, 0, none⟩) ([0] : List Int).length 1, Value.slice A268 ((x232 ++ ([0] : List Int)).set (w64 (((x232 ++ ([0] : List Int)).length : Int) - 1)).toNat (Go.bits .or .u8 (rd (x232 ++ ([0] : List Int)) (w64 (((x232 ++ ([0] : List Int)).length : Int) - 1))) (u8 ((u8 (Go.bits .and .i64 (shr v9 (min (n231).toNat 64)) 1)) * 2 ^ (min (w64 (7 - (Int.tmod x237 8))).toNat 8))))).length c269, Value.pointer (some ⟨b1, 0, none⟩), Value.pointer (some ⟨b1, 0, none⟩), Value.pointer (some ⟨b1, 0, none⟩), Value.pointer (some ⟨b1, 0, none⟩), Value.pointer (some ⟨b1, 0, none⟩), Value.slice A268 ((x232 ++ ([0] : List Int)).set (w64 (((x232 ++ ([0] : List Int)).length : Int) - 1)).toNat (Go.bits .or .u8 (rd (x232 ++ ([0] : List Int)) (w64 (((x232 ++ ([0] : List Int)).length : Int) - 1))) (u8 ((u8 (Go.bits .and .i64 (shr v9 (min (n231).toNat 64)) 1)) * 2 ^ (min (w64 (7 - (Int.tmod x237 8))).toNat 8))))).length c269, Value.pointer (some ⟨b1, 0, none⟩), Value.pointer (some ⟨b1, 0, none⟩), Value.pointer (some ⟨b1, 0, none⟩), Value.slice A268 ((x232 ++ ([0] : List Int)).set (w64 (((x232 ++ ([0] : List Int)).length : Int) - 1)).toNat (Go.bits .or .u8 (rd (x232 ++ ([0] : List Int)) (w64 (((x232 ++ ([0] : List Int)).length : Int) - 1))) (u8 ((u8 (Go.bits .and .i64 (shr v9 (min (n231).toNat 64)) 1)) * 2 ^ (min (w64 (7 - (Int.tmod x237 8))).toNat 8))))).length c269, Value.int .i64 ((x232 ++ ([0] : List Int)).length : Int), Value.int .i64 (w64 (((x232 ++ ([0] : List Int)).length : Int) - 1)), Value.pointer (some ⟨b288, of289 + (w64 (((x232 ++ ([0] : List Int)).length : Int) - 1) : Int).toNat * 1, none⟩), Value.int .u8 (rd (x232 ++ ([0] : List Int)) (w64 (((x232 ++ ([0] : List Int)).length : Int) - 1))), Value.int .i64 v9, Value.int .i64 n231, Value.int .i64 (shr v9 (min (n231).toNat 64)), Value.int .i64 (Go.bits .and .i64 (shr v9 (min (n231).toNat 64)) 1), Value.int .u8 (u8 (Go.bits .and .i64 (shr v9 (min (n231).toNat 64)) 1)), Value.pointer (some ⟨b1, 0, none⟩), Value.pointer (some ⟨b1, 0, none⟩), Value.pointer (some ⟨b1, 1, none⟩), Value.int .i64 x237, Value.int .i64 (Int.tmod x237 8), Value.int .i64 (w64 (7 - (Int.tmod x237 8))), Value.int .u8 (u8 ((u8 (Go.bits .and .i64 (shr v9 (min (n231).toNat 64)) 1)) * 2 ^ (min (w64 (7 - (Int.tmod x237 8))).toNat 8))), Value.int .u8 (Go.bits .or .u8 (rd (x232 ++ ([0] : List Int)) (w64 (((x232 ++ ([0] : List Int)).length : Int) - 1))) (u8 ((u8 (Go.bits .and .i64 (shr v9 (min (n231).toNat 64)) 1)) * 2 ^ (min (w64 (7 - (Int.tmod x237 8))).toNat 8)))), Value.pointer (some ⟨b288, of289 + (w64 (((x232 ++ ([0] : List Int)).length : Int) - 1) : Int).toNat * 1, none⟩), Value.pointer (some ⟨b1, 0, none⟩), Value.pointer (some ⟨b1, 0, none⟩), Value.pointer (some ⟨b1, 1, none⟩), Value.int .i64 x237, Value.int .i64 (w64 (x237 + 1)), Value.pointer (some ⟨b1, 0, none⟩), Value.pointer (some ⟨b1, 1, none⟩)].getD i_ undef), L227, HS301, HO297, h, (by kernel_rfl)⟩
   · have c258 : ¬ ((Int.tmod x237 8) = 0) := c258
     refine wpRwI 17 (x := ((Int.tmod x237 8) == 0)) (v := false) (by kernel_rfl) (beq_eq_false_iff_ne.mpr c258) ?_
     refine condF (by kernel_rfl) ?_
     refine wp_skip ?_
     refine hK254 _ _ ?_
     refine wp_seq_k (fun K302 hK303 => ?_)
     have HS304 := HS229.u1
     have HS305 := HS304.u1
     refine heldG (S := Sg t f226 (H) [(26, [(b1, .cells #[.slice A233 x232.length c234, .int .i64 x237] 80 (0, 0))]), (26, s235)]) (n := 27) (by kernel_rfl) rfl HS305 ?_
     intro W306 HS307
     refine takeG [0, 1, 2] (n := 27) (fuel := 24) (l' := #[true, true, true, false, false, false, false, false, false, false, false, false, false, false, false, false, false, false, false, false, false, false, false, false, false, false, false]) (a' := ⟨#[pV b1 0, iV v9, iV n231, uV, uV, uV, iV n10, iV (w64 (n10 - 1)), iV n231, tV, (j230 2), (j230 3), pV b1 0, pV b1 0, pV b1 1, iV x237, iV (Int.tmod x237 8), fV, (j230 10), (j230 11), (j230 12), (j230 13), (j230 14), (j230 15), (j230 16), (j230 17), (j230 18), pV b1 0, pV b1 0, pV b1 0, (j230 22), (j230 23), (j230 24), (j230 25), (j230 26), (j230 27), (j230 28), (j230 29), (j230 30), (j230 31), (j230 32), (j230 33), (j230 34), (j230 35), (j230 36), (j230 37), (j230 38), (j230 39), (j230 40), (j230 41), (j230 42), (j230 43), (j230 44), (j230 45), (j230 46), (j230 47), (j230 48), (j230 49), (j230 50), (j230 51)], []⟩) rfl (by kernel_rfl) (by kernel_rfl) (by kernel_rfl) (fun ch_ a_ w_ q_ => (fun ch_ a_ w_ q_ => hnp ch_ a_ w_ (hp18 ch_ a_ w_ q_)) ch_ a_ w_ (hp251 ch_ a_ w_ q_)) (Sg.g2 (Sx.of [[(b1, .cells #[.slice A233 x232.length c234, .int .i64 x237] 80 (0, 0))], s235] (FM.le.refl _) HS307) (fun _ => St.only [] HS307 (FM.le.refl _)) (fun _ => St.only [[(b1, .cells #[.slice A233 x232.length c234, .int .i64 x237] 80 (0, 0))]] HS307 (FM.le.refl _))) ?_
     refine takeGQ 3 [26] rfl (by kernel_rfl) (by kernel_rfl) (by kernel_rfl) (by kernel_rfl) (by kernel_rfl) (by kernel_rfl) (fun ch_ a_ w_ q_ => (fun ch_ a_ w_ q_ => hnp ch_ a_ w_ (hp18 ch_ a_ w_ q_)) ch_ a_ w_ (hp251 ch_ a_ w_ q_)) (Sg.g2 (Sx.of [[(b1, .cells #[.slice A233 x232.length c234, .int .i64 x237] 80 (0, 0))], s235] (FM.le.refl _) HS307) (fun _ => St.only [] HS307 (FM.le.refl _)) (fun _ => St.only [[(b1, .cells #[.slice A233 x232.length c234, .int .i64 x237] 80 (0, 0))]] HS307 (FM.le.refl _))) (fun w_ hw_ => by obtain ⟨g_, hl_, hS_⟩ := hw_.seg (j := 26) (s := [(b1, .cells #[.slice A233 x232.length c234, .int .i64 x237] 80 (0, 0))]) (by simp) (by simp); exact run_load rfl Tryd.underlying23 rfl (by kernel_rfl : _ = Value.pointer (some ⟨b1, 0, none⟩)) (hS_.cell 0)) ?_
     refine takeG [4, 5, 6] (n := 23) (fuel := 20) (l' := #[true, true, true, true, true, true, true, false, false, false, false, false, false, false, false, false, false, false, false, false, false, false, false, false, false, false, false]) (a' := ⟨#[pV b1 0, iV v9, iV n231, uV, uV, uV, iV n10, iV (w64 (n10 - 1)), iV n231, tV, (j230 2), (j230 3), pV b1 0, pV b1 0, pV b1 1, iV x237, iV (Int.tmod x237 8), fV, (j230 10), (j230 11), (j230 12), (j230 13), (j230 14), (j230 15), (j230 16), (j230 17), (j230 18), pV b1 0, pV b1 0, pV b1 0, .slice A233 x232.length c234, pV b1 0, pV b1 0, pV b1 0, (j230 26), (j230 27), (j230 28), (j230 29), (j230 30), (j230 31), (j230 32), (j230 33), (j230 34), (j230 35), (j230 36), (j230 37), (j230 38), (j230 39), (j230 40), (j230 41), (j230 42), (j230 43), (j230 44), (j230 45), (j230 46), (j230 47), (j230 48), (j230 49), (j230 50), (j230 51)], []⟩) rfl (by kernel_rfl) (by kernel_rfl) (by kernel_rfl) (fun ch_ a_ w_ q_ => (fun ch_ a_ w_ q_ => hnp ch_ a_ w_ (hp18 ch_ a_ w_ q_)) ch_ a_ w_ (hp251 ch_ a_ w_ q_)) (Sg.g2 (Sx.of [[(b1, .cells #[.slice A233 x232.length c234, .int .i64 x237] 80 (0, 0))], s235] (FM.le.refl _) HS307) (fun _ => St.only [] HS307 (FM.le.refl _)) (fun _ => St.only [[(b1, .cells #[.slice A233 x232.length c234, .int .i64 x237] 80 (0, 0))]] HS307 (FM.le.refl _))) ?_
     refine takeGQ 7 [26] rfl (by kernel_rfl) (by kernel_rfl) (by kernel_rfl) (by kernel_rfl) (by kernel_rfl) (by kernel_rfl) (fun ch_ a_ w_ q_ => (fun ch_ a_ w_ q_ => hnp ch_ a_ w_ (hp18 ch_ a_ w_ q_)) ch_ a_ w_ (hp251 ch_ a_ w_ q_)) (Sg.g2 (Sx.of [[(b1, .cells #[.slice A233 x232.length c234, .int .i64 x237] 80 (0, 0))], s235] (FM.le.refl _) HS307) (fun _ => St.only [] HS307 (FM.le.refl _)) (fun _ => St.only [[(b1, .cells #[.slice A233 x232.length c234, .int .i64 x237] 80 (0, 0))]] HS307 (FM.le.refl _))) (fun w_ hw_ => by obtain ⟨g_, hl_, hS_⟩ := hw_.seg (j := 26) (s := [(b1, .cells #[.slice A233 x232.length c234, .int .i64 x237] 80 (0, 0))]) (by simp) (by simp); exact run_load rfl Tryd.underlying23 rfl (by kernel_rfl : _ = Value.pointer (some ⟨b1, 0, none⟩)) (hS_.cell 0)) ?_
     have hq_ := guard_some h; clear h; obtain ⟨c308, h⟩ := hq_
     have c308 : 0 ≤ (w64 ((x232.length : Int) - 1)) := c308
     have hq_ := guard_some h; clear h; obtain ⟨c309, h⟩ := hq_
     have c309 : (w64 ((x232.length : Int) - 1)) < (x232.length : Int) := c309
     obtain ⟨b313, of314, cs310, hA315, hr311, hc312⟩ := HO236.at (i := w64 ((x232.length : Int) - 1)) c308 c309
     obtain rfl := hr311
     refine takeG [8, 9] (n := 19) (fuel := 17) (l' := #[true, true, true, true, true, true, true, true, true, true, false, false, false, false, false, false, false, false, false, false, false, false, false, false, false, false, false]) (a' := ⟨#[pV b1 0, iV v9, iV n231, uV, uV, uV, iV n10, iV (w64 (n10 - 1)), iV n231, tV, (j230 2), (j230 3), pV b1 0, pV b1 0, pV b1 1, iV x237, iV (Int.tmod x237 8), fV, (j230 10), (j230 11), (j230 12), (j230 13), (j230 14), (j230 15), (j230 16), (j230 17), (j230 18), pV b1 0, pV b1 0, pV b1 0, .slice A233 x232.length c234, pV b1 0, pV b1 0, pV b1 0, .slice A233 x232.length c234, iV (x232.length : Int), iV (w64 ((x232.length : Int) - 1)), (j230 29), (j230 30), (j230 31), (j230 32), (j230 33), (j230 34), (j230 35), (j230 36), (j230 37), (j230 38), (j230 39), (j230 40), (j230 41), (j230 42), (j230 43), (j230 44), (j230 45), (j230 46), (j230 47), (j230 48), (j230 49), (j230 50), (j230 51)], []⟩) rfl (by kernel_rfl) (by kernel_rfl) (by kernel_rfl) (fun ch_ a_ w_ q_ => (fun ch_ a_ w_ q_ => hnp ch_ a_ w_ (hp18 ch_ a_ w_ q_)) ch_ a_ w_ (hp251 ch_ a_ w_ q_)) (Sg.g2 (Sx.of [[(b1, .cells #[.slice A233 x232.length c234, .int .i64 x237] 80 (0, 0))], s235] (FM.le.refl _) HS307) (fun _ => St.only [] HS307 (FM.le.refl _)) (fun _ => St.only [[(b1, .cells #[.slice A233 x232.length c234, .int .i64 x237] 80 (0, 0))]] HS307 (FM.le.refl _))) ?_
     refine takeGQ 10 [] rfl (by kernel_rfl) (by kernel_rfl) (by kernel_rfl) (by kernel_rfl) (by kernel_rfl) (by kernel_rfl) (fun ch_ a_ w_ q_ => (fun ch_ a_ w_ q_ => hnp ch_ a_ w_ (hp18 ch_ a_ w_ q_)) ch_ a_ w_ (hp251 ch_ a_ w_ q_)) (Sg.g2 (Sx.of [[(b1, .cells #[.slice A233 x232.length c234, .int .i64 x237] 80 (0, 0))], s235] (FM.le.refl _) HS307) (fun _ => St.only [] HS307 (FM.le.refl _)) (fun _ => St.only [[(b1, .cells #[.slice A233 x232.length c234, .int .i64 x237] 80 (0, 0))]] HS307 (FM.le.refl _))) (fun w_ hw_ => by obtain ⟨g_, hl_, hS_⟩ := hw_.st; exact run_indexE hA315 (sz := 1) rfl Tryd.underlying23 (by kernel_rfl) (by kernel_rfl : _ = Value.slice A233 x232.length c234) (by kernel_rfl : _ = Value.int .i64 (w64 ((x232.length : Int) - 1))) c308 c309 w_) ?_
     refine takeGQ 11 [26] rfl (by kernel_rfl) (by kernel_rfl) (by kernel_rfl) (by kernel_rfl) (by kernel_rfl) (by kernel_rfl) (fun ch_ a_ w_ q_ => (fun ch_ a_ w_ q_ => hnp ch_ a_ w_ (hp18 ch_ a_ w_ q_)) ch_ a_ w_ (hp251 ch_ a_ w_ q_)) (Sg.g2 (Sx.of [[(b1, .cells #[.slice A233 x232.length c234, .int .i64 x237] 80 (0, 0))], s235] (FM.le.refl _) HS307) (fun _ => St.only [] HS307 (FM.le.refl _)) (fun _ => St.only [[(b1, .cells #[.slice A233 x232.length c234, .int .i64 x237] 80 (0, 0))]] HS307 (FM.le.refl _))) (fun w_ hw_ => by obtain ⟨g_, hl_, hS_⟩ := hw_.seg (j := 26) (s := s235) (by simp) (by simp); exact run_load rfl Tryd.underlying5 rfl (by kernel_rfl : _ = Value.pointer (some ⟨b313, of314 + (w64 ((x232.length : Int) - 1) : Int).toNat * 1, none⟩)) ((hc312 hS_) 0 (by decide))) ?_
     have hq_ := guard_some h; clear h; obtain ⟨c316, h⟩ := hq_
     have c316 : ¬ (n231 < 0) := c316
     refine takeG [12, 13] (n := 15) (fuel := 13) (l' := #[true, true, true, true, true, true, true, true, true, true, true, true, true, true, false, false, false, false, false, false, false, false, false, false, false, false, false]) (a' := ⟨#[pV b1 0, iV v9, iV n231, uV, uV, uV, iV n10, iV (w64 (n10 - 1)), iV n231, tV, (j230 2), (j230 3), pV b1 0, pV b1 0, pV b1 1, iV x237, iV (Int.tmod x237 8), fV, (j230 10), (j230 11), (j230 12), (j230 13), (j230 14), (j230 15), (j230 16), (j230 17), (j230 18), pV b1 0, pV b1 0, pV b1 0, .slice A233 x232.length c234, pV b1 0, pV b1 0, pV b1 0, .slice A233 x232.length c234, iV (x232.length : Int), iV (w64 ((x232.length : Int) - 1)), pV b313 (of314 + (w64 ((x232.length : Int) - 1) : Int).toNat * 1), .int .u8 (rd x232 (w64 ((x232.length : Int) - 1))), iV v9, iV n231, (j230 33), (j230 34), (j230 35), (j230 36), (j230 37), (j230 38), (j230 39), (j230 40), (j230 41), (j230 42), (j230 43), (j230 44), (j230 45), (j230 46), (j230 47), (j230 48), (j230 49), (j230 50), (j230 51)], []⟩) rfl (by kernel_rfl) (by kernel_rfl) (by kernel_rfl) (fun ch_ a_ w_ q_ => (fun ch_ a_ w_ q_ => hnp ch_ a_ w_ (hp18 ch_ a_ w_ q_)) ch_ a_ w_ (hp251 ch_ a_ w_ q_)) (Sg.g2 (Sx.of [[(b1, .cells #[.slice A233 x232.length c234, .int .i64 x237] 80 (0, 0))], s235] (FM.le.refl _) HS307) (fun _ => St.only [] HS307 (FM.le.refl _)) (fun _ => St.only [[(b1, .cells #[.slice A233 x232.length c234, .int .i64 x237] 80 (0, 0))]] HS307 (FM.le.refl _))) ?_
     refine takeGQ 14 [] rfl (by kernel_rfl) (by kernel_rfl) (by kernel_rfl) (by kernel_rfl) (by kernel_rfl) (by kernel_rfl) (fun ch_ a_ w_ q_ => (fun ch_ a_ w_ q_ => hnp ch_ a_ w_ (hp18 ch_ a_ w_ q_)) ch_ a_ w_ (hp251 ch_ a_ w_ q_)) (Sg.g2 (Sx.of [[(b1, .cells #[.slice A233 x232.length c234, .int .i64 x237] 80 (0, 0))], s235] (FM.le.refl _) HS307) (fun _ => St.only [] HS307 (FM.le.refl _)) (fun _ => St.only [[(b1, .cells #[.slice A233 x232.length c234, .int .i64 x237] 80 (0, 0))]] HS307 (FM.le.refl _))) (fun w_ hw_ => by obtain ⟨g_, hl_, hS_⟩ := hw_.st; exact run_shr rfl (by kernel_rfl : _ = Value.int .i64 v9) (by kernel_rfl : _ = Value.int .i64 n231) c316 w_) ?_
     refine takeG [15, 16, 17, 18, 19] (n := 12) (fuel := 7) (l' := #[true, true, true, true, true, true, true, true, true, true, true, true, true, true, true, true, true, true, true, true, false, false, false, false, false, false, false]) (a' := ⟨#[pV b1 0, iV v9, iV n231, uV, uV, uV, iV n10, iV (w64 (n10 - 1)), iV n231, tV, (j230 2), (j230 3), pV b1 0, pV b1 0, pV b1 1, iV x237, iV (Int.tmod x237 8), fV, (j230 10), (j230 11), (j230 12), (j230 13), (j230 14), (j230 15), (j230 16), (j230 17), (j230 18), pV b1 0, pV b1 0, pV b1 0, .slice A233 x232.length c234, pV b1 0, pV b1 0, pV b1 0, .slice A233 x232.length c234, iV (x232.length : Int), iV (w64 ((x232.length : Int) - 1)), pV b313 (of314 + (w64 ((x232.length : Int) - 1) : Int).toNat * 1), .int .u8 (rd x232 (w64 ((x232.length : Int) - 1))), iV v9, iV n231, iV (shr v9 (min (n231).toNat 64)), iV (Go.bits .and .i64 (shr v9 (min (n231).toNat 64)) 1), .int .u8 (u8 (Go.bits .and .i64 (shr v9 (min (n231).toNat 64)) 1)), pV b1 0, pV b1 0, pV b1 1, (j230 39), (j230 40), (j230 41), (j230 42), (j230 43), (j230 44), (j230 45), (j230 46), (j230 47), (j230 48), (j230 49), (j230 50), (j230 51)], []⟩) rfl (by kernel_rfl) (by kernel_rfl) (by kernel_rfl) (fun ch_ a_ w_ q_ => (fun ch_ a_ w_ q_ => hnp ch_ a_ w_ (hp18 ch_ a_ w_ q_)) ch_ a_ w_ (hp251 ch_ a_ w_ q_)) (Sg.g2 (Sx.of [[(b1, .cells #[.slice A233 x232.length c234, .int .i64 x237] 80 (0, 0))], s235] (FM.le.refl _) HS307) (fun _ => St.only [] HS307 (FM.le.refl _)) (fun _ => St.only [[(b1, .cells #[.slice A233 x232.length c234, .int .i64 x237] 80 (0, 0))]] HS307 (FM.le.refl _))) ?_
     refine takeGQ 20 [26] rfl (by kernel_rfl) (by kernel_rfl) (by kernel_rfl) (by kernel_rfl) (by kernel_rfl) (by kernel_rfl) (fun ch_ a_ w_ q_ => (fun ch_ a_ w_ q_ => hnp ch_ a_ w_ (hp18 ch_ a_ w_ q_)) ch_ a_ w_ (hp251 ch_ a_ w_ q_)) (Sg.g2 (Sx.of [[(b1, .cells #[.slice A233 x232.length c234, .int .i64 x237] 80 (0, 0))], s235] (FM.le.refl _) HS307) (fun _ => St.only [] HS307 (FM.le.refl _)) (fun _ => St.only [[(b1, .cells #[.slice A233 x232.length c234, .int .i64 x237] 80 (0, 0))]] HS307 (FM.le.refl _))) (fun w_ hw_ => by obtain ⟨g_, hl_, hS_⟩ := hw_.seg (j := 26) (s := [(b1, .cells #[.slice A233 x232.length c234, .int .i64 x237] 80 (0, 0))]) (by simp) (by simp); exact run_load rfl Tryd.underlying3 rfl (by kernel_rfl : _ = Value.pointer (some ⟨b1, 1, none⟩)) (hS_.cell 1)) ?_
     have hq_ := guard_some h; clear h; obtain ⟨c317, h⟩ := hq_
     have c317 : ¬ ((w64 (7 - (Int.tmod x237 8))) < 0) := c317
     refine takeG [21, 22] (n := 6) (fuel := 4) (l' := #[true, true, true, true, true, true, true, true, true, true, true, true, true, true, true, true, true, true, true, true, true, true, true, false, false, false, false]) (a' := ⟨#[pV b1 0, iV v9, iV n231, uV, uV, uV, iV n10, iV (w64 (n10 - 1)), iV n231, tV, (j230 2), (j230 3), pV b1 0, pV b1 0, pV b1 1, iV x237, iV (Int.tmod x237 8), fV, (j230 10), (j230 11), (j230 12), (j230 13), (j230 14), (j230 15), (j230 16), (j230 17), (j230 18), pV b1 0, pV b1 0, pV b1 0, .slice A233 x232.length c234, pV b1 0, pV b1 0, pV b1 0, .slice A233 x232.length c234, iV (x232.length : Int), iV (w64 ((x232.length : Int) - 1)), pV b313 (of314 + (w64 ((x232.length : Int) - 1) : Int).toNat * 1), .int .u8 (rd x232 (w64 ((x232.length : Int) - 1))), iV v9, iV n231, iV (shr v9 (min (n231).toNat 64)), iV (Go.bits .and .i64 (shr v9 (min (n231).toNat 64)) 1), .int .u8 (u8 (Go.bits .and .i64 (shr v9 (min (n231).toNat 64)) 1)), pV b1 0, pV b1 0, pV b1 1, iV x237, iV (Int.tmod x237 8), iV (w64 (7 - (Int.tmod x237 8))), (j230 42), (j230 43), (j230 44), (j230 45), (j230 46), (j230 47), (j230 48), (j230 49), (j230 50), (j230 51)], []⟩) rfl (by kernel_rfl) (by kernel_rfl) (by kernel_rfl) (fun ch_ a_ w_ q_ => (fun ch_ a_ w_ q_ => hnp ch_ a_ w_ (hp18 ch_ a_ w_ q_)) ch_ a_ w_ (hp251 ch_ a_ w_ q_)) (Sg.g2 (Sx.of [[(b1, .cells #[.slice A233 x232.length c234, .int .i64 x237] 80 (0, 0))], s235] (FM.le.refl _) HS307) (fun _ => St.only [] HS307 (FM.le.refl _)) (fun _ => St.only [[(b1, .cells #[.slice A233 x232.length c234, .int .i64 x237] 80 (0, 0))]] HS307 (FM.le.refl _))) ?_
     refine takeGQ 23 [] rfl (by kernel_rfl) (by kernel_rfl) (by kernel_rfl) (by kernel_rfl) (by kernel_rfl) (by kernel_rfl) (fun ch_ a_ w_ q_ => (fun ch_ a_ w_ q_ => hnp ch_ a_ w_ (hp18 ch_ a_ w_ q_)) ch_ a_ w_ (hp251 ch_ a_ w_ q_)) (Sg.g2 (Sx.of [[(b1, .cells #[.slice A233 x232.length c234, .int .i64 x237] 80 (0, 0))], s235] (FM.le.refl _) HS307) (fun _ => St.only [] HS307 (FM.le.refl _)) (fun _ => St.only [[(b1, .cells #[.slice A233 x232.length c234, .int .i64 x237] 80 (0, 0))]] HS307 (FM.le.refl _))) (fun w_ hw_ => by obtain ⟨g_, hl_, hS_⟩ := hw_.st; exact run_shl rfl (by kernel_rfl : _ = Value.int .u8 (u8 (Go.bits .and .i64 (shr v9 (min (n231).toNat 64)) 1))) (by kernel_rfl : _ = Value.int .i64 (w64 (7 - (Int.tmod x237 8)))) c317 w_) ?_
     refine takeG [24] (n := 3) (fuel := 2) (l' := #[true, true, true, true, true, true, true, true, true, true, true, true, true, true, true, true, true, true, true, true, true, true, true, true, true, false, false]) (a' := ⟨#[pV b1 0, iV v9, iV n231, uV, uV, uV, iV n10, iV (w64 (n10 - 1)), iV n231, tV, (j230 2), (j230 3), pV b1 0, pV b1 0, pV b1 1, iV x237, iV (Int.tmod x237 8), fV, (j230 10), (j230 11), (j230 12), (j230 13), (j230 14), (j230 15), (j230 16), (j230 17), (j230 18), pV b1 0, pV b1 0, pV b1 0, .slice A233 x232.length c234, pV b1 0, pV b1 0, pV b1 0, .slice A233 x232.length c234, iV (x232.length : Int), iV (w64 ((x232.length : Int) - 1)), pV b313 (of314 + (w64 ((x232.length : Int) - 1) : Int).toNat * 1), .int .u8 (rd x232 (w64 ((x232.length : Int) - 1))), iV v9, iV n231, iV (shr v9 (min (n231).toNat 64)), iV (Go.bits .and .i64 (shr v9 (min (n231).toNat 64)) 1), .int .u8 (u8 (Go.bits .and .i64 (shr v9 (min (n231).toNat 64)) 1)), pV b1 0, pV b1 0, pV b1 1, iV x237, iV (Int.tmod x237 8), iV (w64 (7 - (Int.tmod x237 8))), .int .u8 (u8 ((u8 (Go.bits .and .i64 (shr v9 (min (n231).toNat 64)) 1)) * 2 ^ (min (w64 (7 - (Int.tmod x237 8))).toNat 8))), .int .u8 (Go.bits .or .u8 (rd x232 (w64 ((x232.length : Int) - 1))) (u8 ((u8 (Go.bits .and .i64 (shr v9 (min (n231).toNat 64)) 1)) * 2 ^ (min (w64 (7 - (Int.tmod x237 8))).toNat 8)))), (j230 44), (j230 45), (j230 46), (j230 47), (j230 48), (j230 49), (j230 50), (j230 51)], []⟩) rfl (by kernel_rfl) (by kernel_rfl) (by kernel_rfl) (fun ch_ a_ w_ q_ => (fun ch_ a_ w_ q_ => hnp ch_ a_ w_ (hp18 ch_ a_ w_ q_)) ch_ a_ w_ (hp251 ch_ a_ w_ q_)) (Sg.g2 (Sx.of [[(b1, .cells #[.slice A233 x232.length c234, .int .i64 x237] 80 (0, 0))], s235] (FM.le.refl _) HS307) (fun _ => St.only [] HS307 (FM.le.refl _)) (fun _ => St.only [[(b1, .cells #[.slice A233 x232.length c234, .int .i64 x237] 80 (0, 0))]] HS307 (FM.le.refl _))) ?_
     refine takeGQ 25 [] rfl (by kernel_rfl) (by kernel_rfl) (by kernel_rfl) (by kernel_rfl) (by kernel_rfl) (by kernel_rfl) (fun ch_ a_ w_ q_ => (fun ch_ a_ w_ q_ => hnp ch_ a_ w_ (hp18 ch_ a_ w_ q_)) ch_ a_ w_ (hp251 ch_ a_ w_ q_)) (Sg.g2 (Sx.of [[(b1, .cells #[.slice A233 x232.length c234, .int .i64 x237] 80 (0, 0))], s235] (FM.le.refl _) HS307) (fun _ => St.only [] HS307 (FM.le.refl _)) (fun _ => St.only [[(b1, .cells #[.slice A233 x232.length c234, .int .i64 x237] 80 (0, 0))]] HS307 (FM.le.refl _))) (fun w_ hw_ => by obtain ⟨g_, hl_, hS_⟩ := hw_.st; exact run_indexE hA315 (sz := 1) rfl Tryd.underlying23 (by kernel_rfl) (by kernel_rfl : _ = Value.slice A233 x232.length c234) (by kernel_rfl : _ = Value.int .i64 (w64 ((x232.length : Int) - 1))) c308 c309 w_) ?_
     have HS318 := HS307.u1
     refine takeGE 26 (by kernel_rfl) rfl (by kernel_rfl) (does_put (e := (tInt .u8)) (E := 5) (vs := [.int .u8 (Go.bits .or .u8 (rd x232 (w64 ((x232.length : Int) - 1))) (u8 ((u8 (Go.bits .and .i64 (shr v9 (min (n231).toNat 64)) 1)) * 2 ^ (min (w64 (7 - (Int.tmod x237 8))).toNat 8))))]) (u := Go.bits .or .u8 (rd x232 (w64 ((x232.length : Int) - 1))) (u8 ((u8 (Go.bits .and .i64 (shr v9 (min (n231).toNat 64)) 1)) * 2 ^ (min (w64 (7 - (Int.tmod x237 8))).toNat 8)))) (i := w64 ((x232.length : Int) - 1)) rfl (by kernel_rfl) HO236 HS318 hA315 (by kernel_rfl : _ = Value.pointer (some ⟨b313, of314 + (w64 ((x232.length : Int) - 1) : Int).toNat * 1, none⟩)) (by kernel_rfl : _ = Value.int .u8 (Go.bits .or .u8 (rd x232 (w64 ((x232.length : Int) - 1))) (u8 ((u8 (Go.bits .and .i64 (shr v9 (min (n231).toNat 64)) 1)) * 2 ^ (min (w64 (7 - (Int.tmod x237 8))).toNat 8))))) rfl rfl c308 c309 ?_)
     intro W319 s320 HS321 HO322
     have HS323 : St t W319 f226 (s320 :: [(b1, .cells #[.slice A233 (x232.set (w64 ((x232.length : Int) - 1)).toNat (Go.bits .or .u8 (rd x232 (w64 ((x232.length : Int) - 1))) (u8 ((u8 (Go.bits .and .i64 (shr v9 (min (n231).toNat 64)) 1)) * 2 ^ (min (w64 (7 - (Int.tmod x237 8))).toNat 8))))).length c234, .int .i64 x237] 80 (0, 0))] :: H) := by rw [show (x232.set (w64 ((x232.length : Int) - 1)).toNat (Go.bits .or .u8 (rd x232 (w64 ((x232.length : Int) - 1))) (u8 ((u8 (Go.bits .and .i64 (shr v9 (min (n231).toNat 64)) 1)) * 2 ^ (min (w64 (7 - (Int.tmod x237 8))).toNat 8))))).length = x232.length from List.length_set]; exact HS321
     refine ⟨(Sg.g2 (Sx.of [s320, [(b1, .cells #[.slice A233 (x232.set (w64 ((x232.length : Int) - 1)).toNat (Go.bits .or .u8 (rd x232 (w64 ((x232.length : Int) - 1))) (u8 ((u8 (Go.bits .and .i64 (shr v9 (min (n231).toNat 64)) 1)) * 2 ^ (min (w64 (7 - (Int.tmod x237 8))).toNat 8))))).length c234, .int .i64 x237] 80 (0, 0))]] (FM.le.refl _) HS323) (fun hl_ => Bool.noConfusion (show true = false from hl_)) (fun hl_ => Bool.noConfusion (show true = false from hl_))), ?_⟩
     refine gateRwS 30 (A := A233) (m := x232.length) (n := (x232.set (w64 ((x232.length : Int) - 1)).toNat (Go.bits .or .u8 (rd x232 (w64 ((x232.length : Int) - 1))) (u8 ((u8 (Go.bits .and .i64 (shr v9 (min (n231).toNat 64)) 1)) * 2 ^ (min (w64 (7 - (Int.tmod x237 8))).toNat 8))))).length) (c := c234) (by kernel_rfl) (List.length_set).symm ?_
     refine gateRwS 34 (A := A233) (m := x232.length) (n := (x232.set (w64 ((x232.length : Int) - 1)).toNat (Go.bits .or .u8 (rd x232 (w64 ((x232.length : Int) - 1))) (u8 ((u8 (Go.bits .and .i64 (shr v9 (min (n231).toNat 64)) 1)) * 2 ^ (min (w64 (7 - (Int.tmod x237 8))).toNat 8))))).length) (c := c234) (by kernel_rfl) (List.length_set).symm ?_
     refine doneG (by kernel_rfl) ?_ _
     refine hK303 _ _ ?_
     refine wp_region_lit ?_
     refine seqL3 (by kernel_rfl) ?_
     refine seqK rfl (does_run (run_load rfl Tryd.underlying3 rfl (by kernel_rfl : _ = Value.pointer (some ⟨b1, 1, none⟩)) (HS323.u1.cell 1)) ?_)
     have HS324 := HS323.u1
     refine seqL3 (by kernel_rfl) ?_
     refine seqK rfl (does_store (n := 1) (vs := [.int .i64 (w64 (x237 + 1))]) (cs' := #[.slice A233 (x232.set (w64 ((x232.length : Int) - 1)).toNat (Go.bits .or .u8 (rd x232 (w64 ((x232.length : Int) - 1))) (u8 ((u8 (Go.bits .and .i64 (shr v9 (min (n231).toNat 64)) 1)) * 2 ^ (min (w64 (7 - (Int.tmod x237 8))).toNat 8))))).length c234, .int .i64 (w64 (x237 + 1))]) rfl (by kernel_rfl) (by kernel_rfl : _ = Value.pointer (some ⟨b1, 1, none⟩)) (by kernel_rfl : _ = Value.int .i64 (w64 (x237 + 1))) rfl rfl (by intro u_ hu_; simp only [List.mem_cons, List.not_mem_nil, or_false] at hu_; subst hu_; rfl) HS324 (Nat.le_of_ble_eq_true rfl) (by kernel_rfl) ?_)
     intro W325 HS326
     refine wpList_nil ?_
     refine hn248 _ _ ?_
     refine hK245 _ _ ?_
     refine wp_region_lit ?_
     refine seqS3 (a' := ⟨#[pV b1 0, iV v9, iV (w64 (n231 - 1)), uV, uV, uV, iV n10, iV (w64 (n10 - 1)), iV n231, tV, iV n231, iV (w64 (n231 - 1)), pV b1 0, pV b1 0, pV b1 1, iV x237, iV (Int.tmod x237 8), fV, (j230 10), (j230 11), (j230 12), (j230 13), (j230 14), (j230 15), (j230 16), (j230 17), (j230 18), pV b1 0, pV b1 0, pV b1 0, .slice A233 (x232.set (w64 ((x232.length : Int) - 1)).toNat (Go.bits .or .u8 (rd x232 (w64 ((x232.length : Int) - 1))) (u8 ((u8 (Go.bits .and .i64 (shr v9 (min (n231).toNat 64)) 1)) * 2 ^ (min (w64 (7 - (Int.tmod x237 8))).toNat 8))))).length c234, pV b1 0, pV b1 0, pV b1 0, .slice A233 (x232.set (w64 ((x232.length : Int) - 1)).toNat (Go.bits .or .u8 (rd x232 (w64 ((x232.length : Int) - 1))) (u8 ((u8 (Go.bits .and .i64 (shr v9 (min (n231).toNat 64)) 1)) * 2 ^ (min (w64 (7 - (Int.tmod x237 8))).toNat 8))))).length c234, iV (x232.length : Int), iV (w64 ((x232.length : Int) - 1)), pV b313 (of314 + (w64 ((x232.length : Int) - 1) : Int).toNat * 1), .int .u8 (rd x232 (w64 ((x232.length : Int) - 1))), iV v9, iV n231, iV (shr v9 (min (n231).toNat 64)), iV (Go.bits .and .i64 (shr v9 (min (n231).toNat 64)) 1), .int .u8 (u8 (Go.bits .and .i64 (shr v9 (min (n231).toNat 64)) 1)), pV b1 0, pV b1 0, pV b1 1, iV x237, iV (Int.tmod x237 8), iV (w64 (7 - (Int.tmod x237 8))), .int .u8 (u8 ((u8 (Go.bits .and .i64 (shr v9 (min (n231).toNat 64)) 1)) * 2 ^ (min (w64 (7 - (Int.tmod x237 8))).toNat 8))), .int .u8 (Go.bits .or .u8 (rd x232 (w64 ((x232.length : Int) - 1))) (u8 ((u8 (Go.bits .and .i64 (shr v9 (min (n231).toNat 64)) 1)) * 2 ^ (min (w64 (7 - (Int.tmod x237 8))).toNat 8)))), pV b313 (of314 + (w64 ((x232.length : Int) - 1) : Int).toNat * 1), pV b1 0, pV b1 0, pV b1 1, iV x237, iV (w64 (x237 + 1)), pV b1 0, pV b1 1], []⟩) (by kernel_rfl) ?_
     refine wpList_nil ?_
     refine hK224 n225 _ _ (Nat.lt_succ_self _) ?_
     exact ⟨f226, A233, c234, s320, (w64 (n231 - 1)), (x232.set (w64 ((x232.length : Int) - 1)).toNat (Go.bits .or .u8 (rd x232 (w64 ((x232.length : Int) - 1))) (u8 ((u8 (Go.bits .and .i64 (shr v9 (min (n231).toNat 64)) 1)) * 2 ^ (min (w64 (7 - (Int.tmod x237 8))).toNat 8))))), (w64 (x237 + 1)), (fun i_ => [Value.int .i64 n231, Value.bool true, Value.int .i64 n231, Value.int .i64 (w64 (n231 - 1)), Value.pointer (some ⟨b1, 0, none⟩), Value.pointer (some ⟨b1, 0, none⟩), Value.pointer (some ⟨b1, 1, none⟩), Value.int .i64 x237, Value.int .i64 (Int.tmod x237 8), Value.bool false, (j230 10), (j230 11), (j230 12), (j230 13), (j230 14), (j230 15), (j230 16), (j230 17), (j230 18), Value.pointer (some ⟨b1, 0, none⟩), Value.pointer (some ⟨b1, 0, none⟩), Value.pointer (some ⟨b1, 0, none⟩), Value.slice A233 (x232.set (w64 ((x232.length : Int) - 1)).toNat (Go.bits .or .u8 (rd x232 (w64 ((x232.length : Int) - 1))) (u8 ((u8 (Go.bits .and .i64 (shr v9 (min (n231).toNat 64)) 1)) * 2 ^ (min (w64 (7 - (Int.tmod x237 8))).toNat 8))))).length c234, Value.pointer (some ⟨b1, 0, none⟩), Value.pointer (some ⟨b1, 0, none⟩), Value.pointer (some ⟨b1, 0, none⟩), Value.slice A233 (x232.set (w64 ((x232.length : Int) - 1)).toNat (Go.bits .or .u8 (rd x232 (w64 ((x232.length : Int) - 1))) (u8 ((u8 (Go.bits .and .i64 (shr v9 (min (n231).toNat 64)) 1)) * 2 ^ (min (w64 (7 - (Int.tmod x237 8))).toNat 8))))).length c234, Value.int .i64 (x232.length : Int), Value.int .i64 (w64 ((x232.length : Int) - 1)), Value.pointer (some ⟨b313, of314 + (w64 ((x232.length : Int) - 1) : Int).toNat * 1, none⟩), Value.int .u8 (rd x232 (w64 ((x232.length : Int) - 1))), Value.int .i64 v9, Value.int .i64 n231, Value.int .i64 (shr v9 (min (n231).toNat 64)), Value.int .i64 (Go.bits .and .i64 (shr v9 (min (n231).toNat 64)) 1), Value.int .u8 (u8 (Go.bits .and .i64 (shr v9 (min (n231).toNat 64)) 1)), Value.pointer (some ⟨b1, 0, none⟩), Value.pointer (some ⟨b1, 0, none⟩), Value.pointer (some ⟨b1, 1, none⟩), Value.int .i64 x237, Value.int .i64 (Int.tmod x237 8), Value.int .i64 (w64 (7 - (Int.tmod x237 8))), Value.int .u8 (u8 ((u8 (Go.bits .and .i64 (shr v9 (min (n231).toNat 64)) 1)) * 2 ^ (min (w64 (7 - (Int.tmod x237 8))).toNat 8))), Value.int .u8 (Go.bits .or .u8 (rd x232 (w64 ((x232.length : Int) - 1))) (u8 ((u8 (Go.bits .and .i64 (shr v9 (min (n231).toNat 64)) 1)) * 2 ^ (min (w64 (7 - (Int.tmod x237 8))).toNat 8)))), Value.pointer (some ⟨b313, of314 + (w64 ((x232.length : Int) - 1) : Int).toNat * 1, none⟩), Value.pointer (some ⟨b1, 0, none⟩), Value.pointer (some ⟨b1, 0, none⟩), Value.pointer (some ⟨b1, 1, none⟩), Value.int .i64 x237, Value.int .i64 (w64 (x237 + 1)), Value.pointer (some ⟨b1, 0, none⟩), Value.pointer (some ⟨b1, 1, none⟩)].getD i_ undef), L227, HS326, HO322, h, (by kernel_rfl)⟩
 · have c243 : ¬ (n231 ≥ 0) := c243
   refine wpRwI 9 (x := (decide (n231 ≥ 0))) (v := false) (by kernel_rfl) (decide_eq_false c243) ?_
   refine condF (by kernel_rfl) ?_
   refine wp_exit ?_
   refine hx14 _ _ ?_
   exact J339 f226 A233 c234 s235 x232 x237 (fun i_ => [Value.int .i64 n231, Value.int .i64 n231, Value.bool false, (j230 2), (j230 3), (j230 4), (j230 5), (j230 6), (j230 7), (j230 8), (j230 9), (j230 10), (j230 11), (j230 12), (j230 13), (j230 14), (j230 15), (j230 16), (j230 17), (j230 18), (j230 19), (j230 20), (j230 21), (j230 22), (j230 23), (j230 24), (j230 25), (j230 26), (j230 27), (j230 28), (j230 29), (j230 30), (j230 31), (j230 32), (j230 33), (j230 34), (j230 35), (j230 36), (j230 37), (j230 38), (j230 39), (j230 40), (j230 41), (j230 42), (j230 43), (j230 44), (j230 45), (j230 46), (j230 47), (j230 48), (j230 49), (j230 50), (j230 51)].getD i_ undef) W228 _ L227 h HS229 HO236 (by kernel_rfl)

set_option maxRecDepth 100000 in
set_option maxHeartbeats 4000000 in
theorem squeeze_fold.calls (k : Nat)  (d1 : Int) {t w : World} {f : FM} {H : List Seg} (HS : St t w f (H)) (rr1 : Int) (h : squeeze_fold k d1 = some rr1) :
    Calls Tryd.prog 32 #[.int .i64 d1] w (fun e w' => ∃ (g : FM), e = .returned (Value.int .i64 rr1) ∧ FM.le f g ∧ St t w' g (H)) := by
 unfold squeeze_fold at h
 refine enter Tryd.func32 rfl (tm := #[iV d1, uV, uV, uV, uV, uV, uV, uV, uV, uV]) (by kernel_rfl) ?_
 intro B hret hnor hnp
 refine wp_seq_k (fun K2 hK3 => ?_)
 refine wp_region_lit ?_
 refine seqS1 (a' := ⟨#[iV d1, uV, iV 0, uV, uV, uV, uV, uV, uV, uV], []⟩) (by kernel_rfl) ?_
 refine wpList_nil ?_
 refine hK3 _ _ ?_
 refine wp_seq_k (fun K4 hK5 => ?_)
 refine wp_seq_k (fun K6 hK7 => ?_)
 refine wp_region_lit ?_
 refine seqS2 (a' := ⟨#[iV d1, uV, iV 0, iV d1, .bool (decide (d1 < 0)), uV, uV, uV, uV, uV], []⟩) (by kernel_rfl) ?_
 refine wpList_nil ?_
 refine hK7 _ _ ?_
 have hq_ := ite_some h; clear h; rcases hq_ with ⟨c9, h⟩ | ⟨c9, h⟩
 · have c9 : d1 < 0 := c9
   refine wpRwI 4 (x := (decide (d1 < 0))) (v := true) (by kernel_rfl) (decide_eq_true c9) ?_
   refine condT (by kernel_rfl) ?_
   refine wp_seq_k (fun K10 hK11 => ?_)
   refine wp_region_lit ?_
   refine seqS4 (a' := ⟨#[iV d1, uV, iV (w64 ((w64 ((-2) * d1)) - 1)), iV d1, tV, iV d1, iV (w64 ((-2) * d1)), iV (w64 ((w64 ((-2) * d1)) - 1)), uV, uV], []⟩) (by kernel_rfl) ?_
   refine wpList_nil ?_
   refine hK11 _ _ ?_
   refine wp_ret ?_
   refine hret _ _ ?_
   refine ends_still (v := Value.int .i64 (w64 ((w64 ((-2) * d1)) - 1))) (by kernel_rfl) (by kernel_rfl) ?_
   injection h with h
   subst h
   exact ⟨f, rfl, FM.le.refl _, HS⟩
 · have c9 : ¬ (d1 < 0) := c9
   refine wpRwI 4 (x := (decide (d1 < 0))) (v := false) (by kernel_rfl) (decide_eq_false c9) ?_
   refine condF (by kernel_rfl) ?_
   refine wp_skip ?_
   refine hK5 _ _ ?_
   refine wp_seq_k (fun K12 hK13 => ?_)
   refine wp_region_lit ?_
   refine seqS3 (a' := ⟨#[iV d1, uV, iV (w64 (2 * d1)), iV d1, fV, uV, uV, uV, iV d1, iV (w64 (2 * d1))], []⟩) (by kernel_rfl) ?_
   refine wpList_nil ?_
   refine hK13 _ _ ?_
   refine wp_ret ?_
   refine hret _ _ ?_
   refine ends_still (v := Value.int .i64 (w64 (2 * d1))) (by kernel_rfl) (by kernel_rfl) ?_
   injection h with h
   subst h
   exact ⟨f, rfl, FM.le.refl _, HS⟩

set_option maxRecDepth 100000 in
set_option maxHeartbeats 4000000 in
theorem squeeze_cost.calls (k : Nat) (A2 : Option Addr) (c3 : Nat) (group1 : List Int) (vk5 : Int) {t w : World} {f : FM} {H : List Seg} (HS : St t w f (H)) (HR4 : SlR (tInt .i64) f A2 c3 group1) (rr1 : Int) (h : squeeze_cost k group1 vk5 = some rr1) :
    Calls Tryd.prog 33 #[.slice A2 group1.length c3, .int .i64 vk5] w (fun e w' => ∃ (g : FM), e = .returned (Value.int .i64 rr1) ∧ FM.le f g ∧ St t w' g (H)) := by
 unfold squeeze_cost at h
 refine enter Tryd.func33 rfl (tm := #[.slice A2 group1.length c3, iV vk5, uV, uV, uV, uV, uV, uV, uV, uV, uV, uV, uV, uV, uV, uV, uV, uV, uV, uV, uV, uV, uV, uV, uV, uV, uV, uV]) (by kernel_rfl) ?_
 intro B hret hnor hnp
 refine wp_seq_k (fun K6 hK7 => ?_)
 refine wp_region_lit ?_
 refine seqS1 (a' := ⟨#[.slice A2 group1.length c3, iV vk5, uV, uV, iV 0, uV, uV, uV, uV, uV, uV, uV, uV, uV, uV, uV, uV, uV, uV, uV, uV, uV, uV, uV, uV, uV, uV, uV], []⟩) (by kernel_rfl) ?_
 refine wpList_nil ?_
 refine hK7 _ _ ?_
 refine wp_seq_k (fun K8 hK9 => ?_)
 refine wp_region_lit ?_
 refine seqS1 (a' := ⟨#[.slice A2 group1.length c3, iV vk5, uV, uV, iV 0, iV 0, uV, uV, uV, uV, uV, uV, uV, uV, uV, uV, uV, uV, uV, uV, uV, uV, uV, uV, uV, uV, uV, uV], []⟩) (by kernel_rfl) ?_
 refine wpList_nil ?_
 refine hK9 _ _ ?_
 refine wp_seq_k (fun K10 hK11 => ?_)
 refine wp_seq_k (fun K12 hK13 => ?_)
 refine wp_region_lit ?_
 refine seqS3 (a' := ⟨#[.slice A2 group1.length c3, iV vk5, uV, uV, iV 0, iV 0, uV, uV, .slice A2 group1.length c3, iV (group1.length : Int), iV 0, uV, uV, uV, uV, uV, uV, uV, uV, uV, uV, uV, uV, uV, uV, uV, uV, uV], []⟩) (by kernel_rfl) ?_
 refine wpList_nil ?_
 refine hK13 _ _ ?_
 refine blockK (fun B14 hx15 hn16 hr17 ho18 hp19 => ?_)
 have hq_ := bind_some h; clear h; obtain ⟨o20, hv66, h⟩ := hq_
 have J67 : ∀ (f60 : FM) (n65 : Int) (j64 : Nat → Value) (W62 : World) (a_ : Act), FM.le f f60 → some (n65) = some o20 → St t W62 f60 (H) → a_ = ⟨#[.slice A2 group1.length c3, iV vk5, uV, uV, iV 0, iV n65, uV, (j64 0), .slice A2 group1.length c3, iV (group1.length : Int), (j64 1), (j64 2), (j64 3), (j64 4), (j64 5), (j64 6), (j64 7), (j64 8), (j64 9), (j64 10), (j64 11), (j64 12), (j64 13), (j64 14), (j64 15), (j64 16), (j64 17), uV], []⟩ → K10 a_ W62 := by
  intro f60 n65 j64 W62 a_ L61 hj68 HS63  hfr_; subst hfr_
  injection hj68 with hj68; subst hj68; try dsimp only at h
  refine hK11 _ _ ?_
  refine wp_seq_k (fun K69 hK70 => ?_)
  refine wp_region_lit ?_
  refine seqS2 (a' := ⟨#[.slice A2 group1.length c3, iV vk5, uV, uV, iV n65, iV n65, uV, (j64 0), .slice A2 group1.length c3, iV (group1.length : Int), (j64 1), (j64 2), (j64 3), (j64 4), (j64 5), (j64 6), (j64 7), (j64 8), (j64 9), (j64 10), (j64 11), (j64 12), (j64 13), (j64 14), (j64 15), (j64 16), (j64 17), iV n65], []⟩) (by kernel_rfl) ?_
  refine wpList_nil ?_
  refine hK70 _ _ ?_
  refine wp_ret ?_
  refine hret _ _ ?_
  refine ends_still (v := Value.int .i64 n65) (by kernel_rfl) (by kernel_rfl) ?_
  injection h with h
  subst h
  exact ⟨f60, rfl, L61, HS63⟩
 clear h; have h := hv66; clear hv66
 refine loopK (fun n_ a_ w_ => ∃ (f24 : FM) (n29 : Int) (x30 : Int) (j28 : Nat → Value), FM.le f f24 ∧ St t w_ f24 (H) ∧ squeeze_cost.l0 k group1 vk5 n_ n29 x30 = some o20 ∧ a_ = ⟨#[.slice A2 group1.length c3, iV vk5, uV, uV, iV 0, iV n29, uV, (j28 0), .slice A2 group1.length c3, iV (group1.length : Int), iV x30, (j28 1), (j28 2), (j28 3), (j28 4), (j28 5), (j28 6), (j28 7), (j28 8), (j28 9), (j28 10), (j28 11), (j28 12), (j28 13), (j28 14), (j28 15), (j28 16), uV], []⟩) k ⟨f, 0, 0, (fun i_ => [undef, undef, undef, undef, undef, undef, undef, undef, undef, undef, undef, undef, undef, undef, undef, undef, undef].getD i_ undef), (FM.le.refl _), HS, h, (by kernel_rfl)⟩ ?_
 clear h
 rintro n23 _ W26 ⟨f24, n29, x30, j28, L25, HS27, h, rfl⟩ K21 hK22
 obtain _ | n23 := n23
 · exact nomatch h
 simp only [squeeze_cost.l0] at h
 refine wp_seq_k (fun K31 hK32 => ?_)
 refine wp_region_lit ?_
 refine seqS1 (a' := ⟨#[.slice A2 group1.length c3, iV vk5, uV, uV, iV 0, iV n29, uV, (j28 0), .slice A2 group1.length c3, iV (group1.length : Int), iV x30, .bool (decide (x30 < (group1.length : Int))), (j28 2), (j28 3), (j28 4), (j28 5), (j28 6), (j28 7), (j28 8), (j28 9), (j28 10), (j28 11), (j28 12), (j28 13), (j28 14), (j28 15), (j28 16), uV], []⟩) (by kernel_rfl) ?_
 refine wpList_nil ?_
 refine hK32 _ _ ?_
 refine wp_seq_k (fun K33 hK34 => ?_)
 have hq_ := ite_some h; clear h; rcases hq_ with ⟨c36, h⟩ | ⟨c36, h⟩
 · have c36 : x30 < (group1.length : Int) := c36
   refine wpRwI 11 (x := (decide (x30 < (group1.length : Int)))) (v := true) (by kernel_rfl) (decide_eq_true c36) ?_
   refine condT (by kernel_rfl) ?_
   refine wp_skip ?_
   refine hK34 _ _ ?_
   refine wp_seq_k (fun K37 hK38 => ?_)
   refine blockK (fun B39 hx40 hn41 hr42 ho43 hp44 => ?_)
   refine wp_seq_k (fun K46 hK47 => ?_)
   refine wp_region_lit ?_
   have hq_ := guard_some h; clear h; obtain ⟨c48, h⟩ := hq_
   have c48 : 0 ≤ x30 := c48
   obtain ⟨b52, of53, cs49, hA54, hr50, hc51⟩ := (HR4.mono L25).at (i := x30) c48 c36
   obtain rfl := hr50
   refine seqK rfl (does_run (run_indexE hA54 (sz := 1) rfl Tryd.underlying27 (by kernel_rfl) (by kernel_rfl : _ = Value.slice A2 group1.length c3) (by kernel_rfl : _ = Value.int .i64 x30) c48 c36 W26) ?_)
   refine seqK rfl (does_run (run_load rfl Tryd.underlying3 rfl (by kernel_rfl : _ = Value.pointer (some ⟨b52, of53 + (x30 : Int).toNat * 1, none⟩)) ((hc51 (FM.le.refl _) HS27) 0 (by decide))) ?_)
   refine seqS1 (a' := ⟨#[.slice A2 group1.length c3, iV vk5, uV, uV, iV 0, iV n29, uV, iV (rd group1 x30), .slice A2 group1.length c3, iV (group1.length : Int), iV x30, tV, pV b52 (of53 + (x30 : Int).toNat * 1), iV (rd group1 x30), (j28 4), (j28 5), (j28 6), (j28 7), (j28 8), (j28 9), (j28 10), (j28 11), (j28 12), (j28 13), (j28 14), (j28 15), (j28 16), uV], []⟩) (by kernel_rfl) ?_
   refine wpList_nil ?_
   refine hK47 _ _ ?_
   refine wp_seq_k (fun K55 hK56 => ?_)
   refine wp_region_lit ?_
   refine seqS2 (a' := ⟨#[.slice A2 group1.length c3, iV vk5, uV, uV, iV 0, iV n29, uV, iV (rd group1 x30), .slice A2 group1.length c3, iV (group1.length : Int), iV x30, tV, pV b52 (of53 + (x30 : Int).toNat * 1), iV (rd group1 x30), iV vk5, .bool (vk5 == 15), (j28 6), (j28 7), (j28 8), (j28 9), (j28 10), (j28 11), (j28 12), (j28 13), (j28 14), (j28 15), (j28 16), uV], []⟩) (by kernel_rfl) ?_
   refine wpList_nil ?_
   refine hK56 _ _ ?_
   have hq_ := ite_some h; clear h; rcases hq_ with ⟨c58, h⟩ | ⟨c58, h⟩
   · have c58 : vk5 = 15 := c58
     refine wpRwI 15 (x := (vk5 == 15)) (v := true) (by kernel_rfl) (beq_iff_eq.mpr c58) ?_
     refine condT (by kernel_rfl) ?_
     refine wp_region_lit ?_
     refine seqS3 (a' := ⟨#[.slice A2 group1.length c3, iV vk5, uV, uV, iV 0, iV (w64 (n29 + 17)), uV, iV (rd group1 x30), .slice A2 group1.length c3, iV (group1.length : Int), iV x30, tV, pV b52 (of53 + (x30 : Int).toNat * 1), iV (rd group1 x30), iV vk5, tV, iV n29, iV (w64 (n29 + 17)), (j28 8), (j28 9), (j28 10), (j28 11), (j28 12), (j28 13), (j28 14), (j28 15), (j28 16), uV], []⟩) (by kernel_rfl) ?_
     refine wpList_nil ?_
     refine hn41 _ _ ?_
     refine hK38 _ _ ?_
     refine wp_region_lit ?_
     refine seqS2 (a' := ⟨#[.slice A2 group1.length c3, iV vk5, uV, uV, iV 0, iV (w64 (n29 + 17)), uV, iV (rd group1 x30), .slice A2 group1.length c3, iV (group1.length : Int), iV (w64 (x30 + 1)), tV, pV b52 (of53 + (x30 : Int).toNat * 1), iV (rd group1 x30), iV vk5, tV, iV n29, iV (w64 (n29 + 17)), (j28 8), (j28 9), (j28 10), (j28 11), (j28 12), (j28 13), (j28 14), (j28 15), iV (w64 (x30 + 1)), uV], []⟩) (by kernel_rfl) ?_
     refine wpList_nil ?_
     refine hK22 n23 _ _ (Nat.lt_succ_self _) ?_
     exact ⟨f24, (w64 (n29 + 17)), (w64 (x30 + 1)), (fun i_ => [Value.int .i64 (rd group1 x30), Value.bool true, Value.pointer (some ⟨b52, of53 + (x30 : Int).toNat * 1, none⟩), Value.int .i64 (rd group1 x30), Value.int .i64 vk5, Value.bool true, Value.int .i64 n29, Value.int .i64 (w64 (n29 + 17)), (j28 8), (j28 9), (j28 10), (j28 11), (j28 12), (j28 13), (j28 14), (j28 15), Value.int .i64 (w64 (x30 + 1))].getD i_ undef), L25, HS27, h, (by kernel_rfl)⟩
   · have c58 : ¬ (vk5 = 15) := c58
     refine wpRwI 15 (x := (vk5 == 15)) (v := false) (by kernel_rfl) (beq_eq_false_iff_ne.mpr c58) ?_
     refine condF (by kernel_rfl) ?_
     refine wp_region_lit ?_
     have hq_ := guard_some h; clear h; obtain ⟨c59, h⟩ := hq_
     have c59 : ¬ (vk5 < 0) := c59
     refine seqL3 (by kernel_rfl) ?_
     refine seqK rfl (does_run (run_shr rfl (by kernel_rfl : _ = Value.int .i64 (rd group1 x30)) (by kernel_rfl : _ = Value.int .i64 vk5) c59 W26) ?_)
     refine seqS5 (a' := ⟨#[.slice A2 group1.length c3, iV vk5, uV, uV, iV 0, iV (w64 (n29 + (w64 ((w64 ((shr (rd group1 x30) (min (vk5).toNat 64)) + 1)) + vk5)))), uV, iV (rd group1 x30), .slice A2 group1.length c3, iV (group1.length : Int), iV x30, tV, pV b52 (of53 + (x30 : Int).toNat * 1), iV (rd group1 x30), iV vk5, fV, (j28 6), (j28 7), iV n29, iV (rd group1 x30), iV vk5, iV (shr (rd group1 x30) (min (vk5).toNat 64)), iV (w64 ((shr (rd group1 x30) (min (vk5).toNat 64)) + 1)), iV vk5, iV (w64 ((w64 ((shr (rd group1 x30) (min (vk5).toNat 64)) + 1)) + vk5)), iV (w64 (n29 + (w64 ((w64 ((shr (rd group1 x30) (min (vk5).toNat 64)) + 1)) + vk5)))), (j28 16), uV], []⟩) (by kernel_rfl) ?_
     refine wpList_nil ?_
     refine hn41 _ _ ?_
     refine hK38 _ _ ?_
     refine wp_region_lit ?_
     refine seqS2 (a' := ⟨#[.slice A2 group1.length c3, iV vk5, uV, uV, iV 0, iV (w64 (n29 + (w64 ((w64 ((shr (rd group1 x30) (min (vk5).toNat 64)) + 1)) + vk5)))), uV, iV (rd group1 x30), .slice A2 group1.length c3, iV (group1.length : Int), iV (w64 (x30 + 1)), tV, pV b52 (of53 + (x30 : Int).toNat * 1), iV (rd group1 x30), iV vk5, fV, (j28 6), (j28 7), iV n29, iV (rd group1 x30), iV vk5, iV (shr (rd group1 x30) (min (vk5).toNat 64)), iV (w64 ((shr (rd group1 x30) (min (vk5).toNat 64)) + 1)), iV vk5, iV (w64 ((w64 ((shr (rd group1 x30) (min (vk5).toNat 64)) + 1)) + vk5)), iV (w64 (n29 + (w64 ((w64 ((shr (rd group1 x30) (min (vk5).toNat 64)) + 1)) + vk5)))), iV (w64 (x30 + 1)), uV], []⟩) (by kernel_rfl) ?_
     refine wpList_nil ?_
     refine hK22 n23 _ _ (Nat.lt_succ_self _) ?_
     exact ⟨f24, (w64 (n29 + (w64 ((w64 ((shr (rd group1 x30) (min (vk5).toNat 64)) + 1)) + vk5)))), (w64 (x30 + 1)), (fun i_ => [Value.int .i64 (rd group1 x30), Value.bool true, Value.pointer (some ⟨b52, of53 + (x30 : Int).toNat * 1, none⟩), Value.int .i64 (rd group1 x30), Value.int .i64 vk5, Value.bool false, (j28 6), (j28 7), Value.int .i64 n29, Value.int .i64 (rd group1 x30), Value.int .i64 vk5, Value.int .i64 (shr (rd group1 x30) (min (vk5).toNat 64)), Value.int .i64 (w64 ((shr (rd group1 x30) (min (vk5).toNat 64)) + 1)), Value.int .i64 vk5, Value.int .i64 (w64 ((w64 ((shr (rd group1 x30) (min (vk5).toNat 64)) + 1)) + vk5)), Value.int .i64 (w64 (n29 + (w64 ((w64 ((shr (rd group1 x30) (min (vk5).toNat 64)) + 1)) + vk5)))), Value.int .i64 (w64 (x30 + 1))].getD i_ undef), L25, HS27, h, (by kernel_rfl)⟩
 · have c36 : ¬ (x30 < (group1.length : Int)) := c36
   refine wpRwI 11 (x := (decide (x30 < (group1.length : Int)))) (v := false) (by kernel_rfl) (decide_eq_false c36) ?_
   refine condF (by kernel_rfl) ?_
   refine wp_exit ?_
   refine hx15 _ _ ?_
   exact J67 f24 n29 (fun i_ => [(j28 0), Value.int .i64 x30, Value.bool false, (j28 2), (j28 3), (j28 4), (j28 5), (j28 6), (j28 7), (j28 8), (j28 9), (j28 10), (j28 11), (j28 12), (j28 13), (j28 14), (j28 15), (j28 16)].getD i_ undef) W26 _ L25 h HS27 (by kernel_rfl)

end Go.Sp.B1
