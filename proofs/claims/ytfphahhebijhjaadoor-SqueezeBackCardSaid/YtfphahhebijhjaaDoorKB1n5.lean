import Derived.Test.YtfphahhebijhjaaDoorProg
import Derived.Test.YtfphahhebijhjaaDoorSpCopy
import Derived.Test.YtfphahhebijhjaaDoorFB1
import Derived.Test.YtfphahhebijhjaaDoorSpStr
import Derived.Test.YtfphahhebijhjaaDoorConv
import Derived.Test.YtfphahhebijhjaaDoorSpRound
import Derived.Test.YtfphahhebijhjaaDoorKB1n0
import Derived.Test.YtfphahhebijhjaaDoorKB1n1
import Derived.Test.YtfphahhebijhjaaDoorKB1n2
import Derived.Test.YtfphahhebijhjaaDoorKB1n3
import Derived.Test.YtfphahhebijhjaaDoorKB1n4
namespace Go.Sp.B1
open Go Go.Sp Go.Proofs
set_option linter.unusedVariables false
attribute [local irreducible] wpList AnyL Code.wp Calls Does Code.wpIn wpListIn CallsIn bodyPostM LeavesInM
set_option maxRecDepth 100000 in
set_option maxHeartbeats 4000000 in
theorem squeeze_Index.calls (k : Nat) (A2 : Option Addr) (c3 : Nat) (b1 : List Int) {t w : World} {f : FM} {H : List Seg} (HS : St t w f (H)) (HR4 : SlR (tInt .u8) f A2 c3 b1) (rr1 : Int) (rr2 : Int) (rr3 : List Int) (rr4 : Int) (h : squeeze_Index k b1 = some (rr1, rr2, rr3, rr4)) :
    Calls Tryd.prog 11 #[.slice A2 b1.length c3] w (fun e w' => ∃ (g : FM) (A211 : Option Addr) (c212 : Nat) (s213 : Seg), e = .returned (Value.tuple #[.int .i64 rr1, .int .i64 rr2, .slice A211 rr3.length c212, .int .i64 rr4]) ∧ FM.le f g ∧ St t w' g (s213 :: H) ∧ Own (tInt .i64) 3 g A211 c212 s213 rr3) := by
 unfold squeeze_Index at h
 refine enter Tryd.func11 rfl (tm := #[.slice A2 b1.length c3, uV, uV, uV, uV, uV, uV, uV, uV, uV, uV, uV, uV, uV, uV, uV, uV, uV, uV, uV, uV, uV, uV, uV, uV, uV, uV, uV, uV, uV, uV, uV, uV, uV, uV, uV, uV, uV, uV, uV, uV, uV, uV, uV, uV, uV, uV, uV, uV, uV, uV, uV, uV, uV, uV, uV, uV, uV, uV, uV, uV, uV, uV, uV, uV, uV, uV, uV, uV, uV, uV, uV, uV, uV, uV, uV, uV, uV, uV, uV, uV, uV, uV, uV, uV, uV, uV, uV, uV, uV, uV, uV]) (by kernel_rfl) ?_
 intro B hret hnor hnp
 refine wp_seq_k (fun K5 hK6 => ?_)
 refine wp_region_lit ?_
 refine seqS4 (a' := ⟨#[.slice A2 b1.length c3, uV, iV 0, iV 0, .slice none 0 0, iV 0, uV, uV, uV, uV, uV, uV, uV, uV, uV, uV, uV, uV, uV, uV, uV, uV, uV, uV, uV, uV, uV, uV, uV, uV, uV, uV, uV, uV, uV, uV, uV, uV, uV, uV, uV, uV, uV, uV, uV, uV, uV, uV, uV, uV, uV, uV, uV, uV, uV, uV, uV, uV, uV, uV, uV, uV, uV, uV, uV, uV, uV, uV, uV, uV, uV, uV, uV, uV, uV, uV, uV, uV, uV, uV, uV, uV, uV, uV, uV, uV, uV, uV, uV, uV, uV, uV], []⟩) (by kernel_rfl) ?_
 refine wpList_nil ?_
 refine hK6 _ _ ?_
 refine wp_seq_k (fun K7 hK8 => ?_)
 refine wp_seq_k (fun K9 hK10 => ?_)
 refine wp_region_lit ?_
 refine seqS4 (a' := ⟨#[.slice A2 b1.length c3, uV, iV 0, iV 0, .slice none 0 0, iV 0, uV, uV, .slice A2 b1.length c3, iV (b1.length : Int), .bool (decide ((b1.length : Int) < 2)), .bool (decide ((b1.length : Int) < 2)), uV, uV, uV, uV, uV, uV, uV, uV, uV, uV, uV, uV, uV, uV, uV, uV, uV, uV, uV, uV, uV, uV, uV, uV, uV, uV, uV, uV, uV, uV, uV, uV, uV, uV, uV, uV, uV, uV, uV, uV, uV, uV, uV, uV, uV, uV, uV, uV, uV, uV, uV, uV, uV, uV, uV, uV, uV, uV, uV, uV, uV, uV, uV, uV, uV, uV, uV, uV, uV, uV, uV, uV, uV, uV, uV, uV, uV, uV, uV, uV], []⟩) (by kernel_rfl) ?_
 have hq_ := ite_some h; clear h; rcases hq_ with ⟨c11, h⟩ | ⟨c11, h⟩
 · have c11 : (b1.length : Int) < 2 := c11
   refine seqRwI 10 (x := (decide ((b1.length : Int) < 2))) (v := true) (by kernel_rfl) (decide_eq_true c11) ?_
   refine seqRwI 11 (x := (decide ((b1.length : Int) < 2))) (v := true) (by kernel_rfl) (decide_eq_true c11) ?_
   refine seqS23 (a' := ⟨#[.slice A2 b1.length c3, uV, iV 0, iV 0, .slice none 0 0, iV 0, uV, uV, .slice A2 b1.length c3, iV (b1.length : Int), tV, tV, uV, uV, uV, uV, tV, tV, uV, uV, uV, uV, tV, tV, uV, uV, uV, uV, tV, tV, uV, uV, uV, uV, tV, uV, uV, uV, uV, uV, uV, uV, uV, uV, uV, uV, uV, uV, uV, uV, uV, uV, uV, uV, uV, uV, uV, uV, uV, uV, uV, uV, uV, uV, uV, uV, uV, uV, uV, uV, uV, uV, uV, uV, uV, uV, uV, uV, uV, uV, uV, uV, uV, uV, uV, uV, uV, uV, uV, uV, uV, uV], []⟩) (by kernel_rfl) ?_
   refine wpList_nil ?_
   refine hK10 _ _ ?_
   refine condT (by kernel_rfl) ?_
   refine wp_seq_k (fun K12 hK13 => ?_)
   refine wp_region_lit ?_
   refine seqS4 (a' := ⟨#[.slice A2 b1.length c3, uV, iV 0, iV 0, .slice none 0 0, iV 3, uV, uV, .slice A2 b1.length c3, iV (b1.length : Int), tV, tV, uV, uV, uV, uV, tV, tV, uV, uV, uV, uV, tV, tV, uV, uV, uV, uV, tV, tV, uV, uV, uV, uV, tV, uV, uV, uV, uV, uV, uV, uV, uV, uV, uV, uV, uV, uV, uV, uV, uV, uV, uV, uV, uV, uV, uV, uV, uV, uV, uV, uV, uV, uV, uV, uV, uV, uV, uV, uV, uV, uV, uV, uV, uV, uV, uV, uV, uV, uV, uV, uV, uV, uV, uV, uV, uV, uV, uV, uV, uV, uV], []⟩) (by kernel_rfl) ?_
   refine wpList_nil ?_
   refine hK13 _ _ ?_
   refine wp_ret ?_
   refine hret _ _ ?_
   have HS189 := HS.cons_nil
   refine ends_still (v := Value.tuple #[.int .i64 0, .int .i64 0, .slice none 0 0, .int .i64 3]) (by kernel_rfl) (by kernel_rfl) ?_
   injection h with h
   injection h with h0_ h
   injection h with h1_ h
   injection h with h2_ h
   subst h0_ h1_ h2_ h
   exact ⟨f, none, 0, [], rfl, FM.le.refl _, HS189, (Own.nil _)⟩
 · have c11 : ¬ ((b1.length : Int) < 2) := c11
   refine seqRwI 10 (x := (decide ((b1.length : Int) < 2))) (v := false) (by kernel_rfl) (decide_eq_false c11) ?_
   refine seqRwI 11 (x := (decide ((b1.length : Int) < 2))) (v := false) (by kernel_rfl) (decide_eq_false c11) ?_
   have hq_ := guard_some h; clear h; obtain ⟨c14, h⟩ := hq_
   have c14 : 0 < (b1.length : Int) := c14
   obtain ⟨b18, of19, cs15, hA20, hr16, hc17⟩ := HR4.at (i := 0) (by decide) c14
   obtain rfl := hr16
   refine seqL1 (by kernel_rfl) ?_
   refine seqG (by kernel_rfl) (does_run (run_indexE hA20 (sz := 1) rfl Tryd.underlying23 (by kernel_rfl) (by kernel_rfl : _ = Value.slice A2 b1.length c3) (by kernel_rfl : _ = Value.int .i64 0) (by decide) c14 w) ?_)
   refine seqG (by kernel_rfl) (does_run (run_load rfl Tryd.underlying5 rfl (by kernel_rfl : _ = Value.pointer (some ⟨b18, of19 + (0 : Int).toNat * 1, none⟩)) ((hc17 (FM.le.refl _) HS) 0 (by decide))) ?_)
   refine seqS3 (a' := ⟨#[.slice A2 b1.length c3, uV, iV 0, iV 0, .slice none 0 0, iV 0, uV, uV, .slice A2 b1.length c3, iV (b1.length : Int), fV, fV, .slice A2 b1.length c3, pV b18 (of19 + (0 : Int).toNat * 1), .int .u8 (rd b1 0), .bool (decide ((rd b1 0) < 1)), .bool (decide ((rd b1 0) < 1)), .bool (decide ((rd b1 0) < 1)), uV, uV, uV, uV, uV, uV, uV, uV, uV, uV, uV, uV, uV, uV, uV, uV, uV, uV, uV, uV, uV, uV, uV, uV, uV, uV, uV, uV, uV, uV, uV, uV, uV, uV, uV, uV, uV, uV, uV, uV, uV, uV, uV, uV, uV, uV, uV, uV, uV, uV, uV, uV, uV, uV, uV, uV, uV, uV, uV, uV, uV, uV, uV, uV, uV, uV, uV, uV, uV, uV, uV, uV, uV, uV], []⟩) (by kernel_rfl) ?_
   have hq_ := ite_some h; clear h; rcases hq_ with ⟨c21, h⟩ | ⟨c21, h⟩
   · have c21 : (rd b1 0) < 1 := c21
     refine seqRwI 15 (x := (decide ((rd b1 0) < 1))) (v := true) (by kernel_rfl) (decide_eq_true c21) ?_
     refine seqRwI 16 (x := (decide ((rd b1 0) < 1))) (v := true) (by kernel_rfl) (decide_eq_true c21) ?_
     refine seqRwI 17 (x := (decide ((rd b1 0) < 1))) (v := true) (by kernel_rfl) (decide_eq_true c21) ?_
     refine seqS17 (a' := ⟨#[.slice A2 b1.length c3, uV, iV 0, iV 0, .slice none 0 0, iV 0, uV, uV, .slice A2 b1.length c3, iV (b1.length : Int), fV, fV, .slice A2 b1.length c3, pV b18 (of19 + (0 : Int).toNat * 1), .int .u8 (rd b1 0), tV, tV, tV, uV, uV, uV, uV, tV, tV, uV, uV, uV, uV, tV, tV, uV, uV, uV, uV, tV, uV, uV, uV, uV, uV, uV, uV, uV, uV, uV, uV, uV, uV, uV, uV, uV, uV, uV, uV, uV, uV, uV, uV, uV, uV, uV, uV, uV, uV, uV, uV, uV, uV, uV, uV, uV, uV, uV, uV, uV, uV, uV, uV, uV, uV, uV, uV, uV, uV, uV, uV, uV, uV, uV, uV, uV, uV], []⟩) (by kernel_rfl) ?_
     refine wpList_nil ?_
     refine hK10 _ _ ?_
     refine condT (by kernel_rfl) ?_
     refine wp_seq_k (fun K22 hK23 => ?_)
     refine wp_region_lit ?_
     refine seqS4 (a' := ⟨#[.slice A2 b1.length c3, uV, iV 0, iV 0, .slice none 0 0, iV 3, uV, uV, .slice A2 b1.length c3, iV (b1.length : Int), fV, fV, .slice A2 b1.length c3, pV b18 (of19 + (0 : Int).toNat * 1), .int .u8 (rd b1 0), tV, tV, tV, uV, uV, uV, uV, tV, tV, uV, uV, uV, uV, tV, tV, uV, uV, uV, uV, tV, uV, uV, uV, uV, uV, uV, uV, uV, uV, uV, uV, uV, uV, uV, uV, uV, uV, uV, uV, uV, uV, uV, uV, uV, uV, uV, uV, uV, uV, uV, uV, uV, uV, uV, uV, uV, uV, uV, uV, uV, uV, uV, uV, uV, uV, uV, uV, uV, uV, uV, uV, uV, uV, uV, uV, uV, uV], []⟩) (by kernel_rfl) ?_
     refine wpList_nil ?_
     refine hK23 _ _ ?_
     refine wp_ret ?_
     refine hret _ _ ?_
     have HS191 := HS.cons_nil
     refine ends_still (v := Value.tuple #[.int .i64 0, .int .i64 0, .slice none 0 0, .int .i64 3]) (by kernel_rfl) (by kernel_rfl) ?_
     injection h with h
     injection h with h0_ h
     injection h with h1_ h
     injection h with h2_ h
     subst h0_ h1_ h2_ h
     exact ⟨f, none, 0, [], rfl, FM.le.refl _, HS191, (Own.nil _)⟩
   · have c21 : ¬ ((rd b1 0) < 1) := c21
     refine seqRwI 15 (x := (decide ((rd b1 0) < 1))) (v := false) (by kernel_rfl) (decide_eq_false c21) ?_
     refine seqRwI 16 (x := (decide ((rd b1 0) < 1))) (v := false) (by kernel_rfl) (decide_eq_false c21) ?_
     refine seqRwI 17 (x := (decide ((rd b1 0) < 1))) (v := false) (by kernel_rfl) (decide_eq_false c21) ?_
     refine seqL1 (by kernel_rfl) ?_
     refine seqG (by kernel_rfl) (does_run (run_indexE hA20 (sz := 1) rfl Tryd.underlying23 (by kernel_rfl) (by kernel_rfl : _ = Value.slice A2 b1.length c3) (by kernel_rfl : _ = Value.int .i64 0) (by decide) c14 w) ?_)
     refine seqG (by kernel_rfl) (does_run (run_load rfl Tryd.underlying5 rfl (by kernel_rfl : _ = Value.pointer (some ⟨b18, of19 + (0 : Int).toNat * 1, none⟩)) ((hc17 (FM.le.refl _) HS) 0 (by decide))) ?_)
     refine seqS3 (a' := ⟨#[.slice A2 b1.length c3, uV, iV 0, iV 0, .slice none 0 0, iV 0, uV, uV, .slice A2 b1.length c3, iV (b1.length : Int), fV, fV, .slice A2 b1.length c3, pV b18 (of19 + (0 : Int).toNat * 1), .int .u8 (rd b1 0), fV, fV, fV, .slice A2 b1.length c3, pV b18 (of19 + (0 : Int).toNat * 1), .int .u8 (rd b1 0), .bool (decide ((rd b1 0) > 32)), .bool (decide ((rd b1 0) > 32)), .bool (decide ((rd b1 0) > 32)), uV, uV, uV, uV, uV, uV, uV, uV, uV, uV, uV, uV, uV, uV, uV, uV, uV, uV, uV, uV, uV, uV, uV, uV, uV, uV, uV, uV, uV, uV, uV, uV, uV, uV, uV, uV, uV, uV, uV, uV, uV, uV, uV, uV, uV, uV, uV, uV, uV, uV, uV, uV, uV, uV, uV, uV, uV, uV, uV, uV, uV, uV, uV, uV, uV, uV, uV, uV], []⟩) (by kernel_rfl) ?_
     have hq_ := ite_some h; clear h; rcases hq_ with ⟨c24, h⟩ | ⟨c24, h⟩
     · have c24 : (rd b1 0) > 32 := c24
       refine seqRwI 21 (x := (decide ((rd b1 0) > 32))) (v := true) (by kernel_rfl) (decide_eq_true c24) ?_
       refine seqRwI 22 (x := (decide ((rd b1 0) > 32))) (v := true) (by kernel_rfl) (decide_eq_true c24) ?_
       refine seqRwI 23 (x := (decide ((rd b1 0) > 32))) (v := true) (by kernel_rfl) (decide_eq_true c24) ?_
       refine seqS11 (a' := ⟨#[.slice A2 b1.length c3, uV, iV 0, iV 0, .slice none 0 0, iV 0, uV, uV, .slice A2 b1.length c3, iV (b1.length : Int), fV, fV, .slice A2 b1.length c3, pV b18 (of19 + (0 : Int).toNat * 1), .int .u8 (rd b1 0), fV, fV, fV, .slice A2 b1.length c3, pV b18 (of19 + (0 : Int).toNat * 1), .int .u8 (rd b1 0), tV, tV, tV, uV, uV, uV, uV, tV, tV, uV, uV, uV, uV, tV, uV, uV, uV, uV, uV, uV, uV, uV, uV, uV, uV, uV, uV, uV, uV, uV, uV, uV, uV, uV, uV, uV, uV, uV, uV, uV, uV, uV, uV, uV, uV, uV, uV, uV, uV, uV, uV, uV, uV, uV, uV, uV, uV, uV, uV, uV, uV, uV, uV, uV, uV, uV, uV, uV, uV, uV, uV], []⟩) (by kernel_rfl) ?_
       refine wpList_nil ?_
       refine hK10 _ _ ?_
       refine condT (by kernel_rfl) ?_
       refine wp_seq_k (fun K25 hK26 => ?_)
       refine wp_region_lit ?_
       refine seqS4 (a' := ⟨#[.slice A2 b1.length c3, uV, iV 0, iV 0, .slice none 0 0, iV 3, uV, uV, .slice A2 b1.length c3, iV (b1.length : Int), fV, fV, .slice A2 b1.length c3, pV b18 (of19 + (0 : Int).toNat * 1), .int .u8 (rd b1 0), fV, fV, fV, .slice A2 b1.length c3, pV b18 (of19 + (0 : Int).toNat * 1), .int .u8 (rd b1 0), tV, tV, tV, uV, uV, uV, uV, tV, tV, uV, uV, uV, uV, tV, uV, uV, uV, uV, uV, uV, uV, uV, uV, uV, uV, uV, uV, uV, uV, uV, uV, uV, uV, uV, uV, uV, uV, uV, uV, uV, uV, uV, uV, uV, uV, uV, uV, uV, uV, uV, uV, uV, uV, uV, uV, uV, uV, uV, uV, uV, uV, uV, uV, uV, uV, uV, uV, uV, uV, uV, uV], []⟩) (by kernel_rfl) ?_
       refine wpList_nil ?_
       refine hK26 _ _ ?_
       refine wp_ret ?_
       refine hret _ _ ?_
       have HS193 := HS.cons_nil
       refine ends_still (v := Value.tuple #[.int .i64 0, .int .i64 0, .slice none 0 0, .int .i64 3]) (by kernel_rfl) (by kernel_rfl) ?_
       injection h with h
       injection h with h0_ h
       injection h with h1_ h
       injection h with h2_ h
       subst h0_ h1_ h2_ h
       exact ⟨f, none, 0, [], rfl, FM.le.refl _, HS193, (Own.nil _)⟩
     · have c24 : ¬ ((rd b1 0) > 32) := c24
       refine seqRwI 21 (x := (decide ((rd b1 0) > 32))) (v := false) (by kernel_rfl) (decide_eq_false c24) ?_
       refine seqRwI 22 (x := (decide ((rd b1 0) > 32))) (v := false) (by kernel_rfl) (decide_eq_false c24) ?_
       refine seqRwI 23 (x := (decide ((rd b1 0) > 32))) (v := false) (by kernel_rfl) (decide_eq_false c24) ?_
       have hq_ := guard_some h; clear h; obtain ⟨c27, h⟩ := hq_
       have c27 : 1 < (b1.length : Int) := c27
       obtain ⟨b31, of32, cs28, hA33, hr29, hc30⟩ := HR4.at (i := 1) (by decide) c27
       obtain rfl := hr29
       refine seqL1 (by kernel_rfl) ?_
       refine seqG (by kernel_rfl) (does_run (run_indexE hA33 (sz := 1) rfl Tryd.underlying23 (by kernel_rfl) (by kernel_rfl : _ = Value.slice A2 b1.length c3) (by kernel_rfl : _ = Value.int .i64 1) (by decide) c27 w) ?_)
       refine seqG (by kernel_rfl) (does_run (run_load rfl Tryd.underlying5 rfl (by kernel_rfl : _ = Value.pointer (some ⟨b31, of32 + (1 : Int).toNat * 1, none⟩)) ((hc30 (FM.le.refl _) HS) 0 (by decide))) ?_)
       refine seqS3 (a' := ⟨#[.slice A2 b1.length c3, uV, iV 0, iV 0, .slice none 0 0, iV 0, uV, uV, .slice A2 b1.length c3, iV (b1.length : Int), fV, fV, .slice A2 b1.length c3, pV b18 (of19 + (0 : Int).toNat * 1), .int .u8 (rd b1 0), fV, fV, fV, .slice A2 b1.length c3, pV b18 (of19 + (0 : Int).toNat * 1), .int .u8 (rd b1 0), fV, fV, fV, .slice A2 b1.length c3, pV b31 (of32 + (1 : Int).toNat * 1), .int .u8 (rd b1 1), .bool (decide ((rd b1 1) < 1)), .bool (decide ((rd b1 1) < 1)), .bool (decide ((rd b1 1) < 1)), uV, uV, uV, uV, uV, uV, uV, uV, uV, uV, uV, uV, uV, uV, uV, uV, uV, uV, uV, uV, uV, uV, uV, uV, uV, uV, uV, uV, uV, uV, uV, uV, uV, uV, uV, uV, uV, uV, uV, uV, uV, uV, uV, uV, uV, uV, uV, uV, uV, uV, uV, uV, uV, uV, uV, uV, uV, uV, uV, uV, uV, uV], []⟩) (by kernel_rfl) ?_
       have hq_ := ite_some h; clear h; rcases hq_ with ⟨c34, h⟩ | ⟨c34, h⟩
       · have c34 : (rd b1 1) < 1 := c34
         refine seqRwI 27 (x := (decide ((rd b1 1) < 1))) (v := true) (by kernel_rfl) (decide_eq_true c34) ?_
         refine seqRwI 28 (x := (decide ((rd b1 1) < 1))) (v := true) (by kernel_rfl) (decide_eq_true c34) ?_
         refine seqRwI 29 (x := (decide ((rd b1 1) < 1))) (v := true) (by kernel_rfl) (decide_eq_true c34) ?_
         refine seqS5 (a' := ⟨#[.slice A2 b1.length c3, uV, iV 0, iV 0, .slice none 0 0, iV 0, uV, uV, .slice A2 b1.length c3, iV (b1.length : Int), fV, fV, .slice A2 b1.length c3, pV b18 (of19 + (0 : Int).toNat * 1), .int .u8 (rd b1 0), fV, fV, fV, .slice A2 b1.length c3, pV b18 (of19 + (0 : Int).toNat * 1), .int .u8 (rd b1 0), fV, fV, fV, .slice A2 b1.length c3, pV b31 (of32 + (1 : Int).toNat * 1), .int .u8 (rd b1 1), tV, tV, tV, uV, uV, uV, uV, tV, uV, uV, uV, uV, uV, uV, uV, uV, uV, uV, uV, uV, uV, uV, uV, uV, uV, uV, uV, uV, uV, uV, uV, uV, uV, uV, uV, uV, uV, uV, uV, uV, uV, uV, uV, uV, uV, uV, uV, uV, uV, uV, uV, uV, uV, uV, uV, uV, uV, uV, uV, uV, uV, uV, uV, uV, uV], []⟩) (by kernel_rfl) ?_
         refine wpList_nil ?_
         refine hK10 _ _ ?_
         refine condT (by kernel_rfl) ?_
         refine wp_seq_k (fun K35 hK36 => ?_)
         refine wp_region_lit ?_
         refine seqS4 (a' := ⟨#[.slice A2 b1.length c3, uV, iV 0, iV 0, .slice none 0 0, iV 3, uV, uV, .slice A2 b1.length c3, iV (b1.length : Int), fV, fV, .slice A2 b1.length c3, pV b18 (of19 + (0 : Int).toNat * 1), .int .u8 (rd b1 0), fV, fV, fV, .slice A2 b1.length c3, pV b18 (of19 + (0 : Int).toNat * 1), .int .u8 (rd b1 0), fV, fV, fV, .slice A2 b1.length c3, pV b31 (of32 + (1 : Int).toNat * 1), .int .u8 (rd b1 1), tV, tV, tV, uV, uV, uV, uV, tV, uV, uV, uV, uV, uV, uV, uV, uV, uV, uV, uV, uV, uV, uV, uV, uV, uV, uV, uV, uV, uV, uV, uV, uV, uV, uV, uV, uV, uV, uV, uV, uV, uV, uV, uV, uV, uV, uV, uV, uV, uV, uV, uV, uV, uV, uV, uV, uV, uV, uV, uV, uV, uV, uV, uV, uV, uV], []⟩) (by kernel_rfl) ?_
         refine wpList_nil ?_
         refine hK36 _ _ ?_
         refine wp_ret ?_
         refine hret _ _ ?_
         have HS195 := HS.cons_nil
         refine ends_still (v := Value.tuple #[.int .i64 0, .int .i64 0, .slice none 0 0, .int .i64 3]) (by kernel_rfl) (by kernel_rfl) ?_
         injection h with h
         injection h with h0_ h
         injection h with h1_ h
         injection h with h2_ h
         subst h0_ h1_ h2_ h
         exact ⟨f, none, 0, [], rfl, FM.le.refl _, HS195, (Own.nil _)⟩
       · have c34 : ¬ ((rd b1 1) < 1) := c34
         refine seqRwI 27 (x := (decide ((rd b1 1) < 1))) (v := false) (by kernel_rfl) (decide_eq_false c34) ?_
         refine seqRwI 28 (x := (decide ((rd b1 1) < 1))) (v := false) (by kernel_rfl) (decide_eq_false c34) ?_
         refine seqRwI 29 (x := (decide ((rd b1 1) < 1))) (v := false) (by kernel_rfl) (decide_eq_false c34) ?_
         refine seqL1 (by kernel_rfl) ?_
         refine seqG (by kernel_rfl) (does_run (run_indexE hA33 (sz := 1) rfl Tryd.underlying23 (by kernel_rfl) (by kernel_rfl : _ = Value.slice A2 b1.length c3) (by kernel_rfl : _ = Value.int .i64 1) (by decide) c27 w) ?_)
         refine seqG (by kernel_rfl) (does_run (run_load rfl Tryd.underlying5 rfl (by kernel_rfl : _ = Value.pointer (some ⟨b31, of32 + (1 : Int).toNat * 1, none⟩)) ((hc30 (FM.le.refl _) HS) 0 (by decide))) ?_)
         refine seqS2 (a' := ⟨#[.slice A2 b1.length c3, uV, iV 0, iV 0, .slice none 0 0, iV 0, uV, uV, .slice A2 b1.length c3, iV (b1.length : Int), fV, fV, .slice A2 b1.length c3, pV b18 (of19 + (0 : Int).toNat * 1), .int .u8 (rd b1 0), fV, fV, fV, .slice A2 b1.length c3, pV b18 (of19 + (0 : Int).toNat * 1), .int .u8 (rd b1 0), fV, fV, fV, .slice A2 b1.length c3, pV b31 (of32 + (1 : Int).toNat * 1), .int .u8 (rd b1 1), fV, fV, fV, .slice A2 b1.length c3, pV b31 (of32 + (1 : Int).toNat * 1), .int .u8 (rd b1 1), .bool (decide ((rd b1 1) > 32)), .bool (decide ((rd b1 1) > 32)), uV, uV, uV, uV, uV, uV, uV, uV, uV, uV, uV, uV, uV, uV, uV, uV, uV, uV, uV, uV, uV, uV, uV, uV, uV, uV, uV, uV, uV, uV, uV, uV, uV, uV, uV, uV, uV, uV, uV, uV, uV, uV, uV, uV, uV, uV, uV, uV, uV, uV, uV, uV, uV, uV, uV, uV, uV], []⟩) (by kernel_rfl) ?_
         refine wpList_nil ?_
         refine hK10 _ _ ?_
         have hq_ := ite_some h; clear h; rcases hq_ with ⟨c38, h⟩ | ⟨c38, h⟩
         · have c38 : (rd b1 1) > 32 := c38
           refine wpRwI 33 (x := (decide ((rd b1 1) > 32))) (v := true) (by kernel_rfl) (decide_eq_true c38) ?_
           refine wpRwI 34 (x := (decide ((rd b1 1) > 32))) (v := true) (by kernel_rfl) (decide_eq_true c38) ?_
           refine condT (by kernel_rfl) ?_
           refine wp_seq_k (fun K39 hK40 => ?_)
           refine wp_region_lit ?_
           refine seqS4 (a' := ⟨#[.slice A2 b1.length c3, uV, iV 0, iV 0, .slice none 0 0, iV 3, uV, uV, .slice A2 b1.length c3, iV (b1.length : Int), fV, fV, .slice A2 b1.length c3, pV b18 (of19 + (0 : Int).toNat * 1), .int .u8 (rd b1 0), fV, fV, fV, .slice A2 b1.length c3, pV b18 (of19 + (0 : Int).toNat * 1), .int .u8 (rd b1 0), fV, fV, fV, .slice A2 b1.length c3, pV b31 (of32 + (1 : Int).toNat * 1), .int .u8 (rd b1 1), fV, fV, fV, .slice A2 b1.length c3, pV b31 (of32 + (1 : Int).toNat * 1), .int .u8 (rd b1 1), tV, tV, uV, uV, uV, uV, uV, uV, uV, uV, uV, uV, uV, uV, uV, uV, uV, uV, uV, uV, uV, uV, uV, uV, uV, uV, uV, uV, uV, uV, uV, uV, uV, uV, uV, uV, uV, uV, uV, uV, uV, uV, uV, uV, uV, uV, uV, uV, uV, uV, uV, uV, uV, uV, uV, uV, uV, uV, uV], []⟩) (by kernel_rfl) ?_
           refine wpList_nil ?_
           refine hK40 _ _ ?_
           refine wp_ret ?_
           refine hret _ _ ?_
           have HS197 := HS.cons_nil
           refine ends_still (v := Value.tuple #[.int .i64 0, .int .i64 0, .slice none 0 0, .int .i64 3]) (by kernel_rfl) (by kernel_rfl) ?_
           injection h with h
           injection h with h0_ h
           injection h with h1_ h
           injection h with h2_ h
           subst h0_ h1_ h2_ h
           exact ⟨f, none, 0, [], rfl, FM.le.refl _, HS197, (Own.nil _)⟩
         · have c38 : ¬ ((rd b1 1) > 32) := c38
           refine wpRwI 33 (x := (decide ((rd b1 1) > 32))) (v := false) (by kernel_rfl) (decide_eq_false c38) ?_
           refine wpRwI 34 (x := (decide ((rd b1 1) > 32))) (v := false) (by kernel_rfl) (decide_eq_false c38) ?_
           refine condF (by kernel_rfl) ?_
           refine wp_skip ?_
           refine hK8 _ _ ?_
           refine wp_seq_k (fun K41 hK42 => ?_)
           refine heldG (S := Sg t f (H) []) (n := 10) (by kernel_rfl) rfl HS ?_
           intro W43 HS44
           refine takeG [0] (n := 10) (fuel := 9) (l' := #[true, false, false, false, false, false, false, false, false, false]) (a' := ⟨#[.slice A2 b1.length c3, uV, iV 0, iV 0, .slice none 0 0, iV 0, uV, uV, .slice A2 b1.length c3, iV (b1.length : Int), fV, fV, .slice A2 b1.length c3, pV b18 (of19 + (0 : Int).toNat * 1), .int .u8 (rd b1 0), fV, fV, fV, .slice A2 b1.length c3, pV b18 (of19 + (0 : Int).toNat * 1), .int .u8 (rd b1 0), fV, fV, fV, .slice A2 b1.length c3, pV b31 (of32 + (1 : Int).toNat * 1), .int .u8 (rd b1 1), fV, fV, fV, .slice A2 b1.length c3, pV b31 (of32 + (1 : Int).toNat * 1), .int .u8 (rd b1 1), fV, fV, .slice A2 b1.length c3, uV, uV, uV, uV, uV, uV, uV, uV, uV, uV, uV, uV, uV, uV, uV, uV, uV, uV, uV, uV, uV, uV, uV, uV, uV, uV, uV, uV, uV, uV, uV, uV, uV, uV, uV, uV, uV, uV, uV, uV, uV, uV, uV, uV, uV, uV, uV, uV, uV, uV, uV, uV, uV, uV, uV, uV], []⟩) rfl (by kernel_rfl) (by kernel_rfl) (by kernel_rfl) hnp (Sg.g0 (Sx.of [] (FM.le.refl _) HS44)) ?_
           refine takeGQ 1 [] rfl (by kernel_rfl) (by kernel_rfl) (by kernel_rfl) (by kernel_rfl) (by kernel_rfl) (by kernel_rfl) hnp (Sg.g0 (Sx.of [] (FM.le.refl _) HS44)) (fun w_ hw_ => by obtain ⟨g_, hl_, hS_⟩ := hw_.st; exact run_indexE hA20 (sz := 1) rfl Tryd.underlying23 (by kernel_rfl) (by kernel_rfl : _ = Value.slice A2 b1.length c3) (by kernel_rfl : _ = Value.int .i64 0) (by decide) c14 w_) ?_
           refine takeGQ 2 [] rfl (by kernel_rfl) (by kernel_rfl) (by kernel_rfl) (by kernel_rfl) (by kernel_rfl) (by kernel_rfl) hnp (Sg.g0 (Sx.of [] (FM.le.refl _) HS44)) (fun w_ hw_ => by obtain ⟨g_, hl_, hS_⟩ := hw_.st; exact run_load rfl Tryd.underlying5 rfl (by kernel_rfl : _ = Value.pointer (some ⟨b18, of19 + (0 : Int).toNat * 1, none⟩)) ((hc17 hl_ hS_) 0 (by decide))) ?_
           refine takeG [3, 4] (n := 7) (fuel := 5) (l' := #[true, true, true, true, true, false, false, false, false, false]) (a' := ⟨#[.slice A2 b1.length c3, uV, iV 0, iV 0, .slice none 0 0, iV 0, uV, uV, .slice A2 b1.length c3, iV (b1.length : Int), fV, fV, .slice A2 b1.length c3, pV b18 (of19 + (0 : Int).toNat * 1), .int .u8 (rd b1 0), fV, fV, fV, .slice A2 b1.length c3, pV b18 (of19 + (0 : Int).toNat * 1), .int .u8 (rd b1 0), fV, fV, fV, .slice A2 b1.length c3, pV b31 (of32 + (1 : Int).toNat * 1), .int .u8 (rd b1 1), fV, fV, fV, .slice A2 b1.length c3, pV b31 (of32 + (1 : Int).toNat * 1), .int .u8 (rd b1 1), fV, fV, .slice A2 b1.length c3, pV b18 (of19 + (0 : Int).toNat * 1), .int .u8 (rd b1 0), iV (w64 ((rd b1 0))), .slice A2 b1.length c3, uV, uV, uV, uV, uV, uV, uV, uV, uV, uV, uV, uV, uV, uV, uV, uV, uV, uV, uV, uV, uV, uV, uV, uV, uV, uV, uV, uV, uV, uV, uV, uV, uV, uV, uV, uV, uV, uV, uV, uV, uV, uV, uV, uV, uV, uV, uV, uV, uV, uV, uV, uV], []⟩) rfl (by kernel_rfl) (by kernel_rfl) (by kernel_rfl) hnp (Sg.g0 (Sx.of [] (FM.le.refl _) HS44)) ?_
           refine takeGQ 5 [] rfl (by kernel_rfl) (by kernel_rfl) (by kernel_rfl) (by kernel_rfl) (by kernel_rfl) (by kernel_rfl) hnp (Sg.g0 (Sx.of [] (FM.le.refl _) HS44)) (fun w_ hw_ => by obtain ⟨g_, hl_, hS_⟩ := hw_.st; exact run_indexE hA33 (sz := 1) rfl Tryd.underlying23 (by kernel_rfl) (by kernel_rfl : _ = Value.slice A2 b1.length c3) (by kernel_rfl : _ = Value.int .i64 1) (by decide) c27 w_) ?_
           refine takeGQ 6 [] rfl (by kernel_rfl) (by kernel_rfl) (by kernel_rfl) (by kernel_rfl) (by kernel_rfl) (by kernel_rfl) hnp (Sg.g0 (Sx.of [] (FM.le.refl _) HS44)) (fun w_ hw_ => by obtain ⟨g_, hl_, hS_⟩ := hw_.st; exact run_load rfl Tryd.underlying5 rfl (by kernel_rfl : _ = Value.pointer (some ⟨b31, of32 + (1 : Int).toNat * 1, none⟩)) ((hc30 hl_ hS_) 0 (by decide))) ?_
           refine takeG [7, 8, 9] (n := 3) (fuel := 0) (l' := #[true, true, true, true, true, true, true, true, true, true]) (a' := ⟨#[.slice A2 b1.length c3, uV, iV (w64 ((rd b1 0))), iV (w64 ((rd b1 1))), .slice none 0 0, iV 0, uV, uV, .slice A2 b1.length c3, iV (b1.length : Int), fV, fV, .slice A2 b1.length c3, pV b18 (of19 + (0 : Int).toNat * 1), .int .u8 (rd b1 0), fV, fV, fV, .slice A2 b1.length c3, pV b18 (of19 + (0 : Int).toNat * 1), .int .u8 (rd b1 0), fV, fV, fV, .slice A2 b1.length c3, pV b31 (of32 + (1 : Int).toNat * 1), .int .u8 (rd b1 1), fV, fV, fV, .slice A2 b1.length c3, pV b31 (of32 + (1 : Int).toNat * 1), .int .u8 (rd b1 1), fV, fV, .slice A2 b1.length c3, pV b18 (of19 + (0 : Int).toNat * 1), .int .u8 (rd b1 0), iV (w64 ((rd b1 0))), .slice A2 b1.length c3, pV b31 (of32 + (1 : Int).toNat * 1), .int .u8 (rd b1 1), iV (w64 ((rd b1 1))), uV, uV, uV, uV, uV, uV, uV, uV, uV, uV, uV, uV, uV, uV, uV, uV, uV, uV, uV, uV, uV, uV, uV, uV, uV, uV, uV, uV, uV, uV, uV, uV, uV, uV, uV, uV, uV, uV, uV, uV, uV, uV, uV, uV, uV, uV, uV, uV, uV], []⟩) rfl (by kernel_rfl) (by kernel_rfl) (by kernel_rfl) hnp (Sg.g0 (Sx.of [] (FM.le.refl _) HS44)) ?_
           refine doneG (by kernel_rfl) ?_ _
           refine hK42 _ _ ?_
           refine wp_seq_k (fun K45 hK46 => ?_)
           refine wp_region_lit ?_
           refine seqS1 (a' := ⟨#[.slice A2 b1.length c3, uV, iV (w64 ((rd b1 0))), iV (w64 ((rd b1 1))), .slice none 0 0, iV 0, iV 2, uV, .slice A2 b1.length c3, iV (b1.length : Int), fV, fV, .slice A2 b1.length c3, pV b18 (of19 + (0 : Int).toNat * 1), .int .u8 (rd b1 0), fV, fV, fV, .slice A2 b1.length c3, pV b18 (of19 + (0 : Int).toNat * 1), .int .u8 (rd b1 0), fV, fV, fV, .slice A2 b1.length c3, pV b31 (of32 + (1 : Int).toNat * 1), .int .u8 (rd b1 1), fV, fV, fV, .slice A2 b1.length c3, pV b31 (of32 + (1 : Int).toNat * 1), .int .u8 (rd b1 1), fV, fV, .slice A2 b1.length c3, pV b18 (of19 + (0 : Int).toNat * 1), .int .u8 (rd b1 0), iV (w64 ((rd b1 0))), .slice A2 b1.length c3, pV b31 (of32 + (1 : Int).toNat * 1), .int .u8 (rd b1 1), iV (w64 ((rd b1 1))), uV, uV, uV, uV, uV, uV, uV, uV, uV, uV, uV, uV, uV, uV, uV, uV, uV, uV, uV, uV, uV, uV, uV, uV, uV, uV, uV, uV, uV, uV, uV, uV, uV, uV, uV, uV, uV, uV, uV, uV, uV, uV, uV, uV, uV, uV, uV, uV, uV], []⟩) (by kernel_rfl) ?_
           refine wpList_nil ?_
           refine hK46 _ _ ?_
           refine wp_seq_k (fun K47 hK48 => ?_)
           refine wp_seq_k (fun K49 hK50 => ?_)
           refine wp_region_lit ?_
           refine seqS2 (a' := ⟨#[.slice A2 b1.length c3, uV, iV (w64 ((rd b1 0))), iV (w64 ((rd b1 1))), .slice none 0 0, iV 0, iV 2, uV, .slice A2 b1.length c3, iV (b1.length : Int), fV, fV, .slice A2 b1.length c3, pV b18 (of19 + (0 : Int).toNat * 1), .int .u8 (rd b1 0), fV, fV, fV, .slice A2 b1.length c3, pV b18 (of19 + (0 : Int).toNat * 1), .int .u8 (rd b1 0), fV, fV, fV, .slice A2 b1.length c3, pV b31 (of32 + (1 : Int).toNat * 1), .int .u8 (rd b1 1), fV, fV, fV, .slice A2 b1.length c3, pV b31 (of32 + (1 : Int).toNat * 1), .int .u8 (rd b1 1), fV, fV, .slice A2 b1.length c3, pV b18 (of19 + (0 : Int).toNat * 1), .int .u8 (rd b1 0), iV (w64 ((rd b1 0))), .slice A2 b1.length c3, pV b31 (of32 + (1 : Int).toNat * 1), .int .u8 (rd b1 1), iV (w64 ((rd b1 1))), iV (w64 ((rd b1 1))), iV 0, uV, uV, uV, uV, uV, uV, uV, uV, uV, uV, uV, uV, uV, uV, uV, uV, uV, uV, uV, uV, uV, uV, uV, uV, uV, uV, uV, uV, uV, uV, uV, uV, uV, uV, uV, uV, uV, uV, uV, uV, uV, uV, uV, uV, uV, uV, uV], []⟩) (by kernel_rfl) ?_
           refine wpList_nil ?_
           refine hK50 _ _ ?_
           refine blockK (fun B51 hx52 hn53 hr54 ho55 hp56 => ?_)
           have hq_ := bind_some h; clear h; obtain ⟨o57, hv158, h⟩ := hq_
           have JR160 : ∀ z_, some (Sum.inl z_) = some o57 → some z_ = some (rr1, rr2, rr3, rr4) := by
            intro z_ e_; injection e_ with e_; subst e_; exact h
           have J159 : ∀ (f144 : FM) (A152 : Option Addr) (c153 : Nat) (s154 : Seg) (vw149 : Int) (vh150 : Int) (vat151 : List Int) (next157 : Int) (j148 : Nat → Value) (W146 : World) (a_ : Act), FM.le f f144 → some (Sum.inr (vw149, vh150, vat151, next157)) = some o57 → St t W146 f144 (s154 :: H) → Own (tInt .i64) 3 f144 A152 c153 s154 vat151 → a_ = ⟨#[.slice A2 b1.length c3, uV, iV vw149, iV vh150, .slice A152 vat151.length c153, (j148 0), iV next157, (j148 1), .slice A2 b1.length c3, iV (b1.length : Int), fV, fV, .slice A2 b1.length c3, pV b18 (of19 + (0 : Int).toNat * 1), .int .u8 (rd b1 0), fV, fV, fV, .slice A2 b1.length c3, pV b18 (of19 + (0 : Int).toNat * 1), .int .u8 (rd b1 0), fV, fV, fV, .slice A2 b1.length c3, pV b31 (of32 + (1 : Int).toNat * 1), .int .u8 (rd b1 1), fV, fV, fV, .slice A2 b1.length c3, pV b31 (of32 + (1 : Int).toNat * 1), .int .u8 (rd b1 1), fV, fV, .slice A2 b1.length c3, pV b18 (of19 + (0 : Int).toNat * 1), .int .u8 (rd b1 0), iV (w64 ((rd b1 0))), .slice A2 b1.length c3, pV b31 (of32 + (1 : Int).toNat * 1), .int .u8 (rd b1 1), iV (w64 ((rd b1 1))), iV (w64 ((rd b1 1))), (j148 2), (j148 3), (j148 4), (j148 5), (j148 6), (j148 7), (j148 8), (j148 9), (j148 10), (j148 11), (j148 12), (j148 13), (j148 14), (j148 15), (j148 16), (j148 17), (j148 18), (j148 19), (j148 20), (j148 21), (j148 22), (j148 23), (j148 24), (j148 25), (j148 26), (j148 27), (j148 28), (j148 29), (j148 30), (j148 31), (j148 32), (j148 33), (j148 34), (j148 35), (j148 36), (j148 37), (j148 38), uV, uV, uV, uV, uV, uV, uV, uV, uV, uV, uV], []⟩ → K47 a_ W146 := by
            intro f144 A152 c153 s154 vw149 vh150 vat151 next157 j148 W146 a_ L145 hj161 HS147 HO155 hfr_; subst hfr_
            injection hj161 with hj161; subst hj161; try dsimp only at h
            simp only [Sum.elim_inr] at h
            refine hK48 _ _ ?_
            refine wp_seq_k (fun K164 hK165 => ?_)
            refine wp_seq_k (fun K166 hK167 => ?_)
            refine wp_region_lit ?_
            refine seqS4 (a' := ⟨#[.slice A2 b1.length c3, uV, iV vw149, iV vh150, .slice A152 vat151.length c153, (j148 0), iV next157, (j148 1), .slice A2 b1.length c3, iV (b1.length : Int), fV, fV, .slice A2 b1.length c3, pV b18 (of19 + (0 : Int).toNat * 1), .int .u8 (rd b1 0), fV, fV, fV, .slice A2 b1.length c3, pV b18 (of19 + (0 : Int).toNat * 1), .int .u8 (rd b1 0), fV, fV, fV, .slice A2 b1.length c3, pV b31 (of32 + (1 : Int).toNat * 1), .int .u8 (rd b1 1), fV, fV, fV, .slice A2 b1.length c3, pV b31 (of32 + (1 : Int).toNat * 1), .int .u8 (rd b1 1), fV, fV, .slice A2 b1.length c3, pV b18 (of19 + (0 : Int).toNat * 1), .int .u8 (rd b1 0), iV (w64 ((rd b1 0))), .slice A2 b1.length c3, pV b31 (of32 + (1 : Int).toNat * 1), .int .u8 (rd b1 1), iV (w64 ((rd b1 1))), iV (w64 ((rd b1 1))), (j148 2), (j148 3), (j148 4), (j148 5), (j148 6), (j148 7), (j148 8), (j148 9), (j148 10), (j148 11), (j148 12), (j148 13), (j148 14), (j148 15), (j148 16), (j148 17), (j148 18), (j148 19), (j148 20), (j148 21), (j148 22), (j148 23), (j148 24), (j148 25), (j148 26), (j148 27), (j148 28), (j148 29), (j148 30), (j148 31), (j148 32), (j148 33), (j148 34), (j148 35), (j148 36), (j148 37), (j148 38), iV next157, .slice A2 b1.length c3, iV (b1.length : Int), .bool (next157 != (b1.length : Int)), uV, uV, uV, uV, uV, uV, uV], []⟩) (by kernel_rfl) ?_
            refine wpList_nil ?_
            refine hK167 _ _ ?_
            have hq_ := ite_some h; clear h; rcases hq_ with ⟨c169, h⟩ | ⟨c169, h⟩
            · have c169 : next157 ≠ (b1.length : Int) := c169
              refine wpRwI 84 (x := (next157 != (b1.length : Int))) (v := true) (by kernel_rfl) (bne_iff_ne.mpr c169) ?_
              refine condT (by kernel_rfl) ?_
              refine wp_seq_k (fun K170 hK171 => ?_)
              refine wp_region_lit ?_
              refine seqS4 (a' := ⟨#[.slice A2 b1.length c3, uV, iV 0, iV 0, .slice none 0 0, iV 3, iV next157, (j148 1), .slice A2 b1.length c3, iV (b1.length : Int), fV, fV, .slice A2 b1.length c3, pV b18 (of19 + (0 : Int).toNat * 1), .int .u8 (rd b1 0), fV, fV, fV, .slice A2 b1.length c3, pV b18 (of19 + (0 : Int).toNat * 1), .int .u8 (rd b1 0), fV, fV, fV, .slice A2 b1.length c3, pV b31 (of32 + (1 : Int).toNat * 1), .int .u8 (rd b1 1), fV, fV, fV, .slice A2 b1.length c3, pV b31 (of32 + (1 : Int).toNat * 1), .int .u8 (rd b1 1), fV, fV, .slice A2 b1.length c3, pV b18 (of19 + (0 : Int).toNat * 1), .int .u8 (rd b1 0), iV (w64 ((rd b1 0))), .slice A2 b1.length c3, pV b31 (of32 + (1 : Int).toNat * 1), .int .u8 (rd b1 1), iV (w64 ((rd b1 1))), iV (w64 ((rd b1 1))), (j148 2), (j148 3), (j148 4), (j148 5), (j148 6), (j148 7), (j148 8), (j148 9), (j148 10), (j148 11), (j148 12), (j148 13), (j148 14), (j148 15), (j148 16), (j148 17), (j148 18), (j148 19), (j148 20), (j148 21), (j148 22), (j148 23), (j148 24), (j148 25), (j148 26), (j148 27), (j148 28), (j148 29), (j148 30), (j148 31), (j148 32), (j148 33), (j148 34), (j148 35), (j148 36), (j148 37), (j148 38), iV next157, .slice A2 b1.length c3, iV (b1.length : Int), tV, uV, uV, uV, uV, uV, uV, uV], []⟩) (by kernel_rfl) ?_
              refine wpList_nil ?_
              refine hK171 _ _ ?_
              refine wp_ret ?_
              refine hret _ _ ?_
              have HS207 := HS147.cons_nil
              refine ends_still (v := Value.tuple #[.int .i64 0, .int .i64 0, .slice none 0 0, .int .i64 3]) (by kernel_rfl) (by kernel_rfl) ?_
              have HS209 := HS207.u1
              have HS210 := HS209.drop
              injection h with h
              injection h with h0_ h
              injection h with h1_ h
              injection h with h2_ h
              subst h0_ h1_ h2_ h
              exact ⟨f144, none, 0, [], rfl, L145, HS210, (Own.nil _)⟩
            · have c169 : ¬ (next157 ≠ (b1.length : Int)) := c169
              refine wpRwI 84 (x := (next157 != (b1.length : Int))) (v := false) (by kernel_rfl) (bne_eq_false_iff_eq.mpr (Decidable.of_not_not c169)) ?_
              refine condF (by kernel_rfl) ?_
              refine wp_skip ?_
              refine hK165 _ _ ?_
              refine wp_seq_k (fun K172 hK173 => ?_)
              refine wp_region_lit ?_
              refine seqL5 (by kernel_rfl) ?_
              refine seqK rfl (does_lit (e := (tInt .i64)) (E := 3) (vs := #[(0, Value.int .i64 (b1.length : Int))]) (cs := #[.int .i64 (b1.length : Int)]) (xs := ([(b1.length : Int)] : List Int)) rfl Tryd.underlying27 (by kernel_rfl) (by kernel_rfl) ⟨[.int .i64 (b1.length : Int)], _, rfl, rfl, rfl⟩ rfl HS147 ?_ (by decide))
              intro b174 W175 s176 HS177 _ HO178
              have hq_ := guard_some h; clear h; obtain ⟨c180, h⟩ := hq_
              have c180 : (vat151.length + 1) * 8 ≤ 140737488355328 := c180
              have HS181 := HS177.u1
              have HS182 := HS181.u1
              refine seqK rfl (does_append1 (e := (tInt .i64)) (E := 3) (xs := vat151) (ys := ([(b1.length : Int)] : List Int)) rfl (by kernel_rfl : _ = Value.slice A152 vat151.length c153) (by kernel_rfl : _ = Value.slice (some ⟨b174, 0, none⟩) ([(b1.length : Int)] : List Int).length 1) Tryd.underlying27 inf3 HO155 HO178 HS182 c180 (lim63 c180 (by decide)) ?_)
              intro A183 c184 s185 W186 HS187 HO188
              refine seqS4 (a' := ⟨#[.slice A2 b1.length c3, uV, iV vw149, iV vh150, .slice A183 (vat151 ++ ([(b1.length : Int)] : List Int)).length c184, iV 0, iV next157, (j148 1), .slice A2 b1.length c3, iV (b1.length : Int), fV, fV, .slice A2 b1.length c3, pV b18 (of19 + (0 : Int).toNat * 1), .int .u8 (rd b1 0), fV, fV, fV, .slice A2 b1.length c3, pV b18 (of19 + (0 : Int).toNat * 1), .int .u8 (rd b1 0), fV, fV, fV, .slice A2 b1.length c3, pV b31 (of32 + (1 : Int).toNat * 1), .int .u8 (rd b1 1), fV, fV, fV, .slice A2 b1.length c3, pV b31 (of32 + (1 : Int).toNat * 1), .int .u8 (rd b1 1), fV, fV, .slice A2 b1.length c3, pV b18 (of19 + (0 : Int).toNat * 1), .int .u8 (rd b1 0), iV (w64 ((rd b1 0))), .slice A2 b1.length c3, pV b31 (of32 + (1 : Int).toNat * 1), .int .u8 (rd b1 1), iV (w64 ((rd b1 1))), iV (w64 ((rd b1 1))), (j148 2), (j148 3), (j148 4), (j148 5), (j148 6), (j148 7), (j148 8), (j148 9), (j148 10), (j148 11), (j148 12), (j148 13), (j148 14), (j148 15), (j148 16), (j148 17), (j148 18), (j148 19), (j148 20), (j148 21), (j148 22), (j148 23), (j148 24), (j148 25), (j148 26), (j148 27), (j148 28), (j148 29), (j148 30), (j148 31), (j148 32), (j148 33), (j148 34), (j148 35), (j148 36), (j148 37), (j148 38), iV next157, .slice A2 b1.length c3, iV (b1.length : Int), fV, iV vw149, iV vh150, .slice A152 vat151.length c153, .slice A2 b1.length c3, iV (b1.length : Int), .slice (some ⟨b174, 0, none⟩) ([(b1.length : Int)] : List Int).length 1, .slice A183 (vat151 ++ ([(b1.length : Int)] : List Int)).length c184], []⟩) (by kernel_rfl) ?_
              refine wpList_nil ?_
              refine hK173 _ _ ?_
              refine wp_ret ?_
              refine hret _ _ ?_
              refine ends_still (v := Value.tuple #[.int .i64 vw149, .int .i64 vh150, .slice A183 (vat151 ++ ([(b1.length : Int)] : List Int)).length c184, .int .i64 0]) (by kernel_rfl) (by kernel_rfl) ?_
              injection h with h
              injection h with h0_ h
              injection h with h1_ h
              injection h with h2_ h
              subst h0_ h1_ h2_ h
              exact ⟨f144, A183, c184, s185, rfl, L145, HS187, HO188⟩
           clear h; have h := hv158; clear hv158
           have HS162 := HS44.cons_nil
           refine loopK (fun n_ a_ w_ => ∃ (f61 : FM) (A69 : Option Addr) (c70 : Nat) (s71 : Seg) (vw66 : Int) (vh67 : Int) (vat68 : List Int) (next74 : Int) (x75 : Int) (j65 : Nat → Value), FM.le f f61 ∧ St t w_ f61 (s71 :: H) ∧ Own (tInt .i64) 3 f61 A69 c70 s71 vat68 ∧ squeeze_Index.l0 k b1 n_ vw66 vh67 vat68 next74 x75 = some o57 ∧ a_ = ⟨#[.slice A2 b1.length c3, uV, iV vw66, iV vh67, .slice A69 vat68.length c70, (j65 0), iV next74, (j65 1), .slice A2 b1.length c3, iV (b1.length : Int), fV, fV, .slice A2 b1.length c3, pV b18 (of19 + (0 : Int).toNat * 1), .int .u8 (rd b1 0), fV, fV, fV, .slice A2 b1.length c3, pV b18 (of19 + (0 : Int).toNat * 1), .int .u8 (rd b1 0), fV, fV, fV, .slice A2 b1.length c3, pV b31 (of32 + (1 : Int).toNat * 1), .int .u8 (rd b1 1), fV, fV, fV, .slice A2 b1.length c3, pV b31 (of32 + (1 : Int).toNat * 1), .int .u8 (rd b1 1), fV, fV, .slice A2 b1.length c3, pV b18 (of19 + (0 : Int).toNat * 1), .int .u8 (rd b1 0), iV (w64 ((rd b1 0))), .slice A2 b1.length c3, pV b31 (of32 + (1 : Int).toNat * 1), .int .u8 (rd b1 1), iV (w64 ((rd b1 1))), iV (w64 ((rd b1 1))), iV x75, (j65 2), (j65 3), (j65 4), (j65 5), (j65 6), (j65 7), (j65 8), (j65 9), (j65 10), (j65 11), (j65 12), (j65 13), (j65 14), (j65 15), (j65 16), (j65 17), (j65 18), (j65 19), (j65 20), (j65 21), (j65 22), (j65 23), (j65 24), (j65 25), (j65 26), (j65 27), (j65 28), (j65 29), (j65 30), (j65 31), (j65 32), (j65 33), (j65 34), (j65 35), (j65 36), (j65 37), uV, uV, uV, uV, uV, uV, uV, uV, uV, uV, uV], []⟩) k ⟨f, none, 0, [], (w64 ((rd b1 0))), (w64 ((rd b1 1))), ([] : List Int), 2, 0, (fun i_ => [Value.int .i64 0, undef, undef, undef, undef, undef, undef, undef, undef, undef, undef, undef, undef, undef, undef, undef, undef, undef, undef, undef, undef, undef, undef, undef, undef, undef, undef, undef, undef, undef, undef, undef, undef, undef, undef, undef, undef, undef].getD i_ undef), (FM.le.refl _), HS162, (Own.nil _), h, (by kernel_rfl)⟩ ?_
           clear h
           rintro n60 _ W63 ⟨f61, A69, c70, s71, vw66, vh67, vat68, next74, x75, j65, L62, HS64, HO72, h, rfl⟩ K58 hK59
           obtain _ | n60 := n60
           · exact nomatch h
           simp only [squeeze_Index.l0] at h
           refine wp_seq_k (fun K76 hK77 => ?_)
           refine wp_region_lit ?_
           refine seqS1 (a' := ⟨#[.slice A2 b1.length c3, uV, iV vw66, iV vh67, .slice A69 vat68.length c70, (j65 0), iV next74, (j65 1), .slice A2 b1.length c3, iV (b1.length : Int), fV, fV, .slice A2 b1.length c3, pV b18 (of19 + (0 : Int).toNat * 1), .int .u8 (rd b1 0), fV, fV, fV, .slice A2 b1.length c3, pV b18 (of19 + (0 : Int).toNat * 1), .int .u8 (rd b1 0), fV, fV, fV, .slice A2 b1.length c3, pV b31 (of32 + (1 : Int).toNat * 1), .int .u8 (rd b1 1), fV, fV, fV, .slice A2 b1.length c3, pV b31 (of32 + (1 : Int).toNat * 1), .int .u8 (rd b1 1), fV, fV, .slice A2 b1.length c3, pV b18 (of19 + (0 : Int).toNat * 1), .int .u8 (rd b1 0), iV (w64 ((rd b1 0))), .slice A2 b1.length c3, pV b31 (of32 + (1 : Int).toNat * 1), .int .u8 (rd b1 1), iV (w64 ((rd b1 1))), iV (w64 ((rd b1 1))), iV x75, .bool (decide (x75 < (w64 ((rd b1 1))))), (j65 3), (j65 4), (j65 5), (j65 6), (j65 7), (j65 8), (j65 9), (j65 10), (j65 11), (j65 12), (j65 13), (j65 14), (j65 15), (j65 16), (j65 17), (j65 18), (j65 19), (j65 20), (j65 21), (j65 22), (j65 23), (j65 24), (j65 25), (j65 26), (j65 27), (j65 28), (j65 29), (j65 30), (j65 31), (j65 32), (j65 33), (j65 34), (j65 35), (j65 36), (j65 37), uV, uV, uV, uV, uV, uV, uV, uV, uV, uV, uV], []⟩) (by kernel_rfl) ?_
           refine wpList_nil ?_
           refine hK77 _ _ ?_
           refine wp_seq_k (fun K78 hK79 => ?_)
           have hq_ := ite_some h; clear h; rcases hq_ with ⟨c81, h⟩ | ⟨c81, h⟩
           · have c81 : x75 < (w64 ((rd b1 1))) := c81
             refine wpRwI 45 (x := (decide (x75 < (w64 ((rd b1 1)))))) (v := true) (by kernel_rfl) (decide_eq_true c81) ?_
             refine condT (by kernel_rfl) ?_
             refine wp_skip ?_
             refine hK79 _ _ ?_
             refine wp_seq_k (fun K82 hK83 => ?_)
             refine blockK (fun B84 hx85 hn86 hr87 ho88 hp89 => ?_)
             refine wp_seq_k (fun K91 hK92 => ?_)
             refine wp_seq_k (fun K93 hK94 => ?_)
             refine wp_region_lit ?_
             refine seqS5 (a' := ⟨#[.slice A2 b1.length c3, uV, iV vw66, iV vh67, .slice A69 vat68.length c70, (j65 0), iV next74, (j65 1), .slice A2 b1.length c3, iV (b1.length : Int), fV, fV, .slice A2 b1.length c3, pV b18 (of19 + (0 : Int).toNat * 1), .int .u8 (rd b1 0), fV, fV, fV, .slice A2 b1.length c3, pV b18 (of19 + (0 : Int).toNat * 1), .int .u8 (rd b1 0), fV, fV, fV, .slice A2 b1.length c3, pV b31 (of32 + (1 : Int).toNat * 1), .int .u8 (rd b1 1), fV, fV, fV, .slice A2 b1.length c3, pV b31 (of32 + (1 : Int).toNat * 1), .int .u8 (rd b1 1), fV, fV, .slice A2 b1.length c3, pV b18 (of19 + (0 : Int).toNat * 1), .int .u8 (rd b1 0), iV (w64 ((rd b1 0))), .slice A2 b1.length c3, pV b31 (of32 + (1 : Int).toNat * 1), .int .u8 (rd b1 1), iV (w64 ((rd b1 1))), iV (w64 ((rd b1 1))), iV x75, tV, .slice A2 b1.length c3, iV (b1.length : Int), iV next74, iV (w64 ((b1.length : Int) - next74)), .bool (decide ((w64 ((b1.length : Int) - next74)) < 2)), (j65 8), (j65 9), (j65 10), (j65 11), (j65 12), (j65 13), (j65 14), (j65 15), (j65 16), (j65 17), (j65 18), (j65 19), (j65 20), (j65 21), (j65 22), (j65 23), (j65 24), (j65 25), (j65 26), (j65 27), (j65 28), (j65 29), (j65 30), (j65 31), (j65 32), (j65 33), (j65 34), (j65 35), (j65 36), (j65 37), uV, uV, uV, uV, uV, uV, uV, uV, uV, uV, uV], []⟩) (by kernel_rfl) ?_
             refine wpList_nil ?_
             refine hK94 _ _ ?_
             have hq_ := ite_some h; clear h; rcases hq_ with ⟨c96, h⟩ | ⟨c96, h⟩
             · have c96 : (w64 ((b1.length : Int) - next74)) < 2 := c96
               refine wpRwI 50 (x := (decide ((w64 ((b1.length : Int) - next74)) < 2))) (v := true) (by kernel_rfl) (decide_eq_true c96) ?_
               refine condT (by kernel_rfl) ?_
               refine wp_seq_k (fun K97 hK98 => ?_)
               refine wp_region_lit ?_
               refine seqS4 (a' := ⟨#[.slice A2 b1.length c3, uV, iV 0, iV 0, .slice none 0 0, iV 3, iV next74, (j65 1), .slice A2 b1.length c3, iV (b1.length : Int), fV, fV, .slice A2 b1.length c3, pV b18 (of19 + (0 : Int).toNat * 1), .int .u8 (rd b1 0), fV, fV, fV, .slice A2 b1.length c3, pV b18 (of19 + (0 : Int).toNat * 1), .int .u8 (rd b1 0), fV, fV, fV, .slice A2 b1.length c3, pV b31 (of32 + (1 : Int).toNat * 1), .int .u8 (rd b1 1), fV, fV, fV, .slice A2 b1.length c3, pV b31 (of32 + (1 : Int).toNat * 1), .int .u8 (rd b1 1), fV, fV, .slice A2 b1.length c3, pV b18 (of19 + (0 : Int).toNat * 1), .int .u8 (rd b1 0), iV (w64 ((rd b1 0))), .slice A2 b1.length c3, pV b31 (of32 + (1 : Int).toNat * 1), .int .u8 (rd b1 1), iV (w64 ((rd b1 1))), iV (w64 ((rd b1 1))), iV x75, tV, .slice A2 b1.length c3, iV (b1.length : Int), iV next74, iV (w64 ((b1.length : Int) - next74)), tV, (j65 8), (j65 9), (j65 10), (j65 11), (j65 12), (j65 13), (j65 14), (j65 15), (j65 16), (j65 17), (j65 18), (j65 19), (j65 20), (j65 21), (j65 22), (j65 23), (j65 24), (j65 25), (j65 26), (j65 27), (j65 28), (j65 29), (j65 30), (j65 31), (j65 32), (j65 33), (j65 34), (j65 35), (j65 36), (j65 37), uV, uV, uV, uV, uV, uV, uV, uV, uV, uV, uV], []⟩) (by kernel_rfl) ?_
               refine wpList_nil ?_
               refine hK98 _ _ ?_
               refine wp_ret ?_
               refine hr87 _ _ ?_
               refine hr54 _ _ ?_
               refine hret _ _ ?_
               have HS199 := HS64.cons_nil
               refine ends_still (v := Value.tuple #[.int .i64 0, .int .i64 0, .slice none 0 0, .int .i64 3]) (by kernel_rfl) (by kernel_rfl) ?_
               have HS201 := HS199.u1
               have HS202 := HS201.drop
               replace h := JR160 _ h
               injection h with h
               injection h with h0_ h
               injection h with h1_ h
               injection h with h2_ h
               subst h0_ h1_ h2_ h
               exact ⟨f61, none, 0, [], rfl, L62, HS202, (Own.nil _)⟩
             · have c96 : ¬ ((w64 ((b1.length : Int) - next74)) < 2) := c96
               refine wpRwI 50 (x := (decide ((w64 ((b1.length : Int) - next74)) < 2))) (v := false) (by kernel_rfl) (decide_eq_false c96) ?_
               refine condF (by kernel_rfl) ?_
               refine wp_skip ?_
               refine hK92 _ _ ?_
               refine wp_seq_k (fun K99 hK100 => ?_)
               refine heldG (S := Sg t f61 (s71 :: H) []) (n := 14) (by kernel_rfl) rfl HS64 ?_
               intro W101 HS102
               have hq_ := guard_some h; clear h; obtain ⟨c103, h⟩ := hq_
               have c103 : 0 ≤ next74 := c103
               have hq_ := guard_some h; clear h; obtain ⟨c104, h⟩ := hq_
               have c104 : next74 < (b1.length : Int) := c104
               obtain ⟨b108, of109, cs105, hA110, hr106, hc107⟩ := (HR4.mono L62).at (i := next74) c103 c104
               obtain rfl := hr106
               refine takeG [0, 1] (n := 14) (fuel := 12) (l' := #[true, true, false, false, false, false, false, false, false, false, false, false, false, false]) (a' := ⟨#[.slice A2 b1.length c3, uV, iV vw66, iV vh67, .slice A69 vat68.length c70, (j65 0), iV next74, (j65 1), .slice A2 b1.length c3, iV (b1.length : Int), fV, fV, .slice A2 b1.length c3, pV b18 (of19 + (0 : Int).toNat * 1), .int .u8 (rd b1 0), fV, fV, fV, .slice A2 b1.length c3, pV b18 (of19 + (0 : Int).toNat * 1), .int .u8 (rd b1 0), fV, fV, fV, .slice A2 b1.length c3, pV b31 (of32 + (1 : Int).toNat * 1), .int .u8 (rd b1 1), fV, fV, fV, .slice A2 b1.length c3, pV b31 (of32 + (1 : Int).toNat * 1), .int .u8 (rd b1 1), fV, fV, .slice A2 b1.length c3, pV b18 (of19 + (0 : Int).toNat * 1), .int .u8 (rd b1 0), iV (w64 ((rd b1 0))), .slice A2 b1.length c3, pV b31 (of32 + (1 : Int).toNat * 1), .int .u8 (rd b1 1), iV (w64 ((rd b1 1))), iV (w64 ((rd b1 1))), iV x75, tV, .slice A2 b1.length c3, iV (b1.length : Int), iV next74, iV (w64 ((b1.length : Int) - next74)), fV, .slice A2 b1.length c3, iV next74, (j65 10), (j65 11), (j65 12), (j65 13), (j65 14), (j65 15), (j65 16), (j65 17), (j65 18), (j65 19), (j65 20), (j65 21), (j65 22), (j65 23), (j65 24), (j65 25), (j65 26), (j65 27), (j65 28), (j65 29), (j65 30), (j65 31), (j65 32), (j65 33), (j65 34), (j65 35), (j65 36), (j65 37), uV, uV, uV, uV, uV, uV, uV, uV, uV, uV, uV], []⟩) rfl (by kernel_rfl) (by kernel_rfl) (by kernel_rfl) (fun ch_ a_ w_ q_ => (fun ch_ a_ w_ q_ => hnp ch_ a_ w_ (hp56 ch_ a_ w_ q_)) ch_ a_ w_ (hp89 ch_ a_ w_ q_)) (Sg.g0 (Sx.of [] (FM.le.refl _) HS102)) ?_
               refine takeGQ 2 [] rfl (by kernel_rfl) (by kernel_rfl) (by kernel_rfl) (by kernel_rfl) (by kernel_rfl) (by kernel_rfl) (fun ch_ a_ w_ q_ => (fun ch_ a_ w_ q_ => hnp ch_ a_ w_ (hp56 ch_ a_ w_ q_)) ch_ a_ w_ (hp89 ch_ a_ w_ q_)) (Sg.g0 (Sx.of [] (FM.le.refl _) HS102)) (fun w_ hw_ => by obtain ⟨g_, hl_, hS_⟩ := hw_.st; exact run_indexE hA110 (sz := 1) rfl Tryd.underlying23 (by kernel_rfl) (by kernel_rfl : _ = Value.slice A2 b1.length c3) (by kernel_rfl : _ = Value.int .i64 next74) c103 c104 w_) ?_
               refine takeGQ 3 [] rfl (by kernel_rfl) (by kernel_rfl) (by kernel_rfl) (by kernel_rfl) (by kernel_rfl) (by kernel_rfl) (fun ch_ a_ w_ q_ => (fun ch_ a_ w_ q_ => hnp ch_ a_ w_ (hp56 ch_ a_ w_ q_)) ch_ a_ w_ (hp89 ch_ a_ w_ q_)) (Sg.g0 (Sx.of [] (FM.le.refl _) HS102)) (fun w_ hw_ => by obtain ⟨g_, hl_, hS_⟩ := hw_.st; exact run_load rfl Tryd.underlying5 rfl (by kernel_rfl : _ = Value.pointer (some ⟨b108, of109 + (next74 : Int).toNat * 1, none⟩)) ((hc107 hl_ hS_) 0 (by decide))) ?_
               have hq_ := guard_some h; clear h; obtain ⟨c111, h⟩ := hq_
               have c111 : 0 ≤ (w64 (next74 + 1)) := c111
               have hq_ := guard_some h; clear h; obtain ⟨c112, h⟩ := hq_
               have c112 : (w64 (next74 + 1)) < (b1.length : Int) := c112
               obtain ⟨b116, of117, cs113, hA118, hr114, hc115⟩ := (HR4.mono L62).at (i := w64 (next74 + 1)) c111 c112
               obtain rfl := hr114
               refine takeG [4, 5, 6, 7, 8] (n := 10) (fuel := 5) (l' := #[true, true, true, true, true, true, true, true, true, false, false, false, false, false]) (a' := ⟨#[.slice A2 b1.length c3, uV, iV vw66, iV vh67, .slice A69 vat68.length c70, (j65 0), iV next74, (j65 1), .slice A2 b1.length c3, iV (b1.length : Int), fV, fV, .slice A2 b1.length c3, pV b18 (of19 + (0 : Int).toNat * 1), .int .u8 (rd b1 0), fV, fV, fV, .slice A2 b1.length c3, pV b18 (of19 + (0 : Int).toNat * 1), .int .u8 (rd b1 0), fV, fV, fV, .slice A2 b1.length c3, pV b31 (of32 + (1 : Int).toNat * 1), .int .u8 (rd b1 1), fV, fV, fV, .slice A2 b1.length c3, pV b31 (of32 + (1 : Int).toNat * 1), .int .u8 (rd b1 1), fV, fV, .slice A2 b1.length c3, pV b18 (of19 + (0 : Int).toNat * 1), .int .u8 (rd b1 0), iV (w64 ((rd b1 0))), .slice A2 b1.length c3, pV b31 (of32 + (1 : Int).toNat * 1), .int .u8 (rd b1 1), iV (w64 ((rd b1 1))), iV (w64 ((rd b1 1))), iV x75, tV, .slice A2 b1.length c3, iV (b1.length : Int), iV next74, iV (w64 ((b1.length : Int) - next74)), fV, .slice A2 b1.length c3, iV next74, pV b108 (of109 + (next74 : Int).toNat * 1), .int .u8 (rd b1 next74), iV (w64 ((rd b1 next74))), iV (w64 ((w64 ((rd b1 next74))) * 2 ^ 8)), .slice A2 b1.length c3, iV next74, iV (w64 (next74 + 1)), (j65 17), (j65 18), (j65 19), (j65 20), (j65 21), (j65 22), (j65 23), (j65 24), (j65 25), (j65 26), (j65 27), (j65 28), (j65 29), (j65 30), (j65 31), (j65 32), (j65 33), (j65 34), (j65 35), (j65 36), (j65 37), uV, uV, uV, uV, uV, uV, uV, uV, uV, uV, uV], []⟩) rfl (by kernel_rfl) (by kernel_rfl) (by kernel_rfl) (fun ch_ a_ w_ q_ => (fun ch_ a_ w_ q_ => hnp ch_ a_ w_ (hp56 ch_ a_ w_ q_)) ch_ a_ w_ (hp89 ch_ a_ w_ q_)) (Sg.g0 (Sx.of [] (FM.le.refl _) HS102)) ?_
               refine takeGQ 9 [] rfl (by kernel_rfl) (by kernel_rfl) (by kernel_rfl) (by kernel_rfl) (by kernel_rfl) (by kernel_rfl) (fun ch_ a_ w_ q_ => (fun ch_ a_ w_ q_ => hnp ch_ a_ w_ (hp56 ch_ a_ w_ q_)) ch_ a_ w_ (hp89 ch_ a_ w_ q_)) (Sg.g0 (Sx.of [] (FM.le.refl _) HS102)) (fun w_ hw_ => by obtain ⟨g_, hl_, hS_⟩ := hw_.st; exact run_indexE hA118 (sz := 1) rfl Tryd.underlying23 (by kernel_rfl) (by kernel_rfl : _ = Value.slice A2 b1.length c3) (by kernel_rfl : _ = Value.int .i64 (w64 (next74 + 1))) c111 c112 w_) ?_
               refine takeGQ 10 [] rfl (by kernel_rfl) (by kernel_rfl) (by kernel_rfl) (by kernel_rfl) (by kernel_rfl) (by kernel_rfl) (fun ch_ a_ w_ q_ => (fun ch_ a_ w_ q_ => hnp ch_ a_ w_ (hp56 ch_ a_ w_ q_)) ch_ a_ w_ (hp89 ch_ a_ w_ q_)) (Sg.g0 (Sx.of [] (FM.le.refl _) HS102)) (fun w_ hw_ => by obtain ⟨g_, hl_, hS_⟩ := hw_.st; exact run_load rfl Tryd.underlying5 rfl (by kernel_rfl : _ = Value.pointer (some ⟨b116, of117 + (w64 (next74 + 1) : Int).toNat * 1, none⟩)) ((hc115 hl_ hS_) 0 (by decide))) ?_
               refine takeG [11, 12, 13] (n := 3) (fuel := 0) (l' := #[true, true, true, true, true, true, true, true, true, true, true, true, true, true]) (a' := ⟨#[.slice A2 b1.length c3, uV, iV vw66, iV vh67, .slice A69 vat68.length c70, (j65 0), iV next74, iV (Go.bits .or .i64 (w64 ((w64 ((rd b1 next74))) * 2 ^ 8)) (w64 ((rd b1 (w64 (next74 + 1)))))), .slice A2 b1.length c3, iV (b1.length : Int), fV, fV, .slice A2 b1.length c3, pV b18 (of19 + (0 : Int).toNat * 1), .int .u8 (rd b1 0), fV, fV, fV, .slice A2 b1.length c3, pV b18 (of19 + (0 : Int).toNat * 1), .int .u8 (rd b1 0), fV, fV, fV, .slice A2 b1.length c3, pV b31 (of32 + (1 : Int).toNat * 1), .int .u8 (rd b1 1), fV, fV, fV, .slice A2 b1.length c3, pV b31 (of32 + (1 : Int).toNat * 1), .int .u8 (rd b1 1), fV, fV, .slice A2 b1.length c3, pV b18 (of19 + (0 : Int).toNat * 1), .int .u8 (rd b1 0), iV (w64 ((rd b1 0))), .slice A2 b1.length c3, pV b31 (of32 + (1 : Int).toNat * 1), .int .u8 (rd b1 1), iV (w64 ((rd b1 1))), iV (w64 ((rd b1 1))), iV x75, tV, .slice A2 b1.length c3, iV (b1.length : Int), iV next74, iV (w64 ((b1.length : Int) - next74)), fV, .slice A2 b1.length c3, iV next74, pV b108 (of109 + (next74 : Int).toNat * 1), .int .u8 (rd b1 next74), iV (w64 ((rd b1 next74))), iV (w64 ((w64 ((rd b1 next74))) * 2 ^ 8)), .slice A2 b1.length c3, iV next74, iV (w64 (next74 + 1)), pV b116 (of117 + (w64 (next74 + 1) : Int).toNat * 1), .int .u8 (rd b1 (w64 (next74 + 1))), iV (w64 ((rd b1 (w64 (next74 + 1))))), iV (Go.bits .or .i64 (w64 ((w64 ((rd b1 next74))) * 2 ^ 8)) (w64 ((rd b1 (w64 (next74 + 1)))))), (j65 21), (j65 22), (j65 23), (j65 24), (j65 25), (j65 26), (j65 27), (j65 28), (j65 29), (j65 30), (j65 31), (j65 32), (j65 33), (j65 34), (j65 35), (j65 36), (j65 37), uV, uV, uV, uV, uV, uV, uV, uV, uV, uV, uV], []⟩) rfl (by kernel_rfl) (by kernel_rfl) (by kernel_rfl) (fun ch_ a_ w_ q_ => (fun ch_ a_ w_ q_ => hnp ch_ a_ w_ (hp56 ch_ a_ w_ q_)) ch_ a_ w_ (hp89 ch_ a_ w_ q_)) (Sg.g0 (Sx.of [] (FM.le.refl _) HS102)) ?_
               refine doneG (by kernel_rfl) ?_ _
               refine hK100 _ _ ?_
               refine wp_seq_k (fun K119 hK120 => ?_)
               refine wp_seq_k (fun K121 hK122 => ?_)
               refine wp_region_lit ?_
               refine seqL3 (by kernel_rfl) ?_
               refine seqK rfl (does_lit (e := (tInt .i64)) (E := 3) (vs := #[(0, Value.int .i64 (w64 (next74 + 2)))]) (cs := #[.int .i64 (w64 (next74 + 2))]) (xs := ([w64 (next74 + 2)] : List Int)) rfl Tryd.underlying27 (by kernel_rfl) (by kernel_rfl) ⟨[.int .i64 (w64 (next74 + 2))], _, rfl, rfl, rfl⟩ rfl HS102 ?_ (by decide))
               intro b123 W124 s125 HS126 _ HO127
               have hq_ := guard_some h; clear h; obtain ⟨c129, h⟩ := hq_
               have c129 : (vat68.length + 1) * 8 ≤ 140737488355328 := c129
               have HS130 := HS126.u1
               have HS131 := HS130.u1
               refine seqK rfl (does_append1 (e := (tInt .i64)) (E := 3) (xs := vat68) (ys := ([w64 (next74 + 2)] : List Int)) rfl (by kernel_rfl : _ = Value.slice A69 vat68.length c70) (by kernel_rfl : _ = Value.slice (some ⟨b123, 0, none⟩) ([w64 (next74 + 2)] : List Int).length 1) Tryd.underlying27 inf3 HO72 HO127 HS131 c129 (lim63 c129 (by decide)) ?_)
               intro A132 c133 s134 W135 HS136 HO137
               refine seqS1 (a' := ⟨#[.slice A2 b1.length c3, uV, iV vw66, iV vh67, .slice A132 (vat68 ++ ([w64 (next74 + 2)] : List Int)).length c133, (j65 0), iV next74, iV (Go.bits .or .i64 (w64 ((w64 ((rd b1 next74))) * 2 ^ 8)) (w64 ((rd b1 (w64 (next74 + 1)))))), .slice A2 b1.length c3, iV (b1.length : Int), fV, fV, .slice A2 b1.length c3, pV b18 (of19 + (0 : Int).toNat * 1), .int .u8 (rd b1 0), fV, fV, fV, .slice A2 b1.length c3, pV b18 (of19 + (0 : Int).toNat * 1), .int .u8 (rd b1 0), fV, fV, fV, .slice A2 b1.length c3, pV b31 (of32 + (1 : Int).toNat * 1), .int .u8 (rd b1 1), fV, fV, fV, .slice A2 b1.length c3, pV b31 (of32 + (1 : Int).toNat * 1), .int .u8 (rd b1 1), fV, fV, .slice A2 b1.length c3, pV b18 (of19 + (0 : Int).toNat * 1), .int .u8 (rd b1 0), iV (w64 ((rd b1 0))), .slice A2 b1.length c3, pV b31 (of32 + (1 : Int).toNat * 1), .int .u8 (rd b1 1), iV (w64 ((rd b1 1))), iV (w64 ((rd b1 1))), iV x75, tV, .slice A2 b1.length c3, iV (b1.length : Int), iV next74, iV (w64 ((b1.length : Int) - next74)), fV, .slice A2 b1.length c3, iV next74, pV b108 (of109 + (next74 : Int).toNat * 1), .int .u8 (rd b1 next74), iV (w64 ((rd b1 next74))), iV (w64 ((w64 ((rd b1 next74))) * 2 ^ 8)), .slice A2 b1.length c3, iV next74, iV (w64 (next74 + 1)), pV b116 (of117 + (w64 (next74 + 1) : Int).toNat * 1), .int .u8 (rd b1 (w64 (next74 + 1))), iV (w64 ((rd b1 (w64 (next74 + 1))))), iV (Go.bits .or .i64 (w64 ((w64 ((rd b1 next74))) * 2 ^ 8)) (w64 ((rd b1 (w64 (next74 + 1)))))), .slice A69 vat68.length c70, iV next74, iV (w64 (next74 + 2)), .slice (some ⟨b123, 0, none⟩) ([w64 (next74 + 2)] : List Int).length 1, .slice A132 (vat68 ++ ([w64 (next74 + 2)] : List Int)).length c133, (j65 26), (j65 27), (j65 28), (j65 29), (j65 30), (j65 31), (j65 32), (j65 33), (j65 34), (j65 35), (j65 36), (j65 37), uV, uV, uV, uV, uV, uV, uV, uV, uV, uV, uV], []⟩) (by kernel_rfl) ?_
               refine wpList_nil ?_
               refine hK122 _ _ ?_
               refine wp_seq_k (fun K138 hK139 => ?_)
               refine wp_region_lit ?_
               refine seqS7 (a' := ⟨#[.slice A2 b1.length c3, uV, iV vw66, iV vh67, .slice A132 (vat68 ++ ([w64 (next74 + 2)] : List Int)).length c133, (j65 0), iV next74, iV (Go.bits .or .i64 (w64 ((w64 ((rd b1 next74))) * 2 ^ 8)) (w64 ((rd b1 (w64 (next74 + 1)))))), .slice A2 b1.length c3, iV (b1.length : Int), fV, fV, .slice A2 b1.length c3, pV b18 (of19 + (0 : Int).toNat * 1), .int .u8 (rd b1 0), fV, fV, fV, .slice A2 b1.length c3, pV b18 (of19 + (0 : Int).toNat * 1), .int .u8 (rd b1 0), fV, fV, fV, .slice A2 b1.length c3, pV b31 (of32 + (1 : Int).toNat * 1), .int .u8 (rd b1 1), fV, fV, fV, .slice A2 b1.length c3, pV b31 (of32 + (1 : Int).toNat * 1), .int .u8 (rd b1 1), fV, fV, .slice A2 b1.length c3, pV b18 (of19 + (0 : Int).toNat * 1), .int .u8 (rd b1 0), iV (w64 ((rd b1 0))), .slice A2 b1.length c3, pV b31 (of32 + (1 : Int).toNat * 1), .int .u8 (rd b1 1), iV (w64 ((rd b1 1))), iV (w64 ((rd b1 1))), iV x75, tV, .slice A2 b1.length c3, iV (b1.length : Int), iV next74, iV (w64 ((b1.length : Int) - next74)), fV, .slice A2 b1.length c3, iV next74, pV b108 (of109 + (next74 : Int).toNat * 1), .int .u8 (rd b1 next74), iV (w64 ((rd b1 next74))), iV (w64 ((w64 ((rd b1 next74))) * 2 ^ 8)), .slice A2 b1.length c3, iV next74, iV (w64 (next74 + 1)), pV b116 (of117 + (w64 (next74 + 1) : Int).toNat * 1), .int .u8 (rd b1 (w64 (next74 + 1))), iV (w64 ((rd b1 (w64 (next74 + 1))))), iV (Go.bits .or .i64 (w64 ((w64 ((rd b1 next74))) * 2 ^ 8)) (w64 ((rd b1 (w64 (next74 + 1)))))), .slice A69 vat68.length c70, iV next74, iV (w64 (next74 + 2)), .slice (some ⟨b123, 0, none⟩) ([w64 (next74 + 2)] : List Int).length 1, .slice A132 (vat68 ++ ([w64 (next74 + 2)] : List Int)).length c133, iV (Go.bits .or .i64 (w64 ((w64 ((rd b1 next74))) * 2 ^ 8)) (w64 ((rd b1 (w64 (next74 + 1)))))), .slice A2 b1.length c3, iV (b1.length : Int), iV next74, iV (w64 ((b1.length : Int) - next74)), iV (w64 ((w64 ((b1.length : Int) - next74)) - 2)), .bool (decide ((Go.bits .or .i64 (w64 ((w64 ((rd b1 next74))) * 2 ^ 8)) (w64 ((rd b1 (w64 (next74 + 1)))))) > (w64 ((w64 ((b1.length : Int) - next74)) - 2)))), (j65 33), (j65 34), (j65 35), (j65 36), (j65 37), uV, uV, uV, uV, uV, uV, uV, uV, uV, uV, uV], []⟩) (by kernel_rfl) ?_
               refine wpList_nil ?_
               refine hK139 _ _ ?_
               have hq_ := ite_some h; clear h; rcases hq_ with ⟨c141, h⟩ | ⟨c141, h⟩
               · have c141 : (Go.bits .or .i64 (w64 ((w64 ((rd b1 next74))) * 2 ^ 8)) (w64 ((rd b1 (w64 (next74 + 1)))))) > (w64 ((w64 ((b1.length : Int) - next74)) - 2)) := c141
                 refine wpRwI 75 (x := (decide ((Go.bits .or .i64 (w64 ((w64 ((rd b1 next74))) * 2 ^ 8)) (w64 ((rd b1 (w64 (next74 + 1)))))) > (w64 ((w64 ((b1.length : Int) - next74)) - 2))))) (v := true) (by kernel_rfl) (decide_eq_true c141) ?_
                 refine condT (by kernel_rfl) ?_
                 refine wp_seq_k (fun K142 hK143 => ?_)
                 refine wp_region_lit ?_
                 refine seqS4 (a' := ⟨#[.slice A2 b1.length c3, uV, iV 0, iV 0, .slice none 0 0, iV 3, iV next74, iV (Go.bits .or .i64 (w64 ((w64 ((rd b1 next74))) * 2 ^ 8)) (w64 ((rd b1 (w64 (next74 + 1)))))), .slice A2 b1.length c3, iV (b1.length : Int), fV, fV, .slice A2 b1.length c3, pV b18 (of19 + (0 : Int).toNat * 1), .int .u8 (rd b1 0), fV, fV, fV, .slice A2 b1.length c3, pV b18 (of19 + (0 : Int).toNat * 1), .int .u8 (rd b1 0), fV, fV, fV, .slice A2 b1.length c3, pV b31 (of32 + (1 : Int).toNat * 1), .int .u8 (rd b1 1), fV, fV, fV, .slice A2 b1.length c3, pV b31 (of32 + (1 : Int).toNat * 1), .int .u8 (rd b1 1), fV, fV, .slice A2 b1.length c3, pV b18 (of19 + (0 : Int).toNat * 1), .int .u8 (rd b1 0), iV (w64 ((rd b1 0))), .slice A2 b1.length c3, pV b31 (of32 + (1 : Int).toNat * 1), .int .u8 (rd b1 1), iV (w64 ((rd b1 1))), iV (w64 ((rd b1 1))), iV x75, tV, .slice A2 b1.length c3, iV (b1.length : Int), iV next74, iV (w64 ((b1.length : Int) - next74)), fV, .slice A2 b1.length c3, iV next74, pV b108 (of109 + (next74 : Int).toNat * 1), .int .u8 (rd b1 next74), iV (w64 ((rd b1 next74))), iV (w64 ((w64 ((rd b1 next74))) * 2 ^ 8)), .slice A2 b1.length c3, iV next74, iV (w64 (next74 + 1)), pV b116 (of117 + (w64 (next74 + 1) : Int).toNat * 1), .int .u8 (rd b1 (w64 (next74 + 1))), iV (w64 ((rd b1 (w64 (next74 + 1))))), iV (Go.bits .or .i64 (w64 ((w64 ((rd b1 next74))) * 2 ^ 8)) (w64 ((rd b1 (w64 (next74 + 1)))))), .slice A69 vat68.length c70, iV next74, iV (w64 (next74 + 2)), .slice (some ⟨b123, 0, none⟩) ([w64 (next74 + 2)] : List Int).length 1, .slice A132 (vat68 ++ ([w64 (next74 + 2)] : List Int)).length c133, iV (Go.bits .or .i64 (w64 ((w64 ((rd b1 next74))) * 2 ^ 8)) (w64 ((rd b1 (w64 (next74 + 1)))))), .slice A2 b1.length c3, iV (b1.length : Int), iV next74, iV (w64 ((b1.length : Int) - next74)), iV (w64 ((w64 ((b1.length : Int) - next74)) - 2)), tV, (j65 33), (j65 34), (j65 35), (j65 36), (j65 37), uV, uV, uV, uV, uV, uV, uV, uV, uV, uV, uV], []⟩) (by kernel_rfl) ?_
                 refine wpList_nil ?_
                 refine hK143 _ _ ?_
                 refine wp_ret ?_
                 refine hr87 _ _ ?_
                 refine hr54 _ _ ?_
                 refine hret _ _ ?_
                 have HS203 := HS136.cons_nil
                 refine ends_still (v := Value.tuple #[.int .i64 0, .int .i64 0, .slice none 0 0, .int .i64 3]) (by kernel_rfl) (by kernel_rfl) ?_
                 have HS205 := HS203.u1
                 have HS206 := HS205.drop
                 replace h := JR160 _ h
                 injection h with h
                 injection h with h0_ h
                 injection h with h1_ h
                 injection h with h2_ h
                 subst h0_ h1_ h2_ h
                 exact ⟨f61, none, 0, [], rfl, L62, HS206, (Own.nil _)⟩
               · have c141 : ¬ ((Go.bits .or .i64 (w64 ((w64 ((rd b1 next74))) * 2 ^ 8)) (w64 ((rd b1 (w64 (next74 + 1)))))) > (w64 ((w64 ((b1.length : Int) - next74)) - 2))) := c141
                 refine wpRwI 75 (x := (decide ((Go.bits .or .i64 (w64 ((w64 ((rd b1 next74))) * 2 ^ 8)) (w64 ((rd b1 (w64 (next74 + 1)))))) > (w64 ((w64 ((b1.length : Int) - next74)) - 2))))) (v := false) (by kernel_rfl) (decide_eq_false c141) ?_
                 refine condF (by kernel_rfl) ?_
                 refine wp_skip ?_
                 refine hK120 _ _ ?_
                 refine wp_region_lit ?_
                 refine seqS5 (a' := ⟨#[.slice A2 b1.length c3, uV, iV vw66, iV vh67, .slice A132 (vat68 ++ ([w64 (next74 + 2)] : List Int)).length c133, (j65 0), iV (w64 (next74 + (w64 (2 + (Go.bits .or .i64 (w64 ((w64 ((rd b1 next74))) * 2 ^ 8)) (w64 ((rd b1 (w64 (next74 + 1)))))))))), iV (Go.bits .or .i64 (w64 ((w64 ((rd b1 next74))) * 2 ^ 8)) (w64 ((rd b1 (w64 (next74 + 1)))))), .slice A2 b1.length c3, iV (b1.length : Int), fV, fV, .slice A2 b1.length c3, pV b18 (of19 + (0 : Int).toNat * 1), .int .u8 (rd b1 0), fV, fV, fV, .slice A2 b1.length c3, pV b18 (of19 + (0 : Int).toNat * 1), .int .u8 (rd b1 0), fV, fV, fV, .slice A2 b1.length c3, pV b31 (of32 + (1 : Int).toNat * 1), .int .u8 (rd b1 1), fV, fV, fV, .slice A2 b1.length c3, pV b31 (of32 + (1 : Int).toNat * 1), .int .u8 (rd b1 1), fV, fV, .slice A2 b1.length c3, pV b18 (of19 + (0 : Int).toNat * 1), .int .u8 (rd b1 0), iV (w64 ((rd b1 0))), .slice A2 b1.length c3, pV b31 (of32 + (1 : Int).toNat * 1), .int .u8 (rd b1 1), iV (w64 ((rd b1 1))), iV (w64 ((rd b1 1))), iV x75, tV, .slice A2 b1.length c3, iV (b1.length : Int), iV next74, iV (w64 ((b1.length : Int) - next74)), fV, .slice A2 b1.length c3, iV next74, pV b108 (of109 + (next74 : Int).toNat * 1), .int .u8 (rd b1 next74), iV (w64 ((rd b1 next74))), iV (w64 ((w64 ((rd b1 next74))) * 2 ^ 8)), .slice A2 b1.length c3, iV next74, iV (w64 (next74 + 1)), pV b116 (of117 + (w64 (next74 + 1) : Int).toNat * 1), .int .u8 (rd b1 (w64 (next74 + 1))), iV (w64 ((rd b1 (w64 (next74 + 1))))), iV (Go.bits .or .i64 (w64 ((w64 ((rd b1 next74))) * 2 ^ 8)) (w64 ((rd b1 (w64 (next74 + 1)))))), .slice A69 vat68.length c70, iV next74, iV (w64 (next74 + 2)), .slice (some ⟨b123, 0, none⟩) ([w64 (next74 + 2)] : List Int).length 1, .slice A132 (vat68 ++ ([w64 (next74 + 2)] : List Int)).length c133, iV (Go.bits .or .i64 (w64 ((w64 ((rd b1 next74))) * 2 ^ 8)) (w64 ((rd b1 (w64 (next74 + 1)))))), .slice A2 b1.length c3, iV (b1.length : Int), iV next74, iV (w64 ((b1.length : Int) - next74)), iV (w64 ((w64 ((b1.length : Int) - next74)) - 2)), fV, iV next74, iV (Go.bits .or .i64 (w64 ((w64 ((rd b1 next74))) * 2 ^ 8)) (w64 ((rd b1 (w64 (next74 + 1)))))), iV (w64 (2 + (Go.bits .or .i64 (w64 ((w64 ((rd b1 next74))) * 2 ^ 8)) (w64 ((rd b1 (w64 (next74 + 1)))))))), iV (w64 (next74 + (w64 (2 + (Go.bits .or .i64 (w64 ((w64 ((rd b1 next74))) * 2 ^ 8)) (w64 ((rd b1 (w64 (next74 + 1)))))))))), (j65 37), uV, uV, uV, uV, uV, uV, uV, uV, uV, uV, uV], []⟩) (by kernel_rfl) ?_
                 refine wpList_nil ?_
                 refine hn86 _ _ ?_
                 refine hK83 _ _ ?_
                 refine wp_region_lit ?_
                 refine seqS2 (a' := ⟨#[.slice A2 b1.length c3, uV, iV vw66, iV vh67, .slice A132 (vat68 ++ ([w64 (next74 + 2)] : List Int)).length c133, (j65 0), iV (w64 (next74 + (w64 (2 + (Go.bits .or .i64 (w64 ((w64 ((rd b1 next74))) * 2 ^ 8)) (w64 ((rd b1 (w64 (next74 + 1)))))))))), iV (Go.bits .or .i64 (w64 ((w64 ((rd b1 next74))) * 2 ^ 8)) (w64 ((rd b1 (w64 (next74 + 1)))))), .slice A2 b1.length c3, iV (b1.length : Int), fV, fV, .slice A2 b1.length c3, pV b18 (of19 + (0 : Int).toNat * 1), .int .u8 (rd b1 0), fV, fV, fV, .slice A2 b1.length c3, pV b18 (of19 + (0 : Int).toNat * 1), .int .u8 (rd b1 0), fV, fV, fV, .slice A2 b1.length c3, pV b31 (of32 + (1 : Int).toNat * 1), .int .u8 (rd b1 1), fV, fV, fV, .slice A2 b1.length c3, pV b31 (of32 + (1 : Int).toNat * 1), .int .u8 (rd b1 1), fV, fV, .slice A2 b1.length c3, pV b18 (of19 + (0 : Int).toNat * 1), .int .u8 (rd b1 0), iV (w64 ((rd b1 0))), .slice A2 b1.length c3, pV b31 (of32 + (1 : Int).toNat * 1), .int .u8 (rd b1 1), iV (w64 ((rd b1 1))), iV (w64 ((rd b1 1))), iV (w64 (x75 + 1)), tV, .slice A2 b1.length c3, iV (b1.length : Int), iV next74, iV (w64 ((b1.length : Int) - next74)), fV, .slice A2 b1.length c3, iV next74, pV b108 (of109 + (next74 : Int).toNat * 1), .int .u8 (rd b1 next74), iV (w64 ((rd b1 next74))), iV (w64 ((w64 ((rd b1 next74))) * 2 ^ 8)), .slice A2 b1.length c3, iV next74, iV (w64 (next74 + 1)), pV b116 (of117 + (w64 (next74 + 1) : Int).toNat * 1), .int .u8 (rd b1 (w64 (next74 + 1))), iV (w64 ((rd b1 (w64 (next74 + 1))))), iV (Go.bits .or .i64 (w64 ((w64 ((rd b1 next74))) * 2 ^ 8)) (w64 ((rd b1 (w64 (next74 + 1)))))), .slice A69 vat68.length c70, iV next74, iV (w64 (next74 + 2)), .slice (some ⟨b123, 0, none⟩) ([w64 (next74 + 2)] : List Int).length 1, .slice A132 (vat68 ++ ([w64 (next74 + 2)] : List Int)).length c133, iV (Go.bits .or .i64 (w64 ((w64 ((rd b1 next74))) * 2 ^ 8)) (w64 ((rd b1 (w64 (next74 + 1)))))), .slice A2 b1.length c3, iV (b1.length : Int), iV next74, iV (w64 ((b1.length : Int) - next74)), iV (w64 ((w64 ((b1.length : Int) - next74)) - 2)), fV, iV next74, iV (Go.bits .or .i64 (w64 ((w64 ((rd b1 next74))) * 2 ^ 8)) (w64 ((rd b1 (w64 (next74 + 1)))))), iV (w64 (2 + (Go.bits .or .i64 (w64 ((w64 ((rd b1 next74))) * 2 ^ 8)) (w64 ((rd b1 (w64 (next74 + 1)))))))), iV (w64 (next74 + (w64 (2 + (Go.bits .or .i64 (w64 ((w64 ((rd b1 next74))) * 2 ^ 8)) (w64 ((rd b1 (w64 (next74 + 1)))))))))), iV (w64 (x75 + 1)), uV, uV, uV, uV, uV, uV, uV, uV, uV, uV, uV], []⟩) (by kernel_rfl) ?_
                 refine wpList_nil ?_
                 refine hK59 n60 _ _ (Nat.lt_succ_self _) ?_
                 exact ⟨f61, A132, c133, s134, vw66, vh67, (vat68 ++ ([w64 (next74 + 2)] : List Int)), (w64 (next74 + (w64 (2 + (Go.bits .or .i64 (w64 ((w64 ((rd b1 next74))) * 2 ^ 8)) (w64 ((rd b1 (w64 (next74 + 1)))))))))), (w64 (x75 + 1)), (fun i_ => [(j65 0), Value.int .i64 (Go.bits .or .i64 (w64 ((w64 ((rd b1 next74))) * 2 ^ 8)) (w64 ((rd b1 (w64 (next74 + 1)))))), Value.bool true, Value.slice A2 b1.length c3, Value.int .i64 (b1.length : Int), Value.int .i64 next74, Value.int .i64 (w64 ((b1.length : Int) - next74)), Value.bool false, Value.slice A2 b1.length c3, Value.int .i64 next74, Value.pointer (some ⟨b108, of109 + (next74 : Int).toNat * 1, none⟩), Value.int .u8 (rd b1 next74), Value.int .i64 (w64 ((rd b1 next74))), Value.int .i64 (w64 ((w64 ((rd b1 next74))) * 2 ^ 8)), Value.slice A2 b1.length c3, Value.int .i64 next74, Value.int .i64 (w64 (next74 + 1)), Value.pointer (some ⟨b116, of117 + (w64 (next74 + 1) : Int).toNat * 1, none⟩), Value.int .u8 (rd b1 (w64 (next74 + 1))), Value.int .i64 (w64 ((rd b1 (w64 (next74 + 1))))), Value.int .i64 (Go.bits .or .i64 (w64 ((w64 ((rd b1 next74))) * 2 ^ 8)) (w64 ((rd b1 (w64 (next74 + 1)))))), Value.slice A69 vat68.length c70, Value.int .i64 next74, Value.int .i64 (w64 (next74 + 2)), Value.slice (some ⟨b123, 0, none⟩) ([w64 (next74 + 2)] : List Int).length 1, Value.slice A132 (vat68 ++ ([w64 (next74 + 2)] : List Int)).length c133, Value.int .i64 (Go.bits .or .i64 (w64 ((w64 ((rd b1 next74))) * 2 ^ 8)) (w64 ((rd b1 (w64 (next74 + 1)))))), Value.slice A2 b1.length c3, Value.int .i64 (b1.length : Int), Value.int .i64 next74, Value.int .i64 (w64 ((b1.length : Int) - next74)), Value.int .i64 (w64 ((w64 ((b1.length : Int) - next74)) - 2)), Value.bool false, Value.int .i64 next74, Value.int .i64 (Go.bits .or .i64 (w64 ((w64 ((rd b1 next74))) * 2 ^ 8)) (w64 ((rd b1 (w64 (next74 + 1)))))), Value.int .i64 (w64 (2 + (Go.bits .or .i64 (w64 ((w64 ((rd b1 next74))) * 2 ^ 8)) (w64 ((rd b1 (w64 (next74 + 1)))))))), Value.int .i64 (w64 (next74 + (w64 (2 + (Go.bits .or .i64 (w64 ((w64 ((rd b1 next74))) * 2 ^ 8)) (w64 ((rd b1 (w64 (next74 + 1)))))))))), Value.int .i64 (w64 (x75 + 1))].getD i_ undef), L62, HS136, HO137, h, (by kernel_rfl)⟩
           · have c81 : ¬ (x75 < (w64 ((rd b1 1)))) := c81
             refine wpRwI 45 (x := (decide (x75 < (w64 ((rd b1 1)))))) (v := false) (by kernel_rfl) (decide_eq_false c81) ?_
             refine condF (by kernel_rfl) ?_
             refine wp_exit ?_
             refine hx52 _ _ ?_
             exact J159 f61 A69 c70 s71 vw66 vh67 vat68 next74 (fun i_ => [(j65 0), (j65 1), Value.int .i64 x75, Value.bool false, (j65 3), (j65 4), (j65 5), (j65 6), (j65 7), (j65 8), (j65 9), (j65 10), (j65 11), (j65 12), (j65 13), (j65 14), (j65 15), (j65 16), (j65 17), (j65 18), (j65 19), (j65 20), (j65 21), (j65 22), (j65 23), (j65 24), (j65 25), (j65 26), (j65 27), (j65 28), (j65 29), (j65 30), (j65 31), (j65 32), (j65 33), (j65 34), (j65 35), (j65 36), (j65 37)].getD i_ undef) W63 _ L62 h HS64 HO72 (by kernel_rfl)

set_option maxRecDepth 100000 in
set_option maxHeartbeats 4000000 in
theorem squeeze_reader_get.calls (k : Nat) (b1 : Nat) (A4 : Option Addr) (c5 : Nat) (r3 : S_reader) (n7 : Int) {t w : World} {f : FM} {H : List Seg} (HS : St t w f ([(b1, .cells #[.slice A4 r3.b.length c5, .int .i64 r3.used, .bool r3.over] 95 (0, 0))] :: H)) (HR6 : SlR (tInt .u8) f A4 c5 r3.b) (rr1 : Int) (rr2 : Int) (rr3 : Bool) (h : squeeze_reader_get k r3 n7 = some (rr1, rr2, rr3)) :
    Calls Tryd.prog 39 #[.pointer (some ⟨b1, 0, none⟩), .int .i64 n7] w (fun e w' => ∃ (g : FM), e = .returned (Value.int .i64 rr1) ∧ FM.le f g ∧ St t w' g ([(b1, .cells #[.slice A4 r3.b.length c5, .int .i64 rr2, .bool rr3] 95 (0, 0))] :: H)) := by
 unfold squeeze_reader_get at h
 refine enter Tryd.func39 rfl (tm := #[pV b1 0, iV n7, uV, uV, uV, uV, uV, uV, uV, uV, uV, uV, uV, uV, uV, uV, uV, uV, uV, uV, uV, uV, uV, uV, uV, uV, uV, uV, uV, uV, uV, uV, uV, uV, uV, uV, uV, uV, uV, uV, uV, uV, uV, uV, uV, uV, uV, uV, uV, uV, uV, uV, uV, uV, uV, uV]) (by kernel_rfl) ?_
 intro B hret hnor hnp
 refine wp_seq_k (fun K8 hK9 => ?_)
 refine wp_region_lit ?_
 refine seqS1 (a' := ⟨#[pV b1 0, iV n7, uV, uV, iV 0, uV, uV, uV, uV, uV, uV, uV, uV, uV, uV, uV, uV, uV, uV, uV, uV, uV, uV, uV, uV, uV, uV, uV, uV, uV, uV, uV, uV, uV, uV, uV, uV, uV, uV, uV, uV, uV, uV, uV, uV, uV, uV, uV, uV, uV, uV, uV, uV, uV, uV, uV], []⟩) (by kernel_rfl) ?_
 refine wpList_nil ?_
 refine hK9 _ _ ?_
 refine wp_seq_k (fun K10 hK11 => ?_)
 refine wp_region_lit ?_
 refine seqS1 (a' := ⟨#[pV b1 0, iV n7, uV, uV, iV 0, iV 0, uV, uV, uV, uV, uV, uV, uV, uV, uV, uV, uV, uV, uV, uV, uV, uV, uV, uV, uV, uV, uV, uV, uV, uV, uV, uV, uV, uV, uV, uV, uV, uV, uV, uV, uV, uV, uV, uV, uV, uV, uV, uV, uV, uV, uV, uV, uV, uV, uV, uV], []⟩) (by kernel_rfl) ?_
 refine wpList_nil ?_
 refine hK11 _ _ ?_
 refine wp_seq_k (fun K12 hK13 => ?_)
 refine wp_seq_k (fun K14 hK15 => ?_)
 refine wp_region_lit ?_
 refine seqS2 (a' := ⟨#[pV b1 0, iV n7, uV, uV, iV 0, iV 0, iV n7, iV 0, uV, uV, uV, uV, uV, uV, uV, uV, uV, uV, uV, uV, uV, uV, uV, uV, uV, uV, uV, uV, uV, uV, uV, uV, uV, uV, uV, uV, uV, uV, uV, uV, uV, uV, uV, uV, uV, uV, uV, uV, uV, uV, uV, uV, uV, uV, uV, uV], []⟩) (by kernel_rfl) ?_
 refine wpList_nil ?_
 refine hK15 _ _ ?_
 refine blockK (fun B16 hx17 hn18 hr19 ho20 hp21 => ?_)
 have hq_ := bind_some h; clear h; obtain ⟨o77, hv142, h⟩ := hq_
 have J143 : ∀ (f134 : FM) (v139 : Int) (x140 : Int) (x141 : Bool) (j138 : Nat → Value) (W136 : World) (a_ : Act), FM.le f f134 → some ((v139, x140, x141)) = some o77 → St t W136 f134 ([(b1, .cells #[.slice A4 r3.b.length c5, .int .i64 x140, .bool x141] 95 (0, 0))] :: H) → a_ = ⟨#[pV b1 0, iV n7, uV, uV, iV 0, iV v139, iV n7, (j138 0), (j138 1), (j138 2), (j138 3), (j138 4), (j138 5), (j138 6), (j138 7), (j138 8), (j138 9), (j138 10), (j138 11), (j138 12), (j138 13), (j138 14), (j138 15), (j138 16), (j138 17), (j138 18), (j138 19), (j138 20), (j138 21), (j138 22), (j138 23), (j138 24), (j138 25), (j138 26), (j138 27), (j138 28), (j138 29), (j138 30), (j138 31), (j138 32), (j138 33), (j138 34), (j138 35), (j138 36), (j138 37), (j138 38), (j138 39), (j138 40), (j138 41), (j138 42), (j138 43), (j138 44), (j138 45), (j138 46), (j138 47), uV], []⟩ → K12 a_ W136 := by
  intro f134 v139 x140 x141 j138 W136 a_ L135 hj144 HS137  hfr_; subst hfr_
  injection hj144 with hj144; subst hj144; try dsimp only at h
  refine hK13 _ _ ?_
  refine wp_seq_k (fun K145 hK146 => ?_)
  refine wp_region_lit ?_
  refine seqS2 (a' := ⟨#[pV b1 0, iV n7, uV, uV, iV v139, iV v139, iV n7, (j138 0), (j138 1), (j138 2), (j138 3), (j138 4), (j138 5), (j138 6), (j138 7), (j138 8), (j138 9), (j138 10), (j138 11), (j138 12), (j138 13), (j138 14), (j138 15), (j138 16), (j138 17), (j138 18), (j138 19), (j138 20), (j138 21), (j138 22), (j138 23), (j138 24), (j138 25), (j138 26), (j138 27), (j138 28), (j138 29), (j138 30), (j138 31), (j138 32), (j138 33), (j138 34), (j138 35), (j138 36), (j138 37), (j138 38), (j138 39), (j138 40), (j138 41), (j138 42), (j138 43), (j138 44), (j138 45), (j138 46), (j138 47), iV v139], []⟩) (by kernel_rfl) ?_
  refine wpList_nil ?_
  refine hK146 _ _ ?_
  refine wp_ret ?_
  refine hret _ _ ?_
  refine ends_still (v := Value.int .i64 v139) (by kernel_rfl) (by kernel_rfl) ?_
  injection h with h
  injection h with h0_ h
  injection h with h1_ h
  subst h0_ h1_ h
  exact ⟨f134, rfl, L135, HS137⟩
 clear h; have h := hv142; clear hv142
 refine loopK (fun n_ a_ w_ => ∃ (f81 : FM) (v86 : Int) (x87 : Int) (x88 : Int) (x89 : Bool) (j85 : Nat → Value), FM.le f f81 ∧ St t w_ f81 ([(b1, .cells #[.slice A4 r3.b.length c5, .int .i64 x88, .bool x89] 95 (0, 0))] :: H) ∧ squeeze_reader_get.l0 k n7 r3 n_ v86 x87 x88 x89 = some o77 ∧ a_ = ⟨#[pV b1 0, iV n7, uV, uV, iV 0, iV v86, iV n7, iV x87, (j85 0), (j85 1), (j85 2), (j85 3), (j85 4), (j85 5), (j85 6), (j85 7), (j85 8), (j85 9), (j85 10), (j85 11), (j85 12), (j85 13), (j85 14), (j85 15), (j85 16), (j85 17), (j85 18), (j85 19), (j85 20), (j85 21), (j85 22), (j85 23), (j85 24), (j85 25), (j85 26), (j85 27), (j85 28), (j85 29), (j85 30), (j85 31), (j85 32), (j85 33), (j85 34), (j85 35), (j85 36), (j85 37), (j85 38), (j85 39), (j85 40), (j85 41), (j85 42), (j85 43), (j85 44), (j85 45), (j85 46), uV], []⟩) k ⟨f, 0, 0, r3.used, r3.over, (fun i_ => [undef, undef, undef, undef, undef, undef, undef, undef, undef, undef, undef, undef, undef, undef, undef, undef, undef, undef, undef, undef, undef, undef, undef, undef, undef, undef, undef, undef, undef, undef, undef, undef, undef, undef, undef, undef, undef, undef, undef, undef, undef, undef, undef, undef, undef, undef, undef].getD i_ undef), (FM.le.refl _), HS, h, (by kernel_rfl)⟩ ?_
 clear h
 rintro n80 _ W83 ⟨f81, v86, x87, x88, x89, j85, L82, HS84, h, rfl⟩ K78 hK79
 obtain _ | n80 := n80
 · exact nomatch h
 simp only [squeeze_reader_get.l0] at h
 refine wp_seq_k (fun K90 hK91 => ?_)
 refine wp_region_lit ?_
 refine seqS1 (a' := ⟨#[pV b1 0, iV n7, uV, uV, iV 0, iV v86, iV n7, iV x87, .bool (decide (x87 < n7)), (j85 1), (j85 2), (j85 3), (j85 4), (j85 5), (j85 6), (j85 7), (j85 8), (j85 9), (j85 10), (j85 11), (j85 12), (j85 13), (j85 14), (j85 15), (j85 16), (j85 17), (j85 18), (j85 19), (j85 20), (j85 21), (j85 22), (j85 23), (j85 24), (j85 25), (j85 26), (j85 27), (j85 28), (j85 29), (j85 30), (j85 31), (j85 32), (j85 33), (j85 34), (j85 35), (j85 36), (j85 37), (j85 38), (j85 39), (j85 40), (j85 41), (j85 42), (j85 43), (j85 44), (j85 45), (j85 46), uV], []⟩) (by kernel_rfl) ?_
 refine wpList_nil ?_
 refine hK91 _ _ ?_
 refine wp_seq_k (fun K92 hK93 => ?_)
 have hq_ := ite_some h; clear h; rcases hq_ with ⟨c95, h⟩ | ⟨c95, h⟩
 · have c95 : x87 < n7 := c95
   refine wpRwI 8 (x := (decide (x87 < n7))) (v := true) (by kernel_rfl) (decide_eq_true c95) ?_
   refine condT (by kernel_rfl) ?_
   refine wp_skip ?_
   refine hK93 _ _ ?_
   refine wp_seq_k (fun K96 hK97 => ?_)
   refine blockK (fun B98 hx99 hn100 hr101 ho102 hp103 => ?_)
   refine wp_seq_k (fun K105 hK106 => ?_)
   refine wp_region_lit ?_
   refine seqS3 (a' := ⟨#[pV b1 0, iV n7, uV, uV, iV 0, iV (w64 (v86 * 2 ^ 1)), iV n7, iV x87, tV, iV v86, iV (w64 (v86 * 2 ^ 1)), (j85 3), (j85 4), (j85 5), (j85 6), (j85 7), (j85 8), (j85 9), (j85 10), (j85 11), (j85 12), (j85 13), (j85 14), (j85 15), (j85 16), (j85 17), (j85 18), (j85 19), (j85 20), (j85 21), (j85 22), (j85 23), (j85 24), (j85 25), (j85 26), (j85 27), (j85 28), (j85 29), (j85 30), (j85 31), (j85 32), (j85 33), (j85 34), (j85 35), (j85 36), (j85 37), (j85 38), (j85 39), (j85 40), (j85 41), (j85 42), (j85 43), (j85 44), (j85 45), (j85 46), uV], []⟩) (by kernel_rfl) ?_
   refine wpList_nil ?_
   refine hK106 _ _ ?_
   refine wp_seq_k (fun K107 hK108 => ?_)
   refine wp_seq_k (fun K109 hK110 => ?_)
   refine heldG (S := Sg t f81 ([(b1, .cells #[.slice A4 r3.b.length c5, .int .i64 x88, .bool x89] 95 (0, 0))] :: H) []) (n := 11) (by kernel_rfl) rfl HS84 ?_
   intro W111 HS112
   refine takeG [0, 1, 2] (n := 11) (fuel := 8) (l' := #[true, true, true, false, false, false, false, false, false, false, false]) (a' := ⟨#[pV b1 0, iV n7, uV, uV, iV 0, iV (w64 (v86 * 2 ^ 1)), iV n7, iV x87, tV, iV v86, iV (w64 (v86 * 2 ^ 1)), pV b1 0, pV b1 0, pV b1 1, (j85 6), (j85 7), (j85 8), (j85 9), (j85 10), (j85 11), (j85 12), (j85 13), (j85 14), (j85 15), (j85 16), (j85 17), (j85 18), (j85 19), (j85 20), (j85 21), (j85 22), (j85 23), (j85 24), (j85 25), (j85 26), (j85 27), (j85 28), (j85 29), (j85 30), (j85 31), (j85 32), (j85 33), (j85 34), (j85 35), (j85 36), (j85 37), (j85 38), (j85 39), (j85 40), (j85 41), (j85 42), (j85 43), (j85 44), (j85 45), (j85 46), uV], []⟩) rfl (by kernel_rfl) (by kernel_rfl) (by kernel_rfl) (fun ch_ a_ w_ q_ => (fun ch_ a_ w_ q_ => hnp ch_ a_ w_ (hp21 ch_ a_ w_ q_)) ch_ a_ w_ (hp103 ch_ a_ w_ q_)) (Sg.g0 (Sx.of [] (FM.le.refl _) HS112)) ?_
   refine takeGQ 3 [] rfl (by kernel_rfl) (by kernel_rfl) (by kernel_rfl) (by kernel_rfl) (by kernel_rfl) (by kernel_rfl) (fun ch_ a_ w_ q_ => (fun ch_ a_ w_ q_ => hnp ch_ a_ w_ (hp21 ch_ a_ w_ q_)) ch_ a_ w_ (hp103 ch_ a_ w_ q_)) (Sg.g0 (Sx.of [] (FM.le.refl _) HS112)) (fun w_ hw_ => by obtain ⟨g_, hl_, hS_⟩ := hw_.st; exact run_load rfl Tryd.underlying3 rfl (by kernel_rfl : _ = Value.pointer (some ⟨b1, 1, none⟩)) (hS_.cell 1)) ?_
   refine takeG [4, 5, 6] (n := 7) (fuel := 4) (l' := #[true, true, true, true, true, true, true, false, false, false, false]) (a' := ⟨#[pV b1 0, iV n7, uV, uV, iV 0, iV (w64 (v86 * 2 ^ 1)), iV n7, iV x87, tV, iV v86, iV (w64 (v86 * 2 ^ 1)), pV b1 0, pV b1 0, pV b1 1, iV x88, pV b1 0, pV b1 0, pV b1 0, (j85 10), (j85 11), (j85 12), (j85 13), (j85 14), (j85 15), (j85 16), (j85 17), (j85 18), (j85 19), (j85 20), (j85 21), (j85 22), (j85 23), (j85 24), (j85 25), (j85 26), (j85 27), (j85 28), (j85 29), (j85 30), (j85 31), (j85 32), (j85 33), (j85 34), (j85 35), (j85 36), (j85 37), (j85 38), (j85 39), (j85 40), (j85 41), (j85 42), (j85 43), (j85 44), (j85 45), (j85 46), uV], []⟩) rfl (by kernel_rfl) (by kernel_rfl) (by kernel_rfl) (fun ch_ a_ w_ q_ => (fun ch_ a_ w_ q_ => hnp ch_ a_ w_ (hp21 ch_ a_ w_ q_)) ch_ a_ w_ (hp103 ch_ a_ w_ q_)) (Sg.g0 (Sx.of [] (FM.le.refl _) HS112)) ?_
   refine takeGQ 7 [] rfl (by kernel_rfl) (by kernel_rfl) (by kernel_rfl) (by kernel_rfl) (by kernel_rfl) (by kernel_rfl) (fun ch_ a_ w_ q_ => (fun ch_ a_ w_ q_ => hnp ch_ a_ w_ (hp21 ch_ a_ w_ q_)) ch_ a_ w_ (hp103 ch_ a_ w_ q_)) (Sg.g0 (Sx.of [] (FM.le.refl _) HS112)) (fun w_ hw_ => by obtain ⟨g_, hl_, hS_⟩ := hw_.st; exact run_load rfl Tryd.underlying23 rfl (by kernel_rfl : _ = Value.pointer (some ⟨b1, 0, none⟩)) (hS_.cell 0)) ?_
   refine takeG [8, 9, 10] (n := 3) (fuel := 0) (l' := #[true, true, true, true, true, true, true, true, true, true, true]) (a' := ⟨#[pV b1 0, iV n7, uV, uV, iV 0, iV (w64 (v86 * 2 ^ 1)), iV n7, iV x87, tV, iV v86, iV (w64 (v86 * 2 ^ 1)), pV b1 0, pV b1 0, pV b1 1, iV x88, pV b1 0, pV b1 0, pV b1 0, .slice A4 r3.b.length c5, iV (r3.b.length : Int), iV (w64 (8 * (r3.b.length : Int))), .bool (decide (x88 ≥ (w64 (8 * (r3.b.length : Int))))), (j85 14), (j85 15), (j85 16), (j85 17), (j85 18), (j85 19), (j85 20), (j85 21), (j85 22), (j85 23), (j85 24), (j85 25), (j85 26), (j85 27), (j85 28), (j85 29), (j85 30), (j85 31), (j85 32), (j85 33), (j85 34), (j85 35), (j85 36), (j85 37), (j85 38), (j85 39), (j85 40), (j85 41), (j85 42), (j85 43), (j85 44), (j85 45), (j85 46), uV], []⟩) rfl (by kernel_rfl) (by kernel_rfl) (by kernel_rfl) (fun ch_ a_ w_ q_ => (fun ch_ a_ w_ q_ => hnp ch_ a_ w_ (hp21 ch_ a_ w_ q_)) ch_ a_ w_ (hp103 ch_ a_ w_ q_)) (Sg.g0 (Sx.of [] (FM.le.refl _) HS112)) ?_
   refine doneG (by kernel_rfl) ?_ _
   refine hK110 _ _ ?_
   have hq_ := ite_some h; clear h; rcases hq_ with ⟨c114, h⟩ | ⟨c114, h⟩
   · have c114 : x88 ≥ (w64 (8 * (r3.b.length : Int))) := c114
     refine wpRwI 21 (x := (decide (x88 ≥ (w64 (8 * (r3.b.length : Int)))))) (v := true) (by kernel_rfl) (decide_eq_true c114) ?_
     refine condT (by kernel_rfl) ?_
     refine wp_seq_k (fun K115 hK116 => ?_)
     refine wp_region_lit ?_
     refine seqL3 (by kernel_rfl) ?_
     refine seqK rfl (does_store (n := 1) (vs := [.bool true]) (cs' := #[.slice A4 r3.b.length c5, .int .i64 x88, .bool true]) rfl (by kernel_rfl) (by kernel_rfl : _ = Value.pointer (some ⟨b1, 2, none⟩)) (by kernel_rfl : _ = Value.bool true) rfl rfl (by intro u_ hu_; simp only [List.mem_cons, List.not_mem_nil, or_false] at hu_; subst hu_; rfl) HS112 (Nat.le_of_ble_eq_true rfl) (by kernel_rfl) ?_)
     intro W117 HS118
     refine wpList_nil ?_
     refine hK116 _ _ ?_
     refine wp_exit ?_
     refine hx99 _ _ ?_
     refine hK97 _ _ ?_
     refine wp_region_lit ?_
     refine seqS2 (a' := ⟨#[pV b1 0, iV n7, uV, uV, iV 0, iV (w64 (v86 * 2 ^ 1)), iV n7, iV (w64 (x87 + 1)), tV, iV v86, iV (w64 (v86 * 2 ^ 1)), pV b1 0, pV b1 0, pV b1 1, iV x88, pV b1 0, pV b1 0, pV b1 0, .slice A4 r3.b.length c5, iV (r3.b.length : Int), iV (w64 (8 * (r3.b.length : Int))), tV, pV b1 0, pV b1 0, pV b1 2, (j85 17), (j85 18), (j85 19), (j85 20), (j85 21), (j85 22), (j85 23), (j85 24), (j85 25), (j85 26), (j85 27), (j85 28), (j85 29), (j85 30), (j85 31), (j85 32), (j85 33), (j85 34), (j85 35), (j85 36), (j85 37), (j85 38), (j85 39), (j85 40), (j85 41), (j85 42), (j85 43), (j85 44), (j85 45), iV (w64 (x87 + 1)), uV], []⟩) (by kernel_rfl) ?_
     refine wpList_nil ?_
     refine hK79 n80 _ _ (Nat.lt_succ_self _) ?_
     exact ⟨f81, (w64 (v86 * 2 ^ 1)), (w64 (x87 + 1)), x88, true, (fun i_ => [Value.bool true, Value.int .i64 v86, Value.int .i64 (w64 (v86 * 2 ^ 1)), Value.pointer (some ⟨b1, 0, none⟩), Value.pointer (some ⟨b1, 0, none⟩), Value.pointer (some ⟨b1, 1, none⟩), Value.int .i64 x88, Value.pointer (some ⟨b1, 0, none⟩), Value.pointer (some ⟨b1, 0, none⟩), Value.pointer (some ⟨b1, 0, none⟩), Value.slice A4 r3.b.length c5, Value.int .i64 (r3.b.length : Int), Value.int .i64 (w64 (8 * (r3.b.length : Int))), Value.bool true, Value.pointer (some ⟨b1, 0, none⟩), Value.pointer (some ⟨b1, 0, none⟩), Value.pointer (some ⟨b1, 2, none⟩), (j85 17), (j85 18), (j85 19), (j85 20), (j85 21), (j85 22), (j85 23), (j85 24), (j85 25), (j85 26), (j85 27), (j85 28), (j85 29), (j85 30), (j85 31), (j85 32), (j85 33), (j85 34), (j85 35), (j85 36), (j85 37), (j85 38), (j85 39), (j85 40), (j85 41), (j85 42), (j85 43), (j85 44), (j85 45), Value.int .i64 (w64 (x87 + 1))].getD i_ undef), L82, HS118, h, (by kernel_rfl)⟩
   · have c114 : ¬ (x88 ≥ (w64 (8 * (r3.b.length : Int)))) := c114
     refine wpRwI 21 (x := (decide (x88 ≥ (w64 (8 * (r3.b.length : Int)))))) (v := false) (by kernel_rfl) (decide_eq_false c114) ?_
     refine condF (by kernel_rfl) ?_
     refine wp_skip ?_
     refine hK108 _ _ ?_
     refine wp_seq_k (fun K119 hK120 => ?_)
     refine heldG (S := Sg t f81 ([(b1, .cells #[.slice A4 r3.b.length c5, .int .i64 x88, .bool x89] 95 (0, 0))] :: H) []) (n := 23) (by kernel_rfl) rfl HS112 ?_
     intro W121 HS122
     refine takeG [0, 1, 2, 3] (n := 23) (fuel := 19) (l' := #[true, true, true, true, false, false, false, false, false, false, false, false, false, false, false, false, false, false, false, false, false, false, false]) (a' := ⟨#[pV b1 0, iV n7, uV, uV, iV 0, iV (w64 (v86 * 2 ^ 1)), iV n7, iV x87, tV, iV v86, iV (w64 (v86 * 2 ^ 1)), pV b1 0, pV b1 0, pV b1 1, iV x88, pV b1 0, pV b1 0, pV b1 0, .slice A4 r3.b.length c5, iV (r3.b.length : Int), iV (w64 (8 * (r3.b.length : Int))), fV, (j85 14), (j85 15), (j85 16), iV (w64 (v86 * 2 ^ 1)), pV b1 0, pV b1 0, pV b1 0, (j85 21), (j85 22), (j85 23), (j85 24), (j85 25), (j85 26), (j85 27), (j85 28), (j85 29), (j85 30), (j85 31), (j85 32), (j85 33), (j85 34), (j85 35), (j85 36), (j85 37), (j85 38), (j85 39), (j85 40), (j85 41), (j85 42), (j85 43), (j85 44), (j85 45), (j85 46), uV], []⟩) rfl (by kernel_rfl) (by kernel_rfl) (by kernel_rfl) (fun ch_ a_ w_ q_ => (fun ch_ a_ w_ q_ => hnp ch_ a_ w_ (hp21 ch_ a_ w_ q_)) ch_ a_ w_ (hp103 ch_ a_ w_ q_)) (Sg.g0 (Sx.of [] (FM.le.refl _) HS122)) ?_
     refine takeGQ 4 [] rfl (by kernel_rfl) (by kernel_rfl) (by kernel_rfl) (by kernel_rfl) (by kernel_rfl) (by kernel_rfl) (fun ch_ a_ w_ q_ => (fun ch_ a_ w_ q_ => hnp ch_ a_ w_ (hp21 ch_ a_ w_ q_)) ch_ a_ w_ (hp103 ch_ a_ w_ q_)) (Sg.g0 (Sx.of [] (FM.le.refl _) HS122)) (fun w_ hw_ => by obtain ⟨g_, hl_, hS_⟩ := hw_.st; exact run_load rfl Tryd.underlying23 rfl (by kernel_rfl : _ = Value.pointer (some ⟨b1, 0, none⟩)) (hS_.cell 0)) ?_
     refine takeG [5, 6, 7] (n := 18) (fuel := 15) (l' := #[true, true, true, true, true, true, true, true, false, false, false, false, false, false, false, false, false, false, false, false, false, false, false]) (a' := ⟨#[pV b1 0, iV n7, uV, uV, iV 0, iV (w64 (v86 * 2 ^ 1)), iV n7, iV x87, tV, iV v86, iV (w64 (v86 * 2 ^ 1)), pV b1 0, pV b1 0, pV b1 1, iV x88, pV b1 0, pV b1 0, pV b1 0, .slice A4 r3.b.length c5, iV (r3.b.length : Int), iV (w64 (8 * (r3.b.length : Int))), fV, (j85 14), (j85 15), (j85 16), iV (w64 (v86 * 2 ^ 1)), pV b1 0, pV b1 0, pV b1 0, .slice A4 r3.b.length c5, pV b1 0, pV b1 0, pV b1 1, (j85 25), (j85 26), (j85 27), (j85 28), (j85 29), (j85 30), (j85 31), (j85 32), (j85 33), (j85 34), (j85 35), (j85 36), (j85 37), (j85 38), (j85 39), (j85 40), (j85 41), (j85 42), (j85 43), (j85 44), (j85 45), (j85 46), uV], []⟩) rfl (by kernel_rfl) (by kernel_rfl) (by kernel_rfl) (fun ch_ a_ w_ q_ => (fun ch_ a_ w_ q_ => hnp ch_ a_ w_ (hp21 ch_ a_ w_ q_)) ch_ a_ w_ (hp103 ch_ a_ w_ q_)) (Sg.g0 (Sx.of [] (FM.le.refl _) HS122)) ?_
     refine takeGQ 8 [] rfl (by kernel_rfl) (by kernel_rfl) (by kernel_rfl) (by kernel_rfl) (by kernel_rfl) (by kernel_rfl) (fun ch_ a_ w_ q_ => (fun ch_ a_ w_ q_ => hnp ch_ a_ w_ (hp21 ch_ a_ w_ q_)) ch_ a_ w_ (hp103 ch_ a_ w_ q_)) (Sg.g0 (Sx.of [] (FM.le.refl _) HS122)) (fun w_ hw_ => by obtain ⟨g_, hl_, hS_⟩ := hw_.st; exact run_load rfl Tryd.underlying3 rfl (by kernel_rfl : _ = Value.pointer (some ⟨b1, 1, none⟩)) (hS_.cell 1)) ?_
     have hq_ := guard_some h; clear h; obtain ⟨c123, h⟩ := hq_
     have c123 : 0 ≤ (w64 (Int.tdiv x88 8)) := c123
     have hq_ := guard_some h; clear h; obtain ⟨c124, h⟩ := hq_
     have c124 : (w64 (Int.tdiv x88 8)) < (r3.b.length : Int) := c124
     obtain ⟨b128, of129, cs125, hA130, hr126, hc127⟩ := (HR6.mono L82).at (i := w64 (Int.tdiv x88 8)) c123 c124
     obtain rfl := hr126
     refine takeG [9] (n := 14) (fuel := 13) (l' := #[true, true, true, true, true, true, true, true, true, true, false, false, false, false, false, false, false, false, false, false, false, false, false]) (a' := ⟨#[pV b1 0, iV n7, uV, uV, iV 0, iV (w64 (v86 * 2 ^ 1)), iV n7, iV x87, tV, iV v86, iV (w64 (v86 * 2 ^ 1)), pV b1 0, pV b1 0, pV b1 1, iV x88, pV b1 0, pV b1 0, pV b1 0, .slice A4 r3.b.length c5, iV (r3.b.length : Int), iV (w64 (8 * (r3.b.length : Int))), fV, (j85 14), (j85 15), (j85 16), iV (w64 (v86 * 2 ^ 1)), pV b1 0, pV b1 0, pV b1 0, .slice A4 r3.b.length c5, pV b1 0, pV b1 0, pV b1 1, iV x88, iV (w64 (Int.tdiv x88 8)), (j85 27), (j85 28), (j85 29), (j85 30), (j85 31), (j85 32), (j85 33), (j85 34), (j85 35), (j85 36), (j85 37), (j85 38), (j85 39), (j85 40), (j85 41), (j85 42), (j85 43), (j85 44), (j85 45), (j85 46), uV], []⟩) rfl (by kernel_rfl) (by kernel_rfl) (by kernel_rfl) (fun ch_ a_ w_ q_ => (fun ch_ a_ w_ q_ => hnp ch_ a_ w_ (hp21 ch_ a_ w_ q_)) ch_ a_ w_ (hp103 ch_ a_ w_ q_)) (Sg.g0 (Sx.of [] (FM.le.refl _) HS122)) ?_
     refine takeGQ 10 [] rfl (by kernel_rfl) (by kernel_rfl) (by kernel_rfl) (by kernel_rfl) (by kernel_rfl) (by kernel_rfl) (fun ch_ a_ w_ q_ => (fun ch_ a_ w_ q_ => hnp ch_ a_ w_ (hp21 ch_ a_ w_ q_)) ch_ a_ w_ (hp103 ch_ a_ w_ q_)) (Sg.g0 (Sx.of [] (FM.le.refl _) HS122)) (fun w_ hw_ => by obtain ⟨g_, hl_, hS_⟩ := hw_.st; exact run_indexE hA130 (sz := 1) rfl Tryd.underlying23 (by kernel_rfl) (by kernel_rfl : _ = Value.slice A4 r3.b.length c5) (by kernel_rfl : _ = Value.int .i64 (w64 (Int.tdiv x88 8))) c123 c124 w_) ?_
     refine takeGQ 11 [] rfl (by kernel_rfl) (by kernel_rfl) (by kernel_rfl) (by kernel_rfl) (by kernel_rfl) (by kernel_rfl) (fun ch_ a_ w_ q_ => (fun ch_ a_ w_ q_ => hnp ch_ a_ w_ (hp21 ch_ a_ w_ q_)) ch_ a_ w_ (hp103 ch_ a_ w_ q_)) (Sg.g0 (Sx.of [] (FM.le.refl _) HS122)) (fun w_ hw_ => by obtain ⟨g_, hl_, hS_⟩ := hw_.st; exact run_load rfl Tryd.underlying5 rfl (by kernel_rfl : _ = Value.pointer (some ⟨b128, of129 + (w64 (Int.tdiv x88 8) : Int).toNat * 1, none⟩)) ((hc127 hl_ hS_) 0 (by decide))) ?_
     refine takeG [12, 13, 14] (n := 11) (fuel := 8) (l' := #[true, true, true, true, true, true, true, true, true, true, true, true, true, true, true, false, false, false, false, false, false, false, false]) (a' := ⟨#[pV b1 0, iV n7, uV, uV, iV 0, iV (w64 (v86 * 2 ^ 1)), iV n7, iV x87, tV, iV v86, iV (w64 (v86 * 2 ^ 1)), pV b1 0, pV b1 0, pV b1 1, iV x88, pV b1 0, pV b1 0, pV b1 0, .slice A4 r3.b.length c5, iV (r3.b.length : Int), iV (w64 (8 * (r3.b.length : Int))), fV, (j85 14), (j85 15), (j85 16), iV (w64 (v86 * 2 ^ 1)), pV b1 0, pV b1 0, pV b1 0, .slice A4 r3.b.length c5, pV b1 0, pV b1 0, pV b1 1, iV x88, iV (w64 (Int.tdiv x88 8)), pV b128 (of129 + (w64 (Int.tdiv x88 8) : Int).toNat * 1), .int .u8 (rd r3.b (w64 (Int.tdiv x88 8))), pV b1 0, pV b1 0, pV b1 1, (j85 32), (j85 33), (j85 34), (j85 35), (j85 36), (j85 37), (j85 38), (j85 39), (j85 40), (j85 41), (j85 42), (j85 43), (j85 44), (j85 45), (j85 46), uV], []⟩) rfl (by kernel_rfl) (by kernel_rfl) (by kernel_rfl) (fun ch_ a_ w_ q_ => (fun ch_ a_ w_ q_ => hnp ch_ a_ w_ (hp21 ch_ a_ w_ q_)) ch_ a_ w_ (hp103 ch_ a_ w_ q_)) (Sg.g0 (Sx.of [] (FM.le.refl _) HS122)) ?_
     refine takeGQ 15 [] rfl (by kernel_rfl) (by kernel_rfl) (by kernel_rfl) (by kernel_rfl) (by kernel_rfl) (by kernel_rfl) (fun ch_ a_ w_ q_ => (fun ch_ a_ w_ q_ => hnp ch_ a_ w_ (hp21 ch_ a_ w_ q_)) ch_ a_ w_ (hp103 ch_ a_ w_ q_)) (Sg.g0 (Sx.of [] (FM.le.refl _) HS122)) (fun w_ hw_ => by obtain ⟨g_, hl_, hS_⟩ := hw_.st; exact run_load rfl Tryd.underlying3 rfl (by kernel_rfl : _ = Value.pointer (some ⟨b1, 1, none⟩)) (hS_.cell 1)) ?_
     have hq_ := guard_some h; clear h; obtain ⟨c131, h⟩ := hq_
     have c131 : ¬ ((w64 (7 - (Int.tmod x88 8))) < 0) := c131
     refine takeG [16, 17] (n := 7) (fuel := 5) (l' := #[true, true, true, true, true, true, true, true, true, true, true, true, true, true, true, true, true, true, false, false, false, false, false]) (a' := ⟨#[pV b1 0, iV n7, uV, uV, iV 0, iV (w64 (v86 * 2 ^ 1)), iV n7, iV x87, tV, iV v86, iV (w64 (v86 * 2 ^ 1)), pV b1 0, pV b1 0, pV b1 1, iV x88, pV b1 0, pV b1 0, pV b1 0, .slice A4 r3.b.length c5, iV (r3.b.length : Int), iV (w64 (8 * (r3.b.length : Int))), fV, (j85 14), (j85 15), (j85 16), iV (w64 (v86 * 2 ^ 1)), pV b1 0, pV b1 0, pV b1 0, .slice A4 r3.b.length c5, pV b1 0, pV b1 0, pV b1 1, iV x88, iV (w64 (Int.tdiv x88 8)), pV b128 (of129 + (w64 (Int.tdiv x88 8) : Int).toNat * 1), .int .u8 (rd r3.b (w64 (Int.tdiv x88 8))), pV b1 0, pV b1 0, pV b1 1, iV x88, iV (Int.tmod x88 8), iV (w64 (7 - (Int.tmod x88 8))), (j85 35), (j85 36), (j85 37), (j85 38), (j85 39), (j85 40), (j85 41), (j85 42), (j85 43), (j85 44), (j85 45), (j85 46), uV], []⟩) rfl (by kernel_rfl) (by kernel_rfl) (by kernel_rfl) (fun ch_ a_ w_ q_ => (fun ch_ a_ w_ q_ => hnp ch_ a_ w_ (hp21 ch_ a_ w_ q_)) ch_ a_ w_ (hp103 ch_ a_ w_ q_)) (Sg.g0 (Sx.of [] (FM.le.refl _) HS122)) ?_
     refine takeGQ 18 [] rfl (by kernel_rfl) (by kernel_rfl) (by kernel_rfl) (by kernel_rfl) (by kernel_rfl) (by kernel_rfl) (fun ch_ a_ w_ q_ => (fun ch_ a_ w_ q_ => hnp ch_ a_ w_ (hp21 ch_ a_ w_ q_)) ch_ a_ w_ (hp103 ch_ a_ w_ q_)) (Sg.g0 (Sx.of [] (FM.le.refl _) HS122)) (fun w_ hw_ => by obtain ⟨g_, hl_, hS_⟩ := hw_.st; exact run_shr rfl (by kernel_rfl : _ = Value.int .u8 (rd r3.b (w64 (Int.tdiv x88 8)))) (by kernel_rfl : _ = Value.int .i64 (w64 (7 - (Int.tmod x88 8)))) c131 w_) ?_
     refine takeG [19, 20, 21, 22] (n := 4) (fuel := 0) (l' := #[true, true, true, true, true, true, true, true, true, true, true, true, true, true, true, true, true, true, true, true, true, true, true]) (a' := ⟨#[pV b1 0, iV n7, uV, uV, iV 0, iV (Go.bits .or .i64 (w64 (v86 * 2 ^ 1)) (Go.bits .and .i64 (w64 (shr (rd r3.b (w64 (Int.tdiv x88 8))) (min (w64 (7 - (Int.tmod x88 8))).toNat 8))) 1)), iV n7, iV x87, tV, iV v86, iV (w64 (v86 * 2 ^ 1)), pV b1 0, pV b1 0, pV b1 1, iV x88, pV b1 0, pV b1 0, pV b1 0, .slice A4 r3.b.length c5, iV (r3.b.length : Int), iV (w64 (8 * (r3.b.length : Int))), fV, (j85 14), (j85 15), (j85 16), iV (w64 (v86 * 2 ^ 1)), pV b1 0, pV b1 0, pV b1 0, .slice A4 r3.b.length c5, pV b1 0, pV b1 0, pV b1 1, iV x88, iV (w64 (Int.tdiv x88 8)), pV b128 (of129 + (w64 (Int.tdiv x88 8) : Int).toNat * 1), .int .u8 (rd r3.b (w64 (Int.tdiv x88 8))), pV b1 0, pV b1 0, pV b1 1, iV x88, iV (Int.tmod x88 8), iV (w64 (7 - (Int.tmod x88 8))), .int .u8 (shr (rd r3.b (w64 (Int.tdiv x88 8))) (min (w64 (7 - (Int.tmod x88 8))).toNat 8)), iV (w64 (shr (rd r3.b (w64 (Int.tdiv x88 8))) (min (w64 (7 - (Int.tmod x88 8))).toNat 8))), iV (Go.bits .and .i64 (w64 (shr (rd r3.b (w64 (Int.tdiv x88 8))) (min (w64 (7 - (Int.tmod x88 8))).toNat 8))) 1), iV (Go.bits .or .i64 (w64 (v86 * 2 ^ 1)) (Go.bits .and .i64 (w64 (shr (rd r3.b (w64 (Int.tdiv x88 8))) (min (w64 (7 - (Int.tmod x88 8))).toNat 8))) 1)), (j85 39), (j85 40), (j85 41), (j85 42), (j85 43), (j85 44), (j85 45), (j85 46), uV], []⟩) rfl (by kernel_rfl) (by kernel_rfl) (by kernel_rfl) (fun ch_ a_ w_ q_ => (fun ch_ a_ w_ q_ => hnp ch_ a_ w_ (hp21 ch_ a_ w_ q_)) ch_ a_ w_ (hp103 ch_ a_ w_ q_)) (Sg.g0 (Sx.of [] (FM.le.refl _) HS122)) ?_
     refine doneG (by kernel_rfl) ?_ _
     refine hK120 _ _ ?_
     refine wp_region_lit ?_
     refine seqL3 (by kernel_rfl) ?_
     refine seqK rfl (does_run (run_load rfl Tryd.underlying3 rfl (by kernel_rfl : _ = Value.pointer (some ⟨b1, 1, none⟩)) (HS122.cell 1)) ?_)
     refine seqL3 (by kernel_rfl) ?_
     refine seqK rfl (does_store (n := 1) (vs := [.int .i64 (w64 (x88 + 1))]) (cs' := #[.slice A4 r3.b.length c5, .int .i64 (w64 (x88 + 1)), .bool x89]) rfl (by kernel_rfl) (by kernel_rfl : _ = Value.pointer (some ⟨b1, 1, none⟩)) (by kernel_rfl : _ = Value.int .i64 (w64 (x88 + 1))) rfl rfl (by intro u_ hu_; simp only [List.mem_cons, List.not_mem_nil, or_false] at hu_; subst hu_; rfl) HS122 (Nat.le_of_ble_eq_true rfl) (by kernel_rfl) ?_)
     intro W132 HS133
     refine wpList_nil ?_
     refine hn100 _ _ ?_
     refine hK97 _ _ ?_
     refine wp_region_lit ?_
     refine seqS2 (a' := ⟨#[pV b1 0, iV n7, uV, uV, iV 0, iV (Go.bits .or .i64 (w64 (v86 * 2 ^ 1)) (Go.bits .and .i64 (w64 (shr (rd r3.b (w64 (Int.tdiv x88 8))) (min (w64 (7 - (Int.tmod x88 8))).toNat 8))) 1)), iV n7, iV (w64 (x87 + 1)), tV, iV v86, iV (w64 (v86 * 2 ^ 1)), pV b1 0, pV b1 0, pV b1 1, iV x88, pV b1 0, pV b1 0, pV b1 0, .slice A4 r3.b.length c5, iV (r3.b.length : Int), iV (w64 (8 * (r3.b.length : Int))), fV, (j85 14), (j85 15), (j85 16), iV (w64 (v86 * 2 ^ 1)), pV b1 0, pV b1 0, pV b1 0, .slice A4 r3.b.length c5, pV b1 0, pV b1 0, pV b1 1, iV x88, iV (w64 (Int.tdiv x88 8)), pV b128 (of129 + (w64 (Int.tdiv x88 8) : Int).toNat * 1), .int .u8 (rd r3.b (w64 (Int.tdiv x88 8))), pV b1 0, pV b1 0, pV b1 1, iV x88, iV (Int.tmod x88 8), iV (w64 (7 - (Int.tmod x88 8))), .int .u8 (shr (rd r3.b (w64 (Int.tdiv x88 8))) (min (w64 (7 - (Int.tmod x88 8))).toNat 8)), iV (w64 (shr (rd r3.b (w64 (Int.tdiv x88 8))) (min (w64 (7 - (Int.tmod x88 8))).toNat 8))), iV (Go.bits .and .i64 (w64 (shr (rd r3.b (w64 (Int.tdiv x88 8))) (min (w64 (7 - (Int.tmod x88 8))).toNat 8))) 1), iV (Go.bits .or .i64 (w64 (v86 * 2 ^ 1)) (Go.bits .and .i64 (w64 (shr (rd r3.b (w64 (Int.tdiv x88 8))) (min (w64 (7 - (Int.tmod x88 8))).toNat 8))) 1)), pV b1 0, pV b1 0, pV b1 1, iV x88, iV (w64 (x88 + 1)), pV b1 0, pV b1 1, iV (w64 (x87 + 1)), uV], []⟩) (by kernel_rfl) ?_
     refine wpList_nil ?_
     refine hK79 n80 _ _ (Nat.lt_succ_self _) ?_
     exact ⟨f81, (Go.bits .or .i64 (w64 (v86 * 2 ^ 1)) (Go.bits .and .i64 (w64 (shr (rd r3.b (w64 (Int.tdiv x88 8))) (min (w64 (7 - (Int.tmod x88 8))).toNat 8))) 1)), (w64 (x87 + 1)), (w64 (x88 + 1)), x89, (fun i_ => [Value.bool true, Value.int .i64 v86, Value.int .i64 (w64 (v86 * 2 ^ 1)), Value.pointer (some ⟨b1, 0, none⟩), Value.pointer (some ⟨b1, 0, none⟩), Value.pointer (some ⟨b1, 1, none⟩), Value.int .i64 x88, Value.pointer (some ⟨b1, 0, none⟩), Value.pointer (some ⟨b1, 0, none⟩), Value.pointer (some ⟨b1, 0, none⟩), Value.slice A4 r3.b.length c5, Value.int .i64 (r3.b.length : Int), Value.int .i64 (w64 (8 * (r3.b.length : Int))), Value.bool false, (j85 14), (j85 15), (j85 16), Value.int .i64 (w64 (v86 * 2 ^ 1)), Value.pointer (some ⟨b1, 0, none⟩), Value.pointer (some ⟨b1, 0, none⟩), Value.pointer (some ⟨b1, 0, none⟩), Value.slice A4 r3.b.length c5, Value.pointer (some ⟨b1, 0, none⟩), Value.pointer (some ⟨b1, 0, none⟩), Value.pointer (some ⟨b1, 1, none⟩), Value.int .i64 x88, Value.int .i64 (w64 (Int.tdiv x88 8)), Value.pointer (some ⟨b128, of129 + (w64 (Int.tdiv x88 8) : Int).toNat * 1, none⟩), Value.int .u8 (rd r3.b (w64 (Int.tdiv x88 8))), Value.pointer (some ⟨b1, 0, none⟩), Value.pointer (some ⟨b1, 0, none⟩), Value.pointer (some ⟨b1, 1, none⟩), Value.int .i64 x88, Value.int .i64 (Int.tmod x88 8), Value.int .i64 (w64 (7 - (Int.tmod x88 8))), Value.int .u8 (shr (rd r3.b (w64 (Int.tdiv x88 8))) (min (w64 (7 - (Int.tmod x88 8))).toNat 8)), Value.int .i64 (w64 (shr (rd r3.b (w64 (Int.tdiv x88 8))) (min (w64 (7 - (Int.tmod x88 8))).toNat 8))), Value.int .i64 (Go.bits .and .i64 (w64 (shr (rd r3.b (w64 (Int.tdiv x88 8))) (min (w64 (7 - (Int.tmod x88 8))).toNat 8))) 1), Value.int .i64 (Go.bits .or .i64 (w64 (v86 * 2 ^ 1)) (Go.bits .and .i64 (w64 (shr (rd r3.b (w64 (Int.tdiv x88 8))) (min (w64 (7 - (Int.tmod x88 8))).toNat 8))) 1)), Value.pointer (some ⟨b1, 0, none⟩), Value.pointer (some ⟨b1, 0, none⟩), Value.pointer (some ⟨b1, 1, none⟩), Value.int .i64 x88, Value.int .i64 (w64 (x88 + 1)), Value.pointer (some ⟨b1, 0, none⟩), Value.pointer (some ⟨b1, 1, none⟩), Value.int .i64 (w64 (x87 + 1))].getD i_ undef), L82, HS133, h, (by kernel_rfl)⟩
 · have c95 : ¬ (x87 < n7) := c95
   refine wpRwI 8 (x := (decide (x87 < n7))) (v := false) (by kernel_rfl) (decide_eq_false c95) ?_
   refine condF (by kernel_rfl) ?_
   refine wp_exit ?_
   refine hx17 _ _ ?_
   exact J143 f81 v86 x88 x89 (fun i_ => [Value.int .i64 x87, Value.bool false, (j85 1), (j85 2), (j85 3), (j85 4), (j85 5), (j85 6), (j85 7), (j85 8), (j85 9), (j85 10), (j85 11), (j85 12), (j85 13), (j85 14), (j85 15), (j85 16), (j85 17), (j85 18), (j85 19), (j85 20), (j85 21), (j85 22), (j85 23), (j85 24), (j85 25), (j85 26), (j85 27), (j85 28), (j85 29), (j85 30), (j85 31), (j85 32), (j85 33), (j85 34), (j85 35), (j85 36), (j85 37), (j85 38), (j85 39), (j85 40), (j85 41), (j85 42), (j85 43), (j85 44), (j85 45), (j85 46)].getD i_ undef) W83 _ L82 h HS84 (by kernel_rfl)

set_option maxRecDepth 100000 in
set_option maxHeartbeats 4000000 in
theorem squeeze_read_1.calls (k : Nat)  (n1 : Int) {t w : World} {f : FM} {H : List Seg} (HS : St t w f (H)) (rr1 : Bool) (h : squeeze_read_1 k n1 = some rr1) :
    Calls Tryd.prog 40 #[.int .i64 n1] w (fun e w' => ∃ (g : FM), e = .returned (Value.bool rr1) ∧ FM.le f g ∧ St t w' g (H)) := by
 unfold squeeze_read_1 at h
 refine enter Tryd.func40 rfl (tm := #[iV n1, uV, uV, uV, uV, uV, uV, uV, uV]) (by kernel_rfl) ?_
 intro B hret hnor hnp
 refine wp_seq_k (fun K2 hK3 => ?_)
 refine wp_region_lit ?_
 refine seqS1 (a' := ⟨#[iV n1, uV, fV, uV, uV, uV, uV, uV, uV], []⟩) (by kernel_rfl) ?_
 refine wpList_nil ?_
 refine hK3 _ _ ?_
 refine wp_seq_k (fun K4 hK5 => ?_)
 refine wp_region_lit ?_
 refine seqS3 (a' := ⟨#[iV n1, uV, fV, iV n1, .bool (decide (n1 < 0)), .bool (decide (n1 < 0)), uV, uV, uV], []⟩) (by kernel_rfl) ?_
 have hq_ := ite_some h; clear h; rcases hq_ with ⟨c6, h⟩ | ⟨c6, h⟩
 · have c6 : n1 < 0 := c6
   refine seqRwI 4 (x := (decide (n1 < 0))) (v := true) (by kernel_rfl) (decide_eq_true c6) ?_
   refine seqRwI 5 (x := (decide (n1 < 0))) (v := true) (by kernel_rfl) (decide_eq_true c6) ?_
   refine seqS4 (a' := ⟨#[iV n1, uV, tV, iV n1, tV, tV, uV, uV, tV], []⟩) (by kernel_rfl) ?_
   refine wpList_nil ?_
   refine hK5 _ _ ?_
   refine wp_ret ?_
   refine hret _ _ ?_
   refine ends_still (v := Value.bool true) (by kernel_rfl) (by kernel_rfl) ?_
   injection h with h
   subst h
   exact ⟨f, rfl, FM.le.refl _, HS⟩
 · have c6 : ¬ (n1 < 0) := c6
   refine seqRwI 4 (x := (decide (n1 < 0))) (v := false) (by kernel_rfl) (decide_eq_false c6) ?_
   refine seqRwI 5 (x := (decide (n1 < 0))) (v := false) (by kernel_rfl) (decide_eq_false c6) ?_
   refine seqS4 (a' := ⟨#[iV n1, uV, .bool (decide (n1 > 65535)), iV n1, fV, fV, iV n1, .bool (decide (n1 > 65535)), .bool (decide (n1 > 65535))], []⟩) (by kernel_rfl) ?_
   refine wpList_nil ?_
   refine hK5 _ _ ?_
   refine wp_ret ?_
   refine hret _ _ ?_
   refine ends_still (v := Value.bool (decide (n1 > 65535))) (by kernel_rfl) (by kernel_rfl) ?_
   injection h with h
   subst h
   exact ⟨f, rfl, FM.le.refl _, HS⟩

set_option maxRecDepth 100000 in
set_option maxHeartbeats 4000000 in
theorem slices_IndexFunc_int__squeeze_read_1.calls (k : Nat) (A2 : Option Addr) (c3 : Nat) (s1 : List Int) {t w : World} {f : FM} {H : List Seg} (HS : St t w f (H)) (HR4 : SlR (tInt .i64) f A2 c3 s1) (rr1 : Int) (h : slices_IndexFunc_int__squeeze_read_1 k s1 = some rr1) :
    Calls Tryd.prog 42 #[.slice A2 s1.length c3, .func (.func 40) #[] #[]] w (fun e w' => ∃ (g : FM), e = .returned (Value.int .i64 rr1) ∧ FM.le f g ∧ St t w' g (H)) := by
 unfold slices_IndexFunc_int__squeeze_read_1 at h
 refine enter Tryd.func42 rfl (tm := #[.slice A2 s1.length c3, .func (.func 40) #[] #[], uV, uV, uV, uV, uV, uV, uV, uV, uV, uV, uV, uV, uV, uV, uV, uV, uV]) (by kernel_rfl) ?_
 intro B hret hnor hnp
 refine wp_seq_k (fun K5 hK6 => ?_)
 refine wp_region_lit ?_
 refine seqS1 (a' := ⟨#[.slice A2 s1.length c3, .func (.func 40) #[] #[], uV, uV, iV 0, uV, uV, uV, uV, uV, uV, uV, uV, uV, uV, uV, uV, uV, uV], []⟩) (by kernel_rfl) ?_
 refine wpList_nil ?_
 refine hK6 _ _ ?_
 refine wp_seq_k (fun K7 hK8 => ?_)
 refine wp_seq_k (fun K9 hK10 => ?_)
 refine wp_region_lit ?_
 refine seqS3 (a' := ⟨#[.slice A2 s1.length c3, .func (.func 40) #[] #[], uV, uV, iV 0, uV, .slice A2 s1.length c3, iV (s1.length : Int), iV 0, uV, uV, uV, uV, uV, uV, uV, uV, uV, uV], []⟩) (by kernel_rfl) ?_
 refine wpList_nil ?_
 refine hK10 _ _ ?_
 refine blockK (fun B11 hx12 hn13 hr14 ho15 hp16 => ?_)
 have hq_ := bind_some h; clear h; obtain ⟨o17, hv68, h⟩ := hq_
 have JR70 : ∀ z_, some (Sum.inl z_) = some o17 → some z_ = some rr1 := by
  intro z_ e_; injection e_ with e_; subst e_; exact h
 have J69 : ∀ (f63 : FM) (j67 : Nat → Value) (W65 : World) (a_ : Act), FM.le f f63 → some (Sum.inr ()) = some o17 → St t W65 f63 (H) → a_ = ⟨#[.slice A2 s1.length c3, .func (.func 40) #[] #[], uV, uV, (j67 0), (j67 1), .slice A2 s1.length c3, iV (s1.length : Int), (j67 2), (j67 3), (j67 4), (j67 5), (j67 6), (j67 7), (j67 8), (j67 9), (j67 10), (j67 11), (j67 12)], []⟩ → K7 a_ W65 := by
  intro f63 j67 W65 a_ L64 hj71 HS66  hfr_; subst hfr_
  injection hj71 with hj71; subst hj71; try dsimp only at h
  simp only [Sum.elim_inr] at h
  refine hK8 _ _ ?_
  refine wp_seq_k (fun K72 hK73 => ?_)
  refine wp_region_lit ?_
  refine seqS1 (a' := ⟨#[.slice A2 s1.length c3, .func (.func 40) #[] #[], uV, uV, iV (-1), (j67 1), .slice A2 s1.length c3, iV (s1.length : Int), (j67 2), (j67 3), (j67 4), (j67 5), (j67 6), (j67 7), (j67 8), (j67 9), (j67 10), (j67 11), (j67 12)], []⟩) (by kernel_rfl) ?_
  refine wpList_nil ?_
  refine hK73 _ _ ?_
  refine wp_ret ?_
  refine hret _ _ ?_
  refine ends_still (v := Value.int .i64 (-1)) (by kernel_rfl) (by kernel_rfl) ?_
  injection h with h
  subst h
  exact ⟨f63, rfl, L64, HS66⟩
 clear h; have h := hv68; clear hv68
 refine loopK (fun n_ a_ w_ => ∃ (f21 : FM) (x26 : Int) (j25 : Nat → Value), FM.le f f21 ∧ St t w_ f21 (H) ∧ slices_IndexFunc_int__squeeze_read_1.l0 k s1 n_ x26 = some o17 ∧ a_ = ⟨#[.slice A2 s1.length c3, .func (.func 40) #[] #[], uV, uV, (j25 0), (j25 1), .slice A2 s1.length c3, iV (s1.length : Int), iV x26, (j25 2), (j25 3), (j25 4), (j25 5), (j25 6), (j25 7), (j25 8), (j25 9), (j25 10), (j25 11)], []⟩) k ⟨f, 0, (fun i_ => [Value.int .i64 0, undef, undef, undef, undef, undef, undef, undef, undef, undef, undef, undef].getD i_ undef), (FM.le.refl _), HS, h, (by kernel_rfl)⟩ ?_
 clear h
 rintro n20 _ W23 ⟨f21, x26, j25, L22, HS24, h, rfl⟩ K18 hK19
 obtain _ | n20 := n20
 · exact nomatch h
 simp only [slices_IndexFunc_int__squeeze_read_1.l0] at h
 refine wp_seq_k (fun K27 hK28 => ?_)
 refine wp_region_lit ?_
 refine seqS1 (a' := ⟨#[.slice A2 s1.length c3, .func (.func 40) #[] #[], uV, uV, (j25 0), (j25 1), .slice A2 s1.length c3, iV (s1.length : Int), iV x26, .bool (decide (x26 < (s1.length : Int))), (j25 3), (j25 4), (j25 5), (j25 6), (j25 7), (j25 8), (j25 9), (j25 10), (j25 11)], []⟩) (by kernel_rfl) ?_
 refine wpList_nil ?_
 refine hK28 _ _ ?_
 refine wp_seq_k (fun K29 hK30 => ?_)
 have hq_ := ite_some h; clear h; rcases hq_ with ⟨c32, h⟩ | ⟨c32, h⟩
 · have c32 : x26 < (s1.length : Int) := c32
   refine wpRwI 9 (x := (decide (x26 < (s1.length : Int)))) (v := true) (by kernel_rfl) (decide_eq_true c32) ?_
   refine condT (by kernel_rfl) ?_
   refine wp_skip ?_
   refine hK30 _ _ ?_
   refine wp_seq_k (fun K33 hK34 => ?_)
   refine blockK (fun B35 hx36 hn37 hr38 ho39 hp40 => ?_)
   refine wp_seq_k (fun K42 hK43 => ?_)
   refine wp_region_lit ?_
   refine seqS2 (a' := ⟨#[.slice A2 s1.length c3, .func (.func 40) #[] #[], uV, uV, (j25 0), iV x26, .slice A2 s1.length c3, iV (s1.length : Int), iV x26, tV, iV x26, (j25 4), (j25 5), (j25 6), (j25 7), (j25 8), (j25 9), (j25 10), (j25 11)], []⟩) (by kernel_rfl) ?_
   refine wpList_nil ?_
   refine hK43 _ _ ?_
   refine wp_seq_k (fun K44 hK45 => ?_)
   refine wp_region_lit ?_
   have hq_ := guard_some h; clear h; obtain ⟨c46, h⟩ := hq_
   have c46 : 0 ≤ x26 := c46
   obtain ⟨b50, of51, cs47, hA52, hr48, hc49⟩ := (HR4.mono L22).at (i := x26) c46 c32
   obtain rfl := hr48
   refine seqL3 (by kernel_rfl) ?_
   refine seqK rfl (does_run (run_indexE hA52 (sz := 1) rfl Tryd.underlying27 (by kernel_rfl) (by kernel_rfl : _ = Value.slice A2 s1.length c3) (by kernel_rfl : _ = Value.int .i64 x26) c46 c32 W23) ?_)
   refine seqK rfl (does_run (run_load rfl Tryd.underlying3 rfl (by kernel_rfl : _ = Value.pointer (some ⟨b50, of51 + (x26 : Int).toNat * 1, none⟩)) ((hc49 (FM.le.refl _) HS24) 0 (by decide))) ?_)
   have hq_ := bind_some h; clear h; obtain ⟨vt53, hc54, h⟩ := hq_
   refine seqK rfl (does_call (f := 40) (args := #[.int .i64 (rd s1 x26)]) (by kernel_rfl) (squeeze_read_1.calls k (rd s1 x26) HS24 vt53 hc54) ?_)
   rintro _ W57 ⟨f55, rfl, L56, HS58⟩
   refine ⟨_, rfl, ?_⟩
   refine wpList_nil ?_
   refine hK45 _ _ ?_
   have hq_ := ite_some h; clear h; rcases hq_ with ⟨c60, h⟩ | ⟨c60, h⟩
   · have c60 : vt53 = true := c60
     refine wpRwI 16 (x := vt53) (v := true) (by kernel_rfl) c60 ?_
     refine condT (by kernel_rfl) ?_
     refine wp_seq_k (fun K61 hK62 => ?_)
     refine wp_region_lit ?_
     refine seqS2 (a' := ⟨#[.slice A2 s1.length c3, .func (.func 40) #[] #[], uV, uV, iV x26, iV x26, .slice A2 s1.length c3, iV (s1.length : Int), iV x26, tV, iV x26, .func (.func 40) #[] #[], .slice A2 s1.length c3, iV x26, pV b50 (of51 + (x26 : Int).toNat * 1), iV (rd s1 x26), tV, iV x26, (j25 11)], []⟩) (by kernel_rfl) ?_
     refine wpList_nil ?_
     refine hK62 _ _ ?_
     refine wp_ret ?_
     refine hr38 _ _ ?_
     refine hr14 _ _ ?_
     refine hret _ _ ?_
     refine ends_still (v := Value.int .i64 x26) (by kernel_rfl) (by kernel_rfl) ?_
     replace h := JR70 _ h
     injection h with h
     subst h
     exact ⟨f55, rfl, (L22.trans L56), HS58⟩
   · have c60 : ¬ (vt53 = true) := c60
     refine wpRwI 16 (x := vt53) (v := false) (by kernel_rfl) (Bool.eq_false_iff.mpr c60) ?_
     refine condF (by kernel_rfl) ?_
     refine wp_skip ?_
     refine hn37 _ _ ?_
     refine hK34 _ _ ?_
     refine wp_region_lit ?_
     refine seqS2 (a' := ⟨#[.slice A2 s1.length c3, .func (.func 40) #[] #[], uV, uV, (j25 0), iV x26, .slice A2 s1.length c3, iV (s1.length : Int), iV (w64 (x26 + 1)), tV, iV x26, .func (.func 40) #[] #[], .slice A2 s1.length c3, iV x26, pV b50 (of51 + (x26 : Int).toNat * 1), iV (rd s1 x26), fV, (j25 10), iV (w64 (x26 + 1))], []⟩) (by kernel_rfl) ?_
     refine wpList_nil ?_
     refine hK19 n20 _ _ (Nat.lt_succ_self _) ?_
     exact ⟨f55, (w64 (x26 + 1)), (fun i_ => [(j25 0), Value.int .i64 x26, Value.bool true, Value.int .i64 x26, Value.func (.func 40) #[] #[], Value.slice A2 s1.length c3, Value.int .i64 x26, Value.pointer (some ⟨b50, of51 + (x26 : Int).toNat * 1, none⟩), Value.int .i64 (rd s1 x26), Value.bool false, (j25 10), Value.int .i64 (w64 (x26 + 1))].getD i_ undef), (L22.trans L56), HS58, h, (by kernel_rfl)⟩
 · have c32 : ¬ (x26 < (s1.length : Int)) := c32
   refine wpRwI 9 (x := (decide (x26 < (s1.length : Int)))) (v := false) (by kernel_rfl) (decide_eq_false c32) ?_
   refine condF (by kernel_rfl) ?_
   refine wp_exit ?_
   refine hx12 _ _ ?_
   exact J69 f21 (fun i_ => [(j25 0), (j25 1), Value.int .i64 x26, Value.bool false, (j25 3), (j25 4), (j25 5), (j25 6), (j25 7), (j25 8), (j25 9), (j25 10), (j25 11)].getD i_ undef) W23 _ L22 h HS24 (by kernel_rfl)

set_option maxRecDepth 100000 in
set_option maxHeartbeats 4000000 in
theorem slices_ContainsFunc_int__squeeze_read_1.calls (k : Nat) (A2 : Option Addr) (c3 : Nat) (s1 : List Int) {t w : World} {f : FM} {H : List Seg} (HS : St t w f (H)) (HR4 : SlR (tInt .i64) f A2 c3 s1) (rr1 : Bool) (h : slices_ContainsFunc_int__squeeze_read_1 k s1 = some rr1) :
    Calls Tryd.prog 26 #[.slice A2 s1.length c3, .func (.func 40) #[] #[]] w (fun e w' => ∃ (g : FM), e = .returned (Value.bool rr1) ∧ FM.le f g ∧ St t w' g (H)) := by
 unfold slices_ContainsFunc_int__squeeze_read_1 at h
 refine enter Tryd.func26 rfl (tm := #[.slice A2 s1.length c3, .func (.func 40) #[] #[], uV, uV, uV, uV, uV, uV, uV]) (by kernel_rfl) ?_
 intro B hret hnor hnp
 refine wp_seq_k (fun K5 hK6 => ?_)
 refine wp_region_lit ?_
 refine seqS1 (a' := ⟨#[.slice A2 s1.length c3, .func (.func 40) #[] #[], uV, uV, fV, uV, uV, uV, uV], []⟩) (by kernel_rfl) ?_
 refine wpList_nil ?_
 refine hK6 _ _ ?_
 refine wp_seq_k (fun K7 hK8 => ?_)
 refine wp_region_lit ?_
 have hq_ := bind_some h; clear h; obtain ⟨vt9, hc10, h⟩ := hq_
 refine seqL2 (by kernel_rfl) ?_
 refine seqK rfl (does_call (f := 42) (args := #[.slice A2 s1.length c3, .func (.func 40) #[] #[]]) (by kernel_rfl) (slices_IndexFunc_int__squeeze_read_1.calls k A2 c3 s1 HS HR4 vt9 hc10) ?_)
 rintro _ W13 ⟨f11, rfl, L12, HS14⟩
 refine ⟨_, rfl, ?_⟩
 refine seqS2 (a' := ⟨#[.slice A2 s1.length c3, .func (.func 40) #[] #[], uV, uV, .bool (decide (vt9 ≥ 0)), .slice A2 s1.length c3, .func (.func 40) #[] #[], iV vt9, .bool (decide (vt9 ≥ 0))], []⟩) (by kernel_rfl) ?_
 refine wpList_nil ?_
 refine hK8 _ _ ?_
 refine wp_ret ?_
 refine hret _ _ ?_
 refine ends_still (v := Value.bool (decide (vt9 ≥ 0))) (by kernel_rfl) (by kernel_rfl) ?_
 injection h with h
 subst h
 exact ⟨f11, rfl, L12, HS14⟩

set_option maxRecDepth 100000 in
set_option maxHeartbeats 4000000 in
theorem slices_Equal_byte.calls (k : Nat) (A2 : Option Addr) (c3 : Nat) (A6 : Option Addr) (c7 : Nat) (s11 : List Int) (s25 : List Int) {t w : World} {f : FM} {H : List Seg} (HS : St t w f (H)) (HR4 : SlR (tInt .u8) f A2 c3 s11) (HR8 : SlR (tInt .u8) f A6 c7 s25) (rr1 : Bool) (h : slices_Equal_byte k s11 s25 = some rr1) :
    Calls Tryd.prog 41 #[.slice A2 s11.length c3, .slice A6 s25.length c7] w (fun e w' => ∃ (g : FM), e = .returned (Value.bool rr1) ∧ FM.le f g ∧ St t w' g (H)) := by
 unfold slices_Equal_byte at h
 refine enter Tryd.func41 rfl (tm := #[.slice A2 s11.length c3, .slice A6 s25.length c7, uV, uV, uV, uV, uV, uV, uV, uV, uV, uV, uV, uV, uV, uV, uV, uV, uV, uV, uV, uV, uV, uV, uV, uV]) (by kernel_rfl) ?_
 intro B hret hnor hnp
 refine wp_seq_k (fun K9 hK10 => ?_)
 refine wp_region_lit ?_
 refine seqS1 (a' := ⟨#[.slice A2 s11.length c3, .slice A6 s25.length c7, uV, uV, fV, uV, uV, uV, uV, uV, uV, uV, uV, uV, uV, uV, uV, uV, uV, uV, uV, uV, uV, uV, uV, uV], []⟩) (by kernel_rfl) ?_
 refine wpList_nil ?_
 refine hK10 _ _ ?_
 refine wp_seq_k (fun K11 hK12 => ?_)
 refine wp_seq_k (fun K13 hK14 => ?_)
 refine wp_region_lit ?_
 refine seqS5 (a' := ⟨#[.slice A2 s11.length c3, .slice A6 s25.length c7, uV, uV, fV, uV, .slice A2 s11.length c3, iV (s11.length : Int), .slice A6 s25.length c7, iV (s25.length : Int), .bool ((s11.length : Int) != (s25.length : Int)), uV, uV, uV, uV, uV, uV, uV, uV, uV, uV, uV, uV, uV, uV, uV], []⟩) (by kernel_rfl) ?_
 refine wpList_nil ?_
 refine hK14 _ _ ?_
 have hq_ := ite_some h; clear h; rcases hq_ with ⟨c16, h⟩ | ⟨c16, h⟩
 · have c16 : (s11.length : Int) ≠ (s25.length : Int) := c16
   refine wpRwI 10 (x := ((s11.length : Int) != (s25.length : Int))) (v := true) (by kernel_rfl) (bne_iff_ne.mpr c16) ?_
   refine condT (by kernel_rfl) ?_
   refine wp_seq_k (fun K17 hK18 => ?_)
   refine wp_region_lit ?_
   refine seqS1 (a' := ⟨#[.slice A2 s11.length c3, .slice A6 s25.length c7, uV, uV, fV, uV, .slice A2 s11.length c3, iV (s11.length : Int), .slice A6 s25.length c7, iV (s25.length : Int), tV, uV, uV, uV, uV, uV, uV, uV, uV, uV, uV, uV, uV, uV, uV, uV], []⟩) (by kernel_rfl) ?_
   refine wpList_nil ?_
   refine hK18 _ _ ?_
   refine wp_ret ?_
   refine hret _ _ ?_
   refine ends_still (v := Value.bool false) (by kernel_rfl) (by kernel_rfl) ?_
   injection h with h
   subst h
   exact ⟨f, rfl, FM.le.refl _, HS⟩
 · have c16 : ¬ ((s11.length : Int) ≠ (s25.length : Int)) := c16
   refine wpRwI 10 (x := ((s11.length : Int) != (s25.length : Int))) (v := false) (by kernel_rfl) (bne_eq_false_iff_eq.mpr (Decidable.of_not_not c16)) ?_
   refine condF (by kernel_rfl) ?_
   refine wp_skip ?_
   refine hK12 _ _ ?_
   refine wp_seq_k (fun K19 hK20 => ?_)
   refine wp_seq_k (fun K21 hK22 => ?_)
   refine wp_region_lit ?_
   refine seqS3 (a' := ⟨#[.slice A2 s11.length c3, .slice A6 s25.length c7, uV, uV, fV, uV, .slice A2 s11.length c3, iV (s11.length : Int), .slice A6 s25.length c7, iV (s25.length : Int), fV, .slice A2 s11.length c3, iV (s11.length : Int), iV 0, uV, uV, uV, uV, uV, uV, uV, uV, uV, uV, uV, uV], []⟩) (by kernel_rfl) ?_
   refine wpList_nil ?_
   refine hK22 _ _ ?_
   refine blockK (fun B23 hx24 hn25 hr26 ho27 hp28 => ?_)
   have hq_ := bind_some h; clear h; obtain ⟨o29, hv83, h⟩ := hq_
   have JR85 : ∀ z_, some (Sum.inl z_) = some o29 → some z_ = some rr1 := by
    intro z_ e_; injection e_ with e_; subst e_; exact h
   have J84 : ∀ (f78 : FM) (j82 : Nat → Value) (W80 : World) (a_ : Act), FM.le f f78 → some (Sum.inr ()) = some o29 → St t W80 f78 (H) → a_ = ⟨#[.slice A2 s11.length c3, .slice A6 s25.length c7, uV, uV, (j82 0), (j82 1), .slice A2 s11.length c3, iV (s11.length : Int), .slice A6 s25.length c7, iV (s25.length : Int), fV, .slice A2 s11.length c3, iV (s11.length : Int), (j82 2), (j82 3), (j82 4), (j82 5), (j82 6), (j82 7), (j82 8), (j82 9), (j82 10), (j82 11), (j82 12), (j82 13), (j82 14)], []⟩ → K19 a_ W80 := by
    intro f78 j82 W80 a_ L79 hj86 HS81  hfr_; subst hfr_
    injection hj86 with hj86; subst hj86; try dsimp only at h
    simp only [Sum.elim_inr] at h
    refine hK20 _ _ ?_
    refine wp_seq_k (fun K87 hK88 => ?_)
    refine wp_region_lit ?_
    refine seqS1 (a' := ⟨#[.slice A2 s11.length c3, .slice A6 s25.length c7, uV, uV, tV, (j82 1), .slice A2 s11.length c3, iV (s11.length : Int), .slice A6 s25.length c7, iV (s25.length : Int), fV, .slice A2 s11.length c3, iV (s11.length : Int), (j82 2), (j82 3), (j82 4), (j82 5), (j82 6), (j82 7), (j82 8), (j82 9), (j82 10), (j82 11), (j82 12), (j82 13), (j82 14)], []⟩) (by kernel_rfl) ?_
    refine wpList_nil ?_
    refine hK88 _ _ ?_
    refine wp_ret ?_
    refine hret _ _ ?_
    refine ends_still (v := Value.bool true) (by kernel_rfl) (by kernel_rfl) ?_
    injection h with h
    subst h
    exact ⟨f78, rfl, L79, HS81⟩
   clear h; have h := hv83; clear hv83
   refine loopK (fun n_ a_ w_ => ∃ (f33 : FM) (x38 : Int) (j37 : Nat → Value), FM.le f f33 ∧ St t w_ f33 (H) ∧ slices_Equal_byte.l0 k s11 s25 n_ x38 = some o29 ∧ a_ = ⟨#[.slice A2 s11.length c3, .slice A6 s25.length c7, uV, uV, (j37 0), (j37 1), .slice A2 s11.length c3, iV (s11.length : Int), .slice A6 s25.length c7, iV (s25.length : Int), fV, .slice A2 s11.length c3, iV (s11.length : Int), iV x38, (j37 2), (j37 3), (j37 4), (j37 5), (j37 6), (j37 7), (j37 8), (j37 9), (j37 10), (j37 11), (j37 12), (j37 13)], []⟩) k ⟨f, 0, (fun i_ => [Value.bool false, undef, undef, undef, undef, undef, undef, undef, undef, undef, undef, undef, undef, undef].getD i_ undef), (FM.le.refl _), HS, h, (by kernel_rfl)⟩ ?_
   clear h
   rintro n32 _ W35 ⟨f33, x38, j37, L34, HS36, h, rfl⟩ K30 hK31
   obtain _ | n32 := n32
   · exact nomatch h
   simp only [slices_Equal_byte.l0] at h
   refine wp_seq_k (fun K39 hK40 => ?_)
   refine wp_region_lit ?_
   refine seqS1 (a' := ⟨#[.slice A2 s11.length c3, .slice A6 s25.length c7, uV, uV, (j37 0), (j37 1), .slice A2 s11.length c3, iV (s11.length : Int), .slice A6 s25.length c7, iV (s25.length : Int), fV, .slice A2 s11.length c3, iV (s11.length : Int), iV x38, .bool (decide (x38 < (s11.length : Int))), (j37 3), (j37 4), (j37 5), (j37 6), (j37 7), (j37 8), (j37 9), (j37 10), (j37 11), (j37 12), (j37 13)], []⟩) (by kernel_rfl) ?_
   refine wpList_nil ?_
   refine hK40 _ _ ?_
   refine wp_seq_k (fun K41 hK42 => ?_)
   have hq_ := ite_some h; clear h; rcases hq_ with ⟨c44, h⟩ | ⟨c44, h⟩
   · have c44 : x38 < (s11.length : Int) := c44
     refine wpRwI 14 (x := (decide (x38 < (s11.length : Int)))) (v := true) (by kernel_rfl) (decide_eq_true c44) ?_
     refine condT (by kernel_rfl) ?_
     refine wp_skip ?_
     refine hK42 _ _ ?_
     refine wp_seq_k (fun K45 hK46 => ?_)
     refine blockK (fun B47 hx48 hn49 hr50 ho51 hp52 => ?_)
     refine wp_seq_k (fun K54 hK55 => ?_)
     refine wp_region_lit ?_
     refine seqS2 (a' := ⟨#[.slice A2 s11.length c3, .slice A6 s25.length c7, uV, uV, (j37 0), iV x38, .slice A2 s11.length c3, iV (s11.length : Int), .slice A6 s25.length c7, iV (s25.length : Int), fV, .slice A2 s11.length c3, iV (s11.length : Int), iV x38, tV, iV x38, (j37 4), (j37 5), (j37 6), (j37 7), (j37 8), (j37 9), (j37 10), (j37 11), (j37 12), (j37 13)], []⟩) (by kernel_rfl) ?_
     refine wpList_nil ?_
     refine hK55 _ _ ?_
     refine wp_seq_k (fun K56 hK57 => ?_)
     refine heldG (S := Sg t f33 (H) []) (n := 9) (by kernel_rfl) rfl HS36 ?_
     intro W58 HS59
     have hq_ := guard_some h; clear h; obtain ⟨c60, h⟩ := hq_
     have c60 : 0 ≤ x38 := c60
     obtain ⟨b64, of65, cs61, hA66, hr62, hc63⟩ := (HR4.mono L34).at (i := x38) c60 c44
     obtain rfl := hr62
     refine takeG [0, 1] (n := 9) (fuel := 7) (l' := #[true, true, false, false, false, false, false, false, false]) (a' := ⟨#[.slice A2 s11.length c3, .slice A6 s25.length c7, uV, uV, (j37 0), iV x38, .slice A2 s11.length c3, iV (s11.length : Int), .slice A6 s25.length c7, iV (s25.length : Int), fV, .slice A2 s11.length c3, iV (s11.length : Int), iV x38, tV, iV x38, .slice A2 s11.length c3, iV x38, (j37 6), (j37 7), (j37 8), (j37 9), (j37 10), (j37 11), (j37 12), (j37 13)], []⟩) rfl (by kernel_rfl) (by kernel_rfl) (by kernel_rfl) (fun ch_ a_ w_ q_ => (fun ch_ a_ w_ q_ => hnp ch_ a_ w_ (hp28 ch_ a_ w_ q_)) ch_ a_ w_ (hp52 ch_ a_ w_ q_)) (Sg.g0 (Sx.of [] (FM.le.refl _) HS59)) ?_
     refine takeGQ 2 [] rfl (by kernel_rfl) (by kernel_rfl) (by kernel_rfl) (by kernel_rfl) (by kernel_rfl) (by kernel_rfl) (fun ch_ a_ w_ q_ => (fun ch_ a_ w_ q_ => hnp ch_ a_ w_ (hp28 ch_ a_ w_ q_)) ch_ a_ w_ (hp52 ch_ a_ w_ q_)) (Sg.g0 (Sx.of [] (FM.le.refl _) HS59)) (fun w_ hw_ => by obtain ⟨g_, hl_, hS_⟩ := hw_.st; exact run_indexE hA66 (sz := 1) rfl Tryd.underlying23 (by kernel_rfl) (by kernel_rfl : _ = Value.slice A2 s11.length c3) (by kernel_rfl : _ = Value.int .i64 x38) c60 c44 w_) ?_
     refine takeGQ 3 [] rfl (by kernel_rfl) (by kernel_rfl) (by kernel_rfl) (by kernel_rfl) (by kernel_rfl) (by kernel_rfl) (fun ch_ a_ w_ q_ => (fun ch_ a_ w_ q_ => hnp ch_ a_ w_ (hp28 ch_ a_ w_ q_)) ch_ a_ w_ (hp52 ch_ a_ w_ q_)) (Sg.g0 (Sx.of [] (FM.le.refl _) HS59)) (fun w_ hw_ => by obtain ⟨g_, hl_, hS_⟩ := hw_.st; exact run_load rfl Tryd.underlying5 rfl (by kernel_rfl : _ = Value.pointer (some ⟨b64, of65 + (x38 : Int).toNat * 1, none⟩)) ((hc63 hl_ hS_) 0 (by decide))) ?_
     have hq_ := guard_some h; clear h; obtain ⟨c67, h⟩ := hq_
     have c67 : x38 < (s25.length : Int) := c67
     obtain ⟨b71, of72, cs68, hA73, hr69, hc70⟩ := (HR8.mono L34).at (i := x38) c60 c67
     obtain rfl := hr69
     refine takeG [4, 5] (n := 5) (fuel := 3) (l' := #[true, true, true, true, true, true, false, false, false]) (a' := ⟨#[.slice A2 s11.length c3, .slice A6 s25.length c7, uV, uV, (j37 0), iV x38, .slice A2 s11.length c3, iV (s11.length : Int), .slice A6 s25.length c7, iV (s25.length : Int), fV, .slice A2 s11.length c3, iV (s11.length : Int), iV x38, tV, iV x38, .slice A2 s11.length c3, iV x38, pV b64 (of65 + (x38 : Int).toNat * 1), .int .u8 (rd s11 x38), .slice A6 s25.length c7, iV x38, (j37 10), (j37 11), (j37 12), (j37 13)], []⟩) rfl (by kernel_rfl) (by kernel_rfl) (by kernel_rfl) (fun ch_ a_ w_ q_ => (fun ch_ a_ w_ q_ => hnp ch_ a_ w_ (hp28 ch_ a_ w_ q_)) ch_ a_ w_ (hp52 ch_ a_ w_ q_)) (Sg.g0 (Sx.of [] (FM.le.refl _) HS59)) ?_
     refine takeGQ 6 [] rfl (by kernel_rfl) (by kernel_rfl) (by kernel_rfl) (by kernel_rfl) (by kernel_rfl) (by kernel_rfl) (fun ch_ a_ w_ q_ => (fun ch_ a_ w_ q_ => hnp ch_ a_ w_ (hp28 ch_ a_ w_ q_)) ch_ a_ w_ (hp52 ch_ a_ w_ q_)) (Sg.g0 (Sx.of [] (FM.le.refl _) HS59)) (fun w_ hw_ => by obtain ⟨g_, hl_, hS_⟩ := hw_.st; exact run_indexE hA73 (sz := 1) rfl Tryd.underlying23 (by kernel_rfl) (by kernel_rfl : _ = Value.slice A6 s25.length c7) (by kernel_rfl : _ = Value.int .i64 x38) c60 c67 w_) ?_
     refine takeGQ 7 [] rfl (by kernel_rfl) (by kernel_rfl) (by kernel_rfl) (by kernel_rfl) (by kernel_rfl) (by kernel_rfl) (fun ch_ a_ w_ q_ => (fun ch_ a_ w_ q_ => hnp ch_ a_ w_ (hp28 ch_ a_ w_ q_)) ch_ a_ w_ (hp52 ch_ a_ w_ q_)) (Sg.g0 (Sx.of [] (FM.le.refl _) HS59)) (fun w_ hw_ => by obtain ⟨g_, hl_, hS_⟩ := hw_.st; exact run_load rfl Tryd.underlying5 rfl (by kernel_rfl : _ = Value.pointer (some ⟨b71, of72 + (x38 : Int).toNat * 1, none⟩)) ((hc70 hl_ hS_) 0 (by decide))) ?_
     refine takeG [8] (n := 1) (fuel := 0) (l' := #[true, true, true, true, true, true, true, true, true]) (a' := ⟨#[.slice A2 s11.length c3, .slice A6 s25.length c7, uV, uV, (j37 0), iV x38, .slice A2 s11.length c3, iV (s11.length : Int), .slice A6 s25.length c7, iV (s25.length : Int), fV, .slice A2 s11.length c3, iV (s11.length : Int), iV x38, tV, iV x38, .slice A2 s11.length c3, iV x38, pV b64 (of65 + (x38 : Int).toNat * 1), .int .u8 (rd s11 x38), .slice A6 s25.length c7, iV x38, pV b71 (of72 + (x38 : Int).toNat * 1), .int .u8 (rd s25 x38), .bool ((rd s11 x38) != (rd s25 x38)), (j37 13)], []⟩) rfl (by kernel_rfl) (by kernel_rfl) (by kernel_rfl) (fun ch_ a_ w_ q_ => (fun ch_ a_ w_ q_ => hnp ch_ a_ w_ (hp28 ch_ a_ w_ q_)) ch_ a_ w_ (hp52 ch_ a_ w_ q_)) (Sg.g0 (Sx.of [] (FM.le.refl _) HS59)) ?_
     refine doneG (by kernel_rfl) ?_ _
     refine hK57 _ _ ?_
     have hq_ := ite_some h; clear h; rcases hq_ with ⟨c75, h⟩ | ⟨c75, h⟩
     · have c75 : (rd s11 x38) ≠ (rd s25 x38) := c75
       refine wpRwI 24 (x := ((rd s11 x38) != (rd s25 x38))) (v := true) (by kernel_rfl) (bne_iff_ne.mpr c75) ?_
       refine condT (by kernel_rfl) ?_
       refine wp_seq_k (fun K76 hK77 => ?_)
       refine wp_region_lit ?_
       refine seqS1 (a' := ⟨#[.slice A2 s11.length c3, .slice A6 s25.length c7, uV, uV, fV, iV x38, .slice A2 s11.length c3, iV (s11.length : Int), .slice A6 s25.length c7, iV (s25.length : Int), fV, .slice A2 s11.length c3, iV (s11.length : Int), iV x38, tV, iV x38, .slice A2 s11.length c3, iV x38, pV b64 (of65 + (x38 : Int).toNat * 1), .int .u8 (rd s11 x38), .slice A6 s25.length c7, iV x38, pV b71 (of72 + (x38 : Int).toNat * 1), .int .u8 (rd s25 x38), tV, (j37 13)], []⟩) (by kernel_rfl) ?_
       refine wpList_nil ?_
       refine hK77 _ _ ?_
       refine wp_ret ?_
       refine hr50 _ _ ?_
       refine hr26 _ _ ?_
       refine hret _ _ ?_
       refine ends_still (v := Value.bool false) (by kernel_rfl) (by kernel_rfl) ?_
       replace h := JR85 _ h
       injection h with h
       subst h
       exact ⟨f33, rfl, L34, HS59⟩
     · have c75 : ¬ ((rd s11 x38) ≠ (rd s25 x38)) := c75
       refine wpRwI 24 (x := ((rd s11 x38) != (rd s25 x38))) (v := false) (by kernel_rfl) (bne_eq_false_iff_eq.mpr (Decidable.of_not_not c75)) ?_
       refine condF (by kernel_rfl) ?_
       refine wp_skip ?_
       refine hn49 _ _ ?_
       refine hK46 _ _ ?_
       refine wp_region_lit ?_
       refine seqS2 (a' := ⟨#[.slice A2 s11.length c3, .slice A6 s25.length c7, uV, uV, (j37 0), iV x38, .slice A2 s11.length c3, iV (s11.length : Int), .slice A6 s25.length c7, iV (s25.length : Int), fV, .slice A2 s11.length c3, iV (s11.length : Int), iV (w64 (x38 + 1)), tV, iV x38, .slice A2 s11.length c3, iV x38, pV b64 (of65 + (x38 : Int).toNat * 1), .int .u8 (rd s11 x38), .slice A6 s25.length c7, iV x38, pV b71 (of72 + (x38 : Int).toNat * 1), .int .u8 (rd s25 x38), fV, iV (w64 (x38 + 1))], []⟩) (by kernel_rfl) ?_
       refine wpList_nil ?_
       refine hK31 n32 _ _ (Nat.lt_succ_self _) ?_
       exact ⟨f33, (w64 (x38 + 1)), (fun i_ => [(j37 0), Value.int .i64 x38, Value.bool true, Value.int .i64 x38, Value.slice A2 s11.length c3, Value.int .i64 x38, Value.pointer (some ⟨b64, of65 + (x38 : Int).toNat * 1, none⟩), Value.int .u8 (rd s11 x38), Value.slice A6 s25.length c7, Value.int .i64 x38, Value.pointer (some ⟨b71, of72 + (x38 : Int).toNat * 1, none⟩), Value.int .u8 (rd s25 x38), Value.bool false, Value.int .i64 (w64 (x38 + 1))].getD i_ undef), L34, HS59, h, (by kernel_rfl)⟩
   · have c44 : ¬ (x38 < (s11.length : Int)) := c44
     refine wpRwI 14 (x := (decide (x38 < (s11.length : Int)))) (v := false) (by kernel_rfl) (decide_eq_false c44) ?_
     refine condF (by kernel_rfl) ?_
     refine wp_exit ?_
     refine hx24 _ _ ?_
     exact J84 f33 (fun i_ => [(j37 0), (j37 1), Value.int .i64 x38, Value.bool false, (j37 3), (j37 4), (j37 5), (j37 6), (j37 7), (j37 8), (j37 9), (j37 10), (j37 11), (j37 12), (j37 13)].getD i_ undef) W35 _ L34 h HS36 (by kernel_rfl)

end Go.Sp.B1
