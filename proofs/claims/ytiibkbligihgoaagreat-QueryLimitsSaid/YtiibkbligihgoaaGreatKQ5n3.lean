import Derived.Test.YtiibkbligihgoaaGreatProg
import Derived.Test.YtiibkbligihgoaaGreatSpCopy
import Derived.Test.YtiibkbligihgoaaGreatFQ5
import Derived.Test.YtiibkbligihgoaaGreatShelf
import Derived.Test.YtiibkbligihgoaaGreatSpMapR
import Derived.Test.YtiibkbligihgoaaGreatSpKeys
import Derived.Test.YtiibkbligihgoaaGreatSpRound
import Derived.Test.YtiibkbligihgoaaGreatKQ5n0
import Derived.Test.YtiibkbligihgoaaGreatKQ5n1
import Derived.Test.YtiibkbligihgoaaGreatKQ5n2
namespace Go.Sp.Q5
open Go Go.Sp Go.Proofs
set_option linter.unusedVariables false
attribute [local irreducible] wpList AnyL Code.wp Calls Does Code.wpIn wpListIn CallsIn bodyPostM LeavesInM
set_option maxRecDepth 100000 in
set_option maxHeartbeats 4000000 in
theorem query_product.calls (k : Nat)  (a1 : S_Bound) (b2 : S_Bound) {t w : World} {f : FM} {H : List Seg} (HS : St t w f (H)) (rr1 : Int) (rr2 : Int) (h : query_product k a1 b2 = some (rr1, rr2)) :
    Calls Tryz.prog 32 #[.agg #[.int .i64 a1.Lo, .int .i64 a1.Hi, .bool a1.Unknown], .agg #[.int .i64 b2.Lo, .int .i64 b2.Hi, .bool b2.Unknown]] w (fun e w' => ∃ (g : FM), e = .returned (Value.tuple #[.int .i64 rr1, .int .i64 rr2]) ∧ FM.le f g ∧ St t w' g (H)) := by
 unfold query_product at h
 refine enter Tryz.func32 rfl (tm := #[(ag_Bound a1), (ag_Bound b2), uV, uV, uV, uV, uV, uV, uV, uV, uV, uV, uV, uV, uV, uV, uV, uV, uV, uV, uV, uV, uV, uV, uV, uV, uV, uV, uV, uV, uV, uV, uV, uV, uV, uV, uV, uV, uV, uV]) kr ?_
 intro B hret hnor hnp
 refine wp_seq_k fun K3 hK4 => rl ?_
 refine seqK rfl (does_box (cs := #[.int .i64 a1.Lo, .int .i64 a1.Hi, .bool a1.Unknown]) rfl (kv (.agg #[.int .i64 a1.Lo, .int .i64 a1.Hi, .bool a1.Unknown])) rfl HS ?_)
 intro b5 W6 HS7
 refine seqK rfl (does_box (cs := #[.int .i64 b2.Lo, .int .i64 b2.Hi, .bool b2.Unknown]) rfl (kv (.agg #[.int .i64 b2.Lo, .int .i64 b2.Hi, .bool b2.Unknown])) rfl HS7 ?_)
 intro b9 W10 HS11
 refine seqL2 kr ?_
 refine nl (hK4 _ _ ?_)
 refine wp_seq_k (fun K13 hK14 => ?_)
 refine heldG (S := Sg t f ([(b9, .cells #[.int .i64 b2.Lo, .int .i64 b2.Hi, .bool b2.Unknown] 29 (0, 0))] :: [(b5, .cells #[.int .i64 a1.Lo, .int .i64 a1.Hi, .bool a1.Unknown] 29 (0, 0))] :: H) []) (n := 12) kr rfl HS11 ?_
 intro W15 HS16
 refine takeGL [0] (n := 12) (fuel := 11) #[true, false, false, false, false, false, false, false, false, false, false, false] rfl kr kr kr hnp (Sg.g0 (Sx.of [] fL HS16)) ?_
 refine takeGQ 1 [] rfl kr kr kr kr kr kr hnp (Sg.g0 (Sx.of [] fL HS16)) (fun w_ hw_ => by obtain ⟨g_, hl_, hS_⟩ := hw_.st; exact run_load rfl Tryz.underlying27 rfl (kv (.pointer (some ⟨b5, 0, none⟩))) (hS_.u1.cell 0)) ?_
 refine takeGL [2] (n := 10) (fuel := 9) #[true, true, true, false, false, false, false, false, false, false, false, false] rfl kr kr kr hnp (Sg.g0 (Sx.of [] fL HS16)) ?_
 refine takeGQ 3 [] rfl kr kr kr kr kr kr hnp (Sg.g0 (Sx.of [] fL HS16)) (fun w_ hw_ => by obtain ⟨g_, hl_, hS_⟩ := hw_.st; exact run_load rfl Tryz.underlying27 rfl (kv (.pointer (some ⟨b9, 0, none⟩))) (hS_.cell 0)) ?_
 refine takeGL [4, 5] (n := 8) (fuel := 6) #[true, true, true, true, true, true, false, false, false, false, false, false] rfl kr kr kr hnp (Sg.g0 (Sx.of [] fL HS16)) ?_
 refine takeGQ 6 [] rfl kr kr kr kr kr kr hnp (Sg.g0 (Sx.of [] fL HS16)) (fun w_ hw_ => by obtain ⟨g_, hl_, hS_⟩ := hw_.st; exact run_load rfl Tryz.underlying27 rfl (kv (.pointer (some ⟨b5, 0, none⟩))) (hS_.u1.cell 0)) ?_
 refine takeGL [7] (n := 5) (fuel := 4) #[true, true, true, true, true, true, true, true, false, false, false, false] rfl kr kr kr hnp (Sg.g0 (Sx.of [] fL HS16)) ?_
 refine takeGQ 8 [] rfl kr kr kr kr kr kr hnp (Sg.g0 (Sx.of [] fL HS16)) (fun w_ hw_ => by obtain ⟨g_, hl_, hS_⟩ := hw_.st; exact run_load rfl Tryz.underlying27 rfl (kv (.pointer (some ⟨b9, 1, none⟩))) (hS_.cell 1)) ?_
 refine takeGL [9, 10, 11] (n := 3) (fuel := 0) #[true, true, true, true, true, true, true, true, true, true, true, true] rfl kr kr kr hnp (Sg.g0 (Sx.of [] fL HS16)) ?_
 refine doneG kr ?_ _
 refine hK14 _ _ ?_
 refine wp_seq_k (fun K17 hK18 => ?_)
 refine heldG (S := Sg t f ([(b9, .cells #[.int .i64 b2.Lo, .int .i64 b2.Hi, .bool b2.Unknown] 29 (0, 0))] :: [(b5, .cells #[.int .i64 a1.Lo, .int .i64 a1.Hi, .bool a1.Unknown] 29 (0, 0))] :: H) []) (n := 12) kr rfl HS16 ?_
 intro W19 HS20
 refine takeGL [0] (n := 12) (fuel := 11) #[true, false, false, false, false, false, false, false, false, false, false, false] rfl kr kr kr hnp (Sg.g0 (Sx.of [] fL HS20)) ?_
 refine takeGQ 1 [] rfl kr kr kr kr kr kr hnp (Sg.g0 (Sx.of [] fL HS20)) (fun w_ hw_ => by obtain ⟨g_, hl_, hS_⟩ := hw_.st; exact run_load rfl Tryz.underlying27 rfl (kv (.pointer (some ⟨b5, 1, none⟩))) (hS_.u1.cell 1)) ?_
 refine takeGL [2] (n := 10) (fuel := 9) #[true, true, true, false, false, false, false, false, false, false, false, false] rfl kr kr kr hnp (Sg.g0 (Sx.of [] fL HS20)) ?_
 refine takeGQ 3 [] rfl kr kr kr kr kr kr hnp (Sg.g0 (Sx.of [] fL HS20)) (fun w_ hw_ => by obtain ⟨g_, hl_, hS_⟩ := hw_.st; exact run_load rfl Tryz.underlying27 rfl (kv (.pointer (some ⟨b9, 0, none⟩))) (hS_.cell 0)) ?_
 refine takeGL [4, 5] (n := 8) (fuel := 6) #[true, true, true, true, true, true, false, false, false, false, false, false] rfl kr kr kr hnp (Sg.g0 (Sx.of [] fL HS20)) ?_
 refine takeGQ 6 [] rfl kr kr kr kr kr kr hnp (Sg.g0 (Sx.of [] fL HS20)) (fun w_ hw_ => by obtain ⟨g_, hl_, hS_⟩ := hw_.st; exact run_load rfl Tryz.underlying27 rfl (kv (.pointer (some ⟨b5, 1, none⟩))) (hS_.u1.cell 1)) ?_
 refine takeGL [7] (n := 5) (fuel := 4) #[true, true, true, true, true, true, true, true, false, false, false, false] rfl kr kr kr hnp (Sg.g0 (Sx.of [] fL HS20)) ?_
 refine takeGQ 8 [] rfl kr kr kr kr kr kr hnp (Sg.g0 (Sx.of [] fL HS20)) (fun w_ hw_ => by obtain ⟨g_, hl_, hS_⟩ := hw_.st; exact run_load rfl Tryz.underlying27 rfl (kv (.pointer (some ⟨b9, 1, none⟩))) (hS_.cell 1)) ?_
 refine takeGL [9, 10, 11] (n := 3) (fuel := 0) #[true, true, true, true, true, true, true, true, true, true, true, true] rfl kr kr kr hnp (Sg.g0 (Sx.of [] fL HS20)) ?_
 refine doneG kr ?_ _
 refine hK18 _ _ ?_
 refine wp_seq_k fun K21 hK22 => rl ?_
 refine seqL12 kr ?_
 refine nl (hK22 _ _ ?_)
 refine wp_ret ?_
 refine hret _ _ ?_
 refine ends_still (v := Value.tuple #[.int .i64 (mn (mn (mn (w64 (a1.Lo * b2.Lo)) (w64 (a1.Lo * b2.Hi))) (w64 (a1.Hi * b2.Lo))) (w64 (a1.Hi * b2.Hi))), .int .i64 (mx (mx (mx (w64 (a1.Lo * b2.Lo)) (w64 (a1.Lo * b2.Hi))) (w64 (a1.Hi * b2.Lo))) (w64 (a1.Hi * b2.Hi)))]) kr kr ?_
 have HS23 := HS20.drop
 have HS24 := HS23.drop
 injection h with h
 injection h with h0_ h
 subst h0_ h
 exact ⟨f, rfl, FM.le.refl _, HS24⟩

set_option maxRecDepth 100000 in
set_option maxHeartbeats 4000000 in
theorem query_square.calls (k : Nat)  (b1 : S_Bound) {t w : World} {f : FM} {H : List Seg} (HS : St t w f (H)) (rr1 : Int) (rr2 : Int) (h : query_square k b1 = some (rr1, rr2)) :
    Calls Tryz.prog 33 #[.agg #[.int .i64 b1.Lo, .int .i64 b1.Hi, .bool b1.Unknown]] w (fun e w' => ∃ (g : FM), e = .returned (Value.tuple #[.int .i64 rr1, .int .i64 rr2]) ∧ FM.le f g ∧ St t w' g (H)) := by
 unfold query_square at h
 refine enter Tryz.func33 rfl (tm := #[(ag_Bound b1), uV, uV, uV, uV, uV, uV, uV, uV, uV, uV, uV, uV, uV, uV, uV, uV, uV, uV, uV, uV, uV, uV, uV, uV, uV, uV, uV, uV, uV, uV, uV]) kr ?_
 intro B hret hnor hnp
 refine wp_seq_k fun K2 hK3 => rl ?_
 refine seqK rfl (does_box (cs := #[.int .i64 b1.Lo, .int .i64 b1.Hi, .bool b1.Unknown]) rfl (kv (.agg #[.int .i64 b1.Lo, .int .i64 b1.Hi, .bool b1.Unknown])) rfl HS ?_)
 intro b4 W5 HS6
 refine seqL2 kr ?_
 refine nl (hK3 _ _ ?_)
 refine wp_seq_k (fun K8 hK9 => ?_)
 refine heldG (S := Sg t f ([(b4, .cells #[.int .i64 b1.Lo, .int .i64 b1.Hi, .bool b1.Unknown] 29 (0, 0))] :: H) []) (n := 6) kr rfl HS6 ?_
 intro W10 HS11
 refine takeGL [0] (n := 6) (fuel := 5) #[true, false, false, false, false, false] rfl kr kr kr hnp (Sg.g0 (Sx.of [] fL HS11)) ?_
 refine takeGQ 1 [] rfl kr kr kr kr kr kr hnp (Sg.g0 (Sx.of [] fL HS11)) (fun w_ hw_ => by obtain ⟨g_, hl_, hS_⟩ := hw_.st; exact run_load rfl Tryz.underlying27 rfl (kv (.pointer (some ⟨b4, 0, none⟩))) (hS_.cell 0)) ?_
 refine takeGL [2] (n := 4) (fuel := 3) #[true, true, true, false, false, false] rfl kr kr kr hnp (Sg.g0 (Sx.of [] fL HS11)) ?_
 refine takeGQ 3 [] rfl kr kr kr kr kr kr hnp (Sg.g0 (Sx.of [] fL HS11)) (fun w_ hw_ => by obtain ⟨g_, hl_, hS_⟩ := hw_.st; exact run_load rfl Tryz.underlying27 rfl (kv (.pointer (some ⟨b4, 1, none⟩))) (hS_.cell 1)) ?_
 refine takeGL [4, 5] (n := 2) (fuel := 0) #[true, true, true, true, true, true] rfl kr kr kr hnp (Sg.g0 (Sx.of [] fL HS11)) ?_
 refine doneG kr ?_ _
 refine hK9 _ _ ?_
 refine wp_seq_k fun K12 hK13 => rl ?_
 refine seqL8 kr ?_
 refine nl (hK13 _ _ ?_)
 refine wp_seq_k (fun K14 hK15 => ?_)
 refine wp_seq_k fun K16 hK17 => rl ?_
 refine seqL3 kr ?_
 have hq_ := ite_some h; clear h; rcases hq_ with ⟨c18, h⟩ | ⟨c18, h⟩
 · have c18 : b1.Lo > 0 := c18
   refine seqRwI 18 kr (decide_eq_true c18) ?_
   refine seqRwI 19 kr (decide_eq_true c18) ?_
   refine seqL3 kr ?_
   refine nl (hK17 _ _ ?_)
   refine condT kr ?_
   refine rl ?_
   refine seqL8 kr ?_
   refine nl (hK15 _ _ ?_)
   refine wp_seq_k fun K19 hK20 => rl ?_
   refine seqL4 kr ?_
   refine nl (hK20 _ _ ?_)
   refine wp_ret ?_
   refine hret _ _ ?_
   refine ends_still (v := Value.tuple #[.int .i64 (mn (w64 (b1.Lo * b1.Lo)) (w64 (b1.Hi * b1.Hi))), .int .i64 (mx (w64 (b1.Lo * b1.Lo)) (w64 (b1.Hi * b1.Hi)))]) kr kr ?_
   have HS27 := HS11.drop
   injection h with h
   injection h with h0_ h
   subst h0_ h
   exact ⟨f, rfl, FM.le.refl _, HS27⟩
 · have c18 : ¬ (b1.Lo > 0) := c18
   refine seqRwI 18 kr (decide_eq_false c18) ?_
   refine seqRwI 19 kr (decide_eq_false c18) ?_
   refine seqL3 kr ?_
   refine nl (hK17 _ _ ?_)
   have hq_ := ite_some h; clear h; rcases hq_ with ⟨c22, h⟩ | ⟨c22, h⟩
   · have c22 : b1.Hi < 0 := c22
     refine wpRwI 21 kr (decide_eq_true c22) ?_
     refine wpRwI 22 kr (decide_eq_true c22) ?_
     refine condT kr ?_
     refine rl ?_
     refine seqL8 kr ?_
     refine nl (hK15 _ _ ?_)
     refine wp_seq_k fun K23 hK24 => rl ?_
     refine seqL4 kr ?_
     refine nl (hK24 _ _ ?_)
     refine wp_ret ?_
     refine hret _ _ ?_
     refine ends_still (v := Value.tuple #[.int .i64 (mn (w64 (b1.Lo * b1.Lo)) (w64 (b1.Hi * b1.Hi))), .int .i64 (mx (w64 (b1.Lo * b1.Lo)) (w64 (b1.Hi * b1.Hi)))]) kr kr ?_
     have HS28 := HS11.drop
     injection h with h
     injection h with h0_ h
     subst h0_ h
     exact ⟨f, rfl, FM.le.refl _, HS28⟩
   · have c22 : ¬ (b1.Hi < 0) := c22
     refine wpRwI 21 kr (decide_eq_false c22) ?_
     refine wpRwI 22 kr (decide_eq_false c22) ?_
     refine condF kr ?_
     refine wp_skip ?_
     refine hK15 _ _ ?_
     refine wp_seq_k fun K25 hK26 => rl ?_
     refine seqL4 kr ?_
     refine nl (hK26 _ _ ?_)
     refine wp_ret ?_
     refine hret _ _ ?_
     refine ends_still (v := Value.tuple #[.int .i64 0, .int .i64 (mx (w64 (b1.Lo * b1.Lo)) (w64 (b1.Hi * b1.Hi)))]) kr kr ?_
     have HS29 := HS11.drop
     injection h with h
     injection h with h0_ h
     subst h0_ h
     exact ⟨f, rfl, FM.le.refl _, HS29⟩

set_option maxRecDepth 100000 in
set_option maxHeartbeats 4000000 in
theorem bits_Mul64.calls (k : Nat)  (x1 : Int) (y2 : Int) {t w : World} {f : FM} {H : List Seg} (HS : St t w f (H)) (rr1 : Int) (rr2 : Int) (h : bits_Mul64 k x1 y2 = some (rr1, rr2)) :
    Calls Tryz.prog 64 #[.int .u64 x1, .int .u64 y2] w (fun e w' => ∃ (g : FM), e = .returned (Value.tuple #[.int .u64 rr1, .int .u64 rr2]) ∧ FM.le f g ∧ St t w' g (H)) := by
 unfold bits_Mul64 at h
 refine enter Tryz.func64 rfl (tm := #[.int .u64 x1, .int .u64 y2, uV, uV, uV, uV, uV, uV, uV, uV, uV, uV, uV, uV, uV, uV, uV, uV, uV, uV, uV, uV, uV, uV, uV, uV, uV, uV, uV, uV, uV, uV, uV, uV, uV, uV, uV, uV, uV, uV, uV, uV, uV, uV, uV, uV, uV, uV, uV, uV, uV]) kr ?_
 intro B hret hnor hnp
 refine wp_seq_k fun K3 hK4 => rl ?_
 refine seqL2 kr ?_
 refine nl (hK4 _ _ ?_)
 refine wp_seq_k fun K5 hK6 => rl ?_
 refine seqL3 kr ?_
 refine nl (hK6 _ _ ?_)
 refine wp_seq_k fun K7 hK8 => rl ?_
 refine seqL3 kr ?_
 refine nl (hK8 _ _ ?_)
 refine wp_seq_k fun K9 hK10 => rl ?_
 refine seqL3 kr ?_
 refine nl (hK10 _ _ ?_)
 refine wp_seq_k fun K11 hK12 => rl ?_
 refine seqL3 kr ?_
 refine nl (hK12 _ _ ?_)
 refine wp_seq_k fun K13 hK14 => rl ?_
 refine seqL4 kr ?_
 refine nl (hK14 _ _ ?_)
 refine wp_seq_k fun K15 hK16 => rl ?_
 refine seqL7 kr ?_
 refine nl (hK16 _ _ ?_)
 refine wp_seq_k fun K17 hK18 => rl ?_
 refine seqL3 kr ?_
 refine nl (hK18 _ _ ?_)
 refine wp_seq_k fun K19 hK20 => rl ?_
 refine seqL3 kr ?_
 refine nl (hK20 _ _ ?_)
 refine wp_seq_k fun K21 hK22 => rl ?_
 refine seqL6 kr ?_
 refine nl (hK22 _ _ ?_)
 refine wp_seq_k fun K23 hK24 => rl ?_
 refine seqL9 kr ?_
 refine nl (hK24 _ _ ?_)
 refine wp_seq_k fun K25 hK26 => rl ?_
 refine seqL4 kr ?_
 refine nl (hK26 _ _ ?_)
 refine wp_ret ?_
 refine hret _ _ ?_
 refine ends_still (v := Value.tuple #[.int .u64 (u64 ((u64 ((u64 ((shr x1 32) * (shr y2 32))) + (shr (u64 ((u64 ((shr x1 32) * (Go.bits .and .u64 y2 4294967295))) + (shr (u64 ((Go.bits .and .u64 x1 4294967295) * (Go.bits .and .u64 y2 4294967295))) 32))) 32))) + (shr (u64 ((Go.bits .and .u64 (u64 ((u64 ((shr x1 32) * (Go.bits .and .u64 y2 4294967295))) + (shr (u64 ((Go.bits .and .u64 x1 4294967295) * (Go.bits .and .u64 y2 4294967295))) 32))) 4294967295) + (u64 ((Go.bits .and .u64 x1 4294967295) * (shr y2 32))))) 32))), .int .u64 (u64 (x1 * y2))]) kr kr ?_
 injection h with h
 injection h with h0_ h
 subst h0_ h
 exact ⟨f, rfl, FM.le.refl _, HS⟩

set_option maxRecDepth 100000 in
set_option maxHeartbeats 4000000 in
theorem num_SqrtMul.calls (k : Nat)  (a1 : Int) (b2 : Int) {t w : World} {f : FM} {H : List Seg} (HS : St t w f (H)) (rr1 : Int) (h : num_SqrtMul k a1 b2 = some rr1) :
    Calls Tryz.prog 34 #[.int .i64 a1, .int .i64 b2] w (fun e w' => ∃ (g : FM), e = .returned (Value.int .i64 rr1) ∧ FM.le f g ∧ St t w' g (H)) := by
 unfold num_SqrtMul at h
 refine enter Tryz.func34 rfl (tm := #[iV a1, iV b2, uV, uV, uV, uV, uV, uV, uV, uV, uV, uV, uV, uV, uV, uV, uV, uV, uV, uV, uV, uV, uV, uV, uV, uV, uV, uV, uV, uV, uV, uV, uV, uV, uV, uV, uV, uV, uV, uV, uV, uV, uV, uV, uV, uV, uV, uV, uV, uV, uV, uV, uV, uV, uV, uV, uV]) kr ?_
 intro B hret hnor hnp
 refine wp_seq_k fun K3 hK4 => rl ?_
 refine seqL1 kr ?_
 refine nl (hK4 _ _ ?_)
 refine wp_seq_k (fun K5 hK6 => ?_)
 refine wp_seq_k fun K7 hK8 => rl ?_
 refine seqL3 kr ?_
 have hq_ := ite_some h; clear h; rcases hq_ with ⟨c9, h⟩ | ⟨c9, h⟩
 · have c9 : a1 < 0 := c9
   refine seqRwI 12 kr (decide_eq_true c9) ?_
   refine seqRwI 13 kr (decide_eq_true c9) ?_
   refine seqL3 kr ?_
   refine nl (hK8 _ _ ?_)
   refine condT kr ?_
   refine wp_seq_k fun K10 hK11 => rl ?_
   refine seqL1 kr ?_
   refine nl (hK11 _ _ ?_)
   refine wp_ret ?_
   refine hret _ _ ?_
   refine ends_still (v := Value.int .i64 0) kr kr ?_
   injection h with h
   subst h
   exact ⟨f, rfl, FM.le.refl _, HS⟩
 · have c9 : ¬ (a1 < 0) := c9
   refine seqRwI 12 kr (decide_eq_false c9) ?_
   refine seqRwI 13 kr (decide_eq_false c9) ?_
   refine seqL3 kr ?_
   refine nl (hK8 _ _ ?_)
   have hq_ := ite_some h; clear h; rcases hq_ with ⟨c13, h⟩ | ⟨c13, h⟩
   · have c13 : b2 < 0 := c13
     refine wpRwI 15 kr (decide_eq_true c13) ?_
     refine wpRwI 16 kr (decide_eq_true c13) ?_
     refine condT kr ?_
     refine wp_seq_k fun K14 hK15 => rl ?_
     refine seqL1 kr ?_
     refine nl (hK15 _ _ ?_)
     refine wp_ret ?_
     refine hret _ _ ?_
     refine ends_still (v := Value.int .i64 0) kr kr ?_
     injection h with h
     subst h
     exact ⟨f, rfl, FM.le.refl _, HS⟩
   · have c13 : ¬ (b2 < 0) := c13
     refine wpRwI 15 kr (decide_eq_false c13) ?_
     refine wpRwI 16 kr (decide_eq_false c13) ?_
     refine condF kr ?_
     refine wp_skip ?_
     refine hK6 _ _ ?_
     refine wp_seq_k fun K16 hK17 => rl ?_
     have hq_ := bind_some h; clear h; obtain ⟨⟨vt18, vt19⟩, hc20, h⟩ := hq_
     refine seqL4 kr ?_
     refine seqK rfl (does_call (f := 64) (args := #[.int .u64 (u64 (a1)), .int .u64 (u64 (b2))]) kr (bits_Mul64.calls k (u64 (a1)) (u64 (b2)) HS vt18 vt19 hc20) ?_)
     rintro _ W23 ⟨f21, rfl, L22, HS24⟩
     refine ⟨_, rfl, ?_⟩
     refine seqL5 kr ?_
     refine nl (hK17 _ _ ?_)
     refine wp_seq_k fun K25 hK26 => rl ?_
     refine seqL1 kr ?_
     refine nl (hK26 _ _ ?_)
     refine wp_seq_k (fun K27 hK28 => ?_)
     refine wp_seq_k fun K29 hK30 => rl ?_
     refine seqL1 kr ?_
     refine nl (hK30 _ _ ?_)
     refine blockK (fun B31 hx32 hn33 hr34 ho35 hp36 => ?_)
     have hq_ := bind_some h; clear h; obtain ⟨o37, hv84, h⟩ := hq_
     have J85 : ∀ (f78 : FM) (r83 : Int) (j82 : Nat → Value) (W80 : World) (a_ : Act), FM.le f21 f78 → some (r83) = some o37 → St t W80 f78 (H) → a_ = ⟨#[iV a1, iV b2, uV, uV, iV 0, .int .u64 vt18, .int .u64 vt19, .int .u64 r83, (j82 0), (j82 1), (j82 2), iV a1, fV, fV, iV b2, fV, fV, .tuple #[.int .u64 vt18, .int .u64 vt19], iV a1, .int .u64 (u64 (a1)), iV b2, .int .u64 (u64 (b2)), .tuple #[.int .u64 vt18, .int .u64 vt19], .int .u64 vt18, .int .u64 vt19, (j82 3), (j82 4), (j82 5), (j82 6), (j82 7), (j82 8), (j82 9), (j82 10), (j82 11), (j82 12), (j82 13), (j82 14), (j82 15), (j82 16), (j82 17), (j82 18), (j82 19), (j82 20), (j82 21), (j82 22), (j82 23), (j82 24), (j82 25), (j82 26), (j82 27), (j82 28), (j82 29), (j82 30), (j82 31), (j82 32), uV, uV], []⟩ → K27 a_ W80 := by
      intro f78 r83 j82 W80 a_ L79 hj86 HS81  hfr_; subst hfr_
      injection hj86 with hj86; subst hj86; try dsimp only at h
      refine hK28 _ _ ?_
      refine wp_seq_k fun K87 hK88 => rl ?_
      refine seqL3 kr ?_
      refine nl (hK88 _ _ ?_)
      refine wp_ret ?_
      refine hret _ _ ?_
      refine ends_still (v := Value.int .i64 (w64 (r83))) kr kr ?_
      injection h with h
      subst h
      exact ⟨f78, rfl, (L22.trans L79), HS81⟩
     clear h; have h := hv84; clear hv84
     refine loopK (fun n_ a_ w_ => ∃ (f41 : FM) (r46 : Int) (bit47 : Int) (j45 : Nat → Value), FM.le f21 f41 ∧ St t w_ f41 (H) ∧ num_SqrtMul.l0 k vt18 vt19 n_ r46 bit47 = some o37 ∧ a_ = ⟨#[iV a1, iV b2, uV, uV, iV 0, .int .u64 vt18, .int .u64 vt19, .int .u64 r46, .int .u64 bit47, (j45 0), (j45 1), iV a1, fV, fV, iV b2, fV, fV, .tuple #[.int .u64 vt18, .int .u64 vt19], iV a1, .int .u64 (u64 (a1)), iV b2, .int .u64 (u64 (b2)), .tuple #[.int .u64 vt18, .int .u64 vt19], .int .u64 vt18, .int .u64 vt19, (j45 2), (j45 3), (j45 4), (j45 5), (j45 6), (j45 7), (j45 8), (j45 9), (j45 10), (j45 11), (j45 12), (j45 13), (j45 14), (j45 15), (j45 16), (j45 17), (j45 18), (j45 19), (j45 20), (j45 21), (j45 22), (j45 23), (j45 24), (j45 25), (j45 26), (j45 27), (j45 28), (j45 29), (j45 30), (j45 31), uV, uV], []⟩) k ⟨f21, 0, 4611686018427387904, (jL []), fL, HS24, h, kr⟩ ?_
     clear h
     rintro n40 _ W43 ⟨f41, r46, bit47, j45, L42, HS44, h, rfl⟩ K38 hK39
     obtain _ | n40 := n40
     · exact nomatch h
     simp only [num_SqrtMul.l0] at h
     refine wp_seq_k (fun K48 hK49 => ?_)
     refine wp_seq_k fun K50 hK51 => rl ?_
     refine seqL2 kr ?_
     refine nl (hK51 _ _ ?_)
     have hq_ := ite_some h; clear h; rcases hq_ with ⟨c53, h⟩ | ⟨c53, h⟩
     · have c53 : bit47 > 0 := c53
       refine wpRwI 26 kr (decide_eq_true c53) ?_
       refine condT kr ?_
       refine wp_skip ?_
       refine hK49 _ _ ?_
       refine wp_seq_k (fun K54 hK55 => ?_)
       refine blockK (fun B56 hx57 hn58 hr59 ho60 hp61 => ?_)
       refine wp_seq_k fun K63 hK64 => rl ?_
       have hq_ := bind_some h; clear h; obtain ⟨⟨vt65, vt66⟩, hc67, h⟩ := hq_
       refine seqL6 kr ?_
       refine seqK rfl (does_call (f := 64) (args := #[.int .u64 (Go.bits .or .u64 r46 bit47), .int .u64 (Go.bits .or .u64 r46 bit47)]) kr (bits_Mul64.calls k (Go.bits .or .u64 r46 bit47) (Go.bits .or .u64 r46 bit47) HS44 vt65 vt66 hc67) ?_)
       rintro _ W70 ⟨f68, rfl, L69, HS71⟩
       refine ⟨_, rfl, ?_⟩
       refine seqL5 kr ?_
       refine nl (hK64 _ _ ?_)
       refine wp_seq_k fun K72 hK73 => rl ?_
       refine seqL4 kr ?_
       have hq_ := ite_some h; clear h; rcases hq_ with ⟨c74, h⟩ | ⟨c74, h⟩
       · have c74 : vt65 < vt18 := c74
         refine seqRwI 41 kr (decide_eq_true c74) ?_
         refine seqRwI 42 kr (decide_eq_true c74) ?_
         refine seqL9 kr ?_
         refine nl (hK73 _ _ ?_)
         refine condT kr ?_
         refine rl ?_
         refine seqL4 kr ?_
         refine nl ?_
         refine hn58 _ _ ?_
         refine hK55 _ _ ?_
         refine rl ?_
         refine seqL3 kr ?_
         refine nl ?_
         refine hK39 n40 _ _ (Nat.lt_succ_self _) ?_
         exact ⟨f68, (Go.bits .or .u64 r46 bit47), (shr bit47 1), (jL [.int .u64 vt65, .int .u64 vt66, .int .u64 bit47, tV, .int .u64 bit47, .int .u64 (shr bit47 1), .tuple #[.int .u64 vt65, .int .u64 vt66], .int .u64 r46, .int .u64 bit47, .int .u64 (Go.bits .or .u64 r46 bit47), .int .u64 r46, .int .u64 bit47, .int .u64 (Go.bits .or .u64 r46 bit47), .tuple #[.int .u64 vt65, .int .u64 vt66], .int .u64 vt65, .int .u64 vt66, .int .u64 vt65, .int .u64 vt18, tV, tV, uV, uV, uV, uV, uV, uV, uV, uV, tV, .int .u64 r46, .int .u64 bit47, .int .u64 (Go.bits .or .u64 r46 bit47)]), (L42.trans L69), HS71, h, kr⟩
       · have c74 : ¬ (vt65 < vt18) := c74
         refine seqRwI 41 kr (decide_eq_false c74) ?_
         refine seqRwI 42 kr (decide_eq_false c74) ?_
         refine seqL4 kr ?_
         have hq_ := ite_some h; clear h; rcases hq_ with ⟨c75, h⟩ | ⟨c75, h⟩
         · have c75 : vt65 = vt18 := c75
           refine seqRwI 45 kr (beq_iff_eq.mpr c75) ?_
           refine seqRwI 46 kr (beq_iff_eq.mpr c75) ?_
           refine seqL5 kr ?_
           refine nl (hK73 _ _ ?_)
           have hq_ := ite_some h; clear h; rcases hq_ with ⟨c77, h⟩ | ⟨c77, h⟩
           · have c77 : vt66 ≤ vt19 := c77
             refine wpRwI 49 kr (decide_eq_true c77) ?_
             refine wpRwI 50 kr (decide_eq_true c77) ?_
             refine wpRwI 51 kr (decide_eq_true c77) ?_
             refine condT kr ?_
             refine rl ?_
             refine seqL4 kr ?_
             refine nl ?_
             refine hn58 _ _ ?_
             refine hK55 _ _ ?_
             refine rl ?_
             refine seqL3 kr ?_
             refine nl ?_
             refine hK39 n40 _ _ (Nat.lt_succ_self _) ?_
             exact ⟨f68, (Go.bits .or .u64 r46 bit47), (shr bit47 1), (jL [.int .u64 vt65, .int .u64 vt66, .int .u64 bit47, tV, .int .u64 bit47, .int .u64 (shr bit47 1), .tuple #[.int .u64 vt65, .int .u64 vt66], .int .u64 r46, .int .u64 bit47, .int .u64 (Go.bits .or .u64 r46 bit47), .int .u64 r46, .int .u64 bit47, .int .u64 (Go.bits .or .u64 r46 bit47), .tuple #[.int .u64 vt65, .int .u64 vt66], .int .u64 vt65, .int .u64 vt66, .int .u64 vt65, .int .u64 vt18, fV, fV, .int .u64 vt65, .int .u64 vt18, tV, tV, .int .u64 vt66, .int .u64 vt19, tV, tV, tV, .int .u64 r46, .int .u64 bit47, .int .u64 (Go.bits .or .u64 r46 bit47)]), (L42.trans L69), HS71, h, kr⟩
           · have c77 : ¬ (vt66 ≤ vt19) := c77
             refine wpRwI 49 kr (decide_eq_false c77) ?_
             refine wpRwI 50 kr (decide_eq_false c77) ?_
             refine wpRwI 51 kr (decide_eq_false c77) ?_
             refine condF kr ?_
             refine wp_skip ?_
             refine hn58 _ _ ?_
             refine hK55 _ _ ?_
             refine rl ?_
             refine seqL3 kr ?_
             refine nl ?_
             refine hK39 n40 _ _ (Nat.lt_succ_self _) ?_
             exact ⟨f68, r46, (shr bit47 1), (jL [.int .u64 vt65, .int .u64 vt66, .int .u64 bit47, tV, .int .u64 bit47, .int .u64 (shr bit47 1), .tuple #[.int .u64 vt65, .int .u64 vt66], .int .u64 r46, .int .u64 bit47, .int .u64 (Go.bits .or .u64 r46 bit47), .int .u64 r46, .int .u64 bit47, .int .u64 (Go.bits .or .u64 r46 bit47), .tuple #[.int .u64 vt65, .int .u64 vt66], .int .u64 vt65, .int .u64 vt66, .int .u64 vt65, .int .u64 vt18, fV, fV, .int .u64 vt65, .int .u64 vt18, tV, tV, .int .u64 vt66, .int .u64 vt19, fV, fV, fV, (j45 29), (j45 30), (j45 31)]), (L42.trans L69), HS71, h, kr⟩
         · have c75 : ¬ (vt65 = vt18) := c75
           refine seqRwI 45 kr (beq_eq_false_iff_ne.mpr c75) ?_
           refine seqRwI 46 kr (beq_eq_false_iff_ne.mpr c75) ?_
           refine seqL5 kr ?_
           refine nl (hK73 _ _ ?_)
           refine condF kr ?_
           refine wp_skip ?_
           refine hn58 _ _ ?_
           refine hK55 _ _ ?_
           refine rl ?_
           refine seqL3 kr ?_
           refine nl ?_
           refine hK39 n40 _ _ (Nat.lt_succ_self _) ?_
           exact ⟨f68, r46, (shr bit47 1), (jL [.int .u64 vt65, .int .u64 vt66, .int .u64 bit47, tV, .int .u64 bit47, .int .u64 (shr bit47 1), .tuple #[.int .u64 vt65, .int .u64 vt66], .int .u64 r46, .int .u64 bit47, .int .u64 (Go.bits .or .u64 r46 bit47), .int .u64 r46, .int .u64 bit47, .int .u64 (Go.bits .or .u64 r46 bit47), .tuple #[.int .u64 vt65, .int .u64 vt66], .int .u64 vt65, .int .u64 vt66, .int .u64 vt65, .int .u64 vt18, fV, fV, .int .u64 vt65, .int .u64 vt18, fV, fV, uV, uV, uV, fV, fV, (j45 29), (j45 30), (j45 31)]), (L42.trans L69), HS71, h, kr⟩
     · have c53 : ¬ (bit47 > 0) := c53
       refine wpRwI 26 kr (decide_eq_false c53) ?_
       refine condF kr ?_
       refine wp_exit ?_
       refine hx32 _ _ ?_
       exact J85 f41 r46 (jL [.int .u64 bit47, (j45 0), (j45 1), .int .u64 bit47, fV, (j45 4), (j45 5), (j45 6), (j45 7), (j45 8), (j45 9), (j45 10), (j45 11), (j45 12), (j45 13), (j45 14), (j45 15), (j45 16), (j45 17), (j45 18), (j45 19), (j45 20), (j45 21), (j45 22), (j45 23), (j45 24), (j45 25), (j45 26), (j45 27), (j45 28), (j45 29), (j45 30), (j45 31)]) W43 _ L42 h HS44 kr

set_option maxRecDepth 100000 in
set_option maxHeartbeats 4000000 in
theorem num_size.calls (k : Nat)  (a1 : Int) {t w : World} {f : FM} {H : List Seg} (HS : St t w f (H)) (rr1 : Int) (h : num_size k a1 = some rr1) :
    Calls Tryz.prog 65 #[.int .i64 a1] w (fun e w' => ∃ (g : FM), e = .returned (Value.int .u64 rr1) ∧ FM.le f g ∧ St t w' g (H)) := by
 unfold num_size at h
 refine enter Tryz.func65 rfl (tm := #[iV a1, uV, uV, uV, uV, uV, uV, uV, uV, uV]) kr ?_
 intro B hret hnor hnp
 refine wp_seq_k fun K2 hK3 => rl ?_
 refine seqL1 kr ?_
 refine nl (hK3 _ _ ?_)
 refine wp_seq_k (fun K4 hK5 => ?_)
 refine wp_seq_k fun K6 hK7 => rl ?_
 refine seqL2 kr ?_
 refine nl (hK7 _ _ ?_)
 have hq_ := ite_some h; clear h; rcases hq_ with ⟨c9, h⟩ | ⟨c9, h⟩
 · have c9 : a1 < 0 := c9
   refine wpRwI 4 kr (decide_eq_true c9) ?_
   refine condT kr ?_
   refine wp_seq_k fun K10 hK11 => rl ?_
   refine seqL4 kr ?_
   refine nl (hK11 _ _ ?_)
   refine wp_ret ?_
   refine hret _ _ ?_
   refine ends_still (v := Value.int .u64 (u64 (0 - (u64 (a1))))) kr kr ?_
   injection h with h
   subst h
   exact ⟨f, rfl, FM.le.refl _, HS⟩
 · have c9 : ¬ (a1 < 0) := c9
   refine wpRwI 4 kr (decide_eq_false c9) ?_
   refine condF kr ?_
   refine wp_skip ?_
   refine hK5 _ _ ?_
   refine wp_seq_k fun K12 hK13 => rl ?_
   refine seqL3 kr ?_
   refine nl (hK13 _ _ ?_)
   refine wp_ret ?_
   refine hret _ _ ?_
   refine ends_still (v := Value.int .u64 (u64 (a1))) kr kr ?_
   injection h with h
   subst h
   exact ⟨f, rfl, FM.le.refl _, HS⟩

set_option maxRecDepth 100000 in
set_option maxHeartbeats 4000000 in
theorem num_Wide_Neg.calls (k : Nat)  (vw1 : S_Wide) {t w : World} {f : FM} {H : List Seg} (HS : St t w f (H)) (rr1 : S_Wide) (h : num_Wide_Neg k vw1 = some rr1) :
    Calls Tryz.prog 66 #[.agg #[.int .i64 vw1.Hi, .int .u64 vw1.Lo]] w (fun e w' => ∃ (g : FM), e = .returned (Value.agg #[.int .i64 rr1.Hi, .int .u64 rr1.Lo]) ∧ FM.le f g ∧ St t w' g (H)) := by
 unfold num_Wide_Neg at h
 refine enter Tryz.func66 rfl (tm := #[.agg #[iV vw1.Hi, .int .u64 vw1.Lo], uV, uV, uV, uV, uV, uV, uV, uV, uV, uV, uV, uV, uV, uV, uV, uV, uV, uV, uV, uV, uV, uV, uV, uV, uV, uV]) kr ?_
 intro B hret hnor hnp
 refine wp_seq_k fun K2 hK3 => rl ?_
 refine seqK rfl (does_box (cs := #[.int .i64 vw1.Hi, .int .u64 vw1.Lo]) rfl (kv (.agg #[.int .i64 vw1.Hi, .int .u64 vw1.Lo])) rfl HS ?_)
 intro b4 W5 HS6
 refine seqK rfl (does_alloc (z := Value.agg #[.int .i64 0, .int .u64 0]) (cs := #[.int .i64 0, .int .u64 0]) rfl kr rfl HS6 ?_)
 intro b8 W9 HS10
 refine nl (hK3 _ _ ?_)
 refine wp_seq_k fun K12 hK13 => rl ?_
 refine seqL1 kr ?_
 refine seqK rfl (does_run (run_load rfl Tryz.underlying88 rfl (kv (.pointer (some ⟨b4, 1, none⟩))) (HS10.u1.cell 1)) ?_)
 have hq_ := guard_some h; clear h; obtain ⟨c14, h⟩ := hq_
 have c14 : 0 ≤ (Go.bits .xor .u64 IntKind.u64.max vw1.Lo) := c14
 refine seqL1 kr ?_
 refine seqK rfl (does_run (run_add64op (x := Go.bits .xor .u64 IntKind.u64.max vw1.Lo) (y := 1) (c := 0) kr Tryz.func91 kr kr kr kr c14 (by decide) (by decide) (by decide) W9) ?_)
 refine seqL5 kr ?_
 refine nl (hK13 _ _ ?_)
 refine wp_seq_k fun K15 hK16 => rl ?_
 refine seqL1 kr ?_
 refine seqK rfl (does_run (run_load rfl Tryz.underlying2 rfl (kv (.pointer (some ⟨b4, 0, none⟩))) (HS10.u1.cell 0)) ?_)
 have hq_ := guard_some h; clear h; obtain ⟨c17, h⟩ := hq_
 have c17 : 0 ≤ (Go.bits .xor .u64 IntKind.u64.max (u64 (vw1.Hi))) := c17
 have hq_ := guard_some h; clear h; obtain ⟨c18, h⟩ := hq_
 have c18 : 0 ≤ (((Go.bits .xor .u64 IntKind.u64.max vw1.Lo) + 1 + 0) / 18446744073709551616) := c18
 have hq_ := guard_some h; clear h; obtain ⟨c19, h⟩ := hq_
 have c19 : (((Go.bits .xor .u64 IntKind.u64.max vw1.Lo) + 1 + 0) / 18446744073709551616) ≤ 1 := c19
 refine seqL3 kr ?_
 refine seqK rfl (does_run (run_add64op (x := Go.bits .xor .u64 IntKind.u64.max (u64 (vw1.Hi))) (y := 0) (c := ((Go.bits .xor .u64 IntKind.u64.max vw1.Lo) + 1 + 0) / 18446744073709551616) kr Tryz.func91 kr kr kr kr c17 (by decide) c18 c19 W9) ?_)
 refine seqL5 kr ?_
 refine nl (hK16 _ _ ?_)
 refine wp_seq_k fun K20 hK21 => rl ?_
 refine seqL4 kr ?_
 refine seqK rfl (does_storeA (vs := [.int .i64 (w64 (((Go.bits .xor .u64 IntKind.u64.max (u64 (vw1.Hi))) + 0 + (((Go.bits .xor .u64 IntKind.u64.max vw1.Lo) + 1 + 0) / 18446744073709551616)) % 18446744073709551616)), .int .u64 (((Go.bits .xor .u64 IntKind.u64.max vw1.Lo) + 1 + 0) % 18446744073709551616)]) rfl kr kr kr rfl (ones rfl) HS10 kr ?_)
 intro W22 HS23
 refine nl (hK21 _ _ ?_)
 refine wp_ret ?_
 refine hret _ _ ?_
 refine ends (v := Value.agg #[.int .i64 (w64 (((Go.bits .xor .u64 IntKind.u64.max (u64 (vw1.Hi))) + 0 + (((Go.bits .xor .u64 IntKind.u64.max vw1.Lo) + 1 + 0) / 18446744073709551616)) % 18446744073709551616)), .int .u64 (((Go.bits .xor .u64 IntKind.u64.max vw1.Lo) + 1 + 0) % 18446744073709551616)]) (results1 (q1 := .cell 2 90) kr (resN (n := 2) (cs := [.int .i64 (w64 (((Go.bits .xor .u64 IntKind.u64.max (u64 (vw1.Hi))) + 0 + (((Go.bits .xor .u64 IntKind.u64.max vw1.Lo) + 1 + 0) / 18446744073709551616)) % 18446744073709551616)), .int .u64 (((Go.bits .xor .u64 IntKind.u64.max vw1.Lo) + 1 + 0) % 18446744073709551616)]) (kv (.pointer (some ⟨b8, 0, none⟩))) Tryz.underlying90 rfl kr rfl (HS23.cells 0 2 _ rfl))) kr ?_
 have HS24 := HS23.drop
 have HS25 := HS24.drop
 injection h with h
 subst h
 exact ⟨f, rfl, FM.le.refl _, HS25⟩

set_option maxRecDepth 100000 in
set_option maxHeartbeats 4000000 in
theorem num_Product.calls (k : Nat)  (a1 : Int) (b2 : Int) {t w : World} {f : FM} {H : List Seg} (HS : St t w f (H)) (rr1 : S_Wide) (h : num_Product k a1 b2 = some rr1) :
    Calls Tryz.prog 35 #[.int .i64 a1, .int .i64 b2] w (fun e w' => ∃ (g : FM), e = .returned (Value.agg #[.int .i64 rr1.Hi, .int .u64 rr1.Lo]) ∧ FM.le f g ∧ St t w' g (H)) := by
 unfold num_Product at h
 refine enter Tryz.func35 rfl (tm := #[iV a1, iV b2, uV, uV, uV, uV, uV, uV, uV, uV, uV, uV, uV, uV, uV, uV, uV, uV, uV, uV, uV, uV, uV, uV, uV, uV, uV, uV]) kr ?_
 intro B hret hnor hnp
 refine wp_seq_k fun K3 hK4 => rl ?_
 refine seqK rfl (does_alloc (z := Value.agg #[.int .i64 0, .int .u64 0]) (cs := #[.int .i64 0, .int .u64 0]) rfl kr rfl HS ?_)
 intro b5 W6 HS7
 refine nl (hK4 _ _ ?_)
 refine wp_seq_k fun K9 hK10 => rl ?_
 have hq_ := bind_some h; clear h; obtain ⟨vt11, hc12, h⟩ := hq_
 refine seqL1 kr ?_
 refine seqK rfl (does_call (f := 65) (args := #[.int .i64 a1]) kr (num_size.calls k a1 HS7 vt11 hc12) ?_)
 rintro _ W15 ⟨f13, rfl, L14, HS16⟩
 refine ⟨_, rfl, ?_⟩
 have hq_ := bind_some h; clear h; obtain ⟨vt17, hc18, h⟩ := hq_
 refine seqL1 kr ?_
 refine seqK rfl (does_call (f := 65) (args := #[.int .i64 b2]) kr (num_size.calls k b2 HS16 vt17 hc18) ?_)
 rintro _ W21 ⟨f19, rfl, L20, HS22⟩
 refine ⟨_, rfl, ?_⟩
 have hq_ := bind_some h; clear h; obtain ⟨⟨vt23, vt24⟩, hc25, h⟩ := hq_
 refine seqK rfl (does_call (f := 64) (args := #[.int .u64 vt11, .int .u64 vt17]) kr (bits_Mul64.calls k vt11 vt17 HS22 vt23 vt24 hc25) ?_)
 rintro _ W28 ⟨f26, rfl, L27, HS29⟩
 refine ⟨_, rfl, ?_⟩
 refine seqL5 kr ?_
 refine nl (hK10 _ _ ?_)
 refine wp_seq_k fun K30 hK31 => rl ?_
 refine seqL4 kr ?_
 refine seqK rfl (does_alloc (z := Value.agg #[.int .i64 0, .int .u64 0]) (cs := #[.int .i64 0, .int .u64 0]) rfl kr rfl HS29 ?_)
 intro b32 W33 HS34
 refine seqK rfl (does_storeA (vs := [.int .i64 (w64 (vt23)), .int .u64 vt24]) rfl kr kr kr rfl (ones rfl) HS34 kr ?_)
 intro W36 HS37
 refine nl (hK31 _ _ ?_)
 refine wp_seq_k (fun K38 hK39 => ?_)
 refine wp_seq_k fun K40 hK41 => rl ?_
 refine seqL5 kr ?_
 refine nl (hK41 _ _ ?_)
 have hq_ := ite_some h; clear h; rcases hq_ with ⟨c43, h⟩ | ⟨c43, h⟩
 · have c43 : ((decide (a1 < 0)) != (decide (b2 < 0))) = true := c43
   refine wpRwI 24 kr c43 ?_
   refine condT kr ?_
   refine wp_seq_k fun K44 hK45 => rl ?_
   refine seqK rfl (does_run (run_loadN (n := 2) rfl Tryz.underlying90 rfl kr (kv (.pointer (some ⟨b32, 0, none⟩))) (cs := [.int .i64 (w64 (vt23)), .int .u64 vt24]) rfl (HS37.cells 0 2 _ rfl)) ?_)
   have hq_ := bind_some h; clear h; obtain ⟨vt46, hc47, h⟩ := hq_
   refine seqK rfl (does_call (f := 66) (args := #[.agg #[.int .i64 (w64 (vt23)), .int .u64 vt24]]) kr (num_Wide_Neg.calls k (⟨w64 (vt23), vt24⟩ : S_Wide) HS37 vt46 hc47) ?_)
   rintro _ W50 ⟨f48, rfl, L49, HS51⟩
   refine ⟨_, rfl, ?_⟩
   have HS52 := HS51.u1
   refine seqK rfl (does_storeA (vs := [.int .i64 vt46.Hi, .int .u64 vt46.Lo]) rfl kr kr kr rfl (ones rfl) HS52 kr ?_)
   intro W53 HS54
   refine nl (hK45 _ _ ?_)
   refine wp_ret ?_
   refine hret _ _ ?_
   refine ends (v := Value.agg #[.int .i64 vt46.Hi, .int .u64 vt46.Lo]) (results1 (q1 := .cell 4 90) kr (resN (n := 2) (cs := [.int .i64 vt46.Hi, .int .u64 vt46.Lo]) (kv (.pointer (some ⟨b5, 0, none⟩))) Tryz.underlying90 rfl kr rfl (HS54.cells 0 2 _ rfl))) kr ?_
   have HS60 := HS54.drop
   have HS61 := HS60.drop
   injection h with h
   subst h
   exact ⟨f48, rfl, (L14.trans (L20.trans (L27.trans L49))), HS61⟩
 · have c43 : ¬ (((decide (a1 < 0)) != (decide (b2 < 0))) = true) := c43
   refine wpRwI 24 kr (Bool.eq_false_iff.mpr c43) ?_
   refine condF kr ?_
   refine wp_skip ?_
   refine hK39 _ _ ?_
   refine wp_seq_k fun K55 hK56 => rl ?_
   refine seqK rfl (does_run (run_loadN (n := 2) rfl Tryz.underlying90 rfl kr (kv (.pointer (some ⟨b32, 0, none⟩))) (cs := [.int .i64 (w64 (vt23)), .int .u64 vt24]) rfl (HS37.cells 0 2 _ rfl)) ?_)
   have HS57 := HS37.u1
   refine seqK rfl (does_storeA (vs := [.int .i64 (w64 (vt23)), .int .u64 vt24]) rfl kr kr kr rfl (ones rfl) HS57 kr ?_)
   intro W58 HS59
   refine nl (hK56 _ _ ?_)
   refine wp_ret ?_
   refine hret _ _ ?_
   refine ends (v := Value.agg #[.int .i64 (w64 (vt23)), .int .u64 vt24]) (results1 (q1 := .cell 4 90) kr (resN (n := 2) (cs := [.int .i64 (w64 (vt23)), .int .u64 vt24]) (kv (.pointer (some ⟨b5, 0, none⟩))) Tryz.underlying90 rfl kr rfl (HS59.cells 0 2 _ rfl))) kr ?_
   have HS62 := HS59.drop
   have HS63 := HS62.drop
   injection h with h
   subst h
   exact ⟨f26, rfl, (L14.trans (L20.trans L27)), HS63⟩

set_option maxRecDepth 100000 in
set_option maxHeartbeats 4000000 in
theorem cmp_isNaN_int64.calls (k : Nat)  (x1 : Int) {t w : World} {f : FM} {H : List Seg} (HS : St t w f (H)) (rr1 : Bool) (h : cmp_isNaN_int64 k x1 = some rr1) :
    Calls Tryz.prog 92 #[.int .i64 x1] w (fun e w' => ∃ (g : FM), e = .returned (Value.bool rr1) ∧ FM.le f g ∧ St t w' g (H)) := by
 unfold cmp_isNaN_int64 at h
 refine enter Tryz.func92 rfl (tm := #[iV x1, uV, uV, uV, uV, uV]) kr ?_
 intro B hret hnor hnp
 refine wp_seq_k fun K2 hK3 => rl ?_
 refine seqL1 kr ?_
 refine nl (hK3 _ _ ?_)
 refine wp_seq_k fun K4 hK5 => rl ?_
 refine seqL4 kr ?_
 refine nl (hK5 _ _ ?_)
 refine wp_ret ?_
 refine hret _ _ ?_
 refine ends_still (v := Value.bool (x1 != x1)) kr kr ?_
 injection h with h
 subst h
 exact ⟨f, rfl, FM.le.refl _, HS⟩

set_option maxRecDepth 100000 in
set_option maxHeartbeats 4000000 in
theorem cmp_Compare_int64.calls (k : Nat)  (x1 : Int) (y2 : Int) {t w : World} {f : FM} {H : List Seg} (HS : St t w f (H)) (rr1 : Int) (h : cmp_Compare_int64 k x1 y2 = some rr1) :
    Calls Tryz.prog 67 #[.int .i64 x1, .int .i64 y2] w (fun e w' => ∃ (g : FM), e = .returned (Value.int .i64 rr1) ∧ FM.le f g ∧ St t w' g (H)) := by
 unfold cmp_Compare_int64 at h
 refine enter Tryz.func67 rfl (tm := #[iV x1, iV y2, uV, uV, uV, uV, uV, uV, uV, uV, uV, uV, uV, uV, uV, uV, uV, uV, uV, uV]) kr ?_
 intro B hret hnor hnp
 refine wp_seq_k fun K3 hK4 => rl ?_
 refine seqL1 kr ?_
 refine nl (hK4 _ _ ?_)
 refine wp_seq_k fun K5 hK6 => rl ?_
 have hq_ := bind_some h; clear h; obtain ⟨vt7, hc8, h⟩ := hq_
 refine seqL1 kr ?_
 refine seqK rfl (does_call (f := 92) (args := #[.int .i64 x1]) kr (cmp_isNaN_int64.calls k x1 HS vt7 hc8) ?_)
 rintro _ W11 ⟨f9, rfl, L10, HS12⟩
 refine ⟨_, rfl, ?_⟩
 refine seqL1 kr ?_
 refine nl (hK6 _ _ ?_)
 refine wp_seq_k fun K13 hK14 => rl ?_
 have hq_ := bind_some h; clear h; obtain ⟨vt15, hc16, h⟩ := hq_
 refine seqL1 kr ?_
 refine seqK rfl (does_call (f := 92) (args := #[.int .i64 y2]) kr (cmp_isNaN_int64.calls k y2 HS12 vt15 hc16) ?_)
 rintro _ W19 ⟨f17, rfl, L18, HS20⟩
 refine ⟨_, rfl, ?_⟩
 refine seqL1 kr ?_
 refine nl (hK14 _ _ ?_)
 refine wp_seq_k (fun K21 hK22 => ?_)
 refine wp_seq_k fun K23 hK24 => rl ?_
 refine seqL1 kr ?_
 refine nl (hK24 _ _ ?_)
 have hq_ := ite_some h; clear h; rcases hq_ with ⟨c26, h⟩ | ⟨c26, h⟩
 · have c26 : vt7 = true := c26
   refine wpRwI 5 kr c26 ?_
   refine wpRwI 8 kr c26 ?_
   refine wpRwI 11 kr c26 ?_
   refine condT kr ?_
   refine wp_seq_k (fun K27 hK28 => ?_)
   refine wp_seq_k fun K29 hK30 => rl ?_
   refine seqL1 kr ?_
   refine nl (hK30 _ _ ?_)
   have hq_ := ite_some h; clear h; rcases hq_ with ⟨c32, h⟩ | ⟨c32, h⟩
   · have c32 : vt15 = true := c32
     refine wpRwI 6 kr c32 ?_
     refine wpRwI 10 kr c32 ?_
     refine wpRwI 12 kr c32 ?_
     refine condT kr ?_
     refine wp_seq_k fun K33 hK34 => rl ?_
     refine seqL1 kr ?_
     refine nl (hK34 _ _ ?_)
     refine wp_ret ?_
     refine hret _ _ ?_
     refine ends_still (v := Value.int .i64 0) kr kr ?_
     injection h with h
     subst h
     exact ⟨f17, rfl, (L10.trans L18), HS20⟩
   · have c32 : ¬ (vt15 = true) := c32
     refine wpRwI 6 kr (Bool.eq_false_iff.mpr c32) ?_
     refine wpRwI 10 kr (Bool.eq_false_iff.mpr c32) ?_
     refine wpRwI 12 kr (Bool.eq_false_iff.mpr c32) ?_
     refine condF kr ?_
     refine wp_skip ?_
     refine hK28 _ _ ?_
     refine wp_seq_k fun K35 hK36 => rl ?_
     refine seqL1 kr ?_
     refine nl (hK36 _ _ ?_)
     refine wp_ret ?_
     refine hret _ _ ?_
     refine ends_still (v := Value.int .i64 (-1)) kr kr ?_
     injection h with h
     subst h
     exact ⟨f17, rfl, (L10.trans L18), HS20⟩
 · have c26 : ¬ (vt7 = true) := c26
   refine wpRwI 5 kr (Bool.eq_false_iff.mpr c26) ?_
   refine wpRwI 8 kr (Bool.eq_false_iff.mpr c26) ?_
   refine wpRwI 11 kr (Bool.eq_false_iff.mpr c26) ?_
   refine condF kr ?_
   refine wp_skip ?_
   refine hK22 _ _ ?_
   refine wp_seq_k (fun K37 hK38 => ?_)
   refine wp_seq_k fun K39 hK40 => rl ?_
   refine seqL1 kr ?_
   refine nl (hK40 _ _ ?_)
   have hq_ := ite_some h; clear h; rcases hq_ with ⟨c42, h⟩ | ⟨c42, h⟩
   · have c42 : vt15 = true := c42
     refine wpRwI 6 kr c42 ?_
     refine wpRwI 10 kr c42 ?_
     refine wpRwI 13 kr c42 ?_
     refine condT kr ?_
     refine wp_seq_k fun K43 hK44 => rl ?_
     refine seqL1 kr ?_
     refine nl (hK44 _ _ ?_)
     refine wp_ret ?_
     refine hret _ _ ?_
     refine ends_still (v := Value.int .i64 1) kr kr ?_
     injection h with h
     subst h
     exact ⟨f17, rfl, (L10.trans L18), HS20⟩
   · have c42 : ¬ (vt15 = true) := c42
     refine wpRwI 6 kr (Bool.eq_false_iff.mpr c42) ?_
     refine wpRwI 10 kr (Bool.eq_false_iff.mpr c42) ?_
     refine wpRwI 13 kr (Bool.eq_false_iff.mpr c42) ?_
     refine condF kr ?_
     refine wp_skip ?_
     refine hK38 _ _ ?_
     refine wp_seq_k (fun K45 hK46 => ?_)
     refine wp_seq_k fun K47 hK48 => rl ?_
     refine seqL3 kr ?_
     refine nl (hK48 _ _ ?_)
     have hq_ := ite_some h; clear h; rcases hq_ with ⟨c50, h⟩ | ⟨c50, h⟩
     · have c50 : x1 < y2 := c50
       refine wpRwI 16 kr (decide_eq_true c50) ?_
       refine condT kr ?_
       refine wp_seq_k fun K51 hK52 => rl ?_
       refine seqL1 kr ?_
       refine nl (hK52 _ _ ?_)
       refine wp_ret ?_
       refine hret _ _ ?_
       refine ends_still (v := Value.int .i64 (-1)) kr kr ?_
       injection h with h
       subst h
       exact ⟨f17, rfl, (L10.trans L18), HS20⟩
     · have c50 : ¬ (x1 < y2) := c50
       refine wpRwI 16 kr (decide_eq_false c50) ?_
       refine condF kr ?_
       refine wp_skip ?_
       refine hK46 _ _ ?_
       refine wp_seq_k (fun K53 hK54 => ?_)
       refine wp_seq_k fun K55 hK56 => rl ?_
       refine seqL3 kr ?_
       refine nl (hK56 _ _ ?_)
       have hq_ := ite_some h; clear h; rcases hq_ with ⟨c58, h⟩ | ⟨c58, h⟩
       · have c58 : x1 > y2 := c58
         refine wpRwI 19 kr (decide_eq_true c58) ?_
         refine condT kr ?_
         refine wp_seq_k fun K59 hK60 => rl ?_
         refine seqL1 kr ?_
         refine nl (hK60 _ _ ?_)
         refine wp_ret ?_
         refine hret _ _ ?_
         refine ends_still (v := Value.int .i64 1) kr kr ?_
         injection h with h
         subst h
         exact ⟨f17, rfl, (L10.trans L18), HS20⟩
       · have c58 : ¬ (x1 > y2) := c58
         refine wpRwI 19 kr (decide_eq_false c58) ?_
         refine condF kr ?_
         refine wp_skip ?_
         refine hK54 _ _ ?_
         refine wp_seq_k fun K61 hK62 => rl ?_
         refine seqL1 kr ?_
         refine nl (hK62 _ _ ?_)
         refine wp_ret ?_
         refine hret _ _ ?_
         refine ends_still (v := Value.int .i64 0) kr kr ?_
         injection h with h
         subst h
         exact ⟨f17, rfl, (L10.trans L18), HS20⟩

set_option maxRecDepth 100000 in
set_option maxHeartbeats 4000000 in
theorem cmp_isNaN_uint64.calls (k : Nat)  (x1 : Int) {t w : World} {f : FM} {H : List Seg} (HS : St t w f (H)) (rr1 : Bool) (h : cmp_isNaN_uint64 k x1 = some rr1) :
    Calls Tryz.prog 93 #[.int .u64 x1] w (fun e w' => ∃ (g : FM), e = .returned (Value.bool rr1) ∧ FM.le f g ∧ St t w' g (H)) := by
 unfold cmp_isNaN_uint64 at h
 refine enter Tryz.func93 rfl (tm := #[.int .u64 x1, uV, uV, uV, uV, uV]) kr ?_
 intro B hret hnor hnp
 refine wp_seq_k fun K2 hK3 => rl ?_
 refine seqL1 kr ?_
 refine nl (hK3 _ _ ?_)
 refine wp_seq_k fun K4 hK5 => rl ?_
 refine seqL4 kr ?_
 refine nl (hK5 _ _ ?_)
 refine wp_ret ?_
 refine hret _ _ ?_
 refine ends_still (v := Value.bool (x1 != x1)) kr kr ?_
 injection h with h
 subst h
 exact ⟨f, rfl, FM.le.refl _, HS⟩

set_option maxRecDepth 100000 in
set_option maxHeartbeats 4000000 in
theorem cmp_Compare_uint64.calls (k : Nat)  (x1 : Int) (y2 : Int) {t w : World} {f : FM} {H : List Seg} (HS : St t w f (H)) (rr1 : Int) (h : cmp_Compare_uint64 k x1 y2 = some rr1) :
    Calls Tryz.prog 68 #[.int .u64 x1, .int .u64 y2] w (fun e w' => ∃ (g : FM), e = .returned (Value.int .i64 rr1) ∧ FM.le f g ∧ St t w' g (H)) := by
 unfold cmp_Compare_uint64 at h
 refine enter Tryz.func68 rfl (tm := #[.int .u64 x1, .int .u64 y2, uV, uV, uV, uV, uV, uV, uV, uV, uV, uV, uV, uV, uV, uV, uV, uV, uV, uV]) kr ?_
 intro B hret hnor hnp
 refine wp_seq_k fun K3 hK4 => rl ?_
 refine seqL1 kr ?_
 refine nl (hK4 _ _ ?_)
 refine wp_seq_k fun K5 hK6 => rl ?_
 have hq_ := bind_some h; clear h; obtain ⟨vt7, hc8, h⟩ := hq_
 refine seqL1 kr ?_
 refine seqK rfl (does_call (f := 93) (args := #[.int .u64 x1]) kr (cmp_isNaN_uint64.calls k x1 HS vt7 hc8) ?_)
 rintro _ W11 ⟨f9, rfl, L10, HS12⟩
 refine ⟨_, rfl, ?_⟩
 refine seqL1 kr ?_
 refine nl (hK6 _ _ ?_)
 refine wp_seq_k fun K13 hK14 => rl ?_
 have hq_ := bind_some h; clear h; obtain ⟨vt15, hc16, h⟩ := hq_
 refine seqL1 kr ?_
 refine seqK rfl (does_call (f := 93) (args := #[.int .u64 y2]) kr (cmp_isNaN_uint64.calls k y2 HS12 vt15 hc16) ?_)
 rintro _ W19 ⟨f17, rfl, L18, HS20⟩
 refine ⟨_, rfl, ?_⟩
 refine seqL1 kr ?_
 refine nl (hK14 _ _ ?_)
 refine wp_seq_k (fun K21 hK22 => ?_)
 refine wp_seq_k fun K23 hK24 => rl ?_
 refine seqL1 kr ?_
 refine nl (hK24 _ _ ?_)
 have hq_ := ite_some h; clear h; rcases hq_ with ⟨c26, h⟩ | ⟨c26, h⟩
 · have c26 : vt7 = true := c26
   refine wpRwI 5 kr c26 ?_
   refine wpRwI 8 kr c26 ?_
   refine wpRwI 11 kr c26 ?_
   refine condT kr ?_
   refine wp_seq_k (fun K27 hK28 => ?_)
   refine wp_seq_k fun K29 hK30 => rl ?_
   refine seqL1 kr ?_
   refine nl (hK30 _ _ ?_)
   have hq_ := ite_some h; clear h; rcases hq_ with ⟨c32, h⟩ | ⟨c32, h⟩
   · have c32 : vt15 = true := c32
     refine wpRwI 6 kr c32 ?_
     refine wpRwI 10 kr c32 ?_
     refine wpRwI 12 kr c32 ?_
     refine condT kr ?_
     refine wp_seq_k fun K33 hK34 => rl ?_
     refine seqL1 kr ?_
     refine nl (hK34 _ _ ?_)
     refine wp_ret ?_
     refine hret _ _ ?_
     refine ends_still (v := Value.int .i64 0) kr kr ?_
     injection h with h
     subst h
     exact ⟨f17, rfl, (L10.trans L18), HS20⟩
   · have c32 : ¬ (vt15 = true) := c32
     refine wpRwI 6 kr (Bool.eq_false_iff.mpr c32) ?_
     refine wpRwI 10 kr (Bool.eq_false_iff.mpr c32) ?_
     refine wpRwI 12 kr (Bool.eq_false_iff.mpr c32) ?_
     refine condF kr ?_
     refine wp_skip ?_
     refine hK28 _ _ ?_
     refine wp_seq_k fun K35 hK36 => rl ?_
     refine seqL1 kr ?_
     refine nl (hK36 _ _ ?_)
     refine wp_ret ?_
     refine hret _ _ ?_
     refine ends_still (v := Value.int .i64 (-1)) kr kr ?_
     injection h with h
     subst h
     exact ⟨f17, rfl, (L10.trans L18), HS20⟩
 · have c26 : ¬ (vt7 = true) := c26
   refine wpRwI 5 kr (Bool.eq_false_iff.mpr c26) ?_
   refine wpRwI 8 kr (Bool.eq_false_iff.mpr c26) ?_
   refine wpRwI 11 kr (Bool.eq_false_iff.mpr c26) ?_
   refine condF kr ?_
   refine wp_skip ?_
   refine hK22 _ _ ?_
   refine wp_seq_k (fun K37 hK38 => ?_)
   refine wp_seq_k fun K39 hK40 => rl ?_
   refine seqL1 kr ?_
   refine nl (hK40 _ _ ?_)
   have hq_ := ite_some h; clear h; rcases hq_ with ⟨c42, h⟩ | ⟨c42, h⟩
   · have c42 : vt15 = true := c42
     refine wpRwI 6 kr c42 ?_
     refine wpRwI 10 kr c42 ?_
     refine wpRwI 13 kr c42 ?_
     refine condT kr ?_
     refine wp_seq_k fun K43 hK44 => rl ?_
     refine seqL1 kr ?_
     refine nl (hK44 _ _ ?_)
     refine wp_ret ?_
     refine hret _ _ ?_
     refine ends_still (v := Value.int .i64 1) kr kr ?_
     injection h with h
     subst h
     exact ⟨f17, rfl, (L10.trans L18), HS20⟩
   · have c42 : ¬ (vt15 = true) := c42
     refine wpRwI 6 kr (Bool.eq_false_iff.mpr c42) ?_
     refine wpRwI 10 kr (Bool.eq_false_iff.mpr c42) ?_
     refine wpRwI 13 kr (Bool.eq_false_iff.mpr c42) ?_
     refine condF kr ?_
     refine wp_skip ?_
     refine hK38 _ _ ?_
     refine wp_seq_k (fun K45 hK46 => ?_)
     refine wp_seq_k fun K47 hK48 => rl ?_
     refine seqL3 kr ?_
     refine nl (hK48 _ _ ?_)
     have hq_ := ite_some h; clear h; rcases hq_ with ⟨c50, h⟩ | ⟨c50, h⟩
     · have c50 : x1 < y2 := c50
       refine wpRwI 16 kr (decide_eq_true c50) ?_
       refine condT kr ?_
       refine wp_seq_k fun K51 hK52 => rl ?_
       refine seqL1 kr ?_
       refine nl (hK52 _ _ ?_)
       refine wp_ret ?_
       refine hret _ _ ?_
       refine ends_still (v := Value.int .i64 (-1)) kr kr ?_
       injection h with h
       subst h
       exact ⟨f17, rfl, (L10.trans L18), HS20⟩
     · have c50 : ¬ (x1 < y2) := c50
       refine wpRwI 16 kr (decide_eq_false c50) ?_
       refine condF kr ?_
       refine wp_skip ?_
       refine hK46 _ _ ?_
       refine wp_seq_k (fun K53 hK54 => ?_)
       refine wp_seq_k fun K55 hK56 => rl ?_
       refine seqL3 kr ?_
       refine nl (hK56 _ _ ?_)
       have hq_ := ite_some h; clear h; rcases hq_ with ⟨c58, h⟩ | ⟨c58, h⟩
       · have c58 : x1 > y2 := c58
         refine wpRwI 19 kr (decide_eq_true c58) ?_
         refine condT kr ?_
         refine wp_seq_k fun K59 hK60 => rl ?_
         refine seqL1 kr ?_
         refine nl (hK60 _ _ ?_)
         refine wp_ret ?_
         refine hret _ _ ?_
         refine ends_still (v := Value.int .i64 1) kr kr ?_
         injection h with h
         subst h
         exact ⟨f17, rfl, (L10.trans L18), HS20⟩
       · have c58 : ¬ (x1 > y2) := c58
         refine wpRwI 19 kr (decide_eq_false c58) ?_
         refine condF kr ?_
         refine wp_skip ?_
         refine hK54 _ _ ?_
         refine wp_seq_k fun K61 hK62 => rl ?_
         refine seqL1 kr ?_
         refine nl (hK62 _ _ ?_)
         refine wp_ret ?_
         refine hret _ _ ?_
         refine ends_still (v := Value.int .i64 0) kr kr ?_
         injection h with h
         subst h
         exact ⟨f17, rfl, (L10.trans L18), HS20⟩

set_option maxRecDepth 100000 in
set_option maxHeartbeats 4000000 in
theorem cmp_Or_int.calls (k : Nat) (A2 : Option Addr) (c3 : Nat) (vals1 : List Int) {t w : World} {f : FM} {H : List Seg} (HS : St t w f (H)) (HR4 : SlR (tInt .i64) f A2 c3 vals1) (rr1 : Int) (h : cmp_Or_int k vals1 = some rr1) :
    Calls Tryz.prog 62 #[.slice A2 vals1.length c3] w (fun e w' => ∃ (g : FM), e = .returned (Value.int .i64 rr1) ∧ FM.le f g ∧ St t w' g (H)) := by
 unfold cmp_Or_int at h
 refine enter Tryz.func62 rfl (tm := #[.slice A2 vals1.length c3, uV, uV, uV, uV, uV, uV, uV, uV, uV, uV, uV, uV, uV, uV, uV, uV, uV]) kr ?_
 intro B hret hnor hnp
 refine wp_seq_k fun K5 hK6 => rl ?_
 refine seqL1 kr ?_
 refine nl (hK6 _ _ ?_)
 refine wp_seq_k fun K7 hK8 => rl ?_
 refine seqL1 kr ?_
 refine nl (hK8 _ _ ?_)
 refine wp_seq_k (fun K9 hK10 => ?_)
 refine wp_seq_k fun K11 hK12 => rl ?_
 refine seqL3 kr ?_
 refine nl (hK12 _ _ ?_)
 refine blockK (fun B13 hx14 hn15 hr16 ho17 hp18 => ?_)
 have hq_ := bind_some h; clear h; obtain ⟨o19, hv64, h⟩ := hq_
 have JR66 : ∀ z_, some (Sum.inl z_) = some o19 → some z_ = some rr1 := by
  intro z_ e_; injection e_ with e_; subst e_; exact h
 have J65 : ∀ (f59 : FM) (j63 : Nat → Value) (W61 : World) (a_ : Act), FM.le f f59 → some (Sum.inr ()) = some o19 → St t W61 f59 (H) → a_ = ⟨#[.slice A2 vals1.length c3, uV, (j63 0), iV 0, uV, (j63 1), .slice A2 vals1.length c3, iV (vals1.length : Int), (j63 2), (j63 3), (j63 4), (j63 5), (j63 6), (j63 7), (j63 8), (j63 9), (j63 10), uV], []⟩ → K9 a_ W61 := by
  intro f59 j63 W61 a_ L60 hj67 HS62  hfr_; subst hfr_
  injection hj67 with hj67; subst hj67; try dsimp only at h
  simp only [Sum.elim_inr] at h
  refine hK10 _ _ ?_
  refine wp_seq_k fun K68 hK69 => rl ?_
  refine seqL2 kr ?_
  refine nl (hK69 _ _ ?_)
  refine wp_ret ?_
  refine hret _ _ ?_
  refine ends_still (v := Value.int .i64 0) kr kr ?_
  injection h with h
  subst h
  exact ⟨f59, rfl, L60, HS62⟩
 clear h; have h := hv64; clear hv64
 refine loopK (fun n_ a_ w_ => ∃ (f23 : FM) (x28 : Int) (j27 : Nat → Value), FM.le f f23 ∧ St t w_ f23 (H) ∧ cmp_Or_int.l0 k vals1 n_ x28 = some o19 ∧ a_ = ⟨#[.slice A2 vals1.length c3, uV, (j27 0), iV 0, uV, (j27 1), .slice A2 vals1.length c3, iV (vals1.length : Int), iV x28, (j27 2), (j27 3), (j27 4), (j27 5), (j27 6), (j27 7), (j27 8), (j27 9), uV], []⟩) k ⟨f, 0, (jL [iV 0]), fL, HS, h, kr⟩ ?_
 clear h
 rintro n22 _ W25 ⟨f23, x28, j27, L24, HS26, h, rfl⟩ K20 hK21
 obtain _ | n22 := n22
 · exact nomatch h
 simp only [cmp_Or_int.l0] at h
 refine wp_seq_k fun K29 hK30 => rl ?_
 refine seqL1 kr ?_
 refine nl (hK30 _ _ ?_)
 refine wp_seq_k (fun K31 hK32 => ?_)
 have hq_ := ite_some h; clear h; rcases hq_ with ⟨c34, h⟩ | ⟨c34, h⟩
 · have c34 : x28 < (vals1.length : Int) := c34
   refine wpRwI 9 kr (decide_eq_true c34) ?_
   refine condT kr ?_
   refine wp_skip ?_
   refine hK32 _ _ ?_
   refine wp_seq_k (fun K35 hK36 => ?_)
   refine blockK (fun B37 hx38 hn39 hr40 ho41 hp42 => ?_)
   refine wp_seq_k fun K44 hK45 => rl ?_
   have hq_ := guard_some h; clear h; obtain ⟨c46, h⟩ := hq_
   have c46 : 0 ≤ x28 := c46
   obtain ⟨b50, of51, cs47, hA52, hr48, hc49⟩ := (HR4.mono L24).at (i := x28) c46 c34
   obtain rfl := hr48
   refine seqK rfl (does_run (run_indexE hA52 (sz := 1) rfl Tryz.underlying22 kr (kv (.slice A2 vals1.length c3)) (kv (.int .i64 x28)) c46 c34 W25) ?_)
   refine seqK rfl (does_run (run_load rfl Tryz.underlying3 rfl (kv (.pointer (some ⟨b50, of51 + (x28 : Int).toNat * 1, none⟩))) ((hc49 fL HS26) 0 (by decide))) ?_)
   refine seqL1 kr ?_
   refine nl (hK45 _ _ ?_)
   refine wp_seq_k fun K53 hK54 => rl ?_
   refine seqL3 kr ?_
   refine nl (hK54 _ _ ?_)
   have hq_ := ite_some h; clear h; rcases hq_ with ⟨c56, h⟩ | ⟨c56, h⟩
   · have c56 : (rd vals1 x28) ≠ 0 := c56
     refine wpRwI 14 kr (bne_iff_ne.mpr c56) ?_
     refine condT kr ?_
     refine wp_seq_k fun K57 hK58 => rl ?_
     refine seqL2 kr ?_
     refine nl (hK58 _ _ ?_)
     refine wp_ret ?_
     refine hr40 _ _ ?_
     refine hr16 _ _ ?_
     refine hret _ _ ?_
     refine ends_still (v := Value.int .i64 (rd vals1 x28)) kr kr ?_
     replace h := JR66 _ h
     injection h with h
     subst h
     exact ⟨f23, rfl, L24, HS26⟩
   · have c56 : ¬ ((rd vals1 x28) ≠ 0) := c56
     refine wpRwI 14 (x := ((rd vals1 x28) != 0)) (v := false) kr (bne_eq_false_iff_eq.mpr (Decidable.of_not_not c56)) ?_
     refine condF kr ?_
     refine wp_skip ?_
     refine hn39 _ _ ?_
     refine hK36 _ _ ?_
     refine rl ?_
     refine seqL2 kr ?_
     refine nl ?_
     refine hK21 n22 _ _ (Nat.lt_succ_self _) ?_
     exact ⟨f23, (w64 (x28 + 1)), (jL [(j27 0), iV (rd vals1 x28), tV, .pointer (some ⟨b50, of51 + (x28 : Int).toNat * 1, none⟩), iV (rd vals1 x28), iV (rd vals1 x28), iV 0, fV, (j27 8), iV (w64 (x28 + 1))]), L24, HS26, h, kr⟩
 · have c34 : ¬ (x28 < (vals1.length : Int)) := c34
   refine wpRwI 9 kr (decide_eq_false c34) ?_
   refine condF kr ?_
   refine wp_exit ?_
   refine hx14 _ _ ?_
   exact J65 f23 (jL [(j27 0), (j27 1), iV x28, fV, (j27 3), (j27 4), (j27 5), (j27 6), (j27 7), (j27 8), (j27 9)]) W25 _ L24 h HS26 kr

set_option maxRecDepth 100000 in
set_option maxHeartbeats 4000000 in
theorem num_Wide_Cmp.calls (k : Nat)  (vw1 : S_Wide) (v2 : S_Wide) {t w : World} {f : FM} {H : List Seg} (HS : St t w f (H)) (rr1 : Int) (h : num_Wide_Cmp k vw1 v2 = some rr1) :
    Calls Tryz.prog 36 #[.agg #[.int .i64 vw1.Hi, .int .u64 vw1.Lo], .agg #[.int .i64 v2.Hi, .int .u64 v2.Lo]] w (fun e w' => ∃ (g : FM), e = .returned (Value.int .i64 rr1) ∧ FM.le f g ∧ St t w' g (H)) := by
 unfold num_Wide_Cmp at h
 refine enter Tryz.func36 rfl (tm := #[.agg #[iV vw1.Hi, .int .u64 vw1.Lo], .agg #[iV v2.Hi, .int .u64 v2.Lo], uV, uV, uV, uV, uV, uV, uV, uV, uV, uV, uV, uV, uV, uV, uV]) kr ?_
 intro B hret hnor hnp
 refine wp_seq_k fun K3 hK4 => rl ?_
 refine seqK rfl (does_box (cs := #[.int .i64 vw1.Hi, .int .u64 vw1.Lo]) rfl (kv (.agg #[.int .i64 vw1.Hi, .int .u64 vw1.Lo])) rfl HS ?_)
 intro b5 W6 HS7
 refine seqK rfl (does_box (cs := #[.int .i64 v2.Hi, .int .u64 v2.Lo]) rfl (kv (.agg #[.int .i64 v2.Hi, .int .u64 v2.Lo])) rfl HS7 ?_)
 intro b9 W10 HS11
 refine seqL1 kr ?_
 refine nl (hK4 _ _ ?_)
 refine wp_seq_k (fun K13 hK14 => ?_)
 refine heldG (S := Sg t f ([(b9, .cells #[.int .i64 v2.Hi, .int .u64 v2.Lo] 90 (0, 0))] :: [(b5, .cells #[.int .i64 vw1.Hi, .int .u64 vw1.Lo] 90 (0, 0))] :: H) []) (n := 13) kr rfl HS11 ?_
 intro W15 HS16
 refine takeGL [0] (n := 13) (fuel := 12) #[true, false, false, false, false, false, false, false, false, false, false, false, false] rfl kr kr kr hnp (Sg.g0 (Sx.of [] fL HS16)) ?_
 refine takeGQ 1 [] rfl kr kr kr kr kr kr hnp (Sg.g0 (Sx.of [] fL HS16)) (fun w_ hw_ => by obtain ⟨g_, hl_, hS_⟩ := hw_.st; exact run_load rfl Tryz.underlying2 rfl (kv (.pointer (some ⟨b5, 0, none⟩))) (hS_.u1.cell 0)) ?_
 refine takeGL [2] (n := 11) (fuel := 10) #[true, true, true, false, false, false, false, false, false, false, false, false, false] rfl kr kr kr hnp (Sg.g0 (Sx.of [] fL HS16)) ?_
 refine takeGQ 3 [] rfl kr kr kr kr kr kr hnp (Sg.g0 (Sx.of [] fL HS16)) (fun w_ hw_ => by obtain ⟨g_, hl_, hS_⟩ := hw_.st; exact run_load rfl Tryz.underlying2 rfl (kv (.pointer (some ⟨b9, 0, none⟩))) (hS_.cell 0)) ?_
 refine takeGL [5] (n := 9) (fuel := 8) #[true, true, true, true, false, true, false, false, false, false, false, false, false] rfl kr kr kr hnp (Sg.g0 (Sx.of [] fL HS16)) ?_
 refine takeGQ 6 [] rfl kr kr kr kr kr kr hnp (Sg.g0 (Sx.of [] fL HS16)) (fun w_ hw_ => by obtain ⟨g_, hl_, hS_⟩ := hw_.st; exact run_load rfl Tryz.underlying88 rfl (kv (.pointer (some ⟨b5, 1, none⟩))) (hS_.u1.cell 1)) ?_
 refine takeGL [7] (n := 7) (fuel := 6) #[true, true, true, true, false, true, true, true, false, false, false, false, false] rfl kr kr kr hnp (Sg.g0 (Sx.of [] fL HS16)) ?_
 refine takeGQ 8 [] rfl kr kr kr kr kr kr hnp (Sg.g0 (Sx.of [] fL HS16)) (fun w_ hw_ => by obtain ⟨g_, hl_, hS_⟩ := hw_.st; exact run_load rfl Tryz.underlying88 rfl (kv (.pointer (some ⟨b9, 1, none⟩))) (hS_.cell 1)) ?_
 have hq_ := bind_some h; clear h; obtain ⟨vt17, hc18, h⟩ := hq_
 refine takeGE 4 kr rfl kr (does_call (f := 67) (args := #[.int .i64 vw1.Hi, .int .i64 v2.Hi]) kr (cmp_Compare_int64.calls k vw1.Hi v2.Hi HS16 vt17 hc18) ?_)
 rintro _ W21 ⟨f19, rfl, L20, HS22⟩
 refine ⟨_, rfl, ?_⟩
 refine ⟨(Sg.g0 (Sx.of [] L20 HS22)), ?_⟩
 have hq_ := bind_some h; clear h; obtain ⟨vt23, hc24, h⟩ := hq_
 refine takeGE 9 kr rfl kr (does_call (f := 68) (args := #[.int .u64 vw1.Lo, .int .u64 v2.Lo]) kr (cmp_Compare_uint64.calls k vw1.Lo v2.Lo HS22 vt23 hc24) ?_)
 rintro _ W27 ⟨f25, rfl, L26, HS28⟩
 refine ⟨_, rfl, ?_⟩
 refine ⟨(Sg.g0 (Sx.of [] (L20.trans L26) HS28)), ?_⟩
 refine takeGE 10 kr rfl kr (does_lit (e := (tInt .i64)) (E := 3) (vs := #[(0, Value.int .i64 vt17), (1, Value.int .i64 vt23)]) (cs := #[.int .i64 vt17, .int .i64 vt23]) (xs := ([vt17, vt23] : List Int)) rfl Tryz.underlying22 kr kr ⟨[.int .i64 vt17], _, rfl, rfl, ⟨[.int .i64 vt23], _, rfl, rfl, rfl⟩⟩ rfl HS28 ?_ (by decide))
 intro b29 W30 s31 HS32 _ HO33
 refine ⟨(Sg.g0 (Sx.of [s31] (L20.trans L26) HS32)), ?_⟩
 obtain ⟨f35, L36, HS37, HR38, th39⟩ := HO33.lend HS32
 have hq_ := bind_some h; clear h; obtain ⟨vt40, hc41, h⟩ := hq_
 refine takeGE 11 kr rfl kr (does_call (f := 62) (args := #[.slice (some ⟨b29, 0, none⟩) ([vt17, vt23] : List Int).length 2]) kr (cmp_Or_int.calls k (some ⟨b29, 0, none⟩) 2 ([vt17, vt23] : List Int) HS37 HR38 vt40 hc41) ?_)
 rintro _ W44 ⟨f42, rfl, L43, HS45⟩
 refine ⟨_, rfl, ?_⟩
 obtain ⟨f46, L47, HS48⟩ := th39 L43 HS45
 refine ⟨(Sg.g0 (Sx.of [s31] (L20.trans (L26.trans L47)) HS48)), ?_⟩
 refine takeGL [12] (n := 1) (fuel := 0) #[true, true, true, true, true, true, true, true, true, true, true, true, true] rfl kr kr kr hnp (Sg.g0 (Sx.of [s31] (L20.trans (L26.trans L47)) HS48)) ?_
 refine doneG kr ?_ _
 refine hK14 _ _ ?_
 refine wp_ret ?_
 refine hret _ _ ?_
 refine ends_still (v := Value.int .i64 vt40) kr kr ?_
 have HS49 := HS48.drop
 have HS50 := HS49.drop
 have HS51 := HS50.drop
 injection h with h
 subst h
 exact ⟨f46, rfl, (L20.trans (L26.trans L47)), HS51⟩

set_option maxRecDepth 100000 in
set_option maxHeartbeats 4000000 in
theorem query_Near.calls (k : Nat)  (a1 : S_Box) (b2 : S_Box) (cos3 : Int) {t w : World} {f : FM} {H : List Seg} (HS : St t w f (H)) (rr1 : Int) (h : query_Near k a1 b2 cos3 = some rr1) :
    Calls Tryz.prog 10 #[.agg #[.int .i64 a1.X.Lo, .int .i64 a1.X.Hi, .bool a1.X.Unknown, .int .i64 a1.Y.Lo, .int .i64 a1.Y.Hi, .bool a1.Y.Unknown, .int .i64 a1.Z.Lo, .int .i64 a1.Z.Hi, .bool a1.Z.Unknown], .agg #[.int .i64 b2.X.Lo, .int .i64 b2.X.Hi, .bool b2.X.Unknown, .int .i64 b2.Y.Lo, .int .i64 b2.Y.Hi, .bool b2.Y.Unknown, .int .i64 b2.Z.Lo, .int .i64 b2.Z.Hi, .bool b2.Z.Unknown], .int .i64 cos3] w (fun e w' => ∃ (g : FM), e = .returned (Value.int .i64 rr1) ∧ FM.le f g ∧ St t w' g (H)) := by
 unfold query_Near at h
 refine enter Tryz.func10 rfl (tm := #[(ag_Box a1), (ag_Box b2), iV cos3, uV, uV, uV, uV, uV, uV, uV, uV, uV, uV, uV, uV, uV, uV, uV, uV, uV, uV, uV, uV, uV, uV, uV, uV, uV, uV, uV, uV, uV, uV, uV, uV, uV, uV, uV, uV, uV, uV, uV, uV, uV, uV, uV, uV, uV, uV, uV, uV, uV, uV, uV, uV, uV, uV, uV, uV, uV, uV, uV, uV, uV, uV, uV, uV, uV, uV, uV, uV, uV, uV, uV, uV, uV, uV, uV, uV, uV, uV, uV, uV, uV, uV, uV, uV, uV, uV, uV, uV, uV, uV, uV, uV, uV, uV, uV, uV, uV, uV, uV, uV, uV, uV, uV, uV, uV, uV, uV, uV, uV, uV, uV, uV, uV, uV, uV, uV, uV, uV, uV, uV, uV, uV, uV, uV, uV]) kr ?_
 intro B hret hnor hnp
 refine wp_seq_k fun K4 hK5 => rl ?_
 refine seqK rfl (does_box (cs := #[.int .i64 a1.X.Lo, .int .i64 a1.X.Hi, .bool a1.X.Unknown, .int .i64 a1.Y.Lo, .int .i64 a1.Y.Hi, .bool a1.Y.Unknown, .int .i64 a1.Z.Lo, .int .i64 a1.Z.Hi, .bool a1.Z.Unknown]) rfl (kv (.agg #[.int .i64 a1.X.Lo, .int .i64 a1.X.Hi, .bool a1.X.Unknown, .int .i64 a1.Y.Lo, .int .i64 a1.Y.Hi, .bool a1.Y.Unknown, .int .i64 a1.Z.Lo, .int .i64 a1.Z.Hi, .bool a1.Z.Unknown])) rfl HS ?_)
 intro b6 W7 HS8
 refine seqK rfl (does_box (cs := #[.int .i64 b2.X.Lo, .int .i64 b2.X.Hi, .bool b2.X.Unknown, .int .i64 b2.Y.Lo, .int .i64 b2.Y.Hi, .bool b2.Y.Unknown, .int .i64 b2.Z.Lo, .int .i64 b2.Z.Hi, .bool b2.Z.Unknown]) rfl (kv (.agg #[.int .i64 b2.X.Lo, .int .i64 b2.X.Hi, .bool b2.X.Unknown, .int .i64 b2.Y.Lo, .int .i64 b2.Y.Hi, .bool b2.Y.Unknown, .int .i64 b2.Z.Lo, .int .i64 b2.Z.Hi, .bool b2.Z.Unknown])) rfl HS8 ?_)
 intro b10 W11 HS12
 refine seqL1 kr ?_
 refine nl (hK5 _ _ ?_)
 refine wp_seq_k fun K14 hK15 => rl ?_
 refine seqK rfl (does_run (run_loadN (n := 9) rfl Tryz.underlying31 rfl kr (kv (.pointer (some ⟨b6, 0, none⟩))) (cs := [.int .i64 a1.X.Lo, .int .i64 a1.X.Hi, .bool a1.X.Unknown, .int .i64 a1.Y.Lo, .int .i64 a1.Y.Hi, .bool a1.Y.Unknown, .int .i64 a1.Z.Lo, .int .i64 a1.Z.Hi, .bool a1.Z.Unknown]) rfl (HS12.u1.cells 0 9 _ rfl)) ?_)
 have hq_ := bind_some h; clear h; obtain ⟨⟨vt16, vt17⟩, hc18, h⟩ := hq_
 refine seqK rfl (does_call (f := 31) (args := #[.agg #[.int .i64 a1.X.Lo, .int .i64 a1.X.Hi, .bool a1.X.Unknown, .int .i64 a1.Y.Lo, .int .i64 a1.Y.Hi, .bool a1.Y.Unknown, .int .i64 a1.Z.Lo, .int .i64 a1.Z.Hi, .bool a1.Z.Unknown]]) kr (query_sides.calls k a1 HS12 vt16 vt17 hc18) ?_)
 rintro _ W21 ⟨f19, rfl, L20, HS22⟩
 refine ⟨_, rfl, ?_⟩
 refine seqL3 kr ?_
 refine seqK rfl (does_alloc (z := Value.agg #[.int .i64 0, .int .i64 0, .bool false, .int .i64 0, .int .i64 0, .bool false, .int .i64 0, .int .i64 0, .bool false]) (cs := #[.int .i64 0, .int .i64 0, .bool false, .int .i64 0, .int .i64 0, .bool false, .int .i64 0, .int .i64 0, .bool false]) rfl kr rfl HS22 ?_)
 intro b23 W24 HS25
 refine seqK rfl (does_storeA (vs := [.int .i64 ((vt16.getD 0 default).Lo), .int .i64 ((vt16.getD 0 default).Hi), .bool ((vt16.getD 0 default).Unknown), .int .i64 ((vt16.getD 1 default).Lo), .int .i64 ((vt16.getD 1 default).Hi), .bool ((vt16.getD 1 default).Unknown), .int .i64 ((vt16.getD 2 default).Lo), .int .i64 ((vt16.getD 2 default).Hi), .bool ((vt16.getD 2 default).Unknown)]) rfl kr kr kr rfl (ones rfl) HS25 kr ?_)
 intro W27 HS28
 refine seqL1 kr ?_
 refine nl (hK15 _ _ ?_)
 refine wp_seq_k fun K29 hK30 => rl ?_
 refine seqK rfl (does_run (run_loadN (n := 9) rfl Tryz.underlying31 rfl kr (kv (.pointer (some ⟨b10, 0, none⟩))) (cs := [.int .i64 b2.X.Lo, .int .i64 b2.X.Hi, .bool b2.X.Unknown, .int .i64 b2.Y.Lo, .int .i64 b2.Y.Hi, .bool b2.Y.Unknown, .int .i64 b2.Z.Lo, .int .i64 b2.Z.Hi, .bool b2.Z.Unknown]) rfl (HS28.u1.cells 0 9 _ rfl)) ?_)
 have hq_ := bind_some h; clear h; obtain ⟨⟨vt31, vt32⟩, hc33, h⟩ := hq_
 refine seqK rfl (does_call (f := 31) (args := #[.agg #[.int .i64 b2.X.Lo, .int .i64 b2.X.Hi, .bool b2.X.Unknown, .int .i64 b2.Y.Lo, .int .i64 b2.Y.Hi, .bool b2.Y.Unknown, .int .i64 b2.Z.Lo, .int .i64 b2.Z.Hi, .bool b2.Z.Unknown]]) kr (query_sides.calls k b2 HS28 vt31 vt32 hc33) ?_)
 rintro _ W36 ⟨f34, rfl, L35, HS37⟩
 refine ⟨_, rfl, ?_⟩
 refine seqL3 kr ?_
 refine seqK rfl (does_alloc (z := Value.agg #[.int .i64 0, .int .i64 0, .bool false, .int .i64 0, .int .i64 0, .bool false, .int .i64 0, .int .i64 0, .bool false]) (cs := #[.int .i64 0, .int .i64 0, .bool false, .int .i64 0, .int .i64 0, .bool false, .int .i64 0, .int .i64 0, .bool false]) rfl kr rfl HS37 ?_)
 intro b38 W39 HS40
 refine seqK rfl (does_storeA (vs := [.int .i64 ((vt31.getD 0 default).Lo), .int .i64 ((vt31.getD 0 default).Hi), .bool ((vt31.getD 0 default).Unknown), .int .i64 ((vt31.getD 1 default).Lo), .int .i64 ((vt31.getD 1 default).Hi), .bool ((vt31.getD 1 default).Unknown), .int .i64 ((vt31.getD 2 default).Lo), .int .i64 ((vt31.getD 2 default).Hi), .bool ((vt31.getD 2 default).Unknown)]) rfl kr kr kr rfl (ones rfl) HS40 kr ?_)
 intro W42 HS43
 refine seqL1 kr ?_
 refine nl (hK30 _ _ ?_)
 refine wp_seq_k (fun K44 hK45 => ?_)
 refine wp_seq_k fun K46 hK47 => rl ?_
 refine seqL3 kr ?_
 have hq_ := ite_some h; clear h; rcases hq_ with ⟨c48, h⟩ | ⟨c48, h⟩
 · have c48 : cos3 < 0 := c48
   refine seqRwI 32 kr (decide_eq_true c48) ?_
   refine seqRwI 33 kr (decide_eq_true c48) ?_
   refine seqL3 kr ?_
   refine nl (hK47 _ _ ?_)
   refine condT kr ?_
   refine wp_seq_k fun K49 hK50 => rl ?_
   refine seqL1 kr ?_
   refine nl (hK50 _ _ ?_)
   refine wp_ret ?_
   refine hret _ _ ?_
   refine ends_still (v := Value.int .i64 0) kr kr ?_
   have HS406 := HS43.drop
   have HS407 := HS406.drop
   have HS408 := HS407.drop
   have HS409 := HS408.drop
   injection h with h
   subst h
   exact ⟨f34, rfl, (L20.trans L35), HS409⟩
 · have c48 : ¬ (cos3 < 0) := c48
   refine seqRwI 32 kr (decide_eq_false c48) ?_
   refine seqRwI 33 kr (decide_eq_false c48) ?_
   refine seqL3 kr ?_
   refine nl (hK47 _ _ ?_)
   have hq_ := ite_some h; clear h; rcases hq_ with ⟨c52, h⟩ | ⟨c52, h⟩
   · have c52 : cos3 > 1073741824 := c52
     refine wpRwI 35 kr (decide_eq_true c52) ?_
     refine wpRwI 36 kr (decide_eq_true c52) ?_
     refine condT kr ?_
     refine wp_seq_k fun K53 hK54 => rl ?_
     refine seqL1 kr ?_
     refine nl (hK54 _ _ ?_)
     refine wp_ret ?_
     refine hret _ _ ?_
     refine ends_still (v := Value.int .i64 0) kr kr ?_
     have HS410 := HS43.drop
     have HS411 := HS410.drop
     have HS412 := HS411.drop
     have HS413 := HS412.drop
     injection h with h
     subst h
     exact ⟨f34, rfl, (L20.trans L35), HS413⟩
   · have c52 : ¬ (cos3 > 1073741824) := c52
     refine wpRwI 35 kr (decide_eq_false c52) ?_
     refine wpRwI 36 kr (decide_eq_false c52) ?_
     refine condF kr ?_
     refine wp_skip ?_
     refine hK45 _ _ ?_
     refine wp_seq_k (fun K55 hK56 => ?_)
     refine wp_seq_k fun K57 hK58 => rl ?_
     refine seqL3 kr ?_
     have hq_ := ite_some h; clear h; rcases hq_ with ⟨c59, h⟩ | ⟨c59, h⟩
     · have c59 : ¬ (vt17 = true) := c59
       refine seqRwI 38 kr (congrArg (fun b_ => !b_) (show vt17 = false from (Bool.eq_false_iff.mpr c59)) : (!vt17) = true) ?_
       refine seqRwI 39 kr (congrArg (fun b_ => !b_) (show vt17 = false from (Bool.eq_false_iff.mpr c59)) : (!vt17) = true) ?_
       refine seqL3 kr ?_
       refine nl (hK58 _ _ ?_)
       refine condT kr ?_
       refine wp_seq_k fun K60 hK61 => rl ?_
       refine seqL1 kr ?_
       refine nl (hK61 _ _ ?_)
       refine wp_ret ?_
       refine hret _ _ ?_
       refine ends_still (v := Value.int .i64 1) kr kr ?_
       have HS414 := HS43.drop
       have HS415 := HS414.drop
       have HS416 := HS415.drop
       have HS417 := HS416.drop
       injection h with h
       subst h
       exact ⟨f34, rfl, (L20.trans L35), HS417⟩
     · have c59 : ¬ (¬ (vt17 = true)) := c59
       refine seqRwI 38 (x := (!vt17)) (v := false) kr (congrArg (fun b_ => !b_) (show vt17 = true from (Decidable.of_not_not c59)) : (!vt17) = false) ?_
       refine seqRwI 39 (x := (!vt17)) (v := false) kr (congrArg (fun b_ => !b_) (show vt17 = true from (Decidable.of_not_not c59)) : (!vt17) = false) ?_
       refine seqL3 kr ?_
       refine nl (hK58 _ _ ?_)
       have hq_ := ite_some h; clear h; rcases hq_ with ⟨c63, h⟩ | ⟨c63, h⟩
       · have c63 : ¬ (vt32 = true) := c63
         refine wpRwI 41 kr (congrArg (fun b_ => !b_) (show vt32 = false from (Bool.eq_false_iff.mpr c63)) : (!vt32) = true) ?_
         refine wpRwI 42 kr (congrArg (fun b_ => !b_) (show vt32 = false from (Bool.eq_false_iff.mpr c63)) : (!vt32) = true) ?_
         refine condT kr ?_
         refine wp_seq_k fun K64 hK65 => rl ?_
         refine seqL1 kr ?_
         refine nl (hK65 _ _ ?_)
         refine wp_ret ?_
         refine hret _ _ ?_
         refine ends_still (v := Value.int .i64 1) kr kr ?_
         have HS418 := HS43.drop
         have HS419 := HS418.drop
         have HS420 := HS419.drop
         have HS421 := HS420.drop
         injection h with h
         subst h
         exact ⟨f34, rfl, (L20.trans L35), HS421⟩
       · have c63 : ¬ (¬ (vt32 = true)) := c63
         refine wpRwI 41 (x := (!vt32)) (v := false) kr (congrArg (fun b_ => !b_) (show vt32 = true from (Decidable.of_not_not c63)) : (!vt32) = false) ?_
         refine wpRwI 42 (x := (!vt32)) (v := false) kr (congrArg (fun b_ => !b_) (show vt32 = true from (Decidable.of_not_not c63)) : (!vt32) = false) ?_
         refine condF kr ?_
         refine wp_skip ?_
         refine hK56 _ _ ?_
         refine wp_seq_k fun K66 hK67 => rl ?_
         refine seqL6 kr ?_
         refine nl (hK67 _ _ ?_)
         refine wp_seq_k (fun K68 hK69 => ?_)
         refine wp_seq_k fun K70 hK71 => rl ?_
         refine seqL1 kr ?_
         refine nl (hK71 _ _ ?_)
         refine blockK (fun B72 hx73 hn74 hr75 ho76 hp77 => ?_)
         refine wp_loop_rounds 4 ?_
         refine loopStepK (fun K78 hK79 => ?_)
         refine wp_seq_k fun K80 hK81 => rl ?_
         refine seqL1 kr ?_
         refine nl (hK81 _ _ ?_)
         refine wp_seq_k (fun K82 hK83 => ?_)
         refine condT kr ?_
         refine wp_skip ?_
         refine hK83 _ _ ?_
         refine wp_seq_k (fun K84 hK85 => ?_)
         refine blockK (fun B86 hx87 hn88 hr89 ho90 hp91 => ?_)
         refine wp_seq_k fun K93 hK94 => rl ?_
         refine seqL2 kr ?_
         refine nl (hK94 _ _ ?_)
         refine wp_seq_k (fun K95 hK96 => ?_)
         refine heldG (S := Sg t f34 ([(b38, .cells #[.int .i64 ((vt31.getD 0 default).Lo), .int .i64 ((vt31.getD 0 default).Hi), .bool ((vt31.getD 0 default).Unknown), .int .i64 ((vt31.getD 1 default).Lo), .int .i64 ((vt31.getD 1 default).Hi), .bool ((vt31.getD 1 default).Unknown), .int .i64 ((vt31.getD 2 default).Lo), .int .i64 ((vt31.getD 2 default).Hi), .bool ((vt31.getD 2 default).Unknown)] 81 (0, 0))] :: [(b23, .cells #[.int .i64 ((vt16.getD 0 default).Lo), .int .i64 ((vt16.getD 0 default).Hi), .bool ((vt16.getD 0 default).Unknown), .int .i64 ((vt16.getD 1 default).Lo), .int .i64 ((vt16.getD 1 default).Hi), .bool ((vt16.getD 1 default).Unknown), .int .i64 ((vt16.getD 2 default).Lo), .int .i64 ((vt16.getD 2 default).Hi), .bool ((vt16.getD 2 default).Unknown)] 81 (0, 0))] :: [(b10, .cells #[.int .i64 b2.X.Lo, .int .i64 b2.X.Hi, .bool b2.X.Unknown, .int .i64 b2.Y.Lo, .int .i64 b2.Y.Hi, .bool b2.Y.Unknown, .int .i64 b2.Z.Lo, .int .i64 b2.Z.Hi, .bool b2.Z.Unknown] 31 (0, 0))] :: [(b6, .cells #[.int .i64 a1.X.Lo, .int .i64 a1.X.Hi, .bool a1.X.Unknown, .int .i64 a1.Y.Lo, .int .i64 a1.Y.Hi, .bool a1.Y.Unknown, .int .i64 a1.Z.Lo, .int .i64 a1.Z.Hi, .bool a1.Z.Unknown] 31 (0, 0))] :: H) []) (n := 12) kr rfl HS43 ?_
         intro W97 HS98
         refine takeGL [0, 1] (n := 12) (fuel := 10) #[true, true, false, false, false, false, false, false, false, false, false, false] rfl kr kr kr (fun ch_ a_ w_ q_ => (fun ch_ a_ w_ q_ => hnp ch_ a_ w_ (hp77 ch_ a_ w_ q_)) ch_ a_ w_ (hp91 ch_ a_ w_ q_)) (Sg.g0 (Sx.of [] fL HS98)) ?_
         refine takeGQ 2 [] rfl kr kr kr kr kr kr (fun ch_ a_ w_ q_ => (fun ch_ a_ w_ q_ => hnp ch_ a_ w_ (hp77 ch_ a_ w_ q_)) ch_ a_ w_ (hp91 ch_ a_ w_ q_)) (Sg.g0 (Sx.of [] fL HS98)) (fun w_ hw_ => by obtain ⟨g_, hl_, hS_⟩ := hw_.st; exact run_loadN (n := 3) rfl Tryz.underlying29 rfl kr (kv (.pointer (some ⟨b23, 0, none⟩))) (cs := [.int .i64 ((vt16.getD 0 default).Lo), .int .i64 ((vt16.getD 0 default).Hi), .bool ((vt16.getD 0 default).Unknown)]) rfl (hS_.u1.cells 0 3 _ rfl)) ?_
         refine takeGL [3, 4] (n := 9) (fuel := 7) #[true, true, true, true, true, false, false, false, false, false, false, false] rfl kr kr kr (fun ch_ a_ w_ q_ => (fun ch_ a_ w_ q_ => hnp ch_ a_ w_ (hp77 ch_ a_ w_ q_)) ch_ a_ w_ (hp91 ch_ a_ w_ q_)) (Sg.g0 (Sx.of [] fL HS98)) ?_
         refine takeGQ 5 [] rfl kr kr kr kr kr kr (fun ch_ a_ w_ q_ => (fun ch_ a_ w_ q_ => hnp ch_ a_ w_ (hp77 ch_ a_ w_ q_)) ch_ a_ w_ (hp91 ch_ a_ w_ q_)) (Sg.g0 (Sx.of [] fL HS98)) (fun w_ hw_ => by obtain ⟨g_, hl_, hS_⟩ := hw_.st; exact run_loadN (n := 3) rfl Tryz.underlying29 rfl kr (kv (.pointer (some ⟨b38, 0, none⟩))) (cs := [.int .i64 ((vt31.getD 0 default).Lo), .int .i64 ((vt31.getD 0 default).Hi), .bool ((vt31.getD 0 default).Unknown)]) rfl (hS_.cells 0 3 _ rfl)) ?_
         have hq_ := bind_some h; clear h; obtain ⟨⟨vt99, vt100⟩, hc101, h⟩ := hq_
         refine takeGE 6 kr rfl kr (does_call (f := 32) (args := #[.agg #[.int .i64 ((vt16.getD 0 default).Lo), .int .i64 ((vt16.getD 0 default).Hi), .bool ((vt16.getD 0 default).Unknown)], .agg #[.int .i64 ((vt31.getD 0 default).Lo), .int .i64 ((vt31.getD 0 default).Hi), .bool ((vt31.getD 0 default).Unknown)]]) kr (query_product.calls k (vt16.getD 0 default) (vt31.getD 0 default) HS98 vt99 vt100 hc101) ?_)
         rintro _ W104 ⟨f102, rfl, L103, HS105⟩
         refine ⟨_, rfl, ?_⟩
         refine ⟨(Sg.g0 (Sx.of [] L103 HS105)), ?_⟩
         refine takeGL [7, 8, 9, 10, 11] (n := 5) (fuel := 0) #[true, true, true, true, true, true, true, true, true, true, true, true] rfl kr kr kr (fun ch_ a_ w_ q_ => (fun ch_ a_ w_ q_ => hnp ch_ a_ w_ (hp77 ch_ a_ w_ q_)) ch_ a_ w_ (hp91 ch_ a_ w_ q_)) (Sg.g0 (Sx.of [] L103 HS105)) ?_
         refine doneG kr ?_ _
         refine hK96 _ _ ?_
         refine wp_seq_k fun K106 hK107 => rl ?_
         refine seqL8 kr ?_
         refine nl (hK107 _ _ ?_)
         refine wp_seq_k fun K108 hK109 => rl ?_
         refine seqL2 kr ?_
         refine seqK rfl (does_run (run_loadN (n := 3) rfl Tryz.underlying29 rfl kr (kv (.pointer (some ⟨b23, 0, none⟩))) (cs := [.int .i64 ((vt16.getD 0 default).Lo), .int .i64 ((vt16.getD 0 default).Hi), .bool ((vt16.getD 0 default).Unknown)]) rfl (HS105.u1.cells 0 3 _ rfl)) ?_)
         have hq_ := bind_some h; clear h; obtain ⟨⟨vt110, vt111⟩, hc112, h⟩ := hq_
         refine seqK rfl (does_call (f := 33) (args := #[.agg #[.int .i64 ((vt16.getD 0 default).Lo), .int .i64 ((vt16.getD 0 default).Hi), .bool ((vt16.getD 0 default).Unknown)]]) kr (query_square.calls k (vt16.getD 0 default) HS105 vt110 vt111 hc112) ?_)
         rintro _ W115 ⟨f113, rfl, L114, HS116⟩
         refine ⟨_, rfl, ?_⟩
         refine seqL5 kr ?_
         refine nl (hK109 _ _ ?_)
         refine wp_seq_k fun K117 hK118 => rl ?_
         refine seqS8 (a' := ⟨#[(ag_Box a1), (ag_Box b2), iV cos3, pV b6 0, pV b10 0, uV, iV 0, pV b23 0, .bool vt17, pV b38 0, .bool vt32, iV (w64 (0 + vt99)), iV (w64 (0 + vt100)), iV (w64 (0 + vt110)), iV (w64 (0 + vt111)), iV 0, iV 0, iV 0, iV vt110, iV vt111, uV, .tuple #[.agg #[iV ((vt16.getD 0 default).Lo), iV ((vt16.getD 0 default).Hi), .bool ((vt16.getD 0 default).Unknown), iV ((vt16.getD 1 default).Lo), iV ((vt16.getD 1 default).Hi), .bool ((vt16.getD 1 default).Unknown), iV ((vt16.getD 2 default).Lo), iV ((vt16.getD 2 default).Hi), .bool ((vt16.getD 2 default).Unknown)], .bool vt17], (ag_Box a1), .tuple #[.agg #[iV ((vt16.getD 0 default).Lo), iV ((vt16.getD 0 default).Hi), .bool ((vt16.getD 0 default).Unknown), iV ((vt16.getD 1 default).Lo), iV ((vt16.getD 1 default).Hi), .bool ((vt16.getD 1 default).Unknown), iV ((vt16.getD 2 default).Lo), iV ((vt16.getD 2 default).Hi), .bool ((vt16.getD 2 default).Unknown)], .bool vt17], .agg #[iV ((vt16.getD 0 default).Lo), iV ((vt16.getD 0 default).Hi), .bool ((vt16.getD 0 default).Unknown), iV ((vt16.getD 1 default).Lo), iV ((vt16.getD 1 default).Hi), .bool ((vt16.getD 1 default).Unknown), iV ((vt16.getD 2 default).Lo), iV ((vt16.getD 2 default).Hi), .bool ((vt16.getD 2 default).Unknown)], .bool vt17, .tuple #[.agg #[iV ((vt31.getD 0 default).Lo), iV ((vt31.getD 0 default).Hi), .bool ((vt31.getD 0 default).Unknown), iV ((vt31.getD 1 default).Lo), iV ((vt31.getD 1 default).Hi), .bool ((vt31.getD 1 default).Unknown), iV ((vt31.getD 2 default).Lo), iV ((vt31.getD 2 default).Hi), .bool ((vt31.getD 2 default).Unknown)], .bool vt32], (ag_Box b2), .tuple #[.agg #[iV ((vt31.getD 0 default).Lo), iV ((vt31.getD 0 default).Hi), .bool ((vt31.getD 0 default).Unknown), iV ((vt31.getD 1 default).Lo), iV ((vt31.getD 1 default).Hi), .bool ((vt31.getD 1 default).Unknown), iV ((vt31.getD 2 default).Lo), iV ((vt31.getD 2 default).Hi), .bool ((vt31.getD 2 default).Unknown)], .bool vt32], .agg #[iV ((vt31.getD 0 default).Lo), iV ((vt31.getD 0 default).Hi), .bool ((vt31.getD 0 default).Unknown), iV ((vt31.getD 1 default).Lo), iV ((vt31.getD 1 default).Hi), .bool ((vt31.getD 1 default).Unknown), iV ((vt31.getD 2 default).Lo), iV ((vt31.getD 2 default).Hi), .bool ((vt31.getD 2 default).Unknown)], .bool vt32, iV cos3, fV, fV, iV cos3, fV, fV, .bool vt17, fV, fV, .bool vt32, fV, fV, iV 0, tV, iV 0, .tuple #[iV vt99, iV vt100], iV 0, pV b23 0, (ag_Bound (vt16.getD 0 default)), iV 0, pV b38 0, (ag_Bound (vt31.getD 0 default)), .tuple #[iV vt99, iV vt100], iV vt99, iV vt100, iV 0, iV vt99, iV (w64 (0 + vt99)), iV 0, iV vt100, iV (w64 (0 + vt100)), .tuple #[iV vt110, iV vt111], iV 0, pV b23 0, (ag_Bound (vt16.getD 0 default)), .tuple #[iV vt110, iV vt111], iV vt110, iV vt111, iV 0, iV vt110, iV (w64 (0 + vt110)), iV 0, iV vt111, iV (w64 (0 + vt111)), uV, uV, uV, uV, uV, uV, uV, uV, uV, uV, uV, uV, uV, uV, uV, uV, uV, uV, uV, uV, uV, uV, uV, uV, uV, uV, uV, uV, uV, uV, uV, uV, uV, uV, uV, uV, uV, uV, uV, uV, uV, uV, uV, uV, uV, uV, uV, uV, uV, uV, uV, uV, uV], []⟩) kr ?_
         refine nl (hK118 _ _ ?_)
         refine wp_seq_k fun K119 hK120 => rl ?_
         refine seqL2 kr ?_
         refine seqK rfl (does_run (run_loadN (n := 3) rfl Tryz.underlying29 rfl kr (kv (.pointer (some ⟨b38, 0, none⟩))) (cs := [.int .i64 ((vt31.getD 0 default).Lo), .int .i64 ((vt31.getD 0 default).Hi), .bool ((vt31.getD 0 default).Unknown)]) rfl (HS116.cells 0 3 _ rfl)) ?_)
         have hq_ := bind_some h; clear h; obtain ⟨⟨vt121, vt122⟩, hc123, h⟩ := hq_
         refine seqK rfl (does_call (f := 33) (args := #[.agg #[.int .i64 ((vt31.getD 0 default).Lo), .int .i64 ((vt31.getD 0 default).Hi), .bool ((vt31.getD 0 default).Unknown)]]) kr (query_square.calls k (vt31.getD 0 default) HS116 vt121 vt122 hc123) ?_)
         rintro _ W126 ⟨f124, rfl, L125, HS127⟩
         refine ⟨_, rfl, ?_⟩
         refine seqL5 kr ?_
         refine nl (hK120 _ _ ?_)
         refine rl ?_
         refine seqL8 kr ?_
         refine nl ?_
         refine hn88 _ _ ?_
         refine hK85 _ _ ?_
         refine rl ?_
         refine seqL2 kr ?_
         refine nl (hK79 _ _ ?_)
         refine loopStepK (fun K128 hK129 => ?_)
         refine wp_seq_k fun K130 hK131 => rl ?_
         refine seqL1 kr ?_
         refine nl (hK131 _ _ ?_)
         refine wp_seq_k (fun K132 hK133 => ?_)
         refine condT kr ?_
         refine wp_skip ?_
         refine hK133 _ _ ?_
         refine wp_seq_k (fun K134 hK135 => ?_)
         refine blockK (fun B136 hx137 hn138 hr139 ho140 hp141 => ?_)
         refine wp_seq_k fun K143 hK144 => rl ?_
         refine seqL2 kr ?_
         refine nl (hK144 _ _ ?_)
         refine wp_seq_k (fun K145 hK146 => ?_)
         refine heldG (S := Sg t f124 ([(b38, .cells #[.int .i64 ((vt31.getD 0 default).Lo), .int .i64 ((vt31.getD 0 default).Hi), .bool ((vt31.getD 0 default).Unknown), .int .i64 ((vt31.getD 1 default).Lo), .int .i64 ((vt31.getD 1 default).Hi), .bool ((vt31.getD 1 default).Unknown), .int .i64 ((vt31.getD 2 default).Lo), .int .i64 ((vt31.getD 2 default).Hi), .bool ((vt31.getD 2 default).Unknown)] 81 (0, 0))] :: [(b23, .cells #[.int .i64 ((vt16.getD 0 default).Lo), .int .i64 ((vt16.getD 0 default).Hi), .bool ((vt16.getD 0 default).Unknown), .int .i64 ((vt16.getD 1 default).Lo), .int .i64 ((vt16.getD 1 default).Hi), .bool ((vt16.getD 1 default).Unknown), .int .i64 ((vt16.getD 2 default).Lo), .int .i64 ((vt16.getD 2 default).Hi), .bool ((vt16.getD 2 default).Unknown)] 81 (0, 0))] :: [(b10, .cells #[.int .i64 b2.X.Lo, .int .i64 b2.X.Hi, .bool b2.X.Unknown, .int .i64 b2.Y.Lo, .int .i64 b2.Y.Hi, .bool b2.Y.Unknown, .int .i64 b2.Z.Lo, .int .i64 b2.Z.Hi, .bool b2.Z.Unknown] 31 (0, 0))] :: [(b6, .cells #[.int .i64 a1.X.Lo, .int .i64 a1.X.Hi, .bool a1.X.Unknown, .int .i64 a1.Y.Lo, .int .i64 a1.Y.Hi, .bool a1.Y.Unknown, .int .i64 a1.Z.Lo, .int .i64 a1.Z.Hi, .bool a1.Z.Unknown] 31 (0, 0))] :: H) []) (n := 12) kr rfl HS127 ?_
         intro W147 HS148
         refine takeGL [0, 1] (n := 12) (fuel := 10) #[true, true, false, false, false, false, false, false, false, false, false, false] rfl kr kr kr (fun ch_ a_ w_ q_ => (fun ch_ a_ w_ q_ => hnp ch_ a_ w_ (hp77 ch_ a_ w_ q_)) ch_ a_ w_ (hp141 ch_ a_ w_ q_)) (Sg.g0 (Sx.of [] fL HS148)) ?_
         refine takeGQ 2 [] rfl kr kr kr kr kr kr (fun ch_ a_ w_ q_ => (fun ch_ a_ w_ q_ => hnp ch_ a_ w_ (hp77 ch_ a_ w_ q_)) ch_ a_ w_ (hp141 ch_ a_ w_ q_)) (Sg.g0 (Sx.of [] fL HS148)) (fun w_ hw_ => by obtain ⟨g_, hl_, hS_⟩ := hw_.st; exact run_loadN (n := 3) rfl Tryz.underlying29 rfl kr (kv (.pointer (some ⟨b23, 3, none⟩))) (cs := [.int .i64 ((vt16.getD 1 default).Lo), .int .i64 ((vt16.getD 1 default).Hi), .bool ((vt16.getD 1 default).Unknown)]) rfl (hS_.u1.cells 3 3 _ rfl)) ?_
         refine takeGL [3, 4] (n := 9) (fuel := 7) #[true, true, true, true, true, false, false, false, false, false, false, false] rfl kr kr kr (fun ch_ a_ w_ q_ => (fun ch_ a_ w_ q_ => hnp ch_ a_ w_ (hp77 ch_ a_ w_ q_)) ch_ a_ w_ (hp141 ch_ a_ w_ q_)) (Sg.g0 (Sx.of [] fL HS148)) ?_
         refine takeGQ 5 [] rfl kr kr kr kr kr kr (fun ch_ a_ w_ q_ => (fun ch_ a_ w_ q_ => hnp ch_ a_ w_ (hp77 ch_ a_ w_ q_)) ch_ a_ w_ (hp141 ch_ a_ w_ q_)) (Sg.g0 (Sx.of [] fL HS148)) (fun w_ hw_ => by obtain ⟨g_, hl_, hS_⟩ := hw_.st; exact run_loadN (n := 3) rfl Tryz.underlying29 rfl kr (kv (.pointer (some ⟨b38, 3, none⟩))) (cs := [.int .i64 ((vt31.getD 1 default).Lo), .int .i64 ((vt31.getD 1 default).Hi), .bool ((vt31.getD 1 default).Unknown)]) rfl (hS_.cells 3 3 _ rfl)) ?_
         have hq_ := bind_some h; clear h; obtain ⟨⟨vt149, vt150⟩, hc151, h⟩ := hq_
         refine takeGE 6 kr rfl kr (does_call (f := 32) (args := #[.agg #[.int .i64 ((vt16.getD 1 default).Lo), .int .i64 ((vt16.getD 1 default).Hi), .bool ((vt16.getD 1 default).Unknown)], .agg #[.int .i64 ((vt31.getD 1 default).Lo), .int .i64 ((vt31.getD 1 default).Hi), .bool ((vt31.getD 1 default).Unknown)]]) kr (query_product.calls k (vt16.getD 1 default) (vt31.getD 1 default) HS148 vt149 vt150 hc151) ?_)
         rintro _ W154 ⟨f152, rfl, L153, HS155⟩
         refine ⟨_, rfl, ?_⟩
         refine ⟨(Sg.g0 (Sx.of [] L153 HS155)), ?_⟩
         refine takeGL [7, 8, 9, 10, 11] (n := 5) (fuel := 0) #[true, true, true, true, true, true, true, true, true, true, true, true] rfl kr kr kr (fun ch_ a_ w_ q_ => (fun ch_ a_ w_ q_ => hnp ch_ a_ w_ (hp77 ch_ a_ w_ q_)) ch_ a_ w_ (hp141 ch_ a_ w_ q_)) (Sg.g0 (Sx.of [] L153 HS155)) ?_
         refine doneG kr ?_ _
         refine hK146 _ _ ?_
         refine wp_seq_k fun K156 hK157 => rl ?_
         refine seqL8 kr ?_
         refine nl (hK157 _ _ ?_)
         refine wp_seq_k fun K158 hK159 => rl ?_
         refine seqL2 kr ?_
         refine seqK rfl (does_run (run_loadN (n := 3) rfl Tryz.underlying29 rfl kr (kv (.pointer (some ⟨b23, 3, none⟩))) (cs := [.int .i64 ((vt16.getD 1 default).Lo), .int .i64 ((vt16.getD 1 default).Hi), .bool ((vt16.getD 1 default).Unknown)]) rfl (HS155.u1.cells 3 3 _ rfl)) ?_)
         have hq_ := bind_some h; clear h; obtain ⟨⟨vt160, vt161⟩, hc162, h⟩ := hq_
         refine seqK rfl (does_call (f := 33) (args := #[.agg #[.int .i64 ((vt16.getD 1 default).Lo), .int .i64 ((vt16.getD 1 default).Hi), .bool ((vt16.getD 1 default).Unknown)]]) kr (query_square.calls k (vt16.getD 1 default) HS155 vt160 vt161 hc162) ?_)
         rintro _ W165 ⟨f163, rfl, L164, HS166⟩
         refine ⟨_, rfl, ?_⟩
         refine seqL5 kr ?_
         refine nl (hK159 _ _ ?_)
         refine wp_seq_k fun K167 hK168 => rl ?_
         refine seqL8 kr ?_
         refine nl (hK168 _ _ ?_)
         refine wp_seq_k fun K169 hK170 => rl ?_
         refine seqL2 kr ?_
         refine seqK rfl (does_run (run_loadN (n := 3) rfl Tryz.underlying29 rfl kr (kv (.pointer (some ⟨b38, 3, none⟩))) (cs := [.int .i64 ((vt31.getD 1 default).Lo), .int .i64 ((vt31.getD 1 default).Hi), .bool ((vt31.getD 1 default).Unknown)]) rfl (HS166.cells 3 3 _ rfl)) ?_)
         have hq_ := bind_some h; clear h; obtain ⟨⟨vt171, vt172⟩, hc173, h⟩ := hq_
         refine seqK rfl (does_call (f := 33) (args := #[.agg #[.int .i64 ((vt31.getD 1 default).Lo), .int .i64 ((vt31.getD 1 default).Hi), .bool ((vt31.getD 1 default).Unknown)]]) kr (query_square.calls k (vt31.getD 1 default) HS166 vt171 vt172 hc173) ?_)
         rintro _ W176 ⟨f174, rfl, L175, HS177⟩
         refine ⟨_, rfl, ?_⟩
         refine seqL5 kr ?_
         refine nl (hK170 _ _ ?_)
         refine rl ?_
         refine seqS8 (a' := ⟨#[(ag_Box a1), (ag_Box b2), iV cos3, pV b6 0, pV b10 0, uV, iV 0, pV b23 0, .bool vt17, pV b38 0, .bool vt32, iV (w64 ((w64 (0 + vt99)) + vt149)), iV (w64 ((w64 (0 + vt100)) + vt150)), iV (w64 ((w64 (0 + vt110)) + vt160)), iV (w64 ((w64 (0 + vt111)) + vt161)), iV (w64 ((w64 (0 + vt121)) + vt171)), iV (w64 ((w64 (0 + vt122)) + vt172)), iV 1, iV vt171, iV vt172, uV, .tuple #[.agg #[iV ((vt16.getD 0 default).Lo), iV ((vt16.getD 0 default).Hi), .bool ((vt16.getD 0 default).Unknown), iV ((vt16.getD 1 default).Lo), iV ((vt16.getD 1 default).Hi), .bool ((vt16.getD 1 default).Unknown), iV ((vt16.getD 2 default).Lo), iV ((vt16.getD 2 default).Hi), .bool ((vt16.getD 2 default).Unknown)], .bool vt17], (ag_Box a1), .tuple #[.agg #[iV ((vt16.getD 0 default).Lo), iV ((vt16.getD 0 default).Hi), .bool ((vt16.getD 0 default).Unknown), iV ((vt16.getD 1 default).Lo), iV ((vt16.getD 1 default).Hi), .bool ((vt16.getD 1 default).Unknown), iV ((vt16.getD 2 default).Lo), iV ((vt16.getD 2 default).Hi), .bool ((vt16.getD 2 default).Unknown)], .bool vt17], .agg #[iV ((vt16.getD 0 default).Lo), iV ((vt16.getD 0 default).Hi), .bool ((vt16.getD 0 default).Unknown), iV ((vt16.getD 1 default).Lo), iV ((vt16.getD 1 default).Hi), .bool ((vt16.getD 1 default).Unknown), iV ((vt16.getD 2 default).Lo), iV ((vt16.getD 2 default).Hi), .bool ((vt16.getD 2 default).Unknown)], .bool vt17, .tuple #[.agg #[iV ((vt31.getD 0 default).Lo), iV ((vt31.getD 0 default).Hi), .bool ((vt31.getD 0 default).Unknown), iV ((vt31.getD 1 default).Lo), iV ((vt31.getD 1 default).Hi), .bool ((vt31.getD 1 default).Unknown), iV ((vt31.getD 2 default).Lo), iV ((vt31.getD 2 default).Hi), .bool ((vt31.getD 2 default).Unknown)], .bool vt32], (ag_Box b2), .tuple #[.agg #[iV ((vt31.getD 0 default).Lo), iV ((vt31.getD 0 default).Hi), .bool ((vt31.getD 0 default).Unknown), iV ((vt31.getD 1 default).Lo), iV ((vt31.getD 1 default).Hi), .bool ((vt31.getD 1 default).Unknown), iV ((vt31.getD 2 default).Lo), iV ((vt31.getD 2 default).Hi), .bool ((vt31.getD 2 default).Unknown)], .bool vt32], .agg #[iV ((vt31.getD 0 default).Lo), iV ((vt31.getD 0 default).Hi), .bool ((vt31.getD 0 default).Unknown), iV ((vt31.getD 1 default).Lo), iV ((vt31.getD 1 default).Hi), .bool ((vt31.getD 1 default).Unknown), iV ((vt31.getD 2 default).Lo), iV ((vt31.getD 2 default).Hi), .bool ((vt31.getD 2 default).Unknown)], .bool vt32, iV cos3, fV, fV, iV cos3, fV, fV, .bool vt17, fV, fV, .bool vt32, fV, fV, iV 1, tV, iV 1, .tuple #[iV vt149, iV vt150], iV 1, pV b23 3, (ag_Bound (vt16.getD 1 default)), iV 1, pV b38 3, (ag_Bound (vt31.getD 1 default)), .tuple #[iV vt149, iV vt150], iV vt149, iV vt150, iV (w64 (0 + vt99)), iV vt149, iV (w64 ((w64 (0 + vt99)) + vt149)), iV (w64 (0 + vt100)), iV vt150, iV (w64 ((w64 (0 + vt100)) + vt150)), .tuple #[iV vt160, iV vt161], iV 1, pV b23 3, (ag_Bound (vt16.getD 1 default)), .tuple #[iV vt160, iV vt161], iV vt160, iV vt161, iV (w64 (0 + vt110)), iV vt160, iV (w64 ((w64 (0 + vt110)) + vt160)), iV (w64 (0 + vt111)), iV vt161, iV (w64 ((w64 (0 + vt111)) + vt161)), .tuple #[iV vt171, iV vt172], iV 1, pV b38 3, (ag_Bound (vt31.getD 1 default)), .tuple #[iV vt171, iV vt172], iV vt171, iV vt172, iV (w64 (0 + vt121)), iV vt171, iV (w64 ((w64 (0 + vt121)) + vt171)), iV (w64 (0 + vt122)), iV vt172, iV (w64 ((w64 (0 + vt122)) + vt172)), iV 1, uV, uV, uV, uV, uV, uV, uV, uV, uV, uV, uV, uV, uV, uV, uV, uV, uV, uV, uV, uV, uV, uV, uV, uV, uV, uV, uV, uV, uV, uV, uV, uV, uV, uV, uV, uV, uV, uV, uV], []⟩) kr ?_
         refine nl ?_
         refine hn138 _ _ ?_
         refine hK135 _ _ ?_
         refine rl ?_
         refine seqL2 kr ?_
         refine nl (hK129 _ _ ?_)
         refine loopStepK (fun K178 hK179 => ?_)
         refine wp_seq_k fun K180 hK181 => rl ?_
         refine seqL1 kr ?_
         refine nl (hK181 _ _ ?_)
         refine wp_seq_k (fun K182 hK183 => ?_)
         refine condT kr ?_
         refine wp_skip ?_
         refine hK183 _ _ ?_
         refine wp_seq_k (fun K184 hK185 => ?_)
         refine blockK (fun B186 hx187 hn188 hr189 ho190 hp191 => ?_)
         refine wp_seq_k fun K193 hK194 => rl ?_
         refine seqL2 kr ?_
         refine nl (hK194 _ _ ?_)
         refine wp_seq_k (fun K195 hK196 => ?_)
         refine heldG (S := Sg t f174 ([(b38, .cells #[.int .i64 ((vt31.getD 0 default).Lo), .int .i64 ((vt31.getD 0 default).Hi), .bool ((vt31.getD 0 default).Unknown), .int .i64 ((vt31.getD 1 default).Lo), .int .i64 ((vt31.getD 1 default).Hi), .bool ((vt31.getD 1 default).Unknown), .int .i64 ((vt31.getD 2 default).Lo), .int .i64 ((vt31.getD 2 default).Hi), .bool ((vt31.getD 2 default).Unknown)] 81 (0, 0))] :: [(b23, .cells #[.int .i64 ((vt16.getD 0 default).Lo), .int .i64 ((vt16.getD 0 default).Hi), .bool ((vt16.getD 0 default).Unknown), .int .i64 ((vt16.getD 1 default).Lo), .int .i64 ((vt16.getD 1 default).Hi), .bool ((vt16.getD 1 default).Unknown), .int .i64 ((vt16.getD 2 default).Lo), .int .i64 ((vt16.getD 2 default).Hi), .bool ((vt16.getD 2 default).Unknown)] 81 (0, 0))] :: [(b10, .cells #[.int .i64 b2.X.Lo, .int .i64 b2.X.Hi, .bool b2.X.Unknown, .int .i64 b2.Y.Lo, .int .i64 b2.Y.Hi, .bool b2.Y.Unknown, .int .i64 b2.Z.Lo, .int .i64 b2.Z.Hi, .bool b2.Z.Unknown] 31 (0, 0))] :: [(b6, .cells #[.int .i64 a1.X.Lo, .int .i64 a1.X.Hi, .bool a1.X.Unknown, .int .i64 a1.Y.Lo, .int .i64 a1.Y.Hi, .bool a1.Y.Unknown, .int .i64 a1.Z.Lo, .int .i64 a1.Z.Hi, .bool a1.Z.Unknown] 31 (0, 0))] :: H) []) (n := 12) kr rfl HS177 ?_
         intro W197 HS198
         refine takeGL [0, 1] (n := 12) (fuel := 10) #[true, true, false, false, false, false, false, false, false, false, false, false] rfl kr kr kr (fun ch_ a_ w_ q_ => (fun ch_ a_ w_ q_ => hnp ch_ a_ w_ (hp77 ch_ a_ w_ q_)) ch_ a_ w_ (hp191 ch_ a_ w_ q_)) (Sg.g0 (Sx.of [] fL HS198)) ?_
         refine takeGQ 2 [] rfl kr kr kr kr kr kr (fun ch_ a_ w_ q_ => (fun ch_ a_ w_ q_ => hnp ch_ a_ w_ (hp77 ch_ a_ w_ q_)) ch_ a_ w_ (hp191 ch_ a_ w_ q_)) (Sg.g0 (Sx.of [] fL HS198)) (fun w_ hw_ => by obtain ⟨g_, hl_, hS_⟩ := hw_.st; exact run_loadN (n := 3) rfl Tryz.underlying29 rfl kr (kv (.pointer (some ⟨b23, 6, none⟩))) (cs := [.int .i64 ((vt16.getD 2 default).Lo), .int .i64 ((vt16.getD 2 default).Hi), .bool ((vt16.getD 2 default).Unknown)]) rfl (hS_.u1.cells 6 3 _ rfl)) ?_
         refine takeGL [3, 4] (n := 9) (fuel := 7) #[true, true, true, true, true, false, false, false, false, false, false, false] rfl kr kr kr (fun ch_ a_ w_ q_ => (fun ch_ a_ w_ q_ => hnp ch_ a_ w_ (hp77 ch_ a_ w_ q_)) ch_ a_ w_ (hp191 ch_ a_ w_ q_)) (Sg.g0 (Sx.of [] fL HS198)) ?_
         refine takeGQ 5 [] rfl kr kr kr kr kr kr (fun ch_ a_ w_ q_ => (fun ch_ a_ w_ q_ => hnp ch_ a_ w_ (hp77 ch_ a_ w_ q_)) ch_ a_ w_ (hp191 ch_ a_ w_ q_)) (Sg.g0 (Sx.of [] fL HS198)) (fun w_ hw_ => by obtain ⟨g_, hl_, hS_⟩ := hw_.st; exact run_loadN (n := 3) rfl Tryz.underlying29 rfl kr (kv (.pointer (some ⟨b38, 6, none⟩))) (cs := [.int .i64 ((vt31.getD 2 default).Lo), .int .i64 ((vt31.getD 2 default).Hi), .bool ((vt31.getD 2 default).Unknown)]) rfl (hS_.cells 6 3 _ rfl)) ?_
         have hq_ := bind_some h; clear h; obtain ⟨⟨vt199, vt200⟩, hc201, h⟩ := hq_
         refine takeGE 6 kr rfl kr (does_call (f := 32) (args := #[.agg #[.int .i64 ((vt16.getD 2 default).Lo), .int .i64 ((vt16.getD 2 default).Hi), .bool ((vt16.getD 2 default).Unknown)], .agg #[.int .i64 ((vt31.getD 2 default).Lo), .int .i64 ((vt31.getD 2 default).Hi), .bool ((vt31.getD 2 default).Unknown)]]) kr (query_product.calls k (vt16.getD 2 default) (vt31.getD 2 default) HS198 vt199 vt200 hc201) ?_)
         rintro _ W204 ⟨f202, rfl, L203, HS205⟩
         refine ⟨_, rfl, ?_⟩
         refine ⟨(Sg.g0 (Sx.of [] L203 HS205)), ?_⟩
         refine takeGL [7, 8, 9, 10, 11] (n := 5) (fuel := 0) #[true, true, true, true, true, true, true, true, true, true, true, true] rfl kr kr kr (fun ch_ a_ w_ q_ => (fun ch_ a_ w_ q_ => hnp ch_ a_ w_ (hp77 ch_ a_ w_ q_)) ch_ a_ w_ (hp191 ch_ a_ w_ q_)) (Sg.g0 (Sx.of [] L203 HS205)) ?_
         refine doneG kr ?_ _
         refine hK196 _ _ ?_
         refine wp_seq_k fun K206 hK207 => rl ?_
         refine seqL8 kr ?_
         refine nl (hK207 _ _ ?_)
         refine wp_seq_k fun K208 hK209 => rl ?_
         refine seqL2 kr ?_
         refine seqK rfl (does_run (run_loadN (n := 3) rfl Tryz.underlying29 rfl kr (kv (.pointer (some ⟨b23, 6, none⟩))) (cs := [.int .i64 ((vt16.getD 2 default).Lo), .int .i64 ((vt16.getD 2 default).Hi), .bool ((vt16.getD 2 default).Unknown)]) rfl (HS205.u1.cells 6 3 _ rfl)) ?_)
         have hq_ := bind_some h; clear h; obtain ⟨⟨vt210, vt211⟩, hc212, h⟩ := hq_
         refine seqK rfl (does_call (f := 33) (args := #[.agg #[.int .i64 ((vt16.getD 2 default).Lo), .int .i64 ((vt16.getD 2 default).Hi), .bool ((vt16.getD 2 default).Unknown)]]) kr (query_square.calls k (vt16.getD 2 default) HS205 vt210 vt211 hc212) ?_)
         rintro _ W215 ⟨f213, rfl, L214, HS216⟩
         refine ⟨_, rfl, ?_⟩
         refine seqL5 kr ?_
         refine nl (hK209 _ _ ?_)
         refine wp_seq_k fun K217 hK218 => rl ?_
         refine seqL8 kr ?_
         refine nl (hK218 _ _ ?_)
         refine wp_seq_k fun K219 hK220 => rl ?_
         refine seqL2 kr ?_
         refine seqK rfl (does_run (run_loadN (n := 3) rfl Tryz.underlying29 rfl kr (kv (.pointer (some ⟨b38, 6, none⟩))) (cs := [.int .i64 ((vt31.getD 2 default).Lo), .int .i64 ((vt31.getD 2 default).Hi), .bool ((vt31.getD 2 default).Unknown)]) rfl (HS216.cells 6 3 _ rfl)) ?_)
         have hq_ := bind_some h; clear h; obtain ⟨⟨vt221, vt222⟩, hc223, h⟩ := hq_
         refine seqK rfl (does_call (f := 33) (args := #[.agg #[.int .i64 ((vt31.getD 2 default).Lo), .int .i64 ((vt31.getD 2 default).Hi), .bool ((vt31.getD 2 default).Unknown)]]) kr (query_square.calls k (vt31.getD 2 default) HS216 vt221 vt222 hc223) ?_)
         rintro _ W226 ⟨f224, rfl, L225, HS227⟩
         refine ⟨_, rfl, ?_⟩
         refine seqL5 kr ?_
         refine nl (hK220 _ _ ?_)
         refine rl ?_
         refine seqL8 kr ?_
         refine nl ?_
         refine hn188 _ _ ?_
         refine hK185 _ _ ?_
         refine rl ?_
         refine seqL2 kr ?_
         refine nl (hK179 _ _ ?_)
         refine loopStepK (fun K228 hK229 => ?_)
         refine wp_seq_k fun K230 hK231 => rl ?_
         refine seqL1 kr ?_
         refine nl (hK231 _ _ ?_)
         refine wp_seq_k (fun K232 hK233 => ?_)
         refine condF kr ?_
         refine wp_exit ?_
         refine hx73 _ _ ?_
         refine hK69 _ _ ?_
         refine wp_seq_k fun K234 hK235 => rl ?_
         have hq_ := bind_some h; clear h; obtain ⟨vt236, hc237, h⟩ := hq_
         refine seqL2 kr ?_
         refine seqK rfl (does_call (f := 34) (args := #[.int .i64 (w64 ((w64 ((w64 (0 + vt111)) + vt161)) + vt211)), .int .i64 (w64 ((w64 ((w64 (0 + vt122)) + vt172)) + vt222))]) kr (num_SqrtMul.calls k (w64 ((w64 ((w64 (0 + vt111)) + vt161)) + vt211)) (w64 ((w64 ((w64 (0 + vt122)) + vt172)) + vt222)) HS227 vt236 hc237) ?_)
         rintro _ W240 ⟨f238, rfl, L239, HS241⟩
         refine ⟨_, rfl, ?_⟩
         refine seqL1 kr ?_
         refine nl (hK235 _ _ ?_)
         refine wp_seq_k (fun K242 hK243 => ?_)
         refine wp_seq_k fun K244 hK245 => rl ?_
         have hq_ := bind_some h; clear h; obtain ⟨vt246, hc247, h⟩ := hq_
         refine seqL2 kr ?_
         refine seqK rfl (does_call (f := 35) (args := #[.int .i64 vt236, .int .i64 vt236]) kr (num_Product.calls k vt236 vt236 HS241 vt246 hc247) ?_)
         rintro _ W250 ⟨f248, rfl, L249, HS251⟩
         refine ⟨_, rfl, ?_⟩
         have hq_ := bind_some h; clear h; obtain ⟨vt252, hc253, h⟩ := hq_
         refine seqL2 kr ?_
         refine seqK rfl (does_call (f := 35) (args := #[.int .i64 (w64 ((w64 ((w64 (0 + vt111)) + vt161)) + vt211)), .int .i64 (w64 ((w64 ((w64 (0 + vt122)) + vt172)) + vt222))]) kr (num_Product.calls k (w64 ((w64 ((w64 (0 + vt111)) + vt161)) + vt211)) (w64 ((w64 ((w64 (0 + vt122)) + vt172)) + vt222)) HS251 vt252 hc253) ?_)
         rintro _ W256 ⟨f254, rfl, L255, HS257⟩
         refine ⟨_, rfl, ?_⟩
         have hq_ := bind_some h; clear h; obtain ⟨vt258, hc259, h⟩ := hq_
         refine seqK rfl (does_call (f := 36) (args := #[.agg #[.int .i64 vt246.Hi, .int .u64 vt246.Lo], .agg #[.int .i64 vt252.Hi, .int .u64 vt252.Lo]]) kr (num_Wide_Cmp.calls k vt246 vt252 HS257 vt258 hc259) ?_)
         rintro _ W262 ⟨f260, rfl, L261, HS263⟩
         refine ⟨_, rfl, ?_⟩
         refine seqS1 (a' := ⟨#[(ag_Box a1), (ag_Box b2), iV cos3, pV b6 0, pV b10 0, uV, iV 0, pV b23 0, .bool vt17, pV b38 0, .bool vt32, iV (w64 ((w64 ((w64 (0 + vt99)) + vt149)) + vt199)), iV (w64 ((w64 ((w64 (0 + vt100)) + vt150)) + vt200)), iV (w64 ((w64 ((w64 (0 + vt110)) + vt160)) + vt210)), iV (w64 ((w64 ((w64 (0 + vt111)) + vt161)) + vt211)), iV (w64 ((w64 ((w64 (0 + vt121)) + vt171)) + vt221)), iV (w64 ((w64 ((w64 (0 + vt122)) + vt172)) + vt222)), iV 2, iV vt221, iV vt222, iV vt236, .tuple #[.agg #[iV ((vt16.getD 0 default).Lo), iV ((vt16.getD 0 default).Hi), .bool ((vt16.getD 0 default).Unknown), iV ((vt16.getD 1 default).Lo), iV ((vt16.getD 1 default).Hi), .bool ((vt16.getD 1 default).Unknown), iV ((vt16.getD 2 default).Lo), iV ((vt16.getD 2 default).Hi), .bool ((vt16.getD 2 default).Unknown)], .bool vt17], (ag_Box a1), .tuple #[.agg #[iV ((vt16.getD 0 default).Lo), iV ((vt16.getD 0 default).Hi), .bool ((vt16.getD 0 default).Unknown), iV ((vt16.getD 1 default).Lo), iV ((vt16.getD 1 default).Hi), .bool ((vt16.getD 1 default).Unknown), iV ((vt16.getD 2 default).Lo), iV ((vt16.getD 2 default).Hi), .bool ((vt16.getD 2 default).Unknown)], .bool vt17], .agg #[iV ((vt16.getD 0 default).Lo), iV ((vt16.getD 0 default).Hi), .bool ((vt16.getD 0 default).Unknown), iV ((vt16.getD 1 default).Lo), iV ((vt16.getD 1 default).Hi), .bool ((vt16.getD 1 default).Unknown), iV ((vt16.getD 2 default).Lo), iV ((vt16.getD 2 default).Hi), .bool ((vt16.getD 2 default).Unknown)], .bool vt17, .tuple #[.agg #[iV ((vt31.getD 0 default).Lo), iV ((vt31.getD 0 default).Hi), .bool ((vt31.getD 0 default).Unknown), iV ((vt31.getD 1 default).Lo), iV ((vt31.getD 1 default).Hi), .bool ((vt31.getD 1 default).Unknown), iV ((vt31.getD 2 default).Lo), iV ((vt31.getD 2 default).Hi), .bool ((vt31.getD 2 default).Unknown)], .bool vt32], (ag_Box b2), .tuple #[.agg #[iV ((vt31.getD 0 default).Lo), iV ((vt31.getD 0 default).Hi), .bool ((vt31.getD 0 default).Unknown), iV ((vt31.getD 1 default).Lo), iV ((vt31.getD 1 default).Hi), .bool ((vt31.getD 1 default).Unknown), iV ((vt31.getD 2 default).Lo), iV ((vt31.getD 2 default).Hi), .bool ((vt31.getD 2 default).Unknown)], .bool vt32], .agg #[iV ((vt31.getD 0 default).Lo), iV ((vt31.getD 0 default).Hi), .bool ((vt31.getD 0 default).Unknown), iV ((vt31.getD 1 default).Lo), iV ((vt31.getD 1 default).Hi), .bool ((vt31.getD 1 default).Unknown), iV ((vt31.getD 2 default).Lo), iV ((vt31.getD 2 default).Hi), .bool ((vt31.getD 2 default).Unknown)], .bool vt32, iV cos3, fV, fV, iV cos3, fV, fV, .bool vt17, fV, fV, .bool vt32, fV, fV, iV 3, fV, iV 2, .tuple #[iV vt199, iV vt200], iV 2, pV b23 6, (ag_Bound (vt16.getD 2 default)), iV 2, pV b38 6, (ag_Bound (vt31.getD 2 default)), .tuple #[iV vt199, iV vt200], iV vt199, iV vt200, iV (w64 ((w64 (0 + vt99)) + vt149)), iV vt199, iV (w64 ((w64 ((w64 (0 + vt99)) + vt149)) + vt199)), iV (w64 ((w64 (0 + vt100)) + vt150)), iV vt200, iV (w64 ((w64 ((w64 (0 + vt100)) + vt150)) + vt200)), .tuple #[iV vt210, iV vt211], iV 2, pV b23 6, (ag_Bound (vt16.getD 2 default)), .tuple #[iV vt210, iV vt211], iV vt210, iV vt211, iV (w64 ((w64 (0 + vt110)) + vt160)), iV vt210, iV (w64 ((w64 ((w64 (0 + vt110)) + vt160)) + vt210)), iV (w64 ((w64 (0 + vt111)) + vt161)), iV vt211, iV (w64 ((w64 ((w64 (0 + vt111)) + vt161)) + vt211)), .tuple #[iV vt221, iV vt222], iV 2, pV b38 6, (ag_Bound (vt31.getD 2 default)), .tuple #[iV vt221, iV vt222], iV vt221, iV vt222, iV (w64 ((w64 (0 + vt121)) + vt171)), iV vt221, iV (w64 ((w64 ((w64 (0 + vt121)) + vt171)) + vt221)), iV (w64 ((w64 (0 + vt122)) + vt172)), iV vt222, iV (w64 ((w64 ((w64 (0 + vt122)) + vt172)) + vt222)), iV 3, iV (w64 ((w64 ((w64 (0 + vt111)) + vt161)) + vt211)), iV (w64 ((w64 ((w64 (0 + vt122)) + vt172)) + vt222)), iV vt236, iV vt236, iV vt236, .agg #[iV vt246.Hi, .int .u64 vt246.Lo], iV (w64 ((w64 ((w64 (0 + vt111)) + vt161)) + vt211)), iV (w64 ((w64 ((w64 (0 + vt122)) + vt172)) + vt222)), .agg #[iV vt252.Hi, .int .u64 vt252.Lo], iV vt258, .bool (decide (vt258 < 0)), uV, uV, uV, uV, uV, uV, uV, uV, uV, uV, uV, uV, uV, uV, uV, uV, uV, uV, uV, uV, uV, uV, uV, uV, uV, uV, uV, uV], []⟩) kr ?_
         refine nl (hK245 _ _ ?_)
         have hq_ := bind_some h; clear h; obtain ⟨v264, hv272, h⟩ := hq_
         have J273 : ∀ (f266 : FM) (root271 : Int) (j270 : Nat → Value) (W268 : World) (a_ : Act), FM.le f260 f266 → some (root271) = some v264 → St t W268 f266 ([(b38, .cells #[.int .i64 ((vt31.getD 0 default).Lo), .int .i64 ((vt31.getD 0 default).Hi), .bool ((vt31.getD 0 default).Unknown), .int .i64 ((vt31.getD 1 default).Lo), .int .i64 ((vt31.getD 1 default).Hi), .bool ((vt31.getD 1 default).Unknown), .int .i64 ((vt31.getD 2 default).Lo), .int .i64 ((vt31.getD 2 default).Hi), .bool ((vt31.getD 2 default).Unknown)] 81 (0, 0))] :: [(b23, .cells #[.int .i64 ((vt16.getD 0 default).Lo), .int .i64 ((vt16.getD 0 default).Hi), .bool ((vt16.getD 0 default).Unknown), .int .i64 ((vt16.getD 1 default).Lo), .int .i64 ((vt16.getD 1 default).Hi), .bool ((vt16.getD 1 default).Unknown), .int .i64 ((vt16.getD 2 default).Lo), .int .i64 ((vt16.getD 2 default).Hi), .bool ((vt16.getD 2 default).Unknown)] 81 (0, 0))] :: [(b10, .cells #[.int .i64 b2.X.Lo, .int .i64 b2.X.Hi, .bool b2.X.Unknown, .int .i64 b2.Y.Lo, .int .i64 b2.Y.Hi, .bool b2.Y.Unknown, .int .i64 b2.Z.Lo, .int .i64 b2.Z.Hi, .bool b2.Z.Unknown] 31 (0, 0))] :: [(b6, .cells #[.int .i64 a1.X.Lo, .int .i64 a1.X.Hi, .bool a1.X.Unknown, .int .i64 a1.Y.Lo, .int .i64 a1.Y.Hi, .bool a1.Y.Unknown, .int .i64 a1.Z.Lo, .int .i64 a1.Z.Hi, .bool a1.Z.Unknown] 31 (0, 0))] :: H) → a_ = ⟨#[(ag_Box a1), (ag_Box b2), iV cos3, pV b6 0, pV b10 0, uV, iV 0, pV b23 0, .bool vt17, pV b38 0, .bool vt32, iV (w64 ((w64 ((w64 (0 + vt99)) + vt149)) + vt199)), iV (w64 ((w64 ((w64 (0 + vt100)) + vt150)) + vt200)), iV (w64 ((w64 ((w64 (0 + vt110)) + vt160)) + vt210)), iV (w64 ((w64 ((w64 (0 + vt111)) + vt161)) + vt211)), iV (w64 ((w64 ((w64 (0 + vt121)) + vt171)) + vt221)), iV (w64 ((w64 ((w64 (0 + vt122)) + vt172)) + vt222)), iV 2, iV vt221, iV vt222, iV root271, .tuple #[.agg #[iV ((vt16.getD 0 default).Lo), iV ((vt16.getD 0 default).Hi), .bool ((vt16.getD 0 default).Unknown), iV ((vt16.getD 1 default).Lo), iV ((vt16.getD 1 default).Hi), .bool ((vt16.getD 1 default).Unknown), iV ((vt16.getD 2 default).Lo), iV ((vt16.getD 2 default).Hi), .bool ((vt16.getD 2 default).Unknown)], .bool vt17], (ag_Box a1), .tuple #[.agg #[iV ((vt16.getD 0 default).Lo), iV ((vt16.getD 0 default).Hi), .bool ((vt16.getD 0 default).Unknown), iV ((vt16.getD 1 default).Lo), iV ((vt16.getD 1 default).Hi), .bool ((vt16.getD 1 default).Unknown), iV ((vt16.getD 2 default).Lo), iV ((vt16.getD 2 default).Hi), .bool ((vt16.getD 2 default).Unknown)], .bool vt17], .agg #[iV ((vt16.getD 0 default).Lo), iV ((vt16.getD 0 default).Hi), .bool ((vt16.getD 0 default).Unknown), iV ((vt16.getD 1 default).Lo), iV ((vt16.getD 1 default).Hi), .bool ((vt16.getD 1 default).Unknown), iV ((vt16.getD 2 default).Lo), iV ((vt16.getD 2 default).Hi), .bool ((vt16.getD 2 default).Unknown)], .bool vt17, .tuple #[.agg #[iV ((vt31.getD 0 default).Lo), iV ((vt31.getD 0 default).Hi), .bool ((vt31.getD 0 default).Unknown), iV ((vt31.getD 1 default).Lo), iV ((vt31.getD 1 default).Hi), .bool ((vt31.getD 1 default).Unknown), iV ((vt31.getD 2 default).Lo), iV ((vt31.getD 2 default).Hi), .bool ((vt31.getD 2 default).Unknown)], .bool vt32], (ag_Box b2), .tuple #[.agg #[iV ((vt31.getD 0 default).Lo), iV ((vt31.getD 0 default).Hi), .bool ((vt31.getD 0 default).Unknown), iV ((vt31.getD 1 default).Lo), iV ((vt31.getD 1 default).Hi), .bool ((vt31.getD 1 default).Unknown), iV ((vt31.getD 2 default).Lo), iV ((vt31.getD 2 default).Hi), .bool ((vt31.getD 2 default).Unknown)], .bool vt32], .agg #[iV ((vt31.getD 0 default).Lo), iV ((vt31.getD 0 default).Hi), .bool ((vt31.getD 0 default).Unknown), iV ((vt31.getD 1 default).Lo), iV ((vt31.getD 1 default).Hi), .bool ((vt31.getD 1 default).Unknown), iV ((vt31.getD 2 default).Lo), iV ((vt31.getD 2 default).Hi), .bool ((vt31.getD 2 default).Unknown)], .bool vt32, iV cos3, fV, fV, iV cos3, fV, fV, .bool vt17, fV, fV, .bool vt32, fV, fV, iV 3, fV, iV 2, .tuple #[iV vt199, iV vt200], iV 2, pV b23 6, (ag_Bound (vt16.getD 2 default)), iV 2, pV b38 6, (ag_Bound (vt31.getD 2 default)), .tuple #[iV vt199, iV vt200], iV vt199, iV vt200, iV (w64 ((w64 (0 + vt99)) + vt149)), iV vt199, iV (w64 ((w64 ((w64 (0 + vt99)) + vt149)) + vt199)), iV (w64 ((w64 (0 + vt100)) + vt150)), iV vt200, iV (w64 ((w64 ((w64 (0 + vt100)) + vt150)) + vt200)), .tuple #[iV vt210, iV vt211], iV 2, pV b23 6, (ag_Bound (vt16.getD 2 default)), .tuple #[iV vt210, iV vt211], iV vt210, iV vt211, iV (w64 ((w64 (0 + vt110)) + vt160)), iV vt210, iV (w64 ((w64 ((w64 (0 + vt110)) + vt160)) + vt210)), iV (w64 ((w64 (0 + vt111)) + vt161)), iV vt211, iV (w64 ((w64 ((w64 (0 + vt111)) + vt161)) + vt211)), .tuple #[iV vt221, iV vt222], iV 2, pV b38 6, (ag_Bound (vt31.getD 2 default)), .tuple #[iV vt221, iV vt222], iV vt221, iV vt222, iV (w64 ((w64 (0 + vt121)) + vt171)), iV vt221, iV (w64 ((w64 ((w64 (0 + vt121)) + vt171)) + vt221)), iV (w64 ((w64 (0 + vt122)) + vt172)), iV vt222, iV (w64 ((w64 ((w64 (0 + vt122)) + vt172)) + vt222)), iV 3, iV (w64 ((w64 ((w64 (0 + vt111)) + vt161)) + vt211)), iV (w64 ((w64 ((w64 (0 + vt122)) + vt172)) + vt222)), iV vt236, iV vt236, iV vt236, .agg #[iV vt246.Hi, .int .u64 vt246.Lo], iV (w64 ((w64 ((w64 (0 + vt111)) + vt161)) + vt211)), iV (w64 ((w64 ((w64 (0 + vt122)) + vt172)) + vt222)), .agg #[iV vt252.Hi, .int .u64 vt252.Lo], iV vt258, .bool (decide (vt258 < 0)), (j270 0), (j270 1), uV, uV, uV, uV, uV, uV, uV, uV, uV, uV, uV, uV, uV, uV, uV, uV, uV, uV, uV, uV, uV, uV, uV, uV, uV, uV], []⟩ → K242 a_ W268 := by
          intro f266 root271 j270 W268 a_ L267 hj274 HS269  hfr_; subst hfr_
          injection hj274 with hj274; subst hj274; try dsimp only at h
          refine hK243 _ _ ?_
          refine wp_seq_k (fun K275 hK276 => ?_)
          refine blockK (fun B277 hx278 hn279 hr280 ho281 hp282 => ?_)
          refine wp_seq_k fun K284 hK285 => rl ?_
          refine seqL3 kr ?_
          have hq_ := ite_some h; clear h; rcases hq_ with ⟨c286, h⟩ | ⟨c286, h⟩
          · have c286 : (w64 ((w64 ((w64 (0 + vt110)) + vt160)) + vt210)) > 0 := c286
            refine seqRwI 104 kr (decide_eq_true c286) ?_
            refine seqRwI 105 kr (decide_eq_true c286) ?_
            refine seqL4 kr ?_
            have hq_ := ite_some h; clear h; rcases hq_ with ⟨c287, h⟩ | ⟨c287, h⟩
            · have c287 : (w64 ((w64 ((w64 (0 + vt121)) + vt171)) + vt221)) > 0 := c287
              refine seqRwI 107 kr (decide_eq_true c287) ?_
              refine seqRwI 108 kr (decide_eq_true c287) ?_
              refine seqRwI 109 kr (decide_eq_true c287) ?_
              have hq_ := bind_some h; clear h; obtain ⟨vt288, hc289, h⟩ := hq_
              refine seqL1 kr ?_
              refine seqG kr (does_call (f := 35) (args := #[.int .i64 (w64 ((w64 ((w64 (0 + vt99)) + vt149)) + vt199)), .int .i64 1073741824]) kr (num_Product.calls k (w64 ((w64 ((w64 (0 + vt99)) + vt149)) + vt199)) 1073741824 HS269 vt288 hc289) ?_)
              rintro _ W292 ⟨f290, rfl, L291, HS293⟩
              refine ⟨_, rfl, ?_⟩
              have hq_ := bind_some h; clear h; obtain ⟨vt294, hc295, h⟩ := hq_
              refine seqL2 kr ?_
              refine seqG kr (does_call (f := 35) (args := #[.int .i64 cos3, .int .i64 root271]) kr (num_Product.calls k cos3 root271 HS293 vt294 hc295) ?_)
              rintro _ W298 ⟨f296, rfl, L297, HS299⟩
              refine ⟨_, rfl, ?_⟩
              have hq_ := bind_some h; clear h; obtain ⟨vt300, hc301, h⟩ := hq_
              refine seqG kr (does_call (f := 36) (args := #[.agg #[.int .i64 vt288.Hi, .int .u64 vt288.Lo], .agg #[.int .i64 vt294.Hi, .int .u64 vt294.Lo]]) kr (num_Wide_Cmp.calls k vt288 vt294 HS299 vt300 hc301) ?_)
              rintro _ W304 ⟨f302, rfl, L303, HS305⟩
              refine ⟨_, rfl, ?_⟩
              refine seqL3 kr ?_
              refine nl (hK285 _ _ ?_)
              have hq_ := ite_some h; clear h; rcases hq_ with ⟨c307, h⟩ | ⟨c307, h⟩
              · have c307 : vt300 ≥ 0 := c307
                refine wpRwI 102 kr (decide_eq_true c307) ?_
                refine wpRwI 116 kr (decide_eq_true c307) ?_
                refine wpRwI 117 kr (decide_eq_true c307) ?_
                refine condT kr ?_
                refine wp_seq_k fun K308 hK309 => rl ?_
                refine seqL1 kr ?_
                refine nl (hK309 _ _ ?_)
                refine wp_ret ?_
                refine hr280 _ _ ?_
                refine hret _ _ ?_
                refine ends_still (v := Value.int .i64 2) kr kr ?_
                have HS422 := HS305.drop
                have HS423 := HS422.drop
                have HS424 := HS423.drop
                have HS425 := HS424.drop
                injection h with h
                subst h
                exact ⟨f302, rfl, (L20.trans (L35.trans (L103.trans (L114.trans (L125.trans (L153.trans (L164.trans (L175.trans (L203.trans (L214.trans (L225.trans (L239.trans (L249.trans (L255.trans (L261.trans (L267.trans (L291.trans (L297.trans L303)))))))))))))))))), HS425⟩
              · have c307 : ¬ (vt300 ≥ 0) := c307
                refine wpRwI 102 kr (decide_eq_false c307) ?_
                refine wpRwI 116 kr (decide_eq_false c307) ?_
                refine wpRwI 117 kr (decide_eq_false c307) ?_
                refine condF kr ?_
                refine wp_seq_k fun K310 hK311 => rl ?_
                have hq_ := bind_some h; clear h; obtain ⟨vt312, hc313, h⟩ := hq_
                refine seqL1 kr ?_
                refine seqK rfl (does_call (f := 35) (args := #[.int .i64 (w64 ((w64 ((w64 (0 + vt100)) + vt150)) + vt200)), .int .i64 1073741824]) kr (num_Product.calls k (w64 ((w64 ((w64 (0 + vt100)) + vt150)) + vt200)) 1073741824 HS305 vt312 hc313) ?_)
                rintro _ W316 ⟨f314, rfl, L315, HS317⟩
                refine ⟨_, rfl, ?_⟩
                have hq_ := bind_some h; clear h; obtain ⟨vt318, hc319, h⟩ := hq_
                refine seqL3 kr ?_
                refine seqK rfl (does_call (f := 34) (args := #[.int .i64 (w64 ((w64 ((w64 (0 + vt110)) + vt160)) + vt210)), .int .i64 (w64 ((w64 ((w64 (0 + vt121)) + vt171)) + vt221))]) kr (num_SqrtMul.calls k (w64 ((w64 ((w64 (0 + vt110)) + vt160)) + vt210)) (w64 ((w64 ((w64 (0 + vt121)) + vt171)) + vt221)) HS317 vt318 hc319) ?_)
                rintro _ W322 ⟨f320, rfl, L321, HS323⟩
                refine ⟨_, rfl, ?_⟩
                have hq_ := bind_some h; clear h; obtain ⟨vt324, hc325, h⟩ := hq_
                refine seqK rfl (does_call (f := 35) (args := #[.int .i64 cos3, .int .i64 vt318]) kr (num_Product.calls k cos3 vt318 HS323 vt324 hc325) ?_)
                rintro _ W328 ⟨f326, rfl, L327, HS329⟩
                refine ⟨_, rfl, ?_⟩
                have hq_ := bind_some h; clear h; obtain ⟨vt330, hc331, h⟩ := hq_
                refine seqK rfl (does_call (f := 36) (args := #[.agg #[.int .i64 vt312.Hi, .int .u64 vt312.Lo], .agg #[.int .i64 vt324.Hi, .int .u64 vt324.Lo]]) kr (num_Wide_Cmp.calls k vt312 vt324 HS329 vt330 hc331) ?_)
                rintro _ W334 ⟨f332, rfl, L333, HS335⟩
                refine ⟨_, rfl, ?_⟩
                refine seqL2 kr ?_
                refine nl (hK311 _ _ ?_)
                have hq_ := ite_some h; clear h; rcases hq_ with ⟨c337, h⟩ | ⟨c337, h⟩
                · have c337 : vt330 < 0 := c337
                  refine wpRwI 118 kr (decide_eq_true c337) ?_
                  refine wpRwI 127 kr (decide_eq_true c337) ?_
                  refine condT kr ?_
                  refine wp_seq_k fun K338 hK339 => rl ?_
                  refine seqL1 kr ?_
                  refine nl (hK339 _ _ ?_)
                  refine wp_ret ?_
                  refine hr280 _ _ ?_
                  refine hret _ _ ?_
                  refine ends_still (v := Value.int .i64 0) kr kr ?_
                  have HS426 := HS335.drop
                  have HS427 := HS426.drop
                  have HS428 := HS427.drop
                  have HS429 := HS428.drop
                  injection h with h
                  subst h
                  exact ⟨f332, rfl, (L20.trans (L35.trans (L103.trans (L114.trans (L125.trans (L153.trans (L164.trans (L175.trans (L203.trans (L214.trans (L225.trans (L239.trans (L249.trans (L255.trans (L261.trans (L267.trans (L291.trans (L297.trans (L303.trans (L315.trans (L321.trans (L327.trans L333)))))))))))))))))))))), HS429⟩
                · have c337 : ¬ (vt330 < 0) := c337
                  refine wpRwI 118 kr (decide_eq_false c337) ?_
                  refine wpRwI 127 kr (decide_eq_false c337) ?_
                  refine condF kr ?_
                  refine wp_skip ?_
                  refine hn279 _ _ ?_
                  refine hK276 _ _ ?_
                  refine wp_seq_k fun K400 hK401 => rl ?_
                  refine seqL1 kr ?_
                  refine nl (hK401 _ _ ?_)
                  refine wp_ret ?_
                  refine hret _ _ ?_
                  refine ends_still (v := Value.int .i64 1) kr kr ?_
                  have HS438 := HS335.drop
                  have HS439 := HS438.drop
                  have HS440 := HS439.drop
                  have HS441 := HS440.drop
                  injection h with h
                  subst h
                  exact ⟨f332, rfl, (L20.trans (L35.trans (L103.trans (L114.trans (L125.trans (L153.trans (L164.trans (L175.trans (L203.trans (L214.trans (L225.trans (L239.trans (L249.trans (L255.trans (L261.trans (L267.trans (L291.trans (L297.trans (L303.trans (L315.trans (L321.trans (L327.trans L333)))))))))))))))))))))), HS441⟩
            · have c287 : ¬ ((w64 ((w64 ((w64 (0 + vt121)) + vt171)) + vt221)) > 0) := c287
              refine seqRwI 107 kr (decide_eq_false c287) ?_
              refine seqRwI 108 kr (decide_eq_false c287) ?_
              refine seqRwI 109 kr (decide_eq_false c287) ?_
              refine seqL9 kr ?_
              refine nl (hK285 _ _ ?_)
              refine condF kr ?_
              refine wp_seq_k fun K340 hK341 => rl ?_
              have hq_ := bind_some h; clear h; obtain ⟨vt342, hc343, h⟩ := hq_
              refine seqL1 kr ?_
              refine seqK rfl (does_call (f := 35) (args := #[.int .i64 (w64 ((w64 ((w64 (0 + vt100)) + vt150)) + vt200)), .int .i64 1073741824]) kr (num_Product.calls k (w64 ((w64 ((w64 (0 + vt100)) + vt150)) + vt200)) 1073741824 HS269 vt342 hc343) ?_)
              rintro _ W346 ⟨f344, rfl, L345, HS347⟩
              refine ⟨_, rfl, ?_⟩
              have hq_ := bind_some h; clear h; obtain ⟨vt348, hc349, h⟩ := hq_
              refine seqL3 kr ?_
              refine seqK rfl (does_call (f := 34) (args := #[.int .i64 (w64 ((w64 ((w64 (0 + vt110)) + vt160)) + vt210)), .int .i64 (w64 ((w64 ((w64 (0 + vt121)) + vt171)) + vt221))]) kr (num_SqrtMul.calls k (w64 ((w64 ((w64 (0 + vt110)) + vt160)) + vt210)) (w64 ((w64 ((w64 (0 + vt121)) + vt171)) + vt221)) HS347 vt348 hc349) ?_)
              rintro _ W352 ⟨f350, rfl, L351, HS353⟩
              refine ⟨_, rfl, ?_⟩
              have hq_ := bind_some h; clear h; obtain ⟨vt354, hc355, h⟩ := hq_
              refine seqK rfl (does_call (f := 35) (args := #[.int .i64 cos3, .int .i64 vt348]) kr (num_Product.calls k cos3 vt348 HS353 vt354 hc355) ?_)
              rintro _ W358 ⟨f356, rfl, L357, HS359⟩
              refine ⟨_, rfl, ?_⟩
              have hq_ := bind_some h; clear h; obtain ⟨vt360, hc361, h⟩ := hq_
              refine seqK rfl (does_call (f := 36) (args := #[.agg #[.int .i64 vt342.Hi, .int .u64 vt342.Lo], .agg #[.int .i64 vt354.Hi, .int .u64 vt354.Lo]]) kr (num_Wide_Cmp.calls k vt342 vt354 HS359 vt360 hc361) ?_)
              rintro _ W364 ⟨f362, rfl, L363, HS365⟩
              refine ⟨_, rfl, ?_⟩
              refine seqL2 kr ?_
              refine nl (hK341 _ _ ?_)
              have hq_ := ite_some h; clear h; rcases hq_ with ⟨c367, h⟩ | ⟨c367, h⟩
              · have c367 : vt360 < 0 := c367
                refine wpRwI 118 kr (decide_eq_true c367) ?_
                refine wpRwI 127 kr (decide_eq_true c367) ?_
                refine condT kr ?_
                refine wp_seq_k fun K368 hK369 => rl ?_
                refine seqL1 kr ?_
                refine nl (hK369 _ _ ?_)
                refine wp_ret ?_
                refine hr280 _ _ ?_
                refine hret _ _ ?_
                refine ends_still (v := Value.int .i64 0) kr kr ?_
                have HS430 := HS365.drop
                have HS431 := HS430.drop
                have HS432 := HS431.drop
                have HS433 := HS432.drop
                injection h with h
                subst h
                exact ⟨f362, rfl, (L20.trans (L35.trans (L103.trans (L114.trans (L125.trans (L153.trans (L164.trans (L175.trans (L203.trans (L214.trans (L225.trans (L239.trans (L249.trans (L255.trans (L261.trans (L267.trans (L345.trans (L351.trans (L357.trans L363))))))))))))))))))), HS433⟩
              · have c367 : ¬ (vt360 < 0) := c367
                refine wpRwI 118 kr (decide_eq_false c367) ?_
                refine wpRwI 127 kr (decide_eq_false c367) ?_
                refine condF kr ?_
                refine wp_skip ?_
                refine hn279 _ _ ?_
                refine hK276 _ _ ?_
                refine wp_seq_k fun K402 hK403 => rl ?_
                refine seqL1 kr ?_
                refine nl (hK403 _ _ ?_)
                refine wp_ret ?_
                refine hret _ _ ?_
                refine ends_still (v := Value.int .i64 1) kr kr ?_
                have HS442 := HS365.drop
                have HS443 := HS442.drop
                have HS444 := HS443.drop
                have HS445 := HS444.drop
                injection h with h
                subst h
                exact ⟨f362, rfl, (L20.trans (L35.trans (L103.trans (L114.trans (L125.trans (L153.trans (L164.trans (L175.trans (L203.trans (L214.trans (L225.trans (L239.trans (L249.trans (L255.trans (L261.trans (L267.trans (L345.trans (L351.trans (L357.trans L363))))))))))))))))))), HS445⟩
          · have c286 : ¬ ((w64 ((w64 ((w64 (0 + vt110)) + vt160)) + vt210)) > 0) := c286
            refine seqRwI 104 kr (decide_eq_false c286) ?_
            refine seqRwI 105 kr (decide_eq_false c286) ?_
            refine seqL13 kr ?_
            refine nl (hK285 _ _ ?_)
            refine condF kr ?_
            refine wp_seq_k fun K370 hK371 => rl ?_
            have hq_ := bind_some h; clear h; obtain ⟨vt372, hc373, h⟩ := hq_
            refine seqL1 kr ?_
            refine seqK rfl (does_call (f := 35) (args := #[.int .i64 (w64 ((w64 ((w64 (0 + vt100)) + vt150)) + vt200)), .int .i64 1073741824]) kr (num_Product.calls k (w64 ((w64 ((w64 (0 + vt100)) + vt150)) + vt200)) 1073741824 HS269 vt372 hc373) ?_)
            rintro _ W376 ⟨f374, rfl, L375, HS377⟩
            refine ⟨_, rfl, ?_⟩
            have hq_ := bind_some h; clear h; obtain ⟨vt378, hc379, h⟩ := hq_
            refine seqL3 kr ?_
            refine seqK rfl (does_call (f := 34) (args := #[.int .i64 (w64 ((w64 ((w64 (0 + vt110)) + vt160)) + vt210)), .int .i64 (w64 ((w64 ((w64 (0 + vt121)) + vt171)) + vt221))]) kr (num_SqrtMul.calls k (w64 ((w64 ((w64 (0 + vt110)) + vt160)) + vt210)) (w64 ((w64 ((w64 (0 + vt121)) + vt171)) + vt221)) HS377 vt378 hc379) ?_)
            rintro _ W382 ⟨f380, rfl, L381, HS383⟩
            refine ⟨_, rfl, ?_⟩
            have hq_ := bind_some h; clear h; obtain ⟨vt384, hc385, h⟩ := hq_
            refine seqK rfl (does_call (f := 35) (args := #[.int .i64 cos3, .int .i64 vt378]) kr (num_Product.calls k cos3 vt378 HS383 vt384 hc385) ?_)
            rintro _ W388 ⟨f386, rfl, L387, HS389⟩
            refine ⟨_, rfl, ?_⟩
            have hq_ := bind_some h; clear h; obtain ⟨vt390, hc391, h⟩ := hq_
            refine seqK rfl (does_call (f := 36) (args := #[.agg #[.int .i64 vt372.Hi, .int .u64 vt372.Lo], .agg #[.int .i64 vt384.Hi, .int .u64 vt384.Lo]]) kr (num_Wide_Cmp.calls k vt372 vt384 HS389 vt390 hc391) ?_)
            rintro _ W394 ⟨f392, rfl, L393, HS395⟩
            refine ⟨_, rfl, ?_⟩
            refine seqL2 kr ?_
            refine nl (hK371 _ _ ?_)
            have hq_ := ite_some h; clear h; rcases hq_ with ⟨c397, h⟩ | ⟨c397, h⟩
            · have c397 : vt390 < 0 := c397
              refine wpRwI 118 kr (decide_eq_true c397) ?_
              refine wpRwI 127 kr (decide_eq_true c397) ?_
              refine condT kr ?_
              refine wp_seq_k fun K398 hK399 => rl ?_
              refine seqL1 kr ?_
              refine nl (hK399 _ _ ?_)
              refine wp_ret ?_
              refine hr280 _ _ ?_
              refine hret _ _ ?_
              refine ends_still (v := Value.int .i64 0) kr kr ?_
              have HS434 := HS395.drop
              have HS435 := HS434.drop
              have HS436 := HS435.drop
              have HS437 := HS436.drop
              injection h with h
              subst h
              exact ⟨f392, rfl, (L20.trans (L35.trans (L103.trans (L114.trans (L125.trans (L153.trans (L164.trans (L175.trans (L203.trans (L214.trans (L225.trans (L239.trans (L249.trans (L255.trans (L261.trans (L267.trans (L375.trans (L381.trans (L387.trans L393))))))))))))))))))), HS437⟩
            · have c397 : ¬ (vt390 < 0) := c397
              refine wpRwI 118 kr (decide_eq_false c397) ?_
              refine wpRwI 127 kr (decide_eq_false c397) ?_
              refine condF kr ?_
              refine wp_skip ?_
              refine hn279 _ _ ?_
              refine hK276 _ _ ?_
              refine wp_seq_k fun K404 hK405 => rl ?_
              refine seqL1 kr ?_
              refine nl (hK405 _ _ ?_)
              refine wp_ret ?_
              refine hret _ _ ?_
              refine ends_still (v := Value.int .i64 1) kr kr ?_
              have HS446 := HS395.drop
              have HS447 := HS446.drop
              have HS448 := HS447.drop
              have HS449 := HS448.drop
              injection h with h
              subst h
              exact ⟨f392, rfl, (L20.trans (L35.trans (L103.trans (L114.trans (L125.trans (L153.trans (L164.trans (L175.trans (L203.trans (L214.trans (L225.trans (L239.trans (L249.trans (L255.trans (L261.trans (L267.trans (L375.trans (L381.trans (L387.trans L393))))))))))))))))))), HS449⟩
         clear h; have h := hv272; clear hv272
         have hq_ := ite_some h; clear h; rcases hq_ with ⟨c265, h⟩ | ⟨c265, h⟩
         · have c265 : vt258 < 0 := c265
           refine wpRwI 99 kr (decide_eq_true c265) ?_
           refine condT kr ?_
           refine rl ?_
           refine seqL3 kr ?_
           refine nl ?_
           refine fnRwI (F := K242) 99 (x := true) (v := (decide (vt258 < 0))) kr (Eq.symm (decide_eq_true c265)) ?_
           exact J273 f260 (w64 (vt236 + 1)) (jL [iV vt236, iV (w64 (vt236 + 1))]) W262 _ fL h HS263 kr
         · have c265 : ¬ (vt258 < 0) := c265
           refine wpRwI 99 kr (decide_eq_false c265) ?_
           refine condF kr ?_
           refine wp_skip ?_
           refine fnRwI (F := K242) 99 (x := false) (v := (decide (vt258 < 0))) kr (Eq.symm (decide_eq_false c265)) ?_
           exact J273 f260 vt236 (jL []) W262 _ fL h HS263 kr

end Go.Sp.Q5
