import Derived.Test.YtjnehahcpeiheaaGreatDoorProg
import Derived.Test.YtjnehahcpeiheaaGreatDoorSpCopy
import Derived.Test.YtjnehahcpeiheaaGreatDoorFB4
import Derived.Test.YtjnehahcpeiheaaGreatDoorSpStr
import Derived.Test.YtjnehahcpeiheaaGreatDoorSpLib
import Derived.Test.YtjnehahcpeiheaaGreatDoorSpBld
import Derived.Test.YtjnehahcpeiheaaGreatDoorConv
import Derived.Test.YtjnehahcpeiheaaGreatDoorLibs
import Derived.Test.YtjnehahcpeiheaaGreatDoorSpRound
import Derived.Test.YtjnehahcpeiheaaGreatDoorKB4n0
import Derived.Test.YtjnehahcpeiheaaGreatDoorKB4n1
import Derived.Test.YtjnehahcpeiheaaGreatDoorKB4n2
import Derived.Test.YtjnehahcpeiheaaGreatDoorKB4n3
import Derived.Test.YtjnehahcpeiheaaGreatDoorKB4n4
import Derived.Test.YtjnehahcpeiheaaGreatDoorKB4n5
namespace Go.Sp.B4
open Go Go.Sp Go.Proofs
set_option linter.unusedVariables false
attribute [local irreducible] wpList AnyL Code.wp Calls Does Code.wpIn wpListIn CallsIn bodyPostM LeavesInM
set_option maxRecDepth 100000 in
set_option maxHeartbeats 4000000 in
theorem slices_Equal_Card.calls (k : Nat) (A2 : Option Addr) (c3 : Nat) (A6 : Option Addr) (c7 : Nat) (s11 : List S_Card) (s25 : List S_Card) {t w : World} {f : FM} {H : List Seg} (HS : St t w f (H)) (HR4 : SlR ty_Card f A2 c3 s11) (HR8 : SlR ty_Card f A6 c7 s25) (rr1 : Bool) (h : slices_Equal_Card k s11 s25 = some rr1) :
    Calls Tryz.prog 33 #[.slice A2 s11.length c3, .slice A6 s25.length c7] w (fun e w' => ∃ (g : FM), e = .returned (Value.bool rr1) ∧ FM.le f g ∧ St t w' g (H)) := by
 unfold slices_Equal_Card at h
 refine enter Tryz.func33 rfl (tm := #[.slice A2 s11.length c3, .slice A6 s25.length c7, uV, uV, uV, uV, uV, uV, uV, uV, uV, uV, uV, uV, uV, uV, uV, uV, uV, uV, uV, uV, uV, uV, uV, uV]) kr ?_
 intro B hret hnor hnp
 refine wp_seq_k fun K9 hK10 => rl ?_
 refine seqL1 kr ?_
 refine nl (hK10 _ _ ?_)
 refine wp_seq_k (fun K11 hK12 => ?_)
 refine wp_seq_k fun K13 hK14 => rl ?_
 refine seqL5 kr ?_
 refine nl (hK14 _ _ ?_)
 have hq_ := ite_some h; clear h; rcases hq_ with ⟨c16, h⟩ | ⟨c16, h⟩
 · have c16 : (s11.length : Int) ≠ (s25.length : Int) := c16
   refine wpRwI 10 (x := ((s11.length : Int) != (s25.length : Int))) (v := true) kr (bne_iff_ne.mpr c16) ?_
   refine condT kr ?_
   refine wp_seq_k fun K17 hK18 => rl ?_
   refine seqL1 kr ?_
   refine nl (hK18 _ _ ?_)
   refine wp_ret ?_
   refine hret _ _ ?_
   refine ends_still (v := Value.bool false) kr kr ?_
   injection h with h
   subst h
   exact ⟨f, rfl, FM.le.refl _, HS⟩
 · have c16 : ¬ ((s11.length : Int) ≠ (s25.length : Int)) := c16
   refine wpRwI 10 (x := ((s11.length : Int) != (s25.length : Int))) (v := false) kr (bne_eq_false_iff_eq.mpr (Decidable.of_not_not c16)) ?_
   refine condF kr ?_
   refine wp_skip ?_
   refine hK12 _ _ ?_
   refine wp_seq_k (fun K19 hK20 => ?_)
   refine wp_seq_k fun K21 hK22 => rl ?_
   refine seqL3 kr ?_
   refine nl (hK22 _ _ ?_)
   refine blockK (fun B23 hx24 hn25 hr26 ho27 hp28 => ?_)
   have hq_ := bind_some h; clear h; obtain ⟨o29, hv83, h⟩ := hq_
   have JR85 : ∀ z_, some (Sum.inl z_) = some o29 → some z_ = some rr1 := by
    intro z_ e_; injection e_ with e_; subst e_; exact h
   have J84 : ∀ (f78 : FM) (j82 : Nat → Value) (W80 : World) (a_ : Act), FM.le f f78 → some (Sum.inr ()) = some o29 → St t W80 f78 (H) → a_ = ⟨#[.slice A2 s11.length c3, .slice A6 s25.length c7, uV, uV, (j82 0), (j82 1), .slice A2 s11.length c3, iV (s11.length : Int), .slice A6 s25.length c7, iV (s25.length : Int), fV, .slice A2 s11.length c3, iV (s11.length : Int), (j82 2), (j82 3), (j82 4), (j82 5), (j82 6), (j82 7), (j82 8), (j82 9), (j82 10), (j82 11), (j82 12), (j82 13), (j82 14)], []⟩ → K19 a_ W80 := by
    intro f78 j82 W80 a_ L79 hj86 HS81  hfr_; subst hfr_
    injection hj86 with hj86; subst hj86; try dsimp only at h
    simp only [Sum.elim_inr] at h
    refine hK20 _ _ ?_
    refine wp_seq_k fun K87 hK88 => rl ?_
    refine seqL1 kr ?_
    refine nl (hK88 _ _ ?_)
    refine wp_ret ?_
    refine hret _ _ ?_
    refine ends_still (v := Value.bool true) kr kr ?_
    injection h with h
    subst h
    exact ⟨f78, rfl, L79, HS81⟩
   clear h; have h := hv83; clear hv83
   refine loopK (fun n_ a_ w_ => ∃ (f33 : FM) (x38 : Int) (j37 : Nat → Value), FM.le f f33 ∧ St t w_ f33 (H) ∧ slices_Equal_Card.l0 k s11 s25 n_ x38 = some o29 ∧ a_ = ⟨#[.slice A2 s11.length c3, .slice A6 s25.length c7, uV, uV, (j37 0), (j37 1), .slice A2 s11.length c3, iV (s11.length : Int), .slice A6 s25.length c7, iV (s25.length : Int), fV, .slice A2 s11.length c3, iV (s11.length : Int), iV x38, (j37 2), (j37 3), (j37 4), (j37 5), (j37 6), (j37 7), (j37 8), (j37 9), (j37 10), (j37 11), (j37 12), (j37 13)], []⟩) k ⟨f, 0, (fun i_ => [Value.bool false, undef, undef, undef, undef, undef, undef, undef, undef, undef, undef, undef, undef, undef].getD i_ undef), (FM.le.refl _), HS, h, kr⟩ ?_
   clear h
   rintro n32 _ W35 ⟨f33, x38, j37, L34, HS36, h, rfl⟩ K30 hK31
   obtain _ | n32 := n32
   · exact nomatch h
   simp only [slices_Equal_Card.l0] at h
   refine wp_seq_k fun K39 hK40 => rl ?_
   refine seqL1 kr ?_
   refine nl (hK40 _ _ ?_)
   refine wp_seq_k (fun K41 hK42 => ?_)
   have hq_ := ite_some h; clear h; rcases hq_ with ⟨c44, h⟩ | ⟨c44, h⟩
   · have c44 : x38 < (s11.length : Int) := c44
     refine wpRwI 14 (x := (decide (x38 < (s11.length : Int)))) (v := true) kr (decide_eq_true c44) ?_
     refine condT kr ?_
     refine wp_skip ?_
     refine hK42 _ _ ?_
     refine wp_seq_k (fun K45 hK46 => ?_)
     refine blockK (fun B47 hx48 hn49 hr50 ho51 hp52 => ?_)
     refine wp_seq_k fun K54 hK55 => rl ?_
     refine seqL2 kr ?_
     refine nl (hK55 _ _ ?_)
     refine wp_seq_k (fun K56 hK57 => ?_)
     refine heldG (S := Sg t f33 (H) []) (n := 9) kr rfl HS36 ?_
     intro W58 HS59
     have hq_ := guard_some h; clear h; obtain ⟨c60, h⟩ := hq_
     have c60 : 0 ≤ x38 := c60
     obtain ⟨b64, of65, cs61, hA66, hr62, hc63⟩ := (HR4.mono L34).at (i := x38) c60 c44
     obtain rfl := hr62
     refine takeGL [0, 1] (n := 9) (fuel := 7) #[true, true, false, false, false, false, false, false, false] rfl kr kr kr (fun ch_ a_ w_ q_ => (fun ch_ a_ w_ q_ => hnp ch_ a_ w_ (hp28 ch_ a_ w_ q_)) ch_ a_ w_ (hp52 ch_ a_ w_ q_)) (Sg.g0 (Sx.of [] (FM.le.refl _) HS59)) ?_
     refine takeGQ 2 [] rfl kr kr kr kr kr kr (fun ch_ a_ w_ q_ => (fun ch_ a_ w_ q_ => hnp ch_ a_ w_ (hp28 ch_ a_ w_ q_)) ch_ a_ w_ (hp52 ch_ a_ w_ q_)) (Sg.g0 (Sx.of [] (FM.le.refl _) HS59)) (fun w_ hw_ => by obtain ⟨g_, hl_, hS_⟩ := hw_.st; exact run_indexE hA66 (sz := 4) rfl Tryz.underlying27 kr (kv (.slice A2 s11.length c3)) (kv (.int .i64 x38)) c60 c44 w_) ?_
     refine takeGQ 3 [] rfl kr kr kr kr kr kr (fun ch_ a_ w_ q_ => (fun ch_ a_ w_ q_ => hnp ch_ a_ w_ (hp28 ch_ a_ w_ q_)) ch_ a_ w_ (hp52 ch_ a_ w_ q_)) (Sg.g0 (Sx.of [] (FM.le.refl _) HS59)) (fun w_ hw_ => by obtain ⟨g_, hl_, hS_⟩ := hw_.st; exact run_loadN (n := 4) rfl Tryz.underlying51 rfl kr (kv (.pointer (some ⟨b64, of65 + (x38 : Int).toNat * 4, none⟩))) (cs := [.string ((rd s11 x38).Key), .string ((rd s11 x38).Value), .string ((rd s11 x38).Unit), .string ((rd s11 x38).Note)]) rfl (fun j_ hj_ => ((hc63 hl_ hS_) j_ hj_))) ?_
     have hq_ := guard_some h; clear h; obtain ⟨c67, h⟩ := hq_
     have c67 : x38 < (s25.length : Int) := c67
     obtain ⟨b71, of72, cs68, hA73, hr69, hc70⟩ := (HR8.mono L34).at (i := x38) c60 c67
     obtain rfl := hr69
     refine takeGL [4, 5] (n := 5) (fuel := 3) #[true, true, true, true, true, true, false, false, false] rfl kr kr kr (fun ch_ a_ w_ q_ => (fun ch_ a_ w_ q_ => hnp ch_ a_ w_ (hp28 ch_ a_ w_ q_)) ch_ a_ w_ (hp52 ch_ a_ w_ q_)) (Sg.g0 (Sx.of [] (FM.le.refl _) HS59)) ?_
     refine takeGQ 6 [] rfl kr kr kr kr kr kr (fun ch_ a_ w_ q_ => (fun ch_ a_ w_ q_ => hnp ch_ a_ w_ (hp28 ch_ a_ w_ q_)) ch_ a_ w_ (hp52 ch_ a_ w_ q_)) (Sg.g0 (Sx.of [] (FM.le.refl _) HS59)) (fun w_ hw_ => by obtain ⟨g_, hl_, hS_⟩ := hw_.st; exact run_indexE hA73 (sz := 4) rfl Tryz.underlying27 kr (kv (.slice A6 s25.length c7)) (kv (.int .i64 x38)) c60 c67 w_) ?_
     refine takeGQ 7 [] rfl kr kr kr kr kr kr (fun ch_ a_ w_ q_ => (fun ch_ a_ w_ q_ => hnp ch_ a_ w_ (hp28 ch_ a_ w_ q_)) ch_ a_ w_ (hp52 ch_ a_ w_ q_)) (Sg.g0 (Sx.of [] (FM.le.refl _) HS59)) (fun w_ hw_ => by obtain ⟨g_, hl_, hS_⟩ := hw_.st; exact run_loadN (n := 4) rfl Tryz.underlying51 rfl kr (kv (.pointer (some ⟨b71, of72 + (x38 : Int).toNat * 4, none⟩))) (cs := [.string ((rd s25 x38).Key), .string ((rd s25 x38).Value), .string ((rd s25 x38).Unit), .string ((rd s25 x38).Note)]) rfl (fun j_ hj_ => ((hc70 hl_ hS_) j_ hj_))) ?_
     refine takeGQ 8 [] rfl kr kr kr kr kr kr (fun ch_ a_ w_ q_ => (fun ch_ a_ w_ q_ => hnp ch_ a_ w_ (hp28 ch_ a_ w_ q_)) ch_ a_ w_ (hp52 ch_ a_ w_ q_)) (Sg.g0 (Sx.of [] (FM.le.refl _) HS59)) (fun w_ hw_ => by obtain ⟨g_, hl_, hS_⟩ := hw_.st; exact run_neS (b := ((((rd s11 x38).Key).toList == ((rd s25 x38).Key).toList) && ((((rd s11 x38).Value).toList == ((rd s25 x38).Value).toList) && ((((rd s11 x38).Unit).toList == ((rd s25 x38).Unit).toList) && ((((rd s11 x38).Note).toList == ((rd s25 x38).Note).toList) && true))))) rfl (kv (.agg #[.string ((rd s11 x38).Key), .string ((rd s11 x38).Value), .string ((rd s11 x38).Unit), .string ((rd s11 x38).Note)])) (kv (.agg #[.string ((rd s25 x38).Key), .string ((rd s25 x38).Value), .string ((rd s25 x38).Unit), .string ((rd s25 x38).Note)])) kr kr w_) ?_
     refine doneG kr ?_ _
     refine hK57 _ _ ?_
     have hq_ := ite_some h; clear h; rcases hq_ with ⟨c75, h⟩ | ⟨c75, h⟩
     · have c75 : (!((((rd s11 x38).Key).toList == ((rd s25 x38).Key).toList) && ((((rd s11 x38).Value).toList == ((rd s25 x38).Value).toList) && ((((rd s11 x38).Unit).toList == ((rd s25 x38).Unit).toList) && ((((rd s11 x38).Note).toList == ((rd s25 x38).Note).toList) && true))))) = true := c75
       refine wpRwI 24 (x := (!((((rd s11 x38).Key).toList == ((rd s25 x38).Key).toList) && ((((rd s11 x38).Value).toList == ((rd s25 x38).Value).toList) && ((((rd s11 x38).Unit).toList == ((rd s25 x38).Unit).toList) && ((((rd s11 x38).Note).toList == ((rd s25 x38).Note).toList) && true)))))) (v := true) kr c75 ?_
       refine condT kr ?_
       refine wp_seq_k fun K76 hK77 => rl ?_
       refine seqL1 kr ?_
       refine nl (hK77 _ _ ?_)
       refine wp_ret ?_
       refine hr50 _ _ ?_
       refine hr26 _ _ ?_
       refine hret _ _ ?_
       refine ends_still (v := Value.bool false) kr kr ?_
       replace h := JR85 _ h
       injection h with h
       subst h
       exact ⟨f33, rfl, L34, HS59⟩
     · have c75 : ¬ ((!((((rd s11 x38).Key).toList == ((rd s25 x38).Key).toList) && ((((rd s11 x38).Value).toList == ((rd s25 x38).Value).toList) && ((((rd s11 x38).Unit).toList == ((rd s25 x38).Unit).toList) && ((((rd s11 x38).Note).toList == ((rd s25 x38).Note).toList) && true))))) = true) := c75
       refine wpRwI 24 (x := (!((((rd s11 x38).Key).toList == ((rd s25 x38).Key).toList) && ((((rd s11 x38).Value).toList == ((rd s25 x38).Value).toList) && ((((rd s11 x38).Unit).toList == ((rd s25 x38).Unit).toList) && ((((rd s11 x38).Note).toList == ((rd s25 x38).Note).toList) && true)))))) (v := false) kr (Bool.eq_false_iff.mpr c75) ?_
       refine condF kr ?_
       refine wp_skip ?_
       refine hn49 _ _ ?_
       refine hK46 _ _ ?_
       refine rl ?_
       refine seqL2 kr ?_
       refine nl ?_
       refine hK31 n32 _ _ (Nat.lt_succ_self _) ?_
       exact ⟨f33, (w64 (x38 + 1)), (fun i_ => [(j37 0), Value.int .i64 x38, Value.bool true, Value.int .i64 x38, Value.slice A2 s11.length c3, Value.int .i64 x38, Value.pointer (some ⟨b64, of65 + (x38 : Int).toNat * 4, none⟩), (ag_Card (rd s11 x38)), Value.slice A6 s25.length c7, Value.int .i64 x38, Value.pointer (some ⟨b71, of72 + (x38 : Int).toNat * 4, none⟩), (ag_Card (rd s25 x38)), Value.bool false, Value.int .i64 (w64 (x38 + 1))].getD i_ undef), L34, HS59, h, kr⟩
   · have c44 : ¬ (x38 < (s11.length : Int)) := c44
     refine wpRwI 14 (x := (decide (x38 < (s11.length : Int)))) (v := false) kr (decide_eq_false c44) ?_
     refine condF kr ?_
     refine wp_exit ?_
     refine hx24 _ _ ?_
     exact J84 f33 (fun i_ => [(j37 0), (j37 1), Value.int .i64 x38, Value.bool false, (j37 3), (j37 4), (j37 5), (j37 6), (j37 7), (j37 8), (j37 9), (j37 10), (j37 11), (j37 12), (j37 13)].getD i_ undef) W35 _ L34 h HS36 kr

set_option maxRecDepth 100000 in
set_option maxHeartbeats 4000000 in
theorem slices_Equal_int.calls (k : Nat) (A2 : Option Addr) (c3 : Nat) (A6 : Option Addr) (c7 : Nat) (s11 : List Int) (s25 : List Int) {t w : World} {f : FM} {H : List Seg} (HS : St t w f (H)) (HR4 : SlR (tInt .i64) f A2 c3 s11) (HR8 : SlR (tInt .i64) f A6 c7 s25) (rr1 : Bool) (h : slices_Equal_int k s11 s25 = some rr1) :
    Calls Tryz.prog 13 #[.slice A2 s11.length c3, .slice A6 s25.length c7] w (fun e w' => ∃ (g : FM), e = .returned (Value.bool rr1) ∧ FM.le f g ∧ St t w' g (H)) := by
 unfold slices_Equal_int at h
 refine enter Tryz.func13 rfl (tm := #[.slice A2 s11.length c3, .slice A6 s25.length c7, uV, uV, uV, uV, uV, uV, uV, uV, uV, uV, uV, uV, uV, uV, uV, uV, uV, uV, uV, uV, uV, uV, uV, uV]) kr ?_
 intro B hret hnor hnp
 refine wp_seq_k fun K9 hK10 => rl ?_
 refine seqL1 kr ?_
 refine nl (hK10 _ _ ?_)
 refine wp_seq_k (fun K11 hK12 => ?_)
 refine wp_seq_k fun K13 hK14 => rl ?_
 refine seqL5 kr ?_
 refine nl (hK14 _ _ ?_)
 have hq_ := ite_some h; clear h; rcases hq_ with ⟨c16, h⟩ | ⟨c16, h⟩
 · have c16 : (s11.length : Int) ≠ (s25.length : Int) := c16
   refine wpRwI 10 (x := ((s11.length : Int) != (s25.length : Int))) (v := true) kr (bne_iff_ne.mpr c16) ?_
   refine condT kr ?_
   refine wp_seq_k fun K17 hK18 => rl ?_
   refine seqL1 kr ?_
   refine nl (hK18 _ _ ?_)
   refine wp_ret ?_
   refine hret _ _ ?_
   refine ends_still (v := Value.bool false) kr kr ?_
   injection h with h
   subst h
   exact ⟨f, rfl, FM.le.refl _, HS⟩
 · have c16 : ¬ ((s11.length : Int) ≠ (s25.length : Int)) := c16
   refine wpRwI 10 (x := ((s11.length : Int) != (s25.length : Int))) (v := false) kr (bne_eq_false_iff_eq.mpr (Decidable.of_not_not c16)) ?_
   refine condF kr ?_
   refine wp_skip ?_
   refine hK12 _ _ ?_
   refine wp_seq_k (fun K19 hK20 => ?_)
   refine wp_seq_k fun K21 hK22 => rl ?_
   refine seqL3 kr ?_
   refine nl (hK22 _ _ ?_)
   refine blockK (fun B23 hx24 hn25 hr26 ho27 hp28 => ?_)
   have hq_ := bind_some h; clear h; obtain ⟨o29, hv83, h⟩ := hq_
   have JR85 : ∀ z_, some (Sum.inl z_) = some o29 → some z_ = some rr1 := by
    intro z_ e_; injection e_ with e_; subst e_; exact h
   have J84 : ∀ (f78 : FM) (j82 : Nat → Value) (W80 : World) (a_ : Act), FM.le f f78 → some (Sum.inr ()) = some o29 → St t W80 f78 (H) → a_ = ⟨#[.slice A2 s11.length c3, .slice A6 s25.length c7, uV, uV, (j82 0), (j82 1), .slice A2 s11.length c3, iV (s11.length : Int), .slice A6 s25.length c7, iV (s25.length : Int), fV, .slice A2 s11.length c3, iV (s11.length : Int), (j82 2), (j82 3), (j82 4), (j82 5), (j82 6), (j82 7), (j82 8), (j82 9), (j82 10), (j82 11), (j82 12), (j82 13), (j82 14)], []⟩ → K19 a_ W80 := by
    intro f78 j82 W80 a_ L79 hj86 HS81  hfr_; subst hfr_
    injection hj86 with hj86; subst hj86; try dsimp only at h
    simp only [Sum.elim_inr] at h
    refine hK20 _ _ ?_
    refine wp_seq_k fun K87 hK88 => rl ?_
    refine seqL1 kr ?_
    refine nl (hK88 _ _ ?_)
    refine wp_ret ?_
    refine hret _ _ ?_
    refine ends_still (v := Value.bool true) kr kr ?_
    injection h with h
    subst h
    exact ⟨f78, rfl, L79, HS81⟩
   clear h; have h := hv83; clear hv83
   refine loopK (fun n_ a_ w_ => ∃ (f33 : FM) (x38 : Int) (j37 : Nat → Value), FM.le f f33 ∧ St t w_ f33 (H) ∧ slices_Equal_int.l0 k s11 s25 n_ x38 = some o29 ∧ a_ = ⟨#[.slice A2 s11.length c3, .slice A6 s25.length c7, uV, uV, (j37 0), (j37 1), .slice A2 s11.length c3, iV (s11.length : Int), .slice A6 s25.length c7, iV (s25.length : Int), fV, .slice A2 s11.length c3, iV (s11.length : Int), iV x38, (j37 2), (j37 3), (j37 4), (j37 5), (j37 6), (j37 7), (j37 8), (j37 9), (j37 10), (j37 11), (j37 12), (j37 13)], []⟩) k ⟨f, 0, (fun i_ => [Value.bool false, undef, undef, undef, undef, undef, undef, undef, undef, undef, undef, undef, undef, undef].getD i_ undef), (FM.le.refl _), HS, h, kr⟩ ?_
   clear h
   rintro n32 _ W35 ⟨f33, x38, j37, L34, HS36, h, rfl⟩ K30 hK31
   obtain _ | n32 := n32
   · exact nomatch h
   simp only [slices_Equal_int.l0] at h
   refine wp_seq_k fun K39 hK40 => rl ?_
   refine seqL1 kr ?_
   refine nl (hK40 _ _ ?_)
   refine wp_seq_k (fun K41 hK42 => ?_)
   have hq_ := ite_some h; clear h; rcases hq_ with ⟨c44, h⟩ | ⟨c44, h⟩
   · have c44 : x38 < (s11.length : Int) := c44
     refine wpRwI 14 (x := (decide (x38 < (s11.length : Int)))) (v := true) kr (decide_eq_true c44) ?_
     refine condT kr ?_
     refine wp_skip ?_
     refine hK42 _ _ ?_
     refine wp_seq_k (fun K45 hK46 => ?_)
     refine blockK (fun B47 hx48 hn49 hr50 ho51 hp52 => ?_)
     refine wp_seq_k fun K54 hK55 => rl ?_
     refine seqL2 kr ?_
     refine nl (hK55 _ _ ?_)
     refine wp_seq_k (fun K56 hK57 => ?_)
     refine heldG (S := Sg t f33 (H) []) (n := 9) kr rfl HS36 ?_
     intro W58 HS59
     have hq_ := guard_some h; clear h; obtain ⟨c60, h⟩ := hq_
     have c60 : 0 ≤ x38 := c60
     obtain ⟨b64, of65, cs61, hA66, hr62, hc63⟩ := (HR4.mono L34).at (i := x38) c60 c44
     obtain rfl := hr62
     refine takeGL [0, 1] (n := 9) (fuel := 7) #[true, true, false, false, false, false, false, false, false] rfl kr kr kr (fun ch_ a_ w_ q_ => (fun ch_ a_ w_ q_ => hnp ch_ a_ w_ (hp28 ch_ a_ w_ q_)) ch_ a_ w_ (hp52 ch_ a_ w_ q_)) (Sg.g0 (Sx.of [] (FM.le.refl _) HS59)) ?_
     refine takeGQ 2 [] rfl kr kr kr kr kr kr (fun ch_ a_ w_ q_ => (fun ch_ a_ w_ q_ => hnp ch_ a_ w_ (hp28 ch_ a_ w_ q_)) ch_ a_ w_ (hp52 ch_ a_ w_ q_)) (Sg.g0 (Sx.of [] (FM.le.refl _) HS59)) (fun w_ hw_ => by obtain ⟨g_, hl_, hS_⟩ := hw_.st; exact run_indexE hA66 (sz := 1) rfl Tryz.underlying22 kr (kv (.slice A2 s11.length c3)) (kv (.int .i64 x38)) c60 c44 w_) ?_
     refine takeGQ 3 [] rfl kr kr kr kr kr kr (fun ch_ a_ w_ q_ => (fun ch_ a_ w_ q_ => hnp ch_ a_ w_ (hp28 ch_ a_ w_ q_)) ch_ a_ w_ (hp52 ch_ a_ w_ q_)) (Sg.g0 (Sx.of [] (FM.le.refl _) HS59)) (fun w_ hw_ => by obtain ⟨g_, hl_, hS_⟩ := hw_.st; exact run_load rfl Tryz.underlying3 rfl (kv (.pointer (some ⟨b64, of65 + (x38 : Int).toNat * 1, none⟩))) ((hc63 hl_ hS_) 0 (by decide))) ?_
     have hq_ := guard_some h; clear h; obtain ⟨c67, h⟩ := hq_
     have c67 : x38 < (s25.length : Int) := c67
     obtain ⟨b71, of72, cs68, hA73, hr69, hc70⟩ := (HR8.mono L34).at (i := x38) c60 c67
     obtain rfl := hr69
     refine takeGL [4, 5] (n := 5) (fuel := 3) #[true, true, true, true, true, true, false, false, false] rfl kr kr kr (fun ch_ a_ w_ q_ => (fun ch_ a_ w_ q_ => hnp ch_ a_ w_ (hp28 ch_ a_ w_ q_)) ch_ a_ w_ (hp52 ch_ a_ w_ q_)) (Sg.g0 (Sx.of [] (FM.le.refl _) HS59)) ?_
     refine takeGQ 6 [] rfl kr kr kr kr kr kr (fun ch_ a_ w_ q_ => (fun ch_ a_ w_ q_ => hnp ch_ a_ w_ (hp28 ch_ a_ w_ q_)) ch_ a_ w_ (hp52 ch_ a_ w_ q_)) (Sg.g0 (Sx.of [] (FM.le.refl _) HS59)) (fun w_ hw_ => by obtain ⟨g_, hl_, hS_⟩ := hw_.st; exact run_indexE hA73 (sz := 1) rfl Tryz.underlying22 kr (kv (.slice A6 s25.length c7)) (kv (.int .i64 x38)) c60 c67 w_) ?_
     refine takeGQ 7 [] rfl kr kr kr kr kr kr (fun ch_ a_ w_ q_ => (fun ch_ a_ w_ q_ => hnp ch_ a_ w_ (hp28 ch_ a_ w_ q_)) ch_ a_ w_ (hp52 ch_ a_ w_ q_)) (Sg.g0 (Sx.of [] (FM.le.refl _) HS59)) (fun w_ hw_ => by obtain ⟨g_, hl_, hS_⟩ := hw_.st; exact run_load rfl Tryz.underlying3 rfl (kv (.pointer (some ⟨b71, of72 + (x38 : Int).toNat * 1, none⟩))) ((hc70 hl_ hS_) 0 (by decide))) ?_
     refine takeGL [8] (n := 1) (fuel := 0) #[true, true, true, true, true, true, true, true, true] rfl kr kr kr (fun ch_ a_ w_ q_ => (fun ch_ a_ w_ q_ => hnp ch_ a_ w_ (hp28 ch_ a_ w_ q_)) ch_ a_ w_ (hp52 ch_ a_ w_ q_)) (Sg.g0 (Sx.of [] (FM.le.refl _) HS59)) ?_
     refine doneG kr ?_ _
     refine hK57 _ _ ?_
     have hq_ := ite_some h; clear h; rcases hq_ with ⟨c75, h⟩ | ⟨c75, h⟩
     · have c75 : (rd s11 x38) ≠ (rd s25 x38) := c75
       refine wpRwI 24 (x := ((rd s11 x38) != (rd s25 x38))) (v := true) kr (bne_iff_ne.mpr c75) ?_
       refine condT kr ?_
       refine wp_seq_k fun K76 hK77 => rl ?_
       refine seqL1 kr ?_
       refine nl (hK77 _ _ ?_)
       refine wp_ret ?_
       refine hr50 _ _ ?_
       refine hr26 _ _ ?_
       refine hret _ _ ?_
       refine ends_still (v := Value.bool false) kr kr ?_
       replace h := JR85 _ h
       injection h with h
       subst h
       exact ⟨f33, rfl, L34, HS59⟩
     · have c75 : ¬ ((rd s11 x38) ≠ (rd s25 x38)) := c75
       refine wpRwI 24 (x := ((rd s11 x38) != (rd s25 x38))) (v := false) kr (bne_eq_false_iff_eq.mpr (Decidable.of_not_not c75)) ?_
       refine condF kr ?_
       refine wp_skip ?_
       refine hn49 _ _ ?_
       refine hK46 _ _ ?_
       refine rl ?_
       refine seqL2 kr ?_
       refine nl ?_
       refine hK31 n32 _ _ (Nat.lt_succ_self _) ?_
       exact ⟨f33, (w64 (x38 + 1)), (fun i_ => [(j37 0), Value.int .i64 x38, Value.bool true, Value.int .i64 x38, Value.slice A2 s11.length c3, Value.int .i64 x38, Value.pointer (some ⟨b64, of65 + (x38 : Int).toNat * 1, none⟩), Value.int .i64 (rd s11 x38), Value.slice A6 s25.length c7, Value.int .i64 x38, Value.pointer (some ⟨b71, of72 + (x38 : Int).toNat * 1, none⟩), Value.int .i64 (rd s25 x38), Value.bool false, Value.int .i64 (w64 (x38 + 1))].getD i_ undef), L34, HS59, h, kr⟩
   · have c44 : ¬ (x38 < (s11.length : Int)) := c44
     refine wpRwI 14 (x := (decide (x38 < (s11.length : Int)))) (v := false) kr (decide_eq_false c44) ?_
     refine condF kr ?_
     refine wp_exit ?_
     refine hx24 _ _ ?_
     exact J84 f33 (fun i_ => [(j37 0), (j37 1), Value.int .i64 x38, Value.bool false, (j37 3), (j37 4), (j37 5), (j37 6), (j37 7), (j37 8), (j37 9), (j37 10), (j37 11), (j37 12), (j37 13)].getD i_ undef) W35 _ L34 h HS36 kr

set_option maxRecDepth 100000 in
set_option maxHeartbeats 4000000 in
theorem spykeep3_same.calls (k : Nat) (A2 : Option Addr) (c3 : Nat) (A5 : Option Addr) (c6 : Nat) (A9 : Option Addr) (c10 : Nat) (A12 : Option Addr) (c13 : Nat) (vf1 : S_Frame) (vg8 : S_Frame) {t w : World} {f : FM} {H : List Seg} (HS : St t w f (H)) (HR4 : SlR ty_Card f A2 c3 vf1.Cards) (HR7 : SlR (tInt .i64) f A5 c6 vf1.Counts) (HR11 : SlR ty_Card f A9 c10 vg8.Cards) (HR14 : SlR (tInt .i64) f A12 c13 vg8.Counts) (rr1 : Bool) (h : spykeep3_same k vf1 vg8 = some rr1) :
    Calls Tryz.prog 15 #[.agg #[.int .i64 vf1.W, .int .i64 vf1.H, .slice A2 vf1.Cards.length c3, .slice A5 vf1.Counts.length c6], .agg #[.int .i64 vg8.W, .int .i64 vg8.H, .slice A9 vg8.Cards.length c10, .slice A12 vg8.Counts.length c13]] w (fun e w' => ∃ (g : FM), e = .returned (Value.bool rr1) ∧ FM.le f g ∧ St t w' g (H)) := by
 unfold spykeep3_same at h
 refine enter Tryz.func15 rfl (tm := #[(ag_Frame vf1 A2 c3 A5 c6), (ag_Frame vg8 A9 c10 A12 c13), uV, uV, uV, uV, uV, uV, uV, uV, uV, uV, uV, uV, uV, uV, uV, uV, uV, uV, uV, uV, uV, uV, uV, uV, uV, uV, uV, uV, uV]) kr ?_
 intro B hret hnor hnp
 refine wp_seq_k fun K15 hK16 => rl ?_
 refine seqK rfl (does_box (cs := #[.int .i64 vf1.W, .int .i64 vf1.H, .slice A2 vf1.Cards.length c3, .slice A5 vf1.Counts.length c6]) rfl (kv (.agg #[.int .i64 vf1.W, .int .i64 vf1.H, .slice A2 vf1.Cards.length c3, .slice A5 vf1.Counts.length c6])) rfl HS ?_)
 intro b17 W18 HS19
 refine seqK rfl (does_box (cs := #[.int .i64 vg8.W, .int .i64 vg8.H, .slice A9 vg8.Cards.length c10, .slice A12 vg8.Counts.length c13]) rfl (kv (.agg #[.int .i64 vg8.W, .int .i64 vg8.H, .slice A9 vg8.Cards.length c10, .slice A12 vg8.Counts.length c13])) rfl HS19 ?_)
 intro b21 W22 HS23
 refine seqL1 kr ?_
 refine nl (hK16 _ _ ?_)
 refine wp_seq_k fun K25 hK26 => rl ?_
 refine seqL1 kr ?_
 refine seqK rfl (does_run (run_load rfl Tryz.underlying3 rfl (kv (.pointer (some ⟨b17, 0, none⟩))) (HS23.u1.cell 0)) ?_)
 refine seqL1 kr ?_
 refine seqK rfl (does_run (run_load rfl Tryz.underlying3 rfl (kv (.pointer (some ⟨b21, 0, none⟩))) (HS23.cell 0)) ?_)
 refine seqL2 kr ?_
 have hq_ := ite_some h; clear h; rcases hq_ with ⟨c27, h⟩ | ⟨c27, h⟩
 · have c27 : vf1.W = vg8.W := c27
   refine seqRwI 9 (x := (vf1.W == vg8.W)) (v := true) kr (beq_iff_eq.mpr c27) ?_
   refine seqRwI 10 (x := (vf1.W == vg8.W)) (v := true) kr (beq_iff_eq.mpr c27) ?_
   refine seqL1 kr ?_
   refine seqG kr (does_run (run_load rfl Tryz.underlying3 rfl (kv (.pointer (some ⟨b17, 1, none⟩))) (HS23.u1.cell 1)) ?_)
   refine seqL1 kr ?_
   refine seqG kr (does_run (run_load rfl Tryz.underlying3 rfl (kv (.pointer (some ⟨b21, 1, none⟩))) (HS23.cell 1)) ?_)
   refine seqL3 kr ?_
   have hq_ := ite_some h; clear h; rcases hq_ with ⟨c28, h⟩ | ⟨c28, h⟩
   · have c28 : vf1.H = vg8.H := c28
     refine seqRwI 15 (x := (vf1.H == vg8.H)) (v := true) kr (beq_iff_eq.mpr c28) ?_
     refine seqRwI 16 (x := (vf1.H == vg8.H)) (v := true) kr (beq_iff_eq.mpr c28) ?_
     refine seqRwI 17 (x := (vf1.H == vg8.H)) (v := true) kr (beq_iff_eq.mpr c28) ?_
     refine seqL1 kr ?_
     refine seqG kr (does_run (run_load rfl Tryz.underlying27 rfl (kv (.pointer (some ⟨b17, 2, none⟩))) (HS23.u1.cell 2)) ?_)
     refine seqL1 kr ?_
     refine seqG kr (does_run (run_load rfl Tryz.underlying27 rfl (kv (.pointer (some ⟨b21, 2, none⟩))) (HS23.cell 2)) ?_)
     have hq_ := bind_some h; clear h; obtain ⟨vt29, hc30, h⟩ := hq_
     refine seqG kr (does_call (f := 33) (args := #[.slice A2 vf1.Cards.length c3, .slice A9 vg8.Cards.length c10]) kr (slices_Equal_Card.calls k A2 c3 A9 c10 vf1.Cards vg8.Cards HS23 HR4 HR11 vt29 hc30) ?_)
     rintro _ W33 ⟨f31, rfl, L32, HS34⟩
     refine ⟨_, rfl, ?_⟩
     refine seqL2 kr ?_
     have hq_ := ite_some h; clear h; rcases hq_ with ⟨c35, h⟩ | ⟨c35, h⟩
     · have c35 : vt29 = true := c35
       refine seqRwI 22 (x := vt29) (v := true) kr c35 ?_
       refine seqRwI 23 (x := vt29) (v := true) kr c35 ?_
       refine seqRwI 24 (x := vt29) (v := true) kr c35 ?_
       refine seqL1 kr ?_
       refine seqG kr (does_run (run_load rfl Tryz.underlying22 rfl (kv (.pointer (some ⟨b17, 3, none⟩))) (HS34.u1.cell 3)) ?_)
       refine seqL1 kr ?_
       refine seqG kr (does_run (run_load rfl Tryz.underlying22 rfl (kv (.pointer (some ⟨b21, 3, none⟩))) (HS34.cell 3)) ?_)
       have hq_ := bind_some h; clear h; obtain ⟨vt36, hc37, h⟩ := hq_
       refine seqG kr (does_call (f := 13) (args := #[.slice A5 vf1.Counts.length c6, .slice A12 vg8.Counts.length c13]) kr (slices_Equal_int.calls k A5 c6 A12 c13 vf1.Counts vg8.Counts HS34 (HR7.mono L32) (HR14.mono L32) vt36 hc37) ?_)
       rintro _ W40 ⟨f38, rfl, L39, HS41⟩
       refine ⟨_, rfl, ?_⟩
       refine seqL2 kr ?_
       refine nl (hK26 _ _ ?_)
       refine wp_ret ?_
       refine hret _ _ ?_
       refine ends_still (v := Value.bool vt36) kr kr ?_
       have HS42 := HS41.drop
       have HS43 := HS42.drop
       injection h with h
       subst h
       exact ⟨f38, rfl, (L32.trans L39), HS43⟩
     · have c35 : ¬ (vt29 = true) := c35
       refine seqRwI 22 (x := vt29) (v := false) kr (Bool.eq_false_iff.mpr c35) ?_
       refine seqRwI 23 (x := vt29) (v := false) kr (Bool.eq_false_iff.mpr c35) ?_
       refine seqRwI 24 (x := vt29) (v := false) kr (Bool.eq_false_iff.mpr c35) ?_
       refine seqL7 kr ?_
       refine nl (hK26 _ _ ?_)
       refine wp_ret ?_
       refine hret _ _ ?_
       refine ends_still (v := Value.bool false) kr kr ?_
       have HS44 := HS34.drop
       have HS45 := HS44.drop
       injection h with h
       subst h
       exact ⟨f31, rfl, L32, HS45⟩
   · have c28 : ¬ (vf1.H = vg8.H) := c28
     refine seqRwI 15 (x := (vf1.H == vg8.H)) (v := false) kr (beq_eq_false_iff_ne.mpr c28) ?_
     refine seqRwI 16 (x := (vf1.H == vg8.H)) (v := false) kr (beq_eq_false_iff_ne.mpr c28) ?_
     refine seqRwI 17 (x := (vf1.H == vg8.H)) (v := false) kr (beq_eq_false_iff_ne.mpr c28) ?_
     refine seqL14 kr ?_
     refine nl (hK26 _ _ ?_)
     refine wp_ret ?_
     refine hret _ _ ?_
     refine ends_still (v := Value.bool false) kr kr ?_
     have HS46 := HS23.drop
     have HS47 := HS46.drop
     injection h with h
     subst h
     exact ⟨f, rfl, FM.le.refl _, HS47⟩
 · have c27 : ¬ (vf1.W = vg8.W) := c27
   refine seqRwI 9 (x := (vf1.W == vg8.W)) (v := false) kr (beq_eq_false_iff_ne.mpr c27) ?_
   refine seqRwI 10 (x := (vf1.W == vg8.W)) (v := false) kr (beq_eq_false_iff_ne.mpr c27) ?_
   refine seqL21 kr ?_
   refine nl (hK26 _ _ ?_)
   refine wp_ret ?_
   refine hret _ _ ?_
   refine ends_still (v := Value.bool false) kr kr ?_
   have HS48 := HS23.drop
   have HS49 := HS48.drop
   injection h with h
   subst h
   exact ⟨f, rfl, FM.le.refl _, HS49⟩

set_option maxRecDepth 100000 in
set_option maxHeartbeats 4000000 in
theorem bytes_Equal.calls (k : Nat) (A2 : Option Addr) (c3 : Nat) (A6 : Option Addr) (c7 : Nat) (a1 : List Int) (b5 : List Int) {t w : World} {f : FM} {H : List Seg} (HS : St t w f (H)) (HR4 : SlR (tInt .u8) f A2 c3 a1) (HR8 : SlR (tInt .u8) f A6 c7 b5) (rr1 : Bool) (h : bytes_Equal k a1 b5 = some rr1) :
    Calls Tryz.prog 16 #[.slice A2 a1.length c3, .slice A6 b5.length c7] w (fun e w' => ∃ (g : FM), e = .returned (Value.bool rr1) ∧ FM.le f g ∧ St t w' g (H)) := by
 unfold bytes_Equal at h
 refine enter Tryz.func16 rfl (tm := #[.slice A2 a1.length c3, .slice A6 b5.length c7, uV, uV, uV, uV, uV, uV, uV, uV]) kr ?_
 intro B hret hnor hnp
 refine wp_seq_k fun K9 hK10 => rl ?_
 refine seqL1 kr ?_
 refine nl (hK10 _ _ ?_)
 refine wp_seq_k fun K11 hK12 => rl ?_
 refine seqL1 kr ?_
 refine seqK rfl (does_run (run_bstr (f := _) rfl Tryz.underlying23 Tryz.underlying5 Tryz.underlying9 (kv (.slice A2 a1.length c3)) ((HR4.mono (FM.le.refl _)).rc HS)) ?_)
 refine seqL1 kr ?_
 refine seqK rfl (does_run (run_bstr (f := _) rfl Tryz.underlying23 Tryz.underlying5 Tryz.underlying9 (kv (.slice A6 b5.length c7)) ((HR8.mono (FM.le.refl _)).rc HS)) ?_)
 refine seqL2 kr ?_
 refine nl (hK12 _ _ ?_)
 refine wp_ret ?_
 refine hret _ _ ?_
 refine ends_still (v := Value.bool ((bstr a1).toList == (bstr b5).toList)) kr kr ?_
 injection h with h
 subst h
 exact ⟨f, rfl, FM.le.refl _, HS⟩

set_option maxRecDepth 100000 in
set_option maxHeartbeats 4000000 in
theorem spykeep3_FrameBack.calls (k : Nat) (A2 : Option Addr) (c3 : Nat) (l1 : List Int) {t w : World} {f : FM} {H : List Seg} (HS : St t w f (H)) (HR4 : SlR (tInt .i64) f A2 c3 l1) (HA : TabF Tryz.prog "strings.asciiSpace" .u8 Go.Lib.asciiSpaceTab f) (HM : VarI 5 f) (HT : TabF Tryz.prog "internal/strconv.uint64pow10" .u64 Go.Lib.pow10Tab f) (rr1 : Bool) (h : spykeep3_FrameBack k l1 = some rr1) :
    Calls Tryz.prog 4 #[.slice A2 l1.length c3] w (fun e w' => ∃ (g : FM), e = .returned (Value.bool rr1) ∧ FM.le f g ∧ St t w' g (H)) := by
 unfold spykeep3_FrameBack at h
 refine enter Tryz.func4 rfl (tm := #[.slice A2 l1.length c3, uV, uV, uV, uV, uV, uV, uV, uV, uV, uV, uV, uV, uV, uV, uV, uV, uV, uV, uV, uV, uV, uV, uV, uV, uV, uV, uV, uV, uV, uV, uV, uV, uV, uV, uV, uV, uV, uV, uV, uV, uV, uV, uV, uV, uV, uV, uV, uV, uV, uV, uV, uV, uV, uV, uV, uV, uV, uV, uV, uV, uV, uV, uV, uV, uV, uV, uV, uV, uV, uV, uV, uV, uV, uV]) kr ?_
 intro B hret hnor hnp
 refine wp_seq_k fun K5 hK6 => rl ?_
 refine seqL1 kr ?_
 refine nl (hK6 _ _ ?_)
 refine wp_seq_k fun K7 hK8 => rl ?_
 refine seqL2 kr ?_
 refine seqK rfl (does_box (cs := #[.slice A2 l1.length c3, .int .i64 0]) rfl (kv (.agg #[.slice A2 l1.length c3, .int .i64 0])) rfl HS ?_)
 intro b9 W10 HS11
 have hq_ := bind_some h; clear h; obtain ⟨⟨vt13, vt14⟩, hc15, h⟩ := hq_
 refine seqK rfl (does_call (f := 8) (args := #[.pointer (some ⟨b9, 0, none⟩)]) kr (spykeep3_noted.calls k b9 A2 c3 (⟨l1, 0⟩ : S_Stream) HS11 HR4 HT vt13 vt14 hc15) ?_)
 rintro _ W18 ⟨f16, A20, c21, s22, A25, c26, rfl, L17, HS19, HO23, HR27⟩
 refine ⟨_, rfl, ?_⟩
 refine seqK rfl (does_alloc (z := Value.agg #[.int .i64 0, .int .i64 0, .slice none 0 0, .slice none 0 0]) (cs := #[.int .i64 0, .int .i64 0, .slice none 0 0, .slice none 0 0]) rfl kr rfl HS19 ?_)
 intro b28 W29 HS30
 refine seqK rfl (does_store (n := 4) (vs := [.int .i64 vt13.W, .int .i64 vt13.H, .slice A20 vt13.Cards.length c21, .slice A25 vt13.Counts.length c26]) (cs' := #[.int .i64 vt13.W, .int .i64 vt13.H, .slice A20 vt13.Cards.length c21, .slice A25 vt13.Counts.length c26]) rfl kr (kv (.pointer (some ⟨b28, 0, none⟩))) (kv (.agg #[.int .i64 vt13.W, .int .i64 vt13.H, .slice A20 vt13.Cards.length c21, .slice A25 vt13.Counts.length c26])) rfl rfl (by intro u_ hu_; simp only [List.mem_cons, List.not_mem_nil, or_false] at hu_; rcases hu_ with rfl | rfl | rfl | rfl <;> rfl) HS30 (Nat.le_of_ble_eq_true rfl) kr ?_)
 intro W32 HS33
 refine nl (hK8 _ _ ?_)
 refine wp_seq_k fun K34 hK35 => rl ?_
 refine seqK rfl (does_run (run_loadN (n := 4) rfl Tryz.underlying29 rfl kr (kv (.pointer (some ⟨b28, 0, none⟩))) (cs := [.int .i64 vt13.W, .int .i64 vt13.H, .slice A20 vt13.Cards.length c21, .slice A25 vt13.Counts.length c26]) rfl (HS33.cells 0 4 _ rfl)) ?_)
 have HS36 := HS33.u1
 obtain ⟨f37, L38, HS39, HR40, th41⟩ := HO23.lend HS36
 have hq_ := bind_some h; clear h; obtain ⟨⟨vt42, vt43⟩, hc44, h⟩ := hq_
 refine seqK rfl (does_call (f := 7) (args := #[.agg #[.int .i64 vt13.W, .int .i64 vt13.H, .slice A20 vt13.Cards.length c21, .slice A25 vt13.Counts.length c26]]) kr (frame_Encode.calls k A20 c21 A25 c26 vt13 HS39 HR40 (HR27.mono L38) (HA.mono (L17.trans L38)) (HT.mono (L17.trans L38)) vt42 vt43 hc44) ?_)
 rintro _ W47 ⟨f45, A49, c50, s51, rfl, L46, HS48, HO52⟩
 refine ⟨_, rfl, ?_⟩
 obtain ⟨f54, L55, HS56⟩ := th41 L46 HS48
 replace HO52 := HO52.flat (g := f54) (fun _ _ _ _ h_ => h_)
 refine seqL5 kr ?_
 refine nl (hK35 _ _ ?_)
 refine wp_seq_k fun K57 hK58 => rl ?_
 have HS59 := HS56.u1
 obtain ⟨f60, L61, HS62, HR63⟩ := HO52.freeze HS59
 have hq_ := bind_some h; clear h; obtain ⟨⟨vt64, vt65⟩, hc66, h⟩ := hq_
 refine seqL1 kr ?_
 refine seqK rfl (does_call (f := 12) (args := #[.slice A49 vt42.length c50]) kr (frame_Decode.calls k A49 c50 vt42 HS62 HR63 (HA.mono (L17.trans (L55.trans L61))) (HM.mono (L17.trans (L55.trans L61))) (HT.mono (L17.trans (L55.trans L61))) vt64 vt65 hc66) ?_)
 rintro _ W69 ⟨f67, A71, c72, A74, c75, s76, rfl, L68, HS70, HR73, HO77⟩
 refine ⟨_, rfl, ?_⟩
 refine seqL3 kr ?_
 refine seqK rfl (does_alloc (z := Value.agg #[.int .i64 0, .int .i64 0, .slice none 0 0, .slice none 0 0]) (cs := #[.int .i64 0, .int .i64 0, .slice none 0 0, .slice none 0 0]) rfl kr rfl HS70 ?_)
 intro b79 W80 HS81
 refine seqK rfl (does_store (n := 4) (vs := [.int .i64 vt64.W, .int .i64 vt64.H, .slice A71 vt64.Cards.length c72, .slice A74 vt64.Counts.length c75]) (cs' := #[.int .i64 vt64.W, .int .i64 vt64.H, .slice A71 vt64.Cards.length c72, .slice A74 vt64.Counts.length c75]) rfl kr (kv (.pointer (some ⟨b79, 0, none⟩))) (kv (.agg #[.int .i64 vt64.W, .int .i64 vt64.H, .slice A71 vt64.Cards.length c72, .slice A74 vt64.Counts.length c75])) rfl rfl (by intro u_ hu_; simp only [List.mem_cons, List.not_mem_nil, or_false] at hu_; rcases hu_ with rfl | rfl | rfl | rfl <;> rfl) HS81 (Nat.le_of_ble_eq_true rfl) kr ?_)
 intro W83 HS84
 refine seqL1 kr ?_
 refine nl (hK58 _ _ ?_)
 refine wp_seq_k fun K85 hK86 => rl ?_
 have hq_ := bind_some h; clear h; obtain ⟨vt87, hc88, h⟩ := hq_
 refine seqL1 kr ?_
 refine seqK rfl (does_call (f := 14) (args := #[.slice A49 vt42.length c50]) kr (slices_Clone_byte.calls k A49 c50 vt42 HS84 (HR63.mono L68) vt87 hc88) ?_)
 rintro _ W91 ⟨f89, A93, c94, s95, rfl, L90, HS92, HO96⟩
 refine ⟨_, rfl, ?_⟩
 refine seqL1 kr ?_
 refine nl (hK86 _ _ ?_)
 refine wp_seq_k (fun K98 hK99 => ?_)
 refine wp_seq_k fun K100 hK101 => rl ?_
 have hq_ := bind_some h; clear h; obtain ⟨vt102, hc103, h⟩ := hq_
 refine seqK rfl (does_call (f := 9) (args := #[]) kr (spykeep3_filed.calls k  HS92 (HA.mono (L17.trans (L55.trans (L61.trans (L68.trans L90))))) (HM.mono (L17.trans (L55.trans (L61.trans (L68.trans L90))))) (HT.mono (L17.trans (L55.trans (L61.trans (L68.trans L90))))) vt102 hc103) ?_)
 rintro _ W106 ⟨f104, rfl, L105, HS107⟩
 refine ⟨_, rfl, ?_⟩
 refine seqL2 kr ?_
 have hq_ := ite_some h; clear h; rcases hq_ with ⟨c108, h⟩ | ⟨c108, h⟩
 · have c108 : ¬ (vt102 = true) := c108
   refine seqRwI 29 (x := (!vt102)) (v := true) kr (congrArg (fun b_ => !b_) (show vt102 = false from (Bool.eq_false_iff.mpr c108)) : (!vt102) = true) ?_
   refine seqRwI 30 (x := (!vt102)) (v := true) kr (congrArg (fun b_ => !b_) (show vt102 = false from (Bool.eq_false_iff.mpr c108)) : (!vt102) = true) ?_
   refine seqL13 kr ?_
   refine nl (hK101 _ _ ?_)
   refine condT kr ?_
   refine wp_seq_k fun K109 hK110 => rl ?_
   refine seqL1 kr ?_
   refine nl (hK110 _ _ ?_)
   refine wp_ret ?_
   refine hret _ _ ?_
   refine ends_still (v := Value.bool false) kr kr ?_
   have HS324 := HS107.drop
   have HS325 := HS324.drop
   have HS326 := HS325.drop
   have HS327 := HS326.drop
   have HS328 := HS327.drop
   have HS329 := HS328.drop
   injection h with h
   subst h
   exact ⟨f104, rfl, (L17.trans (L55.trans (L61.trans (L68.trans (L90.trans L105))))), HS329⟩
 · have c108 : ¬ (¬ (vt102 = true)) := c108
   refine seqRwI 29 (x := (!vt102)) (v := false) kr (congrArg (fun b_ => !b_) (show vt102 = true from (Decidable.of_not_not c108)) : (!vt102) = false) ?_
   refine seqRwI 30 (x := (!vt102)) (v := false) kr (congrArg (fun b_ => !b_) (show vt102 = true from (Decidable.of_not_not c108)) : (!vt102) = false) ?_
   refine seqL4 kr ?_
   have hq_ := ite_some h; clear h; rcases hq_ with ⟨c111, h⟩ | ⟨c111, h⟩
   · have c111 : vt43 ≠ 0 := c111
     refine seqRwI 32 (x := (vt43 != 0)) (v := true) kr (bne_iff_ne.mpr c111) ?_
     refine seqRwI 33 (x := (vt43 != 0)) (v := true) kr (bne_iff_ne.mpr c111) ?_
     refine seqRwI 34 (x := (vt43 != 0)) (v := true) kr (bne_iff_ne.mpr c111) ?_
     refine seqL9 kr ?_
     refine nl (hK101 _ _ ?_)
     refine condT kr ?_
     refine wp_seq_k fun K112 hK113 => rl ?_
     refine seqL1 kr ?_
     refine nl (hK113 _ _ ?_)
     refine wp_ret ?_
     refine hret _ _ ?_
     refine ends_still (v := Value.bool false) kr kr ?_
     have HS330 := HS107.drop
     have HS331 := HS330.drop
     have HS332 := HS331.drop
     have HS333 := HS332.drop
     have HS334 := HS333.drop
     have HS335 := HS334.drop
     injection h with h
     subst h
     exact ⟨f104, rfl, (L17.trans (L55.trans (L61.trans (L68.trans (L90.trans L105))))), HS335⟩
   · have c111 : ¬ (vt43 ≠ 0) := c111
     refine seqRwI 32 (x := (vt43 != 0)) (v := false) kr (bne_eq_false_iff_eq.mpr (Decidable.of_not_not c111)) ?_
     refine seqRwI 33 (x := (vt43 != 0)) (v := false) kr (bne_eq_false_iff_eq.mpr (Decidable.of_not_not c111)) ?_
     refine seqRwI 34 (x := (vt43 != 0)) (v := false) kr (bne_eq_false_iff_eq.mpr (Decidable.of_not_not c111)) ?_
     refine seqL4 kr ?_
     have hq_ := ite_some h; clear h; rcases hq_ with ⟨c114, h⟩ | ⟨c114, h⟩
     · have c114 : vt65 ≠ 0 := c114
       refine seqRwI 36 (x := (vt65 != 0)) (v := true) kr (bne_iff_ne.mpr c114) ?_
       refine seqRwI 37 (x := (vt65 != 0)) (v := true) kr (bne_iff_ne.mpr c114) ?_
       refine seqRwI 38 (x := (vt65 != 0)) (v := true) kr (bne_iff_ne.mpr c114) ?_
       refine seqL5 kr ?_
       refine nl (hK101 _ _ ?_)
       refine condT kr ?_
       refine wp_seq_k fun K115 hK116 => rl ?_
       refine seqL1 kr ?_
       refine nl (hK116 _ _ ?_)
       refine wp_ret ?_
       refine hret _ _ ?_
       refine ends_still (v := Value.bool false) kr kr ?_
       have HS336 := HS107.drop
       have HS337 := HS336.drop
       have HS338 := HS337.drop
       have HS339 := HS338.drop
       have HS340 := HS339.drop
       have HS341 := HS340.drop
       injection h with h
       subst h
       exact ⟨f104, rfl, (L17.trans (L55.trans (L61.trans (L68.trans (L90.trans L105))))), HS341⟩
     · have c114 : ¬ (vt65 ≠ 0) := c114
       refine seqRwI 36 (x := (vt65 != 0)) (v := false) kr (bne_eq_false_iff_eq.mpr (Decidable.of_not_not c114)) ?_
       refine seqRwI 37 (x := (vt65 != 0)) (v := false) kr (bne_eq_false_iff_eq.mpr (Decidable.of_not_not c114)) ?_
       refine seqRwI 38 (x := (vt65 != 0)) (v := false) kr (bne_eq_false_iff_eq.mpr (Decidable.of_not_not c114)) ?_
       refine seqG kr (does_run (run_loadN (n := 4) rfl Tryz.underlying29 rfl kr (kv (.pointer (some ⟨b28, 0, none⟩))) (cs := [.int .i64 vt13.W, .int .i64 vt13.H, .slice A20 vt13.Cards.length c21, .slice A25 vt13.Counts.length c26]) rfl (HS107.u4.cells 0 4 _ rfl)) ?_)
       refine seqG kr (does_run (run_loadN (n := 4) rfl Tryz.underlying29 rfl kr (kv (.pointer (some ⟨b79, 0, none⟩))) (cs := [.int .i64 vt64.W, .int .i64 vt64.H, .slice A71 vt64.Cards.length c72, .slice A74 vt64.Counts.length c75]) rfl (HS107.u1.cells 0 4 _ rfl)) ?_)
       have HS117 := HS107.u3
       obtain ⟨f118, L119, HS120, HR121, th122⟩ := (HO23.mono (L55.trans (L61.trans (L68.trans (L90.trans L105))))).lend HS117
       have HS123 := HS120.u2
       obtain ⟨f124, L125, HS126, HR127, th128⟩ := (HO77.mono (L90.trans (L105.trans L119))).lend HS123
       have hq_ := bind_some h; clear h; obtain ⟨vt129, hc130, h⟩ := hq_
       refine seqG kr (does_call (f := 15) (args := #[.agg #[.int .i64 vt13.W, .int .i64 vt13.H, .slice A20 vt13.Cards.length c21, .slice A25 vt13.Counts.length c26], .agg #[.int .i64 vt64.W, .int .i64 vt64.H, .slice A71 vt64.Cards.length c72, .slice A74 vt64.Counts.length c75]]) kr (spykeep3_same.calls k A20 c21 A25 c26 A71 c72 A74 c75 vt13 vt64 HS126 (HR121.mono L125) (HR27.mono (L55.trans (L61.trans (L68.trans (L90.trans (L105.trans (L119.trans L125))))))) (HR73.mono (L90.trans (L105.trans (L119.trans L125)))) HR127 vt129 hc130) ?_)
       rintro _ W133 ⟨f131, rfl, L132, HS134⟩
       refine ⟨_, rfl, ?_⟩
       obtain ⟨f135, L136, HS137⟩ := th128 L132 HS134
       obtain ⟨f138, L139, HS140⟩ := th122 L136 HS137
       refine seqL2 kr ?_
       refine nl (hK101 _ _ ?_)
       have hq_ := ite_some h; clear h; rcases hq_ with ⟨c142, h⟩ | ⟨c142, h⟩
       · have c142 : ¬ (vt129 = true) := c142
         refine wpRwI 42 (x := (!vt129)) (v := true) kr (congrArg (fun b_ => !b_) (show vt129 = false from (Bool.eq_false_iff.mpr c142)) : (!vt129) = true) ?_
         refine wpRwI 43 (x := (!vt129)) (v := true) kr (congrArg (fun b_ => !b_) (show vt129 = false from (Bool.eq_false_iff.mpr c142)) : (!vt129) = true) ?_
         refine condT kr ?_
         refine wp_seq_k fun K143 hK144 => rl ?_
         refine seqL1 kr ?_
         refine nl (hK144 _ _ ?_)
         refine wp_ret ?_
         refine hret _ _ ?_
         refine ends_still (v := Value.bool false) kr kr ?_
         have HS342 := HS140.drop
         have HS343 := HS342.drop
         have HS344 := HS343.drop
         have HS345 := HS344.drop
         have HS346 := HS345.drop
         have HS347 := HS346.drop
         injection h with h
         subst h
         exact ⟨f138, rfl, (L17.trans (L55.trans (L61.trans (L68.trans (L90.trans (L105.trans L139)))))), HS347⟩
       · have c142 : ¬ (¬ (vt129 = true)) := c142
         refine wpRwI 42 (x := (!vt129)) (v := false) kr (congrArg (fun b_ => !b_) (show vt129 = true from (Decidable.of_not_not c142)) : (!vt129) = false) ?_
         refine wpRwI 43 (x := (!vt129)) (v := false) kr (congrArg (fun b_ => !b_) (show vt129 = true from (Decidable.of_not_not c142)) : (!vt129) = false) ?_
         refine condF kr ?_
         refine wp_skip ?_
         refine hK99 _ _ ?_
         refine wp_seq_k (fun K145 hK146 => ?_)
         refine wp_seq_k fun K147 hK148 => rl ?_
         refine seqL1 kr ?_
         refine seqK rfl (does_run (run_load rfl Tryz.underlying22 rfl (kv (.pointer (some ⟨b79, 3, none⟩))) (HS140.u3.cell 3)) ?_)
         refine seqL2 kr ?_
         refine nl (hK148 _ _ ?_)
         refine blockK (fun B149 hx150 hn151 hr152 ho153 hp154 => ?_)
         have hq_ := bind_some h; clear h; obtain ⟨o195, hv249, h⟩ := hq_
         have J250 : ∀ (f240 : FM) (s246 : Seg) (x245 : List Int) (j244 : Nat → Value) (W242 : World) (a_ : Act), FM.le f138 f240 → some (x245) = some o195 → St t W242 f240 (s22 :: s246 :: s95 :: [(b79, .cells #[.int .i64 vt64.W, .int .i64 vt64.H, .slice A71 vt64.Cards.length c72, .slice A74 x245.length c75] 29 (0, 0))] :: [(b28, .cells #[.int .i64 vt13.W, .int .i64 vt13.H, .slice A20 vt13.Cards.length c21, .slice A25 vt13.Counts.length c26] 29 (0, 0))] :: [(b9, .cells #[.slice A2 l1.length c3, .int .i64 vt14] 33 (0, 0))] :: H) → Own (tInt .i64) 3 f240 A74 c75 s246 x245 → x245.length = vt64.Counts.length → a_ = ⟨#[.slice A2 l1.length c3, uV, fV, pV b28 0, .slice A49 vt42.length c50, iV vt43, pV b79 0, iV vt65, .slice A93 vt87.length c94, (j244 0), uV, uV, .slice A2 l1.length c3, .agg #[.slice A2 l1.length c3, iV 0], pV b9 0, (ag_Frame vt13 A20 c21 A25 c26), .tuple #[.slice A49 vt42.length c50, iV vt43], (ag_Frame vt13 A20 c21 A25 c26), .tuple #[.slice A49 vt42.length c50, iV vt43], .slice A49 vt42.length c50, iV vt43, .tuple #[(ag_Frame vt64 A71 c72 A74 c75), iV vt65], .slice A49 vt42.length c50, .tuple #[(ag_Frame vt64 A71 c72 A74 c75), iV vt65], (j244 1), iV vt65, .slice A49 vt42.length c50, .slice A93 vt87.length c94, .bool vt102, fV, fV, iV vt43, fV, fV, fV, iV vt65, fV, fV, fV, (ag_Frame vt13 A20 c21 A25 c26), (j244 2), .bool vt129, fV, fV, pV b79 3, (j244 3), iV (vt64.Counts.length : Int), (j244 4), (j244 5), (j244 6), (j244 7), (j244 8), (j244 9), (j244 10), (j244 11), (j244 12), (j244 13), (j244 14), uV, uV, uV, uV, uV, uV, uV, uV, uV, uV, uV, uV, uV, uV, uV, uV, uV], []⟩ → K145 a_ W242 := by
          intro f240 s246 x245 j244 W242 a_ L241 hj251 HS243 HO247 HL248 hfr_; subst hfr_
          injection hj251 with hj251; subst hj251; try dsimp only at h
          refine hK146 _ _ ?_
          refine wp_seq_k fun K258 hK259 => rl ?_
          have hq_ := bind_some h; clear h; obtain ⟨⟨vt260, vt261⟩, hc262, h⟩ := hq_
          refine seqL1 kr ?_
          refine seqK rfl (does_call (f := 12) (args := #[.slice A49 vt42.length c50]) kr (frame_Decode.calls k A49 c50 vt42 HS243 (HR63.mono (L68.trans (L90.trans (L105.trans (L139.trans L241))))) (HA.mono (L17.trans (L55.trans (L61.trans (L68.trans (L90.trans (L105.trans (L139.trans L241)))))))) (HM.mono (L17.trans (L55.trans (L61.trans (L68.trans (L90.trans (L105.trans (L139.trans L241)))))))) (HT.mono (L17.trans (L55.trans (L61.trans (L68.trans (L90.trans (L105.trans (L139.trans L241)))))))) vt260 vt261 hc262) ?_)
          rintro _ W265 ⟨f263, A267, c268, A270, c271, s272, rfl, L264, HS266, HR269, HO273⟩
          refine ⟨_, rfl, ?_⟩
          refine seqL3 kr ?_
          refine seqK rfl (does_alloc (z := Value.agg #[.int .i64 0, .int .i64 0, .slice none 0 0, .slice none 0 0]) (cs := #[.int .i64 0, .int .i64 0, .slice none 0 0, .slice none 0 0]) rfl kr rfl HS266 ?_)
          intro b275 W276 HS277
          refine seqK rfl (does_store (n := 4) (vs := [.int .i64 vt260.W, .int .i64 vt260.H, .slice A267 vt260.Cards.length c268, .slice A270 vt260.Counts.length c271]) (cs' := #[.int .i64 vt260.W, .int .i64 vt260.H, .slice A267 vt260.Cards.length c268, .slice A270 vt260.Counts.length c271]) rfl kr (kv (.pointer (some ⟨b275, 0, none⟩))) (kv (.agg #[.int .i64 vt260.W, .int .i64 vt260.H, .slice A267 vt260.Cards.length c268, .slice A270 vt260.Counts.length c271])) rfl rfl (by intro u_ hu_; simp only [List.mem_cons, List.not_mem_nil, or_false] at hu_; rcases hu_ with rfl | rfl | rfl | rfl <;> rfl) HS277 (Nat.le_of_ble_eq_true rfl) kr ?_)
          intro W279 HS280
          refine seqL1 kr ?_
          refine nl (hK259 _ _ ?_)
          refine wp_seq_k fun K281 hK282 => rl ?_
          refine seqL3 kr ?_
          have hq_ := ite_some h; clear h; rcases hq_ with ⟨c283, h⟩ | ⟨c283, h⟩
          · have c283 : vt261 = 0 := c283
            refine seqRwI 64 (x := (vt261 == 0)) (v := true) kr (beq_iff_eq.mpr c283) ?_
            refine seqRwI 65 (x := (vt261 == 0)) (v := true) kr (beq_iff_eq.mpr c283) ?_
            have HS284 := HS280.u4
            obtain ⟨f285, L286, HS287, HR288, th289⟩ := (HO96.mono (L105.trans (L139.trans (L241.trans L264)))).lend HS284
            have hq_ := bind_some h; clear h; obtain ⟨vt290, hc291, h⟩ := hq_
            refine seqL2 kr ?_
            refine seqG kr (does_call (f := 16) (args := #[.slice A49 vt42.length c50, .slice A93 vt87.length c94]) kr (bytes_Equal.calls k A49 c50 A93 c94 vt42 vt87 HS287 (HR63.mono (L68.trans (L90.trans (L105.trans (L139.trans (L241.trans (L264.trans L286))))))) HR288 vt290 hc291) ?_)
            rintro _ W294 ⟨f292, rfl, L293, HS295⟩
            refine ⟨_, rfl, ?_⟩
            obtain ⟨f296, L297, HS298⟩ := th289 L293 HS295
            refine seqL2 kr ?_
            have hq_ := ite_some h; clear h; rcases hq_ with ⟨c299, h⟩ | ⟨c299, h⟩
            · have c299 : vt290 = true := c299
              refine seqRwI 68 (x := vt290) (v := true) kr c299 ?_
              refine seqRwI 69 (x := vt290) (v := true) kr c299 ?_
              refine seqRwI 70 (x := vt290) (v := true) kr c299 ?_
              refine seqG kr (does_run (run_loadN (n := 4) rfl Tryz.underlying29 rfl kr (kv (.pointer (some ⟨b28, 0, none⟩))) (cs := [.int .i64 vt13.W, .int .i64 vt13.H, .slice A20 vt13.Cards.length c21, .slice A25 vt13.Counts.length c26]) rfl (HS298.u6.cells 0 4 _ rfl)) ?_)
              refine seqG kr (does_run (run_loadN (n := 4) rfl Tryz.underlying29 rfl kr (kv (.pointer (some ⟨b275, 0, none⟩))) (cs := [.int .i64 vt260.W, .int .i64 vt260.H, .slice A267 vt260.Cards.length c268, .slice A270 vt260.Counts.length c271]) rfl (HS298.u1.cells 0 4 _ rfl)) ?_)
              have HS300 := HS298.u3
              obtain ⟨f301, L302, HS303, HR304, th305⟩ := (HO23.mono (L55.trans (L61.trans (L68.trans (L90.trans (L105.trans (L139.trans (L241.trans (L264.trans L297))))))))).lend HS300
              have HS306 := HS303.u2
              obtain ⟨f307, L308, HS309, HR310, th311⟩ := (HO273.mono (L297.trans L302)).lend HS306
              have hq_ := bind_some h; clear h; obtain ⟨vt312, hc313, h⟩ := hq_
              refine seqG kr (does_call (f := 15) (args := #[.agg #[.int .i64 vt13.W, .int .i64 vt13.H, .slice A20 vt13.Cards.length c21, .slice A25 vt13.Counts.length c26], .agg #[.int .i64 vt260.W, .int .i64 vt260.H, .slice A267 vt260.Cards.length c268, .slice A270 vt260.Counts.length c271]]) kr (spykeep3_same.calls k A20 c21 A25 c26 A267 c268 A270 c271 vt13 vt260 HS309 (HR304.mono L308) (HR27.mono (L55.trans (L61.trans (L68.trans (L90.trans (L105.trans (L139.trans (L241.trans (L264.trans (L297.trans (L302.trans L308))))))))))) (HR269.mono (L297.trans (L302.trans L308))) HR310 vt312 hc313) ?_)
              rintro _ W316 ⟨f314, rfl, L315, HS317⟩
              refine ⟨_, rfl, ?_⟩
              obtain ⟨f318, L319, HS320⟩ := th311 L315 HS317
              obtain ⟨f321, L322, HS323⟩ := th305 L319 HS320
              refine seqL2 kr ?_
              refine nl (hK282 _ _ ?_)
              refine wp_ret ?_
              refine hret _ _ ?_
              refine ends_still (v := Value.bool vt312) kr kr ?_
              have HS348 := HS323.drop
              have HS349 := HS348.drop
              have HS350 := HS349.drop
              have HS351 := HS350.drop
              have HS352 := HS351.drop
              have HS353 := HS352.drop
              have HS354 := HS353.drop
              have HS355 := HS354.drop
              injection h with h
              subst h
              exact ⟨f321, rfl, (L17.trans (L55.trans (L61.trans (L68.trans (L90.trans (L105.trans (L139.trans (L241.trans (L264.trans (L297.trans L322)))))))))), HS355⟩
            · have c299 : ¬ (vt290 = true) := c299
              refine seqRwI 68 (x := vt290) (v := false) kr (Bool.eq_false_iff.mpr c299) ?_
              refine seqRwI 69 (x := vt290) (v := false) kr (Bool.eq_false_iff.mpr c299) ?_
              refine seqRwI 70 (x := vt290) (v := false) kr (Bool.eq_false_iff.mpr c299) ?_
              refine seqL5 kr ?_
              refine nl (hK282 _ _ ?_)
              refine wp_ret ?_
              refine hret _ _ ?_
              refine ends_still (v := Value.bool false) kr kr ?_
              have HS356 := HS298.drop
              have HS357 := HS356.drop
              have HS358 := HS357.drop
              have HS359 := HS358.drop
              have HS360 := HS359.drop
              have HS361 := HS360.drop
              have HS362 := HS361.drop
              have HS363 := HS362.drop
              injection h with h
              subst h
              exact ⟨f296, rfl, (L17.trans (L55.trans (L61.trans (L68.trans (L90.trans (L105.trans (L139.trans (L241.trans (L264.trans L297))))))))), HS363⟩
          · have c283 : ¬ (vt261 = 0) := c283
            refine seqRwI 64 (x := (vt261 == 0)) (v := false) kr (beq_eq_false_iff_ne.mpr c283) ?_
            refine seqRwI 65 (x := (vt261 == 0)) (v := false) kr (beq_eq_false_iff_ne.mpr c283) ?_
            refine seqL10 kr ?_
            refine nl (hK282 _ _ ?_)
            refine wp_ret ?_
            refine hret _ _ ?_
            refine ends_still (v := Value.bool false) kr kr ?_
            have HS364 := HS280.drop
            have HS365 := HS364.drop
            have HS366 := HS365.drop
            have HS367 := HS366.drop
            have HS368 := HS367.drop
            have HS369 := HS368.drop
            have HS370 := HS369.drop
            have HS371 := HS370.drop
            injection h with h
            subst h
            exact ⟨f263, rfl, (L17.trans (L55.trans (L61.trans (L68.trans (L90.trans (L105.trans (L139.trans (L241.trans L264)))))))), HS371⟩
         clear h; have h := hv249; clear hv249
         refine loopK (fun n_ a_ w_ => ∃ (f199 : FM) (s206 : Seg) (x204 : Int) (x205 : List Int) (j203 : Nat → Value), FM.le f138 f199 ∧ St t w_ f199 (s22 :: s206 :: s95 :: [(b79, .cells #[.int .i64 vt64.W, .int .i64 vt64.H, .slice A71 vt64.Cards.length c72, .slice A74 x205.length c75] 29 (0, 0))] :: [(b28, .cells #[.int .i64 vt13.W, .int .i64 vt13.H, .slice A20 vt13.Cards.length c21, .slice A25 vt13.Counts.length c26] 29 (0, 0))] :: [(b9, .cells #[.slice A2 l1.length c3, .int .i64 vt14] 33 (0, 0))] :: H) ∧ Own (tInt .i64) 3 f199 A74 c75 s206 x205 ∧ x205.length = vt64.Counts.length ∧ spykeep3_FrameBack.l0 k vt64 n_ x204 x205 = some o195 ∧ a_ = ⟨#[.slice A2 l1.length c3, uV, fV, pV b28 0, .slice A49 vt42.length c50, iV vt43, pV b79 0, iV vt65, .slice A93 vt87.length c94, (j203 0), uV, uV, .slice A2 l1.length c3, .agg #[.slice A2 l1.length c3, iV 0], pV b9 0, (ag_Frame vt13 A20 c21 A25 c26), .tuple #[.slice A49 vt42.length c50, iV vt43], (ag_Frame vt13 A20 c21 A25 c26), .tuple #[.slice A49 vt42.length c50, iV vt43], .slice A49 vt42.length c50, iV vt43, .tuple #[(ag_Frame vt64 A71 c72 A74 c75), iV vt65], .slice A49 vt42.length c50, .tuple #[(ag_Frame vt64 A71 c72 A74 c75), iV vt65], (ag_Frame vt64 A71 c72 A74 c75), iV vt65, .slice A49 vt42.length c50, .slice A93 vt87.length c94, .bool vt102, fV, fV, iV vt43, fV, fV, fV, iV vt65, fV, fV, fV, (ag_Frame vt13 A20 c21 A25 c26), (ag_Frame vt64 A71 c72 A74 c75), .bool vt129, fV, fV, pV b79 3, .slice A74 vt64.Counts.length c75, iV (vt64.Counts.length : Int), iV x204, (j203 1), (j203 2), (j203 3), (j203 4), (j203 5), (j203 6), (j203 7), (j203 8), (j203 9), (j203 10), uV, uV, uV, uV, uV, uV, uV, uV, uV, uV, uV, uV, uV, uV, uV, uV, uV], []⟩) k ⟨f138, s76, 0, vt64.Counts, (fun i_ => [undef, undef, undef, undef, undef, undef, undef, undef, undef, undef, undef].getD i_ undef), (FM.le.refl _), HS140, (HO77.mono (L90.trans (L105.trans L139))), rfl, h, kr⟩ ?_
         clear h
         rintro n198 _ W201 ⟨f199, s206, x204, x205, j203, L200, HS202, HO207, HL208, h, rfl⟩ K196 hK197
         obtain _ | n198 := n198
         · exact nomatch h
         simp only [spykeep3_FrameBack.l0] at h
         refine wp_seq_k fun K209 hK210 => rl ?_
         refine seqL1 kr ?_
         refine nl (hK210 _ _ ?_)
         refine wp_seq_k (fun K211 hK212 => ?_)
         have hq_ := ite_some h; clear h; rcases hq_ with ⟨c214, h⟩ | ⟨c214, h⟩
         · have c214 : x204 < (vt64.Counts.length : Int) := c214
           refine wpRwI 48 (x := (decide (x204 < (vt64.Counts.length : Int)))) (v := true) kr (decide_eq_true c214) ?_
           refine condT kr ?_
           refine wp_skip ?_
           refine hK212 _ _ ?_
           refine wp_seq_k (fun K215 hK216 => ?_)
           refine blockK (fun B217 hx218 hn219 hr220 ho221 hp222 => ?_)
           refine wp_seq_k fun K224 hK225 => rl ?_
           refine seqL2 kr ?_
           refine nl (hK225 _ _ ?_)
           refine rl ?_
           refine seqL1 kr ?_
           refine seqK rfl (does_run (run_load rfl Tryz.underlying22 rfl (kv (.pointer (some ⟨b79, 3, none⟩))) (HS202.u3.cell 3)) ?_)
           have hq_ := guard_some h; clear h; obtain ⟨c226, h⟩ := hq_
           have c226 : 0 ≤ x204 := c226
           have hq_ := guard_some h; clear h; obtain ⟨c227, h⟩ := hq_
           have c227 : x204 < (x205.length : Int) := c227
           obtain ⟨b231, of232, cs228, hA233, hr229, hc230⟩ := HO207.at (i := x204) c226 c227
           obtain rfl := hr229
           refine seqL1 kr ?_
           refine seqK rfl (does_run (run_indexE hA233 (sz := 1) rfl Tryz.underlying22 kr (kv (.slice A74 x205.length c75)) (kv (.int .i64 x204)) c226 c227 W201) ?_)
           refine seqK rfl (does_run (run_load rfl Tryz.underlying3 rfl (kv (.pointer (some ⟨b231, of232 + (x204 : Int).toNat * 1, none⟩))) ((hc230 HS202.u1) 0 (by decide))) ?_)
           refine seqL1 kr ?_
           refine seqK rfl (does_run (run_indexE hA233 (sz := 1) rfl Tryz.underlying22 kr (kv (.slice A74 x205.length c75)) (kv (.int .i64 x204)) c226 c227 W201) ?_)
           have HS234 := HS202.u1
           refine seqK rfl (does_put (e := (tInt .i64)) (E := 3) (vs := [.int .i64 (Go.bits .xor .i64 (rd x205 x204) 1)]) (u := Go.bits .xor .i64 (rd x205 x204) 1) (i := x204) rfl kr HO207 HS234 hA233 (kv (.pointer (some ⟨b231, of232 + (x204 : Int).toNat * 1, none⟩))) (kv (.int .i64 (Go.bits .xor .i64 (rd x205 x204) 1))) rfl rfl c226 c227 ?_)
           intro W235 s236 HS237 HO238
           have HS239 : St t W235 f199 (s236 :: s22 :: s95 :: [(b79, .cells #[.int .i64 vt64.W, .int .i64 vt64.H, .slice A71 vt64.Cards.length c72, .slice A74 (x205.set (x204).toNat (Go.bits .xor .i64 (rd x205 x204) 1)).length c75] 29 (0, 0))] :: [(b28, .cells #[.int .i64 vt13.W, .int .i64 vt13.H, .slice A20 vt13.Cards.length c21, .slice A25 vt13.Counts.length c26] 29 (0, 0))] :: [(b9, .cells #[.slice A2 l1.length c3, .int .i64 vt14] 33 (0, 0))] :: H) := by rw [show (x205.set (x204).toNat (Go.bits .xor .i64 (rd x205 x204) 1)).length = x205.length from List.length_set]; exact HS237
           refine seqRwS 51 (A := A74) (m := x205.length) (n := (x205.set (x204).toNat (Go.bits .xor .i64 (rd x205 x204) 1)).length) (c := c75) kr (List.length_set).symm ?_
           refine nl ?_
           refine hn219 _ _ ?_
           refine hK216 _ _ ?_
           refine rl ?_
           refine seqL2 kr ?_
           refine nl ?_
           refine hK197 n198 _ _ (Nat.lt_succ_self _) ?_
           have HS252 := HS239.u5
           have HS253 := HS252.u5
           have HS254 := HS253.u5
           have HS255 := HS254.u5
           have HS256 := HS255.u4
           have HS257 := HS256.u5
           exact ⟨f199, s236, (w64 (x204 + 1)), (x205.set (x204).toNat (Go.bits .xor .i64 (rd x205 x204) 1)), (fun i_ => [Value.int .i64 x204, Value.bool true, Value.int .i64 x204, Value.pointer (some ⟨b79, 3, none⟩), Value.slice A74 (x205.set (x204).toNat (Go.bits .xor .i64 (rd x205 x204) 1)).length c75, Value.int .i64 x204, Value.pointer (some ⟨b231, of232 + (x204 : Int).toNat * 1, none⟩), Value.int .i64 (rd x205 x204), Value.int .i64 (Go.bits .xor .i64 (rd x205 x204) 1), Value.pointer (some ⟨b231, of232 + (x204 : Int).toNat * 1, none⟩), Value.int .i64 (w64 (x204 + 1))].getD i_ undef), L200, HS257, HO238, (List.length_set.trans HL208), h, kr⟩
         · have c214 : ¬ (x204 < (vt64.Counts.length : Int)) := c214
           refine wpRwI 48 (x := (decide (x204 < (vt64.Counts.length : Int)))) (v := false) kr (decide_eq_false c214) ?_
           refine condF kr ?_
           refine wp_exit ?_
           refine hx150 _ _ ?_
           exact J250 f199 s206 x205 (fun i_ => [(j203 0), (ag_Frame vt64 A71 c72 A74 c75), (ag_Frame vt64 A71 c72 A74 c75), Value.slice A74 vt64.Counts.length c75, Value.int .i64 x204, Value.bool false, (j203 2), (j203 3), (j203 4), (j203 5), (j203 6), (j203 7), (j203 8), (j203 9), (j203 10)].getD i_ undef) W201 _ L200 h HS202 HO207 HL208 kr

end Go.Sp.B4
