import Derived.Test.YtjnehahcpeiheaaGreatDoorProg
import Derived.Test.YtjnehahcpeiheaaGreatDoorSpCopy
import Derived.Test.YtjnehahcpeiheaaGreatDoorFU5
import Derived.Test.YtjnehahcpeiheaaGreatDoorSpStr
import Derived.Test.YtjnehahcpeiheaaGreatDoorSpLib
import Derived.Test.YtjnehahcpeiheaaGreatDoorSpBld
import Derived.Test.YtjnehahcpeiheaaGreatDoorConv
import Derived.Test.YtjnehahcpeiheaaGreatDoorLibs
import Derived.Test.YtjnehahcpeiheaaGreatDoorSpNest
import Derived.Test.YtjnehahcpeiheaaGreatDoorSpWays
import Derived.Test.YtjnehahcpeiheaaGreatDoorSpRound
import Derived.Test.YtjnehahcpeiheaaGreatDoorKU5n0
import Derived.Test.YtjnehahcpeiheaaGreatDoorKU5n1
import Derived.Test.YtjnehahcpeiheaaGreatDoorKU5n2
namespace Go.Sp.U5
open Go Go.Sp Go.Proofs
set_option linter.unusedVariables false
attribute [local irreducible] wpList AnyL Code.wp Calls Does Code.wpIn wpListIn CallsIn bodyPostM LeavesInM
set_option maxRecDepth 100000 in
set_option maxHeartbeats 4000000 in
theorem frame_card.calls (k : Nat)  (s1 : ByteArray) {t w : World} {f : FM} {H : List Seg} (HS : St t w f (H)) (HM : VarI 5 f) (rr1 : S_Card) (rr2 : Bool) (h : frame_card k s1 = some (rr1, rr2)) :
    Calls Tryz.prog 31 #[.string s1] w (fun e w' => ∃ (g : FM), e = .returned (Value.tuple #[.agg #[.string rr1.Key, .string rr1.Value, .string rr1.Unit, .string rr1.Note], .bool rr2]) ∧ FM.le f g ∧ St t w' g (H)) := by
 unfold frame_card at h
 refine enter Tryz.func31 rfl (tm := #[.string s1, uV, uV, uV, uV, uV, uV, uV, uV, uV, uV, uV, uV, uV, uV, uV, uV, uV, uV, uV, uV, uV, uV, uV, uV, uV, uV, uV, uV, uV, uV, uV, uV, uV, uV, uV, uV, uV, uV, uV, uV, uV, uV, uV, uV, uV, uV, uV, uV, uV, uV, uV, uV]) kr ?_
 intro B hret hnor hnp
 refine wp_seq_k fun K2 hK3 => rl ?_
 refine seqK rfl (does_alloc (z := Value.agg #[.string ⟨#[]⟩, .string ⟨#[]⟩, .string ⟨#[]⟩, .string ⟨#[]⟩]) (cs := #[.string ⟨#[]⟩, .string ⟨#[]⟩, .string ⟨#[]⟩, .string ⟨#[]⟩]) rfl kr rfl HS ?_)
 intro b4 W5 HS6
 refine seqL1 kr ?_
 refine nl (hK3 _ _ ?_)
 refine wp_seq_k (fun K8 hK9 => ?_)
 refine wp_seq_k fun K10 hK11 => rl ?_
 refine seqL4 kr ?_
 have hq_ := ite_some h; clear h; rcases hq_ with ⟨c12, h⟩ | ⟨c12, h⟩
 · have c12 : (s1.size : Int) < 11 := c12
   refine seqRwI 10 (x := (decide ((s1.size : Int) < 11))) (v := true) kr (decide_eq_true c12) ?_
   refine seqRwI 11 (x := (decide ((s1.size : Int) < 11))) (v := true) kr (decide_eq_true c12) ?_
   refine seqL4 kr ?_
   refine nl (hK11 _ _ ?_)
   refine condT kr ?_
   refine wp_seq_k fun K13 hK14 => rl ?_
   refine seqL1 kr ?_
   refine seqK rfl (does_store (n := 4) (vs := [.string ⟨#[]⟩, .string ⟨#[]⟩, .string ⟨#[]⟩, .string ⟨#[]⟩]) (cs' := #[.string ⟨#[]⟩, .string ⟨#[]⟩, .string ⟨#[]⟩, .string ⟨#[]⟩]) rfl kr (kv (.pointer (some ⟨b4, 0, none⟩))) (kv (.agg #[.string ⟨#[]⟩, .string ⟨#[]⟩, .string ⟨#[]⟩, .string ⟨#[]⟩])) rfl rfl (by intro u_ hu_; simp only [List.mem_cons, List.not_mem_nil, or_false] at hu_; rcases hu_ with rfl | rfl | rfl | rfl <;> rfl) HS6 (Nat.le_of_ble_eq_true rfl) kr ?_)
   intro W15 HS16
   refine seqL1 kr ?_
   refine nl (hK14 _ _ ?_)
   refine wp_ret ?_
   refine hret _ _ ?_
   refine ends (v := Value.tuple #[.agg #[.string ⟨#[]⟩, .string ⟨#[]⟩, .string ⟨#[]⟩, .string ⟨#[]⟩], .bool false]) (results2 (q1 := .cell 2 51) (q2 := .tmp 3) kr (resN (n := 4) (cs := [.string ⟨#[]⟩, .string ⟨#[]⟩, .string ⟨#[]⟩, .string ⟨#[]⟩]) (kv (.pointer (some ⟨b4, 0, none⟩))) Tryz.underlying51 rfl kr rfl (HS16.cells 0 4 _ rfl)) (resT (kv (.bool false)))) kr ?_
   have HS133 := HS16.drop
   injection h with h
   injection h with h0_ h
   subst h0_ h
   exact ⟨f, rfl, FM.le.refl _, HS133⟩
 · have c12 : ¬ ((s1.size : Int) < 11) := c12
   refine seqRwI 10 (x := (decide ((s1.size : Int) < 11))) (v := false) kr (decide_eq_false c12) ?_
   refine seqRwI 11 (x := (decide ((s1.size : Int) < 11))) (v := false) kr (decide_eq_false c12) ?_
   have hq_ := guard_some h; clear h; obtain ⟨c17, h⟩ := hq_
   have c17 : 10 ≤ (s1.size : Int) := c17
   refine seqL1 kr ?_
   refine seqG kr (does_run (run_scutLH rfl Tryz.underlying9 (kv (.string s1)) (kv (.int .i64 8)) (kv (.int .i64 10)) (by decide) (by decide) c17 W5) ?_)
   refine seqL2 kr ?_
   refine nl (hK11 _ _ ?_)
   have hq_ := ite_some h; clear h; rcases hq_ with ⟨c19, h⟩ | ⟨c19, h⟩
   · have c19 : (!((scut s1 8 10).toList == (⟨#[61, 32]⟩ : ByteArray).toList)) = true := c19
     refine wpRwI 14 (x := (!((scut s1 8 10).toList == (⟨#[61, 32]⟩ : ByteArray).toList))) (v := true) kr c19 ?_
     refine wpRwI 15 (x := (!((scut s1 8 10).toList == (⟨#[61, 32]⟩ : ByteArray).toList))) (v := true) kr c19 ?_
     refine condT kr ?_
     refine wp_seq_k fun K20 hK21 => rl ?_
     refine seqL1 kr ?_
     refine seqK rfl (does_store (n := 4) (vs := [.string ⟨#[]⟩, .string ⟨#[]⟩, .string ⟨#[]⟩, .string ⟨#[]⟩]) (cs' := #[.string ⟨#[]⟩, .string ⟨#[]⟩, .string ⟨#[]⟩, .string ⟨#[]⟩]) rfl kr (kv (.pointer (some ⟨b4, 0, none⟩))) (kv (.agg #[.string ⟨#[]⟩, .string ⟨#[]⟩, .string ⟨#[]⟩, .string ⟨#[]⟩])) rfl rfl (by intro u_ hu_; simp only [List.mem_cons, List.not_mem_nil, or_false] at hu_; rcases hu_ with rfl | rfl | rfl | rfl <;> rfl) HS6 (Nat.le_of_ble_eq_true rfl) kr ?_)
     intro W22 HS23
     refine seqL1 kr ?_
     refine nl (hK21 _ _ ?_)
     refine wp_ret ?_
     refine hret _ _ ?_
     refine ends (v := Value.tuple #[.agg #[.string ⟨#[]⟩, .string ⟨#[]⟩, .string ⟨#[]⟩, .string ⟨#[]⟩], .bool false]) (results2 (q1 := .cell 2 51) (q2 := .tmp 3) kr (resN (n := 4) (cs := [.string ⟨#[]⟩, .string ⟨#[]⟩, .string ⟨#[]⟩, .string ⟨#[]⟩]) (kv (.pointer (some ⟨b4, 0, none⟩))) Tryz.underlying51 rfl kr rfl (HS23.cells 0 4 _ rfl)) (resT (kv (.bool false)))) kr ?_
     have HS134 := HS23.drop
     injection h with h
     injection h with h0_ h
     subst h0_ h
     exact ⟨f, rfl, FM.le.refl _, HS134⟩
   · have c19 : ¬ ((!((scut s1 8 10).toList == (⟨#[61, 32]⟩ : ByteArray).toList)) = true) := c19
     refine wpRwI 14 (x := (!((scut s1 8 10).toList == (⟨#[61, 32]⟩ : ByteArray).toList))) (v := false) kr (Bool.eq_false_iff.mpr c19) ?_
     refine wpRwI 15 (x := (!((scut s1 8 10).toList == (⟨#[61, 32]⟩ : ByteArray).toList))) (v := false) kr (Bool.eq_false_iff.mpr c19) ?_
     refine condF kr ?_
     refine wp_skip ?_
     refine hK9 _ _ ?_
     refine wp_seq_k fun K24 hK25 => rl ?_
     have hq_ := guard_some h; clear h; obtain ⟨c26, h⟩ := hq_
     have c26 : 8 ≤ (s1.size : Int) := c26
     refine seqL1 kr ?_
     refine seqK rfl (does_run (run_scutH rfl Tryz.underlying9 (kv (.string s1)) (kv (.int .i64 8)) (by decide) c26 W5) ?_)
     have hq_ := bind_some h; clear h; obtain ⟨vt27, hc28, h⟩ := hq_
     refine seqK rfl (does_call (f := 30) (args := #[.string (scut s1 0 8), .string ⟨#[32]⟩]) kr (strings_TrimRight.calls k (scut s1 0 8) (⟨#[32]⟩ : ByteArray) HS6 vt27 hc28) ?_)
     rintro _ W31 ⟨f29, rfl, L30, HS32⟩
     refine ⟨_, rfl, ?_⟩
     refine seqL1 kr ?_
     refine seqK rfl (does_alloc (z := Value.agg #[.string ⟨#[]⟩, .string ⟨#[]⟩, .string ⟨#[]⟩, .string ⟨#[]⟩]) (cs := #[.string ⟨#[]⟩, .string ⟨#[]⟩, .string ⟨#[]⟩, .string ⟨#[]⟩]) rfl kr rfl HS32 ?_)
     intro b33 W34 HS35
     refine seqK rfl (does_store (n := 4) (vs := [.string vt27, .string ⟨#[]⟩, .string ⟨#[]⟩, .string ⟨#[]⟩]) (cs' := #[.string vt27, .string ⟨#[]⟩, .string ⟨#[]⟩, .string ⟨#[]⟩]) rfl kr (kv (.pointer (some ⟨b33, 0, none⟩))) (kv (.agg #[.string vt27, .string ⟨#[]⟩, .string ⟨#[]⟩, .string ⟨#[]⟩])) rfl rfl (by intro u_ hu_; simp only [List.mem_cons, List.not_mem_nil, or_false] at hu_; rcases hu_ with rfl | rfl | rfl | rfl <;> rfl) HS35 (Nat.le_of_ble_eq_true rfl) kr ?_)
     intro W37 HS38
     refine nl (hK25 _ _ ?_)
     refine wp_seq_k fun K39 hK40 => rl ?_
     refine seqL1 kr ?_
     refine seqK rfl (does_run (run_scutL rfl Tryz.underlying9 (kv (.string s1)) (kv (.int .i64 10)) (by decide) c17 W37) ?_)
     have hq_ := bind_some h; clear h; obtain ⟨vt41, hc42, h⟩ := hq_
     refine seqK rfl (does_call (f := 30) (args := #[.string (scut s1 10 (s1.size : Int)), .string ⟨#[32]⟩]) kr (strings_TrimRight.calls k (scut s1 10 (s1.size : Int)) (⟨#[32]⟩ : ByteArray) HS38 vt41 hc42) ?_)
     rintro _ W45 ⟨f43, rfl, L44, HS46⟩
     refine ⟨_, rfl, ?_⟩
     refine seqL1 kr ?_
     refine nl (hK40 _ _ ?_)
     refine wp_seq_k fun K47 hK48 => rl ?_
     have hq_ := bind_some h; clear h; obtain ⟨⟨vt49, vt50, vt51⟩, hc52, h⟩ := hq_
     refine seqL1 kr ?_
     refine seqK rfl (does_call (f := 59) (args := #[.string vt41, .string ⟨#[32]⟩]) kr (strings_Cut.calls k vt41 (⟨#[32]⟩ : ByteArray) HS46 (HM.mono (L30.trans L44)) vt49 vt50 vt51 hc52) ?_)
     rintro _ W55 ⟨f53, rfl, L54, HS56⟩
     refine ⟨_, rfl, ?_⟩
     refine seqL5 kr ?_
     refine seqK rfl (does_store (n := 1) (vs := [.string vt49]) (cs' := #[.string vt27, .string vt49, .string ⟨#[]⟩, .string ⟨#[]⟩]) rfl kr (kv (.pointer (some ⟨b33, 1, none⟩))) (kv (.string vt49)) rfl rfl (by intro u_ hu_; simp only [List.mem_cons, List.not_mem_nil, or_false] at hu_; subst hu_; rfl) HS56 (Nat.le_of_ble_eq_true rfl) kr ?_)
     intro W57 HS58
     refine seqL1 kr ?_
     refine nl (hK48 _ _ ?_)
     refine wp_seq_k (fun K59 hK60 => ?_)
     refine wp_seq_k fun K61 hK62 => rl ?_
     have hq_ := bind_some h; clear h; obtain ⟨⟨vt63, vt64⟩, hc65, h⟩ := hq_
     refine seqL1 kr ?_
     refine seqK rfl (does_call (f := 60) (args := #[.string vt50, .string ⟨#[91]⟩]) kr (strings_CutPrefix.calls k vt50 (⟨#[91]⟩ : ByteArray) HS58 vt63 vt64 hc65) ?_)
     rintro _ W68 ⟨f66, rfl, L67, HS69⟩
     refine ⟨_, rfl, ?_⟩
     refine seqL5 kr ?_
     refine nl (hK62 _ _ ?_)
     refine wp_seq_k fun K70 hK71 => rl ?_
     refine seqL1 kr ?_
     refine nl (hK71 _ _ ?_)
     have hq_ := ite_some h; clear h; rcases hq_ with ⟨c73, h⟩ | ⟨c73, h⟩
     · have c73 : vt64 = true := c73
       refine wpRwI 7 (x := vt64) (v := true) kr c73 ?_
       refine wpRwI 35 (x := vt64) (v := true) kr c73 ?_
       refine wpRwI 36 (x := vt64) (v := true) kr c73 ?_
       refine condT kr ?_
       refine wp_seq_k fun K74 hK75 => rl ?_
       have hq_ := bind_some h; clear h; obtain ⟨⟨vt76, vt77, vt78⟩, hc79, h⟩ := hq_
       refine seqL1 kr ?_
       refine seqK rfl (does_call (f := 59) (args := #[.string vt63, .string ⟨#[93]⟩]) kr (strings_Cut.calls k vt63 (⟨#[93]⟩ : ByteArray) HS69 (HM.mono (L30.trans (L44.trans (L54.trans L67)))) vt76 vt77 vt78 hc79) ?_)
       rintro _ W82 ⟨f80, rfl, L81, HS83⟩
       refine ⟨_, rfl, ?_⟩
       refine seqL5 kr ?_
       refine seqK rfl (does_store (n := 1) (vs := [.string vt76]) (cs' := #[.string vt27, .string vt49, .string vt76, .string ⟨#[]⟩]) rfl kr (kv (.pointer (some ⟨b33, 2, none⟩))) (kv (.string vt76)) rfl rfl (by intro u_ hu_; simp only [List.mem_cons, List.not_mem_nil, or_false] at hu_; subst hu_; rfl) HS83 (Nat.le_of_ble_eq_true rfl) kr ?_)
       intro W84 HS85
       refine seqL2 kr ?_
       refine nl (hK75 _ _ ?_)
       refine wp_seq_k fun K86 hK87 => rl ?_
       have hq_ := bind_some h; clear h; obtain ⟨vt88, hc89, h⟩ := hq_
       refine seqL1 kr ?_
       refine seqK rfl (does_call (f := 61) (args := #[.string vt77, .string ⟨#[32]⟩]) kr (strings_TrimPrefix.calls k vt77 (⟨#[32]⟩ : ByteArray) HS85 vt88 hc89) ?_)
       rintro _ W92 ⟨f90, rfl, L91, HS93⟩
       refine ⟨_, rfl, ?_⟩
       refine seqL1 kr ?_
       refine nl (hK87 _ _ ?_)
       refine wp_seq_k fun K94 hK95 => rl ?_
       refine seqL2 kr ?_
       refine nl (hK95 _ _ ?_)
       have hq_ := ite_some h; clear h; rcases hq_ with ⟨c97, h⟩ | ⟨c97, h⟩
       · have c97 : ¬ (vt78 = true) := c97
         refine wpRwI 47 (x := (!vt78)) (v := true) kr (congrArg (fun b_ => !b_) (show vt78 = false from (Bool.eq_false_iff.mpr c97)) : (!vt78) = true) ?_
         refine condT kr ?_
         refine wp_seq_k fun K98 hK99 => rl ?_
         have HS100 := HS93.u1
         refine seqL1 kr ?_
         refine seqK rfl (does_store (n := 4) (vs := [.string ⟨#[]⟩, .string ⟨#[]⟩, .string ⟨#[]⟩, .string ⟨#[]⟩]) (cs' := #[.string ⟨#[]⟩, .string ⟨#[]⟩, .string ⟨#[]⟩, .string ⟨#[]⟩]) rfl kr (kv (.pointer (some ⟨b4, 0, none⟩))) (kv (.agg #[.string ⟨#[]⟩, .string ⟨#[]⟩, .string ⟨#[]⟩, .string ⟨#[]⟩])) rfl rfl (by intro u_ hu_; simp only [List.mem_cons, List.not_mem_nil, or_false] at hu_; rcases hu_ with rfl | rfl | rfl | rfl <;> rfl) HS100 (Nat.le_of_ble_eq_true rfl) kr ?_)
         intro W101 HS102
         refine seqL1 kr ?_
         refine nl (hK99 _ _ ?_)
         refine wp_ret ?_
         refine hret _ _ ?_
         refine ends (v := Value.tuple #[.agg #[.string ⟨#[]⟩, .string ⟨#[]⟩, .string ⟨#[]⟩, .string ⟨#[]⟩], .bool false]) (results2 (q1 := .cell 2 51) (q2 := .tmp 3) kr (resN (n := 4) (cs := [.string ⟨#[]⟩, .string ⟨#[]⟩, .string ⟨#[]⟩, .string ⟨#[]⟩]) (kv (.pointer (some ⟨b4, 0, none⟩))) Tryz.underlying51 rfl kr rfl (HS102.cells 0 4 _ rfl)) (resT (kv (.bool false)))) kr ?_
         have HS135 := HS102.drop
         have HS136 := HS135.drop
         injection h with h
         injection h with h0_ h
         subst h0_ h
         exact ⟨f90, rfl, (L30.trans (L44.trans (L54.trans (L67.trans (L81.trans L91))))), HS136⟩
       · have c97 : ¬ (¬ (vt78 = true)) := c97
         refine wpRwI 47 (x := (!vt78)) (v := false) kr (congrArg (fun b_ => !b_) (show vt78 = true from (Decidable.of_not_not c97)) : (!vt78) = false) ?_
         refine condF kr ?_
         refine wp_skip ?_
         refine hK60 _ _ ?_
         refine wp_seq_k fun K103 hK104 => rl ?_
         have hq_ := bind_some h; clear h; obtain ⟨vt105, hc106, h⟩ := hq_
         refine seqL1 kr ?_
         refine seqK rfl (does_call (f := 61) (args := #[.string vt88, .string ⟨#[47, 32]⟩]) kr (strings_TrimPrefix.calls k vt88 (⟨#[47, 32]⟩ : ByteArray) HS93 vt105 hc106) ?_)
         rintro _ W109 ⟨f107, rfl, L108, HS110⟩
         refine ⟨_, rfl, ?_⟩
         refine seqL1 kr ?_
         refine seqK rfl (does_store (n := 1) (vs := [.string vt105]) (cs' := #[.string vt27, .string vt49, .string vt76, .string vt105]) rfl kr (kv (.pointer (some ⟨b33, 3, none⟩))) (kv (.string vt105)) rfl rfl (by intro u_ hu_; simp only [List.mem_cons, List.not_mem_nil, or_false] at hu_; subst hu_; rfl) HS110 (Nat.le_of_ble_eq_true rfl) kr ?_)
         intro W111 HS112
         refine nl (hK104 _ _ ?_)
         refine wp_seq_k fun K113 hK114 => rl ?_
         refine seqK rfl (does_run (run_loadN (n := 4) rfl Tryz.underlying51 rfl kr (kv (.pointer (some ⟨b33, 0, none⟩))) (cs := [.string vt27, .string vt49, .string vt76, .string vt105]) rfl (HS112.cells 0 4 _ rfl)) ?_)
         have HS115 := HS112.u1
         refine seqK rfl (does_store (n := 4) (vs := [.string vt27, .string vt49, .string vt76, .string vt105]) (cs' := #[.string vt27, .string vt49, .string vt76, .string vt105]) rfl kr (kv (.pointer (some ⟨b4, 0, none⟩))) (kv (.agg #[.string vt27, .string vt49, .string vt76, .string vt105])) rfl rfl (by intro u_ hu_; simp only [List.mem_cons, List.not_mem_nil, or_false] at hu_; rcases hu_ with rfl | rfl | rfl | rfl <;> rfl) HS115 (Nat.le_of_ble_eq_true rfl) kr ?_)
         intro W116 HS117
         refine seqL1 kr ?_
         refine nl (hK114 _ _ ?_)
         refine wp_ret ?_
         refine hret _ _ ?_
         refine ends (v := Value.tuple #[.agg #[.string vt27, .string vt49, .string vt76, .string vt105], .bool true]) (results2 (q1 := .cell 2 51) (q2 := .tmp 3) kr (resN (n := 4) (cs := [.string vt27, .string vt49, .string vt76, .string vt105]) (kv (.pointer (some ⟨b4, 0, none⟩))) Tryz.underlying51 rfl kr rfl (HS117.cells 0 4 _ rfl)) (resT (kv (.bool true)))) kr ?_
         have HS137 := HS117.drop
         have HS138 := HS137.drop
         injection h with h
         injection h with h0_ h
         subst h0_ h
         exact ⟨f107, rfl, (L30.trans (L44.trans (L54.trans (L67.trans (L81.trans (L91.trans L108)))))), HS138⟩
     · have c73 : ¬ (vt64 = true) := c73
       refine wpRwI 7 (x := vt64) (v := false) kr (Bool.eq_false_iff.mpr c73) ?_
       refine wpRwI 35 (x := vt64) (v := false) kr (Bool.eq_false_iff.mpr c73) ?_
       refine wpRwI 36 (x := vt64) (v := false) kr (Bool.eq_false_iff.mpr c73) ?_
       refine condF kr ?_
       refine wp_skip ?_
       refine hK60 _ _ ?_
       refine wp_seq_k fun K118 hK119 => rl ?_
       have hq_ := bind_some h; clear h; obtain ⟨vt120, hc121, h⟩ := hq_
       refine seqL1 kr ?_
       refine seqK rfl (does_call (f := 61) (args := #[.string vt50, .string ⟨#[47, 32]⟩]) kr (strings_TrimPrefix.calls k vt50 (⟨#[47, 32]⟩ : ByteArray) HS69 vt120 hc121) ?_)
       rintro _ W124 ⟨f122, rfl, L123, HS125⟩
       refine ⟨_, rfl, ?_⟩
       refine seqL1 kr ?_
       refine seqK rfl (does_store (n := 1) (vs := [.string vt120]) (cs' := #[.string vt27, .string vt49, .string ⟨#[]⟩, .string vt120]) rfl kr (kv (.pointer (some ⟨b33, 3, none⟩))) (kv (.string vt120)) rfl rfl (by intro u_ hu_; simp only [List.mem_cons, List.not_mem_nil, or_false] at hu_; subst hu_; rfl) HS125 (Nat.le_of_ble_eq_true rfl) kr ?_)
       intro W126 HS127
       refine nl (hK119 _ _ ?_)
       refine wp_seq_k fun K128 hK129 => rl ?_
       refine seqK rfl (does_run (run_loadN (n := 4) rfl Tryz.underlying51 rfl kr (kv (.pointer (some ⟨b33, 0, none⟩))) (cs := [.string vt27, .string vt49, .string ⟨#[]⟩, .string vt120]) rfl (HS127.cells 0 4 _ rfl)) ?_)
       have HS130 := HS127.u1
       refine seqK rfl (does_store (n := 4) (vs := [.string vt27, .string vt49, .string ⟨#[]⟩, .string vt120]) (cs' := #[.string vt27, .string vt49, .string ⟨#[]⟩, .string vt120]) rfl kr (kv (.pointer (some ⟨b4, 0, none⟩))) (kv (.agg #[.string vt27, .string vt49, .string ⟨#[]⟩, .string vt120])) rfl rfl (by intro u_ hu_; simp only [List.mem_cons, List.not_mem_nil, or_false] at hu_; rcases hu_ with rfl | rfl | rfl | rfl <;> rfl) HS130 (Nat.le_of_ble_eq_true rfl) kr ?_)
       intro W131 HS132
       refine seqL1 kr ?_
       refine nl (hK129 _ _ ?_)
       refine wp_ret ?_
       refine hret _ _ ?_
       refine ends (v := Value.tuple #[.agg #[.string vt27, .string vt49, .string ⟨#[]⟩, .string vt120], .bool true]) (results2 (q1 := .cell 2 51) (q2 := .tmp 3) kr (resN (n := 4) (cs := [.string vt27, .string vt49, .string ⟨#[]⟩, .string vt120]) (kv (.pointer (some ⟨b4, 0, none⟩))) Tryz.underlying51 rfl kr rfl (HS132.cells 0 4 _ rfl)) (resT (kv (.bool true)))) kr ?_
       have HS139 := HS132.drop
       have HS140 := HS139.drop
       injection h with h
       injection h with h0_ h
       subst h0_ h
       exact ⟨f122, rfl, (L30.trans (L44.trans (L54.trans (L67.trans L123)))), HS140⟩

theorem strconv_Atoi.calls (k : Nat) (s : ByteArray) {t w : World} {f : FM} {H : List Seg} (HS : St t w f H) (r1 : Int) (h : strconv_Atoi k s = some r1) :
    Calls Tryz.prog 62 #[.string s] w (fun e w' => ∃ (g : FM), e = .returned (Value.tuple #[Value.int .i64 r1, Value.nilIface]) ∧ FM.le f g ∧ St t w' g H) := by
  unfold strconv_Atoi at h
  have hq_ := guard_some h; clear h; obtain ⟨h1, h⟩ := hq_
  have hv : Go.Lib.atoiAll s.data.toList = .ok r1 := by
    cases hc_ : Go.Lib.atoiAll s.data.toList with
    | ok v_ => rw [hc_] at h; injection h with h; rw [h]
    | _ => rw [hc_] at h; cases h
  exact lib_calls (Tryz.strconv_Atoi_ok s h1 r1 hv w) q_bytes2 HS

set_option maxRecDepth 100000 in
set_option maxHeartbeats 4000000 in
theorem frame_whole.calls (k : Nat) (A2 : Option Addr) (c3 : Nat) (A6 : Option Addr) (c7 : Nat) (cards1 : List S_Card) (data5 : List Int) {t w : World} {f : FM} {H : List Seg} (HS : St t w f (H)) (HR4 : SlR ty_Card f A2 c3 cards1) (HR8 : SlR (tInt .u8) f A6 c7 data5) (rr1 : S_Frame) (rr2 : Bool) (h : frame_whole k cards1 data5 = some (rr1, rr2)) :
    Calls Tryz.prog 32 #[.slice A2 cards1.length c3, .slice A6 data5.length c7] w (fun e w' => ∃ (g : FM) (A612 : Option Addr) (c613 : Nat) (A614 : Option Addr) (c615 : Nat) (s616 : Seg), e = .returned (Value.tuple #[.agg #[.int .i64 rr1.W, .int .i64 rr1.H, .slice A612 rr1.Cards.length c613, .slice A614 rr1.Counts.length c615], .bool rr2]) ∧ FM.le f g ∧ St t w' g (s616 :: H) ∧ SlR ty_Card g A612 c613 rr1.Cards ∧ Own (tInt .i64) 3 g A614 c615 s616 rr1.Counts) := by
 unfold frame_whole at h
 refine enter Tryz.func32 rfl (tm := #[.slice A2 cards1.length c3, .slice A6 data5.length c7, uV, uV, uV, uV, uV, uV, uV, uV, uV, uV, uV, uV, uV, uV, uV, uV, uV, uV, uV, uV, uV, uV, uV, uV, uV, uV, uV, uV, uV, uV, uV, uV, uV, uV, uV, uV, uV, uV, uV, uV, uV, uV, uV, uV, uV, uV, uV, uV, uV, uV, uV, uV, uV, uV, uV, uV, uV, uV, uV, uV, uV, uV, uV, uV, uV, uV, uV, uV, uV, uV, uV, uV, uV, uV, uV, uV, uV, uV, uV, uV, uV, uV, uV, uV, uV, uV, uV, uV, uV, uV, uV, uV, uV, uV, uV, uV, uV, uV, uV, uV, uV, uV, uV, uV, uV, uV, uV]) kr ?_
 intro B hret hnor hnp
 refine wp_seq_k fun K9 hK10 => rl ?_
 refine seqK rfl (does_alloc (z := Value.agg #[.int .i64 0, .int .i64 0, .slice none 0 0, .slice none 0 0]) (cs := #[.int .i64 0, .int .i64 0, .slice none 0 0, .slice none 0 0]) rfl kr rfl HS ?_)
 intro b11 W12 HS13
 refine seqL1 kr ?_
 refine nl (hK10 _ _ ?_)
 refine wp_seq_k fun K15 hK16 => rl ?_
 refine seqK rfl (does_alloc (z := Value.agg #[.int .i64 0, .int .i64 0, .int .i64 0]) (cs := #[.int .i64 0, .int .i64 0, .int .i64 0]) rfl kr rfl HS13 ?_)
 intro b17 W18 HS19
 refine nl (hK16 _ _ ?_)
 refine wp_seq_k (fun K21 hK22 => ?_)
 refine wp_seq_k fun K23 hK24 => rl ?_
 refine seqL1 kr ?_
 refine nl (hK24 _ _ ?_)
 refine blockK (fun B25 hx26 hn27 hr28 ho29 hp30 => ?_)
 refine wp_loop_rounds 4 ?_
 refine loopStepK (fun K31 hK32 => ?_)
 refine wp_seq_k fun K33 hK34 => rl ?_
 refine seqL1 kr ?_
 refine nl (hK34 _ _ ?_)
 refine wp_seq_k (fun K35 hK36 => ?_)
 refine condT kr ?_
 refine wp_skip ?_
 refine hK36 _ _ ?_
 refine wp_seq_k (fun K37 hK38 => ?_)
 refine blockK (fun B39 hx40 hn41 hr42 ho43 hp44 => ?_)
 refine wp_seq_k fun K46 hK47 => rl ?_
 refine seqL2 kr ?_
 refine nl (hK47 _ _ ?_)
 refine wp_seq_k (fun K48 hK49 => ?_)
 refine wp_seq_k fun K50 hK51 => rl ?_
 refine seqL4 kr ?_
 refine nl (hK51 _ _ ?_)
 have hq_ := ite_some h; clear h; rcases hq_ with ⟨c53, h⟩ | ⟨c53, h⟩
 · have c53 : 0 ≥ (cards1.length : Int) := c53
   refine wpRwI 21 (x := (decide (0 ≥ (cards1.length : Int)))) (v := true) kr (decide_eq_true c53) ?_
   refine condT kr ?_
   refine wp_seq_k fun K54 hK55 => rl ?_
   have HS56 := HS19.u1
   refine seqL1 kr ?_
   refine seqK rfl (does_store (n := 4) (vs := [.int .i64 0, .int .i64 0, .slice none 0 0, .slice none 0 0]) (cs' := #[.int .i64 0, .int .i64 0, .slice none 0 0, .slice none 0 0]) rfl kr (kv (.pointer (some ⟨b11, 0, none⟩))) (kv (.agg #[.int .i64 0, .int .i64 0, .slice none 0 0, .slice none 0 0])) rfl rfl (by intro u_ hu_; simp only [List.mem_cons, List.not_mem_nil, or_false] at hu_; rcases hu_ with rfl | rfl | rfl | rfl <;> rfl) HS56 (Nat.le_of_ble_eq_true rfl) kr ?_)
   intro W57 HS58
   refine seqL1 kr ?_
   refine nl (hK55 _ _ ?_)
   refine wp_ret ?_
   refine hr42 _ _ ?_
   refine hr28 _ _ ?_
   refine hret _ _ ?_
   have HS535 := HS58.cons_nil
   refine ends (v := Value.tuple #[.agg #[.int .i64 0, .int .i64 0, .slice none 0 0, .slice none 0 0], .bool false]) (results2 (q1 := .cell 4 29) (q2 := .tmp 5) kr (resN (n := 4) (cs := [.int .i64 0, .int .i64 0, .slice none 0 0, .slice none 0 0]) (kv (.pointer (some ⟨b11, 0, none⟩))) Tryz.underlying29 rfl kr rfl (HS535.u1.cells 0 4 _ rfl)) (resT (kv (.bool false)))) kr ?_
   have HS537 := HS535.u2
   have HS538 := HS537.u2
   have HS539 := HS538.drop
   have HS540 := HS539.drop
   injection h with h
   injection h with h0_ h
   subst h0_ h
   exact ⟨f, none, 0, none, 0, [], rfl, FM.le.refl _, HS540, (SlR.nil _ _), (Own.nil _)⟩
 · have c53 : ¬ (0 ≥ (cards1.length : Int)) := c53
   refine wpRwI 21 (x := (decide (0 ≥ (cards1.length : Int)))) (v := false) kr (decide_eq_false c53) ?_
   refine condF kr ?_
   refine wp_skip ?_
   refine hK49 _ _ ?_
   refine wp_seq_k fun K59 hK60 => rl ?_
   have hq_ := guard_some h; clear h; obtain ⟨c61, h⟩ := hq_
   have c61 : 0 < (cards1.length : Int) := c61
   obtain ⟨b65, of66, cs62, hA67, hr63, hc64⟩ := HR4.at (i := 0) (by decide) c61
   obtain rfl := hr63
   refine seqL2 kr ?_
   refine seqK rfl (does_run (run_indexE hA67 (sz := 4) rfl Tryz.underlying27 kr (kv (.slice A2 cards1.length c3)) (kv (.int .i64 0)) (by decide) c61 W18) ?_)
   refine seqL1 kr ?_
   refine seqK rfl (does_run (run_load rfl Tryz.underlying9 rfl (kv (.pointer (some ⟨b65, of66 + (0 : Int).toNat * 4 + 1, none⟩))) ((hc64 (FM.le.refl _) HS19) 1 (by decide))) ?_)
   have hq_ := bind_some h; clear h; obtain ⟨vt68, hc69, h⟩ := hq_
   refine seqK rfl (does_call (f := 62) (args := #[.string ((rd cards1 0).Value)]) kr (strconv_Atoi.calls k ((rd cards1 0).Value) HS19 vt68 hc69) ?_)
   rintro _ W72 ⟨f70, rfl, L71, HS73⟩
   refine ⟨_, rfl, ?_⟩
   refine seqL5 kr ?_
   refine nl (hK60 _ _ ?_)
   refine wp_seq_k (fun K74 hK75 => ?_)
   refine wp_seq_k fun K76 hK77 => rl ?_
   refine seqL7 kr ?_
   have hq_ := ite_some h; clear h; rcases hq_ with ⟨c78, h⟩ | ⟨c78, h⟩
   · have c78 : vt68 < 1 := c78
     refine seqRwI 36 (x := (decide (vt68 < 1))) (v := true) kr (decide_eq_true c78) ?_
     refine seqRwI 37 (x := (decide (vt68 < 1))) (v := true) kr (decide_eq_true c78) ?_
     refine seqRwI 38 (x := (decide (vt68 < 1))) (v := true) kr (decide_eq_true c78) ?_
     refine seqL3 kr ?_
     refine nl (hK77 _ _ ?_)
     refine condT kr ?_
     refine wp_seq_k fun K79 hK80 => rl ?_
     have HS81 := HS73.u1
     refine seqL1 kr ?_
     refine seqK rfl (does_store (n := 4) (vs := [.int .i64 0, .int .i64 0, .slice none 0 0, .slice none 0 0]) (cs' := #[.int .i64 0, .int .i64 0, .slice none 0 0, .slice none 0 0]) rfl kr (kv (.pointer (some ⟨b11, 0, none⟩))) (kv (.agg #[.int .i64 0, .int .i64 0, .slice none 0 0, .slice none 0 0])) rfl rfl (by intro u_ hu_; simp only [List.mem_cons, List.not_mem_nil, or_false] at hu_; rcases hu_ with rfl | rfl | rfl | rfl <;> rfl) HS81 (Nat.le_of_ble_eq_true rfl) kr ?_)
     intro W82 HS83
     refine seqL1 kr ?_
     refine nl (hK80 _ _ ?_)
     refine wp_ret ?_
     refine hr42 _ _ ?_
     refine hr28 _ _ ?_
     refine hret _ _ ?_
     have HS541 := HS83.cons_nil
     refine ends (v := Value.tuple #[.agg #[.int .i64 0, .int .i64 0, .slice none 0 0, .slice none 0 0], .bool false]) (results2 (q1 := .cell 4 29) (q2 := .tmp 5) kr (resN (n := 4) (cs := [.int .i64 0, .int .i64 0, .slice none 0 0, .slice none 0 0]) (kv (.pointer (some ⟨b11, 0, none⟩))) Tryz.underlying29 rfl kr rfl (HS541.u1.cells 0 4 _ rfl)) (resT (kv (.bool false)))) kr ?_
     have HS543 := HS541.u2
     have HS544 := HS543.u2
     have HS545 := HS544.drop
     have HS546 := HS545.drop
     injection h with h
     injection h with h0_ h
     subst h0_ h
     exact ⟨f70, none, 0, none, 0, [], rfl, L71, HS546, (SlR.nil _ _), (Own.nil _)⟩
   · have c78 : ¬ (vt68 < 1) := c78
     refine seqRwI 36 (x := (decide (vt68 < 1))) (v := false) kr (decide_eq_false c78) ?_
     refine seqRwI 37 (x := (decide (vt68 < 1))) (v := false) kr (decide_eq_false c78) ?_
     refine seqRwI 38 (x := (decide (vt68 < 1))) (v := false) kr (decide_eq_false c78) ?_
     refine seqL3 kr ?_
     refine nl (hK77 _ _ ?_)
     have hq_ := ite_some h; clear h; rcases hq_ with ⟨c85, h⟩ | ⟨c85, h⟩
     · have c85 : vt68 > 32 := c85
       refine wpRwI 40 (x := (decide (vt68 > 32))) (v := true) kr (decide_eq_true c85) ?_
       refine wpRwI 41 (x := (decide (vt68 > 32))) (v := true) kr (decide_eq_true c85) ?_
       refine condT kr ?_
       refine wp_seq_k fun K86 hK87 => rl ?_
       have HS88 := HS73.u1
       refine seqL1 kr ?_
       refine seqK rfl (does_store (n := 4) (vs := [.int .i64 0, .int .i64 0, .slice none 0 0, .slice none 0 0]) (cs' := #[.int .i64 0, .int .i64 0, .slice none 0 0, .slice none 0 0]) rfl kr (kv (.pointer (some ⟨b11, 0, none⟩))) (kv (.agg #[.int .i64 0, .int .i64 0, .slice none 0 0, .slice none 0 0])) rfl rfl (by intro u_ hu_; simp only [List.mem_cons, List.not_mem_nil, or_false] at hu_; rcases hu_ with rfl | rfl | rfl | rfl <;> rfl) HS88 (Nat.le_of_ble_eq_true rfl) kr ?_)
       intro W89 HS90
       refine seqL1 kr ?_
       refine nl (hK87 _ _ ?_)
       refine wp_ret ?_
       refine hr42 _ _ ?_
       refine hr28 _ _ ?_
       refine hret _ _ ?_
       have HS547 := HS90.cons_nil
       refine ends (v := Value.tuple #[.agg #[.int .i64 0, .int .i64 0, .slice none 0 0, .slice none 0 0], .bool false]) (results2 (q1 := .cell 4 29) (q2 := .tmp 5) kr (resN (n := 4) (cs := [.int .i64 0, .int .i64 0, .slice none 0 0, .slice none 0 0]) (kv (.pointer (some ⟨b11, 0, none⟩))) Tryz.underlying29 rfl kr rfl (HS547.u1.cells 0 4 _ rfl)) (resT (kv (.bool false)))) kr ?_
       have HS549 := HS547.u2
       have HS550 := HS549.u2
       have HS551 := HS550.drop
       have HS552 := HS551.drop
       injection h with h
       injection h with h0_ h
       subst h0_ h
       exact ⟨f70, none, 0, none, 0, [], rfl, L71, HS552, (SlR.nil _ _), (Own.nil _)⟩
     · have c85 : ¬ (vt68 > 32) := c85
       refine wpRwI 40 (x := (decide (vt68 > 32))) (v := false) kr (decide_eq_false c85) ?_
       refine wpRwI 41 (x := (decide (vt68 > 32))) (v := false) kr (decide_eq_false c85) ?_
       refine condF kr ?_
       refine wp_skip ?_
       refine hK75 _ _ ?_
       refine rl ?_
       refine seqL3 kr ?_
       refine seqK rfl (does_store (n := 1) (vs := [.int .i64 vt68]) (cs' := #[.int .i64 vt68, .int .i64 0, .int .i64 0]) rfl kr (kv (.pointer (some ⟨b17, 0, none⟩))) (kv (.int .i64 vt68)) rfl rfl (by intro u_ hu_; simp only [List.mem_cons, List.not_mem_nil, or_false] at hu_; subst hu_; rfl) HS73 (Nat.le_of_ble_eq_true rfl) kr ?_)
       intro W91 HS92
       refine nl ?_
       refine hn41 _ _ ?_
       refine hK38 _ _ ?_
       refine rl ?_
       refine seqL2 kr ?_
       refine nl (hK32 _ _ ?_)
       refine loopStepK (fun K93 hK94 => ?_)
       refine wp_seq_k fun K95 hK96 => rl ?_
       refine seqL1 kr ?_
       refine nl (hK96 _ _ ?_)
       refine wp_seq_k (fun K97 hK98 => ?_)
       refine condT kr ?_
       refine wp_skip ?_
       refine hK98 _ _ ?_
       refine wp_seq_k (fun K99 hK100 => ?_)
       refine blockK (fun B101 hx102 hn103 hr104 ho105 hp106 => ?_)
       refine wp_seq_k fun K108 hK109 => rl ?_
       refine seqL2 kr ?_
       refine nl (hK109 _ _ ?_)
       refine wp_seq_k (fun K110 hK111 => ?_)
       refine wp_seq_k fun K112 hK113 => rl ?_
       refine seqL4 kr ?_
       refine nl (hK113 _ _ ?_)
       have hq_ := ite_some h; clear h; rcases hq_ with ⟨c115, h⟩ | ⟨c115, h⟩
       · have c115 : 1 ≥ (cards1.length : Int) := c115
         refine wpRwI 21 (x := (decide (1 ≥ (cards1.length : Int)))) (v := true) kr (decide_eq_true c115) ?_
         refine condT kr ?_
         refine wp_seq_k fun K116 hK117 => rl ?_
         have HS118 := HS92.u1
         refine seqL1 kr ?_
         refine seqK rfl (does_store (n := 4) (vs := [.int .i64 0, .int .i64 0, .slice none 0 0, .slice none 0 0]) (cs' := #[.int .i64 0, .int .i64 0, .slice none 0 0, .slice none 0 0]) rfl kr (kv (.pointer (some ⟨b11, 0, none⟩))) (kv (.agg #[.int .i64 0, .int .i64 0, .slice none 0 0, .slice none 0 0])) rfl rfl (by intro u_ hu_; simp only [List.mem_cons, List.not_mem_nil, or_false] at hu_; rcases hu_ with rfl | rfl | rfl | rfl <;> rfl) HS118 (Nat.le_of_ble_eq_true rfl) kr ?_)
         intro W119 HS120
         refine seqL1 kr ?_
         refine nl (hK117 _ _ ?_)
         refine wp_ret ?_
         refine hr104 _ _ ?_
         refine hr28 _ _ ?_
         refine hret _ _ ?_
         have HS553 := HS120.cons_nil
         refine ends (v := Value.tuple #[.agg #[.int .i64 0, .int .i64 0, .slice none 0 0, .slice none 0 0], .bool false]) (results2 (q1 := .cell 4 29) (q2 := .tmp 5) kr (resN (n := 4) (cs := [.int .i64 0, .int .i64 0, .slice none 0 0, .slice none 0 0]) (kv (.pointer (some ⟨b11, 0, none⟩))) Tryz.underlying29 rfl kr rfl (HS553.u1.cells 0 4 _ rfl)) (resT (kv (.bool false)))) kr ?_
         have HS555 := HS553.u2
         have HS556 := HS555.u2
         have HS557 := HS556.drop
         have HS558 := HS557.drop
         injection h with h
         injection h with h0_ h
         subst h0_ h
         exact ⟨f70, none, 0, none, 0, [], rfl, L71, HS558, (SlR.nil _ _), (Own.nil _)⟩
       · have c115 : ¬ (1 ≥ (cards1.length : Int)) := c115
         refine wpRwI 21 (x := (decide (1 ≥ (cards1.length : Int)))) (v := false) kr (decide_eq_false c115) ?_
         refine condF kr ?_
         refine wp_skip ?_
         refine hK111 _ _ ?_
         refine wp_seq_k fun K121 hK122 => rl ?_
         have hq_ := guard_some h; clear h; obtain ⟨c123, h⟩ := hq_
         have c123 : 1 < (cards1.length : Int) := c123
         obtain ⟨b127, of128, cs124, hA129, hr125, hc126⟩ := (HR4.mono L71).at (i := 1) (by decide) c123
         obtain rfl := hr125
         refine seqL2 kr ?_
         refine seqK rfl (does_run (run_indexE hA129 (sz := 4) rfl Tryz.underlying27 kr (kv (.slice A2 cards1.length c3)) (kv (.int .i64 1)) (by decide) c123 W91) ?_)
         refine seqL1 kr ?_
         refine seqK rfl (does_run (run_load rfl Tryz.underlying9 rfl (kv (.pointer (some ⟨b127, of128 + (1 : Int).toNat * 4 + 1, none⟩))) ((hc126 (FM.le.refl _) HS92) 1 (by decide))) ?_)
         have hq_ := bind_some h; clear h; obtain ⟨vt130, hc131, h⟩ := hq_
         refine seqK rfl (does_call (f := 62) (args := #[.string ((rd cards1 1).Value)]) kr (strconv_Atoi.calls k ((rd cards1 1).Value) HS92 vt130 hc131) ?_)
         rintro _ W134 ⟨f132, rfl, L133, HS135⟩
         refine ⟨_, rfl, ?_⟩
         refine seqL5 kr ?_
         refine nl (hK122 _ _ ?_)
         refine wp_seq_k (fun K136 hK137 => ?_)
         refine wp_seq_k fun K138 hK139 => rl ?_
         refine seqL7 kr ?_
         have hq_ := ite_some h; clear h; rcases hq_ with ⟨c140, h⟩ | ⟨c140, h⟩
         · have c140 : vt130 < 1 := c140
           refine seqRwI 36 (x := (decide (vt130 < 1))) (v := true) kr (decide_eq_true c140) ?_
           refine seqRwI 37 (x := (decide (vt130 < 1))) (v := true) kr (decide_eq_true c140) ?_
           refine seqRwI 38 (x := (decide (vt130 < 1))) (v := true) kr (decide_eq_true c140) ?_
           refine seqL3 kr ?_
           refine nl (hK139 _ _ ?_)
           refine condT kr ?_
           refine wp_seq_k fun K141 hK142 => rl ?_
           have HS143 := HS135.u1
           refine seqL1 kr ?_
           refine seqK rfl (does_store (n := 4) (vs := [.int .i64 0, .int .i64 0, .slice none 0 0, .slice none 0 0]) (cs' := #[.int .i64 0, .int .i64 0, .slice none 0 0, .slice none 0 0]) rfl kr (kv (.pointer (some ⟨b11, 0, none⟩))) (kv (.agg #[.int .i64 0, .int .i64 0, .slice none 0 0, .slice none 0 0])) rfl rfl (by intro u_ hu_; simp only [List.mem_cons, List.not_mem_nil, or_false] at hu_; rcases hu_ with rfl | rfl | rfl | rfl <;> rfl) HS143 (Nat.le_of_ble_eq_true rfl) kr ?_)
           intro W144 HS145
           refine seqL1 kr ?_
           refine nl (hK142 _ _ ?_)
           refine wp_ret ?_
           refine hr104 _ _ ?_
           refine hr28 _ _ ?_
           refine hret _ _ ?_
           have HS559 := HS145.cons_nil
           refine ends (v := Value.tuple #[.agg #[.int .i64 0, .int .i64 0, .slice none 0 0, .slice none 0 0], .bool false]) (results2 (q1 := .cell 4 29) (q2 := .tmp 5) kr (resN (n := 4) (cs := [.int .i64 0, .int .i64 0, .slice none 0 0, .slice none 0 0]) (kv (.pointer (some ⟨b11, 0, none⟩))) Tryz.underlying29 rfl kr rfl (HS559.u1.cells 0 4 _ rfl)) (resT (kv (.bool false)))) kr ?_
           have HS561 := HS559.u2
           have HS562 := HS561.u2
           have HS563 := HS562.drop
           have HS564 := HS563.drop
           injection h with h
           injection h with h0_ h
           subst h0_ h
           exact ⟨f132, none, 0, none, 0, [], rfl, (L71.trans L133), HS564, (SlR.nil _ _), (Own.nil _)⟩
         · have c140 : ¬ (vt130 < 1) := c140
           refine seqRwI 36 (x := (decide (vt130 < 1))) (v := false) kr (decide_eq_false c140) ?_
           refine seqRwI 37 (x := (decide (vt130 < 1))) (v := false) kr (decide_eq_false c140) ?_
           refine seqRwI 38 (x := (decide (vt130 < 1))) (v := false) kr (decide_eq_false c140) ?_
           refine seqL3 kr ?_
           refine nl (hK139 _ _ ?_)
           have hq_ := ite_some h; clear h; rcases hq_ with ⟨c147, h⟩ | ⟨c147, h⟩
           · have c147 : vt130 > 32 := c147
             refine wpRwI 40 (x := (decide (vt130 > 32))) (v := true) kr (decide_eq_true c147) ?_
             refine wpRwI 41 (x := (decide (vt130 > 32))) (v := true) kr (decide_eq_true c147) ?_
             refine condT kr ?_
             refine wp_seq_k fun K148 hK149 => rl ?_
             have HS150 := HS135.u1
             refine seqL1 kr ?_
             refine seqK rfl (does_store (n := 4) (vs := [.int .i64 0, .int .i64 0, .slice none 0 0, .slice none 0 0]) (cs' := #[.int .i64 0, .int .i64 0, .slice none 0 0, .slice none 0 0]) rfl kr (kv (.pointer (some ⟨b11, 0, none⟩))) (kv (.agg #[.int .i64 0, .int .i64 0, .slice none 0 0, .slice none 0 0])) rfl rfl (by intro u_ hu_; simp only [List.mem_cons, List.not_mem_nil, or_false] at hu_; rcases hu_ with rfl | rfl | rfl | rfl <;> rfl) HS150 (Nat.le_of_ble_eq_true rfl) kr ?_)
             intro W151 HS152
             refine seqL1 kr ?_
             refine nl (hK149 _ _ ?_)
             refine wp_ret ?_
             refine hr104 _ _ ?_
             refine hr28 _ _ ?_
             refine hret _ _ ?_
             have HS565 := HS152.cons_nil
             refine ends (v := Value.tuple #[.agg #[.int .i64 0, .int .i64 0, .slice none 0 0, .slice none 0 0], .bool false]) (results2 (q1 := .cell 4 29) (q2 := .tmp 5) kr (resN (n := 4) (cs := [.int .i64 0, .int .i64 0, .slice none 0 0, .slice none 0 0]) (kv (.pointer (some ⟨b11, 0, none⟩))) Tryz.underlying29 rfl kr rfl (HS565.u1.cells 0 4 _ rfl)) (resT (kv (.bool false)))) kr ?_
             have HS567 := HS565.u2
             have HS568 := HS567.u2
             have HS569 := HS568.drop
             have HS570 := HS569.drop
             injection h with h
             injection h with h0_ h
             subst h0_ h
             exact ⟨f132, none, 0, none, 0, [], rfl, (L71.trans L133), HS570, (SlR.nil _ _), (Own.nil _)⟩
           · have c147 : ¬ (vt130 > 32) := c147
             refine wpRwI 40 (x := (decide (vt130 > 32))) (v := false) kr (decide_eq_false c147) ?_
             refine wpRwI 41 (x := (decide (vt130 > 32))) (v := false) kr (decide_eq_false c147) ?_
             refine condF kr ?_
             refine wp_skip ?_
             refine hK137 _ _ ?_
             refine rl ?_
             refine seqL3 kr ?_
             refine seqK rfl (does_store (n := 1) (vs := [.int .i64 vt130]) (cs' := #[.int .i64 vt68, .int .i64 vt130, .int .i64 0]) rfl kr (kv (.pointer (some ⟨b17, 1, none⟩))) (kv (.int .i64 vt130)) rfl rfl (by intro u_ hu_; simp only [List.mem_cons, List.not_mem_nil, or_false] at hu_; subst hu_; rfl) HS135 (Nat.le_of_ble_eq_true rfl) kr ?_)
             intro W153 HS154
             refine nl ?_
             refine hn103 _ _ ?_
             refine hK100 _ _ ?_
             refine rl ?_
             refine seqS2 (a' := ⟨#[.slice A2 cards1.length c3, .slice A6 data5.length c7, uV, uV, pV b11 0, fV, pV b17 0, iV 1, iV vt130, .nilIface, uV, uV, uV, uV, uV, iV 2, tV, iV 1, iV 1, .slice A2 cards1.length c3, iV (cards1.length : Int), fV, uV, .tuple #[iV vt130, .nilIface], .slice A2 cards1.length c3, iV 1, pV b127 (of128 + (1 : Int).toNat * 4), pV b127 (of128 + (1 : Int).toNat * 4 + 1), .string ((rd cards1 1).Value), .tuple #[iV vt130, .nilIface], iV vt130, .nilIface, .nilIface, fV, fV, iV vt130, fV, fV, fV, iV vt130, fV, fV, uV, iV 1, iV vt130, pV b17 1, iV 2, uV, uV, uV, uV, uV, uV, uV, uV, uV, uV, uV, uV, uV, uV, uV, uV, uV, uV, uV, uV, uV, uV, uV, uV, uV, uV, uV, uV, uV, uV, uV, uV, uV, uV, uV, uV, uV, uV, uV, uV, uV, uV, uV, uV, uV, uV, uV, uV, uV, uV, uV, uV, uV, uV, uV, uV, uV, uV, uV, uV, uV, uV], []⟩) kr ?_
             refine nl (hK94 _ _ ?_)
             refine loopStepK (fun K155 hK156 => ?_)
             refine wp_seq_k fun K157 hK158 => rl ?_
             refine seqL1 kr ?_
             refine nl (hK158 _ _ ?_)
             refine wp_seq_k (fun K159 hK160 => ?_)
             refine condT kr ?_
             refine wp_skip ?_
             refine hK160 _ _ ?_
             refine wp_seq_k (fun K161 hK162 => ?_)
             refine blockK (fun B163 hx164 hn165 hr166 ho167 hp168 => ?_)
             refine wp_seq_k fun K170 hK171 => rl ?_
             refine seqL2 kr ?_
             refine nl (hK171 _ _ ?_)
             refine wp_seq_k (fun K172 hK173 => ?_)
             refine wp_seq_k fun K174 hK175 => rl ?_
             refine seqL4 kr ?_
             refine nl (hK175 _ _ ?_)
             have hq_ := ite_some h; clear h; rcases hq_ with ⟨c177, h⟩ | ⟨c177, h⟩
             · have c177 : 2 ≥ (cards1.length : Int) := c177
               refine wpRwI 21 (x := (decide (2 ≥ (cards1.length : Int)))) (v := true) kr (decide_eq_true c177) ?_
               refine condT kr ?_
               refine wp_seq_k fun K178 hK179 => rl ?_
               have HS180 := HS154.u1
               refine seqL1 kr ?_
               refine seqK rfl (does_store (n := 4) (vs := [.int .i64 0, .int .i64 0, .slice none 0 0, .slice none 0 0]) (cs' := #[.int .i64 0, .int .i64 0, .slice none 0 0, .slice none 0 0]) rfl kr (kv (.pointer (some ⟨b11, 0, none⟩))) (kv (.agg #[.int .i64 0, .int .i64 0, .slice none 0 0, .slice none 0 0])) rfl rfl (by intro u_ hu_; simp only [List.mem_cons, List.not_mem_nil, or_false] at hu_; rcases hu_ with rfl | rfl | rfl | rfl <;> rfl) HS180 (Nat.le_of_ble_eq_true rfl) kr ?_)
               intro W181 HS182
               refine seqL1 kr ?_
               refine nl (hK179 _ _ ?_)
               refine wp_ret ?_
               refine hr166 _ _ ?_
               refine hr28 _ _ ?_
               refine hret _ _ ?_
               have HS571 := HS182.cons_nil
               refine ends (v := Value.tuple #[.agg #[.int .i64 0, .int .i64 0, .slice none 0 0, .slice none 0 0], .bool false]) (results2 (q1 := .cell 4 29) (q2 := .tmp 5) kr (resN (n := 4) (cs := [.int .i64 0, .int .i64 0, .slice none 0 0, .slice none 0 0]) (kv (.pointer (some ⟨b11, 0, none⟩))) Tryz.underlying29 rfl kr rfl (HS571.u1.cells 0 4 _ rfl)) (resT (kv (.bool false)))) kr ?_
               have HS573 := HS571.u2
               have HS574 := HS573.u2
               have HS575 := HS574.drop
               have HS576 := HS575.drop
               injection h with h
               injection h with h0_ h
               subst h0_ h
               exact ⟨f132, none, 0, none, 0, [], rfl, (L71.trans L133), HS576, (SlR.nil _ _), (Own.nil _)⟩
             · have c177 : ¬ (2 ≥ (cards1.length : Int)) := c177
               refine wpRwI 21 (x := (decide (2 ≥ (cards1.length : Int)))) (v := false) kr (decide_eq_false c177) ?_
               refine condF kr ?_
               refine wp_skip ?_
               refine hK173 _ _ ?_
               refine wp_seq_k fun K183 hK184 => rl ?_
               have hq_ := guard_some h; clear h; obtain ⟨c185, h⟩ := hq_
               have c185 : 2 < (cards1.length : Int) := c185
               obtain ⟨b189, of190, cs186, hA191, hr187, hc188⟩ := (HR4.mono (L71.trans L133)).at (i := 2) (by decide) c185
               obtain rfl := hr187
               refine seqL2 kr ?_
               refine seqK rfl (does_run (run_indexE hA191 (sz := 4) rfl Tryz.underlying27 kr (kv (.slice A2 cards1.length c3)) (kv (.int .i64 2)) (by decide) c185 W153) ?_)
               refine seqL1 kr ?_
               refine seqK rfl (does_run (run_load rfl Tryz.underlying9 rfl (kv (.pointer (some ⟨b189, of190 + (2 : Int).toNat * 4 + 1, none⟩))) ((hc188 (FM.le.refl _) HS154) 1 (by decide))) ?_)
               have hq_ := bind_some h; clear h; obtain ⟨vt192, hc193, h⟩ := hq_
               refine seqK rfl (does_call (f := 62) (args := #[.string ((rd cards1 2).Value)]) kr (strconv_Atoi.calls k ((rd cards1 2).Value) HS154 vt192 hc193) ?_)
               rintro _ W196 ⟨f194, rfl, L195, HS197⟩
               refine ⟨_, rfl, ?_⟩
               refine seqL5 kr ?_
               refine nl (hK184 _ _ ?_)
               refine wp_seq_k (fun K198 hK199 => ?_)
               refine wp_seq_k fun K200 hK201 => rl ?_
               refine seqL7 kr ?_
               have hq_ := ite_some h; clear h; rcases hq_ with ⟨c202, h⟩ | ⟨c202, h⟩
               · have c202 : vt192 < 1 := c202
                 refine seqRwI 36 (x := (decide (vt192 < 1))) (v := true) kr (decide_eq_true c202) ?_
                 refine seqRwI 37 (x := (decide (vt192 < 1))) (v := true) kr (decide_eq_true c202) ?_
                 refine seqRwI 38 (x := (decide (vt192 < 1))) (v := true) kr (decide_eq_true c202) ?_
                 refine seqL3 kr ?_
                 refine nl (hK201 _ _ ?_)
                 refine condT kr ?_
                 refine wp_seq_k fun K203 hK204 => rl ?_
                 have HS205 := HS197.u1
                 refine seqL1 kr ?_
                 refine seqK rfl (does_store (n := 4) (vs := [.int .i64 0, .int .i64 0, .slice none 0 0, .slice none 0 0]) (cs' := #[.int .i64 0, .int .i64 0, .slice none 0 0, .slice none 0 0]) rfl kr (kv (.pointer (some ⟨b11, 0, none⟩))) (kv (.agg #[.int .i64 0, .int .i64 0, .slice none 0 0, .slice none 0 0])) rfl rfl (by intro u_ hu_; simp only [List.mem_cons, List.not_mem_nil, or_false] at hu_; rcases hu_ with rfl | rfl | rfl | rfl <;> rfl) HS205 (Nat.le_of_ble_eq_true rfl) kr ?_)
                 intro W206 HS207
                 refine seqL1 kr ?_
                 refine nl (hK204 _ _ ?_)
                 refine wp_ret ?_
                 refine hr166 _ _ ?_
                 refine hr28 _ _ ?_
                 refine hret _ _ ?_
                 have HS577 := HS207.cons_nil
                 refine ends (v := Value.tuple #[.agg #[.int .i64 0, .int .i64 0, .slice none 0 0, .slice none 0 0], .bool false]) (results2 (q1 := .cell 4 29) (q2 := .tmp 5) kr (resN (n := 4) (cs := [.int .i64 0, .int .i64 0, .slice none 0 0, .slice none 0 0]) (kv (.pointer (some ⟨b11, 0, none⟩))) Tryz.underlying29 rfl kr rfl (HS577.u1.cells 0 4 _ rfl)) (resT (kv (.bool false)))) kr ?_
                 have HS579 := HS577.u2
                 have HS580 := HS579.u2
                 have HS581 := HS580.drop
                 have HS582 := HS581.drop
                 injection h with h
                 injection h with h0_ h
                 subst h0_ h
                 exact ⟨f194, none, 0, none, 0, [], rfl, (L71.trans (L133.trans L195)), HS582, (SlR.nil _ _), (Own.nil _)⟩
               · have c202 : ¬ (vt192 < 1) := c202
                 refine seqRwI 36 (x := (decide (vt192 < 1))) (v := false) kr (decide_eq_false c202) ?_
                 refine seqRwI 37 (x := (decide (vt192 < 1))) (v := false) kr (decide_eq_false c202) ?_
                 refine seqRwI 38 (x := (decide (vt192 < 1))) (v := false) kr (decide_eq_false c202) ?_
                 refine seqL3 kr ?_
                 refine nl (hK201 _ _ ?_)
                 have hq_ := ite_some h; clear h; rcases hq_ with ⟨c209, h⟩ | ⟨c209, h⟩
                 · have c209 : vt192 > 32 := c209
                   refine wpRwI 40 (x := (decide (vt192 > 32))) (v := true) kr (decide_eq_true c209) ?_
                   refine wpRwI 41 (x := (decide (vt192 > 32))) (v := true) kr (decide_eq_true c209) ?_
                   refine condT kr ?_
                   refine wp_seq_k fun K210 hK211 => rl ?_
                   have HS212 := HS197.u1
                   refine seqL1 kr ?_
                   refine seqK rfl (does_store (n := 4) (vs := [.int .i64 0, .int .i64 0, .slice none 0 0, .slice none 0 0]) (cs' := #[.int .i64 0, .int .i64 0, .slice none 0 0, .slice none 0 0]) rfl kr (kv (.pointer (some ⟨b11, 0, none⟩))) (kv (.agg #[.int .i64 0, .int .i64 0, .slice none 0 0, .slice none 0 0])) rfl rfl (by intro u_ hu_; simp only [List.mem_cons, List.not_mem_nil, or_false] at hu_; rcases hu_ with rfl | rfl | rfl | rfl <;> rfl) HS212 (Nat.le_of_ble_eq_true rfl) kr ?_)
                   intro W213 HS214
                   refine seqL1 kr ?_
                   refine nl (hK211 _ _ ?_)
                   refine wp_ret ?_
                   refine hr166 _ _ ?_
                   refine hr28 _ _ ?_
                   refine hret _ _ ?_
                   have HS583 := HS214.cons_nil
                   refine ends (v := Value.tuple #[.agg #[.int .i64 0, .int .i64 0, .slice none 0 0, .slice none 0 0], .bool false]) (results2 (q1 := .cell 4 29) (q2 := .tmp 5) kr (resN (n := 4) (cs := [.int .i64 0, .int .i64 0, .slice none 0 0, .slice none 0 0]) (kv (.pointer (some ⟨b11, 0, none⟩))) Tryz.underlying29 rfl kr rfl (HS583.u1.cells 0 4 _ rfl)) (resT (kv (.bool false)))) kr ?_
                   have HS585 := HS583.u2
                   have HS586 := HS585.u2
                   have HS587 := HS586.drop
                   have HS588 := HS587.drop
                   injection h with h
                   injection h with h0_ h
                   subst h0_ h
                   exact ⟨f194, none, 0, none, 0, [], rfl, (L71.trans (L133.trans L195)), HS588, (SlR.nil _ _), (Own.nil _)⟩
                 · have c209 : ¬ (vt192 > 32) := c209
                   refine wpRwI 40 (x := (decide (vt192 > 32))) (v := false) kr (decide_eq_false c209) ?_
                   refine wpRwI 41 (x := (decide (vt192 > 32))) (v := false) kr (decide_eq_false c209) ?_
                   refine condF kr ?_
                   refine wp_skip ?_
                   refine hK199 _ _ ?_
                   refine rl ?_
                   refine seqL3 kr ?_
                   refine seqK rfl (does_store (n := 1) (vs := [.int .i64 vt192]) (cs' := #[.int .i64 vt68, .int .i64 vt130, .int .i64 vt192]) rfl kr (kv (.pointer (some ⟨b17, 2, none⟩))) (kv (.int .i64 vt192)) rfl rfl (by intro u_ hu_; simp only [List.mem_cons, List.not_mem_nil, or_false] at hu_; subst hu_; rfl) HS197 (Nat.le_of_ble_eq_true rfl) kr ?_)
                   intro W215 HS216
                   refine nl ?_
                   refine hn165 _ _ ?_
                   refine hK162 _ _ ?_
                   refine rl ?_
                   refine seqL2 kr ?_
                   refine nl (hK156 _ _ ?_)
                   refine loopStepK (fun K217 hK218 => ?_)
                   refine wp_seq_k fun K219 hK220 => rl ?_
                   refine seqL1 kr ?_
                   refine nl (hK220 _ _ ?_)
                   refine wp_seq_k (fun K221 hK222 => ?_)
                   refine condF kr ?_
                   refine wp_exit ?_
                   refine hx26 _ _ ?_
                   refine hK22 _ _ ?_
                   refine wp_seq_k (fun K223 hK224 => ?_)
                   refine heldG (S := Sg t f194 ([(b17, .cells #[.int .i64 vt68, .int .i64 vt130, .int .i64 vt192] 127 (0, 0))] :: [(b11, .cells #[.int .i64 0, .int .i64 0, .slice none 0 0, .slice none 0 0] 29 (0, 0))] :: H) []) (n := 9) kr rfl HS216 ?_
                   intro W225 HS226
                   refine takeGL [0] (n := 9) (fuel := 8) #[true, false, false, false, false, false, false, false, false] rfl kr kr kr hnp (Sg.g0 (Sx.of [] (FM.le.refl _) HS226)) ?_
                   refine takeGQ 1 [] rfl kr kr kr kr kr kr hnp (Sg.g0 (Sx.of [] (FM.le.refl _) HS226)) (fun w_ hw_ => by obtain ⟨g_, hl_, hS_⟩ := hw_.st; exact run_load rfl Tryz.underlying3 rfl (kv (.pointer (some ⟨b17, 0, none⟩))) (hS_.cell 0)) ?_
                   refine takeGL [2] (n := 7) (fuel := 6) #[true, true, true, false, false, false, false, false, false] rfl kr kr kr hnp (Sg.g0 (Sx.of [] (FM.le.refl _) HS226)) ?_
                   refine takeGQ 3 [] rfl kr kr kr kr kr kr hnp (Sg.g0 (Sx.of [] (FM.le.refl _) HS226)) (fun w_ hw_ => by obtain ⟨g_, hl_, hS_⟩ := hw_.st; exact run_load rfl Tryz.underlying3 rfl (kv (.pointer (some ⟨b17, 1, none⟩))) (hS_.cell 1)) ?_
                   have hq_ := guard_some h; clear h; obtain ⟨c227, h⟩ := hq_
                   have c227 : 3 ≤ (cards1.length : Int) := c227
                   refine takeGL [4] (n := 5) (fuel := 4) #[true, true, true, true, true, false, false, false, false] rfl kr kr kr hnp (Sg.g0 (Sx.of [] (FM.le.refl _) HS226)) ?_
                   refine withR #[true, true, true, true, true, true, true, true, true] ?_
                   intro R237 hR238 hR239
                   have J240 : ∀ (A228 : Option Addr) (c229 : Nat) (b231 : Nat) (W241 : World) (a_ : Act), SlR ty_Card f A228 c229 (cards1.drop (3 : Int).toNat) → St t W241 f194 ([(b231, .cells #[.int .i64 vt68, .int .i64 vt130, .slice A228 (cards1.drop (3 : Int).toNat).length c229, .slice none 0 0] 29 (0, 0))] :: [(b17, .cells #[.int .i64 vt68, .int .i64 vt130, .int .i64 vt192] 127 (0, 0))] :: [(b11, .cells #[.int .i64 0, .int .i64 0, .slice none 0 0, .slice none 0 0] 29 (0, 0))] :: H) → a_ = ⟨#[.slice A2 cards1.length c3, .slice A6 data5.length c7, uV, uV, pV b11 0, fV, pV b17 0, iV 2, iV vt192, .nilIface, pV b231 0, uV, uV, uV, uV, iV 3, fV, iV 2, iV 2, .slice A2 cards1.length c3, iV (cards1.length : Int), fV, uV, .tuple #[iV vt192, .nilIface], .slice A2 cards1.length c3, iV 2, pV b189 (of190 + (2 : Int).toNat * 4), pV b189 (of190 + (2 : Int).toNat * 4 + 1), .string ((rd cards1 2).Value), .tuple #[iV vt192, .nilIface], iV vt192, .nilIface, .nilIface, fV, fV, iV vt192, fV, fV, fV, iV vt192, fV, fV, uV, iV 2, iV vt192, pV b17 2, iV 3, pV b17 0, iV vt68, pV b17 1, iV vt130, .slice A2 cards1.length c3, .slice A228 (cards1.drop (3 : Int).toNat).length c229, .agg #[iV vt68, iV vt130, .slice A228 (cards1.drop (3 : Int).toNat).length c229, .slice none 0 0], uV, uV, uV, uV, uV, uV, uV, uV, uV, uV, uV, uV, uV, uV, uV, uV, uV, uV, uV, uV, uV, uV, uV, uV, uV, uV, uV, uV, uV, uV, uV, uV, uV, uV, uV, uV, uV, uV, uV, uV, uV, uV, uV, uV, uV, uV, uV, uV, uV, uV, uV, uV, uV, uV, uV], []⟩ → R237 a_ W241 := by
                    intro A228 c229 b231 W241 a_ HR230 HS242 hfr_; subst hfr_
                    refine hR238 _ _ ?_
                    refine doneG kr ?_ _
                    refine hK224 _ _ ?_
                    refine wp_seq_k (fun K261 hK262 => ?_)
                    refine wp_seq_k fun K263 hK264 => rl ?_
                    refine seqL1 kr ?_
                    refine seqK rfl (does_run (run_load rfl Tryz.underlying3 rfl (kv (.pointer (some ⟨b17, 2, none⟩))) (HS242.u1.cell 2)) ?_)
                    refine seqL2 kr ?_
                    have hq_ := ite_some h; clear h; rcases hq_ with ⟨c265, h⟩ | ⟨c265, h⟩
                    · have c265 : vt192 > 2 := c265
                      refine seqRwI 56 (x := (decide (vt192 > 2))) (v := true) kr (decide_eq_true c265) ?_
                      refine seqRwI 57 (x := (decide (vt192 > 2))) (v := true) kr (decide_eq_true c265) ?_
                      refine seqL12 kr ?_
                      refine nl (hK264 _ _ ?_)
                      refine condT kr ?_
                      refine wp_seq_k fun K266 hK267 => rl ?_
                      have HS268 := HS242.u2
                      refine seqL1 kr ?_
                      refine seqK rfl (does_store (n := 4) (vs := [.int .i64 0, .int .i64 0, .slice none 0 0, .slice none 0 0]) (cs' := #[.int .i64 0, .int .i64 0, .slice none 0 0, .slice none 0 0]) rfl kr (kv (.pointer (some ⟨b11, 0, none⟩))) (kv (.agg #[.int .i64 0, .int .i64 0, .slice none 0 0, .slice none 0 0])) rfl rfl (by intro u_ hu_; simp only [List.mem_cons, List.not_mem_nil, or_false] at hu_; rcases hu_ with rfl | rfl | rfl | rfl <;> rfl) HS268 (Nat.le_of_ble_eq_true rfl) kr ?_)
                      intro W269 HS270
                      refine seqL1 kr ?_
                      refine nl (hK267 _ _ ?_)
                      refine wp_ret ?_
                      refine hret _ _ ?_
                      have HS589 := HS270.cons_nil
                      refine ends (v := Value.tuple #[.agg #[.int .i64 0, .int .i64 0, .slice none 0 0, .slice none 0 0], .bool false]) (results2 (q1 := .cell 4 29) (q2 := .tmp 5) kr (resN (n := 4) (cs := [.int .i64 0, .int .i64 0, .slice none 0 0, .slice none 0 0]) (kv (.pointer (some ⟨b11, 0, none⟩))) Tryz.underlying29 rfl kr rfl (HS589.u1.cells 0 4 _ rfl)) (resT (kv (.bool false)))) kr ?_
                      have HS591 := HS589.u3
                      have HS592 := HS591.u3
                      have HS593 := HS592.u3
                      have HS594 := HS593.drop
                      have HS595 := HS594.drop
                      have HS596 := HS595.drop
                      injection h with h
                      injection h with h0_ h
                      subst h0_ h
                      exact ⟨f194, none, 0, none, 0, [], rfl, (L71.trans (L133.trans L195)), HS596, (SlR.nil _ _), (Own.nil _)⟩
                    · have c265 : ¬ (vt192 > 2) := c265
                      refine seqRwI 56 (x := (decide (vt192 > 2))) (v := false) kr (decide_eq_false c265) ?_
                      refine seqRwI 57 (x := (decide (vt192 > 2))) (v := false) kr (decide_eq_false c265) ?_
                      refine seqL3 kr ?_
                      refine seqG kr (does_run (run_load rfl Tryz.underlying3 rfl (kv (.pointer (some ⟨b231, 0, none⟩))) (HS242.cell 0)) ?_)
                      refine seqL1 kr ?_
                      refine seqG kr (does_run (run_load rfl Tryz.underlying3 rfl (kv (.pointer (some ⟨b231, 1, none⟩))) (HS242.cell 1)) ?_)
                      refine seqL2 kr ?_
                      refine seqG kr (does_run (run_load rfl Tryz.underlying3 rfl (kv (.pointer (some ⟨b17, 2, none⟩))) (HS242.u1.cell 2)) ?_)
                      refine seqL3 kr ?_
                      refine nl (hK264 _ _ ?_)
                      have hq_ := ite_some h; clear h; rcases hq_ with ⟨c272, h⟩ | ⟨c272, h⟩
                      · have c272 : (data5.length : Int) < (w64 ((w64 (vt68 * vt130)) * vt192)) := c272
                        refine wpRwI 68 (x := (decide ((data5.length : Int) < (w64 ((w64 (vt68 * vt130)) * vt192))))) (v := true) kr (decide_eq_true c272) ?_
                        refine wpRwI 69 (x := (decide ((data5.length : Int) < (w64 ((w64 (vt68 * vt130)) * vt192))))) (v := true) kr (decide_eq_true c272) ?_
                        refine condT kr ?_
                        refine wp_seq_k fun K273 hK274 => rl ?_
                        have HS275 := HS242.u2
                        refine seqL1 kr ?_
                        refine seqK rfl (does_store (n := 4) (vs := [.int .i64 0, .int .i64 0, .slice none 0 0, .slice none 0 0]) (cs' := #[.int .i64 0, .int .i64 0, .slice none 0 0, .slice none 0 0]) rfl kr (kv (.pointer (some ⟨b11, 0, none⟩))) (kv (.agg #[.int .i64 0, .int .i64 0, .slice none 0 0, .slice none 0 0])) rfl rfl (by intro u_ hu_; simp only [List.mem_cons, List.not_mem_nil, or_false] at hu_; rcases hu_ with rfl | rfl | rfl | rfl <;> rfl) HS275 (Nat.le_of_ble_eq_true rfl) kr ?_)
                        intro W276 HS277
                        refine seqL1 kr ?_
                        refine nl (hK274 _ _ ?_)
                        refine wp_ret ?_
                        refine hret _ _ ?_
                        have HS597 := HS277.cons_nil
                        refine ends (v := Value.tuple #[.agg #[.int .i64 0, .int .i64 0, .slice none 0 0, .slice none 0 0], .bool false]) (results2 (q1 := .cell 4 29) (q2 := .tmp 5) kr (resN (n := 4) (cs := [.int .i64 0, .int .i64 0, .slice none 0 0, .slice none 0 0]) (kv (.pointer (some ⟨b11, 0, none⟩))) Tryz.underlying29 rfl kr rfl (HS597.u1.cells 0 4 _ rfl)) (resT (kv (.bool false)))) kr ?_
                        have HS599 := HS597.u3
                        have HS600 := HS599.u3
                        have HS601 := HS600.u3
                        have HS602 := HS601.drop
                        have HS603 := HS602.drop
                        have HS604 := HS603.drop
                        injection h with h
                        injection h with h0_ h
                        subst h0_ h
                        exact ⟨f194, none, 0, none, 0, [], rfl, (L71.trans (L133.trans L195)), HS604, (SlR.nil _ _), (Own.nil _)⟩
                      · have c272 : ¬ ((data5.length : Int) < (w64 ((w64 (vt68 * vt130)) * vt192))) := c272
                        refine wpRwI 68 (x := (decide ((data5.length : Int) < (w64 ((w64 (vt68 * vt130)) * vt192))))) (v := false) kr (decide_eq_false c272) ?_
                        refine wpRwI 69 (x := (decide ((data5.length : Int) < (w64 ((w64 (vt68 * vt130)) * vt192))))) (v := false) kr (decide_eq_false c272) ?_
                        refine condF kr ?_
                        refine wp_skip ?_
                        refine hK262 _ _ ?_
                        refine wp_seq_k (fun K278 hK279 => ?_)
                        refine wp_seq_k fun K280 hK281 => rl ?_
                        refine seqL1 kr ?_
                        refine seqK rfl (does_run (run_load rfl Tryz.underlying3 rfl (kv (.pointer (some ⟨b231, 0, none⟩))) (HS242.cell 0)) ?_)
                        refine seqL1 kr ?_
                        refine seqK rfl (does_run (run_load rfl Tryz.underlying3 rfl (kv (.pointer (some ⟨b231, 1, none⟩))) (HS242.cell 1)) ?_)
                        refine seqL2 kr ?_
                        refine nl (hK281 _ _ ?_)
                        refine blockK (fun B282 hx283 hn284 hr285 ho286 hp287 => ?_)
                        have hq_ := bind_some h; clear h; obtain ⟨o397, hv521, h⟩ := hq_
                        have J522 : ∀ (f510 : FM) (A516 : Option Addr) (c517 : Nat) (s518 : Seg) (x515 : List Int) (j514 : Nat → Value) (W512 : World) (a_ : Act), FM.le f194 f510 → some (x515) = some o397 → St t W512 f510 (s518 :: [(b231, .cells #[.int .i64 vt68, .int .i64 vt130, .slice A228 (cards1.drop (3 : Int).toNat).length c229, .slice A516 x515.length c517] 29 (0, 0))] :: [(b17, .cells #[.int .i64 vt68, .int .i64 vt130, .int .i64 vt192] 127 (0, 0))] :: [(b11, .cells #[.int .i64 0, .int .i64 0, .slice none 0 0, .slice none 0 0] 29 (0, 0))] :: H) → Own (tInt .i64) 3 f510 A516 c517 s518 x515 → a_ = ⟨#[.slice A2 cards1.length c3, .slice A6 data5.length c7, uV, uV, pV b11 0, fV, pV b17 0, iV 2, iV vt192, .nilIface, pV b231 0, (j514 0), (j514 1), uV, (j514 2), iV 3, fV, iV 2, iV 2, .slice A2 cards1.length c3, iV (cards1.length : Int), fV, uV, .tuple #[iV vt192, .nilIface], .slice A2 cards1.length c3, iV 2, pV b189 (of190 + (2 : Int).toNat * 4), pV b189 (of190 + (2 : Int).toNat * 4 + 1), .string ((rd cards1 2).Value), .tuple #[iV vt192, .nilIface], iV vt192, .nilIface, .nilIface, fV, fV, iV vt192, fV, fV, fV, iV vt192, fV, fV, uV, iV 2, iV vt192, pV b17 2, iV 3, pV b17 0, iV vt68, pV b17 1, iV vt130, .slice A2 cards1.length c3, .slice A228 (cards1.drop (3 : Int).toNat).length c229, .agg #[iV vt68, iV vt130, .slice A228 (cards1.drop (3 : Int).toNat).length c229, .slice none 0 0], pV b17 2, iV vt192, fV, fV, .slice A6 data5.length c7, iV (data5.length : Int), pV b231 0, iV vt68, pV b231 1, iV vt130, iV (w64 (vt68 * vt130)), pV b17 2, iV vt192, iV (w64 ((w64 (vt68 * vt130)) * vt192)), fV, fV, uV, pV b231 0, iV vt68, pV b231 1, iV vt130, iV (w64 (vt68 * vt130)), (j514 3), (j514 4), (j514 5), (j514 6), (j514 7), (j514 8), (j514 9), (j514 10), (j514 11), (j514 12), (j514 13), (j514 14), (j514 15), (j514 16), (j514 17), (j514 18), (j514 19), (j514 20), (j514 21), (j514 22), (j514 23), (j514 24), (j514 25), (j514 26), (j514 27), (j514 28), (j514 29), (j514 30), (j514 31), (j514 32), (j514 33), (j514 34), uV], []⟩ → K278 a_ W512 := by
                         intro f510 A516 c517 s518 x515 j514 W512 a_ L511 hj523 HS513 HO519 hfr_; subst hfr_
                         injection hj523 with hj523; subst hj523; try dsimp only at h
                         refine hK279 _ _ ?_
                         refine wp_seq_k fun K530 hK531 => rl ?_
                         refine seqK rfl (does_run (run_loadN (n := 4) rfl Tryz.underlying29 rfl kr (kv (.pointer (some ⟨b231, 0, none⟩))) (cs := [.int .i64 vt68, .int .i64 vt130, .slice A228 (cards1.drop (3 : Int).toNat).length c229, .slice A516 x515.length c517]) rfl (HS513.u1.cells 0 4 _ rfl)) ?_)
                         have HS532 := HS513.u3
                         refine seqK rfl (does_store (n := 4) (vs := [.int .i64 vt68, .int .i64 vt130, .slice A228 (cards1.drop (3 : Int).toNat).length c229, .slice A516 x515.length c517]) (cs' := #[.int .i64 vt68, .int .i64 vt130, .slice A228 (cards1.drop (3 : Int).toNat).length c229, .slice A516 x515.length c517]) rfl kr (kv (.pointer (some ⟨b11, 0, none⟩))) (kv (.agg #[.int .i64 vt68, .int .i64 vt130, .slice A228 (cards1.drop (3 : Int).toNat).length c229, .slice A516 x515.length c517])) rfl rfl (by intro u_ hu_; simp only [List.mem_cons, List.not_mem_nil, or_false] at hu_; rcases hu_ with rfl | rfl | rfl | rfl <;> rfl) HS532 (Nat.le_of_ble_eq_true rfl) kr ?_)
                         intro W533 HS534
                         refine seqL1 kr ?_
                         refine nl (hK531 _ _ ?_)
                         refine wp_ret ?_
                         refine hret _ _ ?_
                         refine ends (v := Value.tuple #[.agg #[.int .i64 vt68, .int .i64 vt130, .slice A228 (cards1.drop (3 : Int).toNat).length c229, .slice A516 x515.length c517], .bool true]) (results2 (q1 := .cell 4 29) (q2 := .tmp 5) kr (resN (n := 4) (cs := [.int .i64 vt68, .int .i64 vt130, .slice A228 (cards1.drop (3 : Int).toNat).length c229, .slice A516 x515.length c517]) (kv (.pointer (some ⟨b11, 0, none⟩))) Tryz.underlying29 rfl kr rfl (HS534.cells 0 4 _ rfl)) (resT (kv (.bool true)))) kr ?_
                         have HS605 := HS534.u1
                         have HS606 := HS605.u3
                         have HS607 := HS606.u3
                         have HS608 := HS607.u3
                         have HS609 := HS608.drop
                         have HS610 := HS609.drop
                         have HS611 := HS610.drop
                         injection h with h
                         injection h with h0_ h
                         subst h0_ h
                         exact ⟨f510, A228, c229, A516, c517, s518, rfl, (L71.trans (L133.trans (L195.trans L511))), HS611, (HR230.mono (L71.trans (L133.trans (L195.trans L511)))), HO519⟩
                        clear h; have h := hv521; clear hv521
                        have HS524 := HS242.cons_nil
                        refine loopK (fun n_ a_ w_ => ∃ (f401 : FM) (A408 : Option Addr) (c409 : Nat) (s410 : Seg) (x406 : Int) (x407 : List Int) (j405 : Nat → Value), FM.le f194 f401 ∧ St t w_ f401 (s410 :: [(b231, .cells #[.int .i64 vt68, .int .i64 vt130, .slice A228 (cards1.drop (3 : Int).toNat).length c229, .slice A408 x407.length c409] 29 (0, 0))] :: [(b17, .cells #[.int .i64 vt68, .int .i64 vt130, .int .i64 vt192] 127 (0, 0))] :: [(b11, .cells #[.int .i64 0, .int .i64 0, .slice none 0 0, .slice none 0 0] 29 (0, 0))] :: H) ∧ Own (tInt .i64) 3 f401 A408 c409 s410 x407 ∧ frame_whole.l0 k vt68 vt130 vt192 data5 n_ x406 x407 = some o397 ∧ a_ = ⟨#[.slice A2 cards1.length c3, .slice A6 data5.length c7, uV, uV, pV b11 0, fV, pV b17 0, iV 2, iV vt192, .nilIface, pV b231 0, (j405 0), (j405 1), uV, (j405 2), iV 3, fV, iV 2, iV 2, .slice A2 cards1.length c3, iV (cards1.length : Int), fV, uV, .tuple #[iV vt192, .nilIface], .slice A2 cards1.length c3, iV 2, pV b189 (of190 + (2 : Int).toNat * 4), pV b189 (of190 + (2 : Int).toNat * 4 + 1), .string ((rd cards1 2).Value), .tuple #[iV vt192, .nilIface], iV vt192, .nilIface, .nilIface, fV, fV, iV vt192, fV, fV, fV, iV vt192, fV, fV, uV, iV 2, iV vt192, pV b17 2, iV 3, pV b17 0, iV vt68, pV b17 1, iV vt130, .slice A2 cards1.length c3, .slice A228 (cards1.drop (3 : Int).toNat).length c229, .agg #[iV vt68, iV vt130, .slice A228 (cards1.drop (3 : Int).toNat).length c229, .slice none 0 0], pV b17 2, iV vt192, fV, fV, .slice A6 data5.length c7, iV (data5.length : Int), pV b231 0, iV vt68, pV b231 1, iV vt130, iV (w64 (vt68 * vt130)), pV b17 2, iV vt192, iV (w64 ((w64 (vt68 * vt130)) * vt192)), fV, fV, uV, pV b231 0, iV vt68, pV b231 1, iV vt130, iV (w64 (vt68 * vt130)), iV x406, (j405 3), (j405 4), (j405 5), (j405 6), (j405 7), (j405 8), (j405 9), (j405 10), (j405 11), (j405 12), (j405 13), (j405 14), (j405 15), (j405 16), (j405 17), (j405 18), (j405 19), (j405 20), (j405 21), (j405 22), (j405 23), (j405 24), (j405 25), (j405 26), (j405 27), (j405 28), (j405 29), (j405 30), (j405 31), (j405 32), (j405 33), uV], []⟩) k ⟨f194, none, 0, [], 0, ([] : List Int), (fun i_ => [undef, undef, undef, undef, undef, undef, undef, undef, undef, undef, undef, undef, undef, undef, undef, undef, undef, undef, undef, undef, undef, undef, undef, undef, undef, undef, undef, undef, undef, undef, undef, undef, undef, undef].getD i_ undef), (FM.le.refl _), HS524, (Own.nil _), h, kr⟩ ?_
                        clear h
                        rintro n400 _ W403 ⟨f401, A408, c409, s410, x406, x407, j405, L402, HS404, HO411, h, rfl⟩ K398 hK399
                        obtain _ | n400 := n400
                        · exact nomatch h
                        simp only [frame_whole.l0] at h
                        refine wp_seq_k fun K413 hK414 => rl ?_
                        refine seqL1 kr ?_
                        refine nl (hK414 _ _ ?_)
                        refine wp_seq_k (fun K415 hK416 => ?_)
                        have hq_ := ite_some h; clear h; rcases hq_ with ⟨c418, h⟩ | ⟨c418, h⟩
                        · have c418 : x406 < (w64 (vt68 * vt130)) := c418
                          refine wpRwI 77 (x := (decide (x406 < (w64 (vt68 * vt130))))) (v := true) kr (decide_eq_true c418) ?_
                          refine condT kr ?_
                          refine wp_skip ?_
                          refine hK416 _ _ ?_
                          refine wp_seq_k (fun K419 hK420 => ?_)
                          refine blockK (fun B421 hx422 hn423 hr424 ho425 hp426 => ?_)
                          refine wp_seq_k fun K428 hK429 => rl ?_
                          refine seqL2 kr ?_
                          refine nl (hK429 _ _ ?_)
                          refine wp_seq_k fun K430 hK431 => rl ?_
                          refine seqL1 kr ?_
                          refine nl (hK431 _ _ ?_)
                          refine wp_seq_k (fun K432 hK433 => ?_)
                          refine wp_seq_k fun K434 hK435 => rl ?_
                          refine seqL3 kr ?_
                          refine seqK rfl (does_run (run_load rfl Tryz.underlying3 rfl (kv (.pointer (some ⟨b17, 2, none⟩))) (HS404.u2.cell 2)) ?_)
                          refine seqL4 kr ?_
                          refine seqK rfl (does_run (run_load rfl Tryz.underlying3 rfl (kv (.pointer (some ⟨b17, 2, none⟩))) (HS404.u2.cell 2)) ?_)
                          have hq_ := guard_some h; clear h; obtain ⟨c436, h⟩ := hq_
                          have c436 : 0 ≤ (w64 (x406 * vt192)) := c436
                          have hq_ := guard_some h; clear h; obtain ⟨c437, h⟩ := hq_
                          have c437 : (w64 (x406 * vt192)) ≤ (w64 ((w64 (x406 + 1)) * vt192)) := c437
                          have hq_ := guard_some h; clear h; obtain ⟨c438, h⟩ := hq_
                          have c438 : (w64 ((w64 (x406 + 1)) * vt192)) ≤ (data5.length : Int) := c438
                          refine seqL1 kr ?_
                          refine seqK rfl (does_cutLH (e := (tInt .u8)) (xs := data5) rfl Tryz.underlying23 kr (kv (.slice A6 data5.length c7)) (kv (.int .i64 (w64 (x406 * vt192)))) (kv (.int .i64 (w64 ((w64 (x406 + 1)) * vt192))))  c436 c437 c438 HR8 ?_)
                          intro A439 c440 HR441
                          refine seqL2 kr ?_
                          refine nl (hK435 _ _ ?_)
                          refine blockK (fun B442 hx443 hn444 hr445 ho446 hp447 => ?_)
                          have hq_ := bind_some h; clear h; obtain ⟨o448, hv489, h⟩ := hq_
                          have J490 : ∀ (f483 : FM) (c488 : Int) (j487 : Nat → Value) (W485 : World) (a_ : Act), FM.le f401 f483 → some (c488) = some o448 → St t W485 f483 (s410 :: [(b231, .cells #[.int .i64 vt68, .int .i64 vt130, .slice A228 (cards1.drop (3 : Int).toNat).length c229, .slice A408 x407.length c409] 29 (0, 0))] :: [(b17, .cells #[.int .i64 vt68, .int .i64 vt130, .int .i64 vt192] 127 (0, 0))] :: [(b11, .cells #[.int .i64 0, .int .i64 0, .slice none 0 0, .slice none 0 0] 29 (0, 0))] :: H) → a_ = ⟨#[.slice A2 cards1.length c3, .slice A6 data5.length c7, uV, uV, pV b11 0, fV, pV b17 0, iV 2, iV vt192, .nilIface, pV b231 0, iV x406, iV c488, uV, (j487 0), iV 3, fV, iV 2, iV 2, .slice A2 cards1.length c3, iV (cards1.length : Int), fV, uV, .tuple #[iV vt192, .nilIface], .slice A2 cards1.length c3, iV 2, pV b189 (of190 + (2 : Int).toNat * 4), pV b189 (of190 + (2 : Int).toNat * 4 + 1), .string ((rd cards1 2).Value), .tuple #[iV vt192, .nilIface], iV vt192, .nilIface, .nilIface, fV, fV, iV vt192, fV, fV, fV, iV vt192, fV, fV, uV, iV 2, iV vt192, pV b17 2, iV 3, pV b17 0, iV vt68, pV b17 1, iV vt130, .slice A2 cards1.length c3, .slice A228 (cards1.drop (3 : Int).toNat).length c229, .agg #[iV vt68, iV vt130, .slice A228 (cards1.drop (3 : Int).toNat).length c229, .slice none 0 0], pV b17 2, iV vt192, fV, fV, .slice A6 data5.length c7, iV (data5.length : Int), pV b231 0, iV vt68, pV b231 1, iV vt130, iV (w64 (vt68 * vt130)), pV b17 2, iV vt192, iV (w64 ((w64 (vt68 * vt130)) * vt192)), fV, fV, uV, pV b231 0, iV vt68, pV b231 1, iV vt130, iV (w64 (vt68 * vt130)), iV x406, tV, iV x406, .slice A6 data5.length c7, iV x406, pV b17 2, iV vt192, iV (w64 (x406 * vt192)), iV x406, iV (w64 (x406 + 1)), pV b17 2, iV vt192, iV (w64 ((w64 (x406 + 1)) * vt192)), .slice A439 ((data5.take (w64 ((w64 (x406 + 1)) * vt192)).toNat).drop (w64 (x406 * vt192)).toNat).length c440, iV (((data5.take (w64 ((w64 (x406 + 1)) * vt192)).toNat).drop (w64 (x406 * vt192)).toNat).length : Int), (j487 1), (j487 2), (j487 3), (j487 4), (j487 5), (j487 6), (j487 7), (j487 8), (j487 9), (j487 10), (j405 27), (j405 28), (j405 29), (j405 30), (j405 31), (j405 32), (j405 33), uV], []⟩ → K432 a_ W485 := by
                           intro f483 c488 j487 W485 a_ L484 hj491 HS486  hfr_; subst hfr_
                           injection hj491 with hj491; subst hj491; try dsimp only at h
                           refine hK433 _ _ ?_
                           refine rl ?_
                           refine seqL1 kr ?_
                           refine seqK rfl (does_run (run_load rfl Tryz.underlying22 rfl (kv (.pointer (some ⟨b231, 3, none⟩))) (HS486.u1.cell 3)) ?_)
                           refine seqL1 kr ?_
                           refine seqK rfl (does_lit (e := (tInt .i64)) (E := 3) (vs := #[(0, Value.int .i64 c488)]) (cs := #[.int .i64 c488]) (xs := ([c488] : List Int)) rfl Tryz.underlying22 kr kr ⟨[.int .i64 c488], _, rfl, rfl, rfl⟩ rfl HS486 ?_ (by decide))
                           intro b492 W493 s494 HS495 _ HO496
                           have hq_ := guard_some h; clear h; obtain ⟨c498, h⟩ := hq_
                           have c498 : (x407.length + 1) * 8 ≤ 140737488355328 := c498
                           have HS499 := HS495.u1
                           have HS500 := HS499.u1
                           refine seqK rfl (does_append1 (e := (tInt .i64)) (E := 3) (xs := x407) (ys := ([c488] : List Int)) rfl (kv (.slice A408 x407.length c409)) (kv (.slice (some ⟨b492, 0, none⟩) ([c488] : List Int).length 1)) Tryz.underlying22 inf3 (HO411.mono L484) HO496 HS500 c498 (lim63 c498 (by decide)) ?_)
                           intro A501 c502 s503 W504 HS505 HO506
                           have HS507 := HS505.u1
                           refine seqL1 kr ?_
                           refine seqK rfl (does_store (n := 1) (vs := [.slice A501 (x407 ++ ([c488] : List Int)).length c502]) (cs' := #[.int .i64 vt68, .int .i64 vt130, .slice A228 (cards1.drop (3 : Int).toNat).length c229, .slice A501 (x407 ++ ([c488] : List Int)).length c502]) rfl kr (kv (.pointer (some ⟨b231, 3, none⟩))) (kv (.slice A501 (x407 ++ ([c488] : List Int)).length c502)) rfl rfl (by intro u_ hu_; simp only [List.mem_cons, List.not_mem_nil, or_false] at hu_; subst hu_; rfl) HS507 (Nat.le_of_ble_eq_true rfl) kr ?_)
                           intro W508 HS509
                           refine nl ?_
                           refine hn423 _ _ ?_
                           refine hK420 _ _ ?_
                           refine rl ?_
                           refine seqL2 kr ?_
                           refine nl ?_
                           refine hK399 n400 _ _ (Nat.lt_succ_self _) ?_
                           have HS526 := HS509.u3
                           have HS527 := HS526.u3
                           have HS528 := HS527.u2
                           have HS529 := HS528.u3
                           exact ⟨f483, A501, c502, s503, (w64 (x406 + 1)), (x407 ++ ([c488] : List Int)), (fun i_ => [Value.int .i64 x406, Value.int .i64 c488, (j487 0), Value.bool true, Value.int .i64 x406, Value.slice A6 data5.length c7, Value.int .i64 x406, Value.pointer (some ⟨b17, 2, none⟩), Value.int .i64 vt192, Value.int .i64 (w64 (x406 * vt192)), Value.int .i64 x406, Value.int .i64 (w64 (x406 + 1)), Value.pointer (some ⟨b17, 2, none⟩), Value.int .i64 vt192, Value.int .i64 (w64 ((w64 (x406 + 1)) * vt192)), Value.slice A439 ((data5.take (w64 ((w64 (x406 + 1)) * vt192)).toNat).drop (w64 (x406 * vt192)).toNat).length c440, Value.int .i64 (((data5.take (w64 ((w64 (x406 + 1)) * vt192)).toNat).drop (w64 (x406 * vt192)).toNat).length : Int), (j487 1), (j487 2), (j487 3), (j487 4), (j487 5), (j487 6), (j487 7), (j487 8), (j487 9), (j487 10), Value.pointer (some ⟨b231, 3, none⟩), Value.slice A408 x407.length c409, Value.int .i64 c488, Value.slice (some ⟨b492, 0, none⟩) ([c488] : List Int).length 1, Value.slice A501 (x407 ++ ([c488] : List Int)).length c502, Value.pointer (some ⟨b231, 3, none⟩), Value.int .i64 (w64 (x406 + 1))].getD i_ undef), (L402.trans L484), HS529, HO506, h, kr⟩
                          clear h; have h := hv489; clear hv489
                          refine loopK (fun n_ a_ w_ => ∃ (f452 : FM) (c457 : Int) (x458 : Int) (j456 : Nat → Value), FM.le f401 f452 ∧ St t w_ f452 (s410 :: [(b231, .cells #[.int .i64 vt68, .int .i64 vt130, .slice A228 (cards1.drop (3 : Int).toNat).length c229, .slice A408 x407.length c409] 29 (0, 0))] :: [(b17, .cells #[.int .i64 vt68, .int .i64 vt130, .int .i64 vt192] 127 (0, 0))] :: [(b11, .cells #[.int .i64 0, .int .i64 0, .slice none 0 0, .slice none 0 0] 29 (0, 0))] :: H) ∧ frame_whole.l1 k data5 x406 vt192 n_ c457 x458 = some o448 ∧ a_ = ⟨#[.slice A2 cards1.length c3, .slice A6 data5.length c7, uV, uV, pV b11 0, fV, pV b17 0, iV 2, iV vt192, .nilIface, pV b231 0, iV x406, iV c457, uV, (j456 0), iV 3, fV, iV 2, iV 2, .slice A2 cards1.length c3, iV (cards1.length : Int), fV, uV, .tuple #[iV vt192, .nilIface], .slice A2 cards1.length c3, iV 2, pV b189 (of190 + (2 : Int).toNat * 4), pV b189 (of190 + (2 : Int).toNat * 4 + 1), .string ((rd cards1 2).Value), .tuple #[iV vt192, .nilIface], iV vt192, .nilIface, .nilIface, fV, fV, iV vt192, fV, fV, fV, iV vt192, fV, fV, uV, iV 2, iV vt192, pV b17 2, iV 3, pV b17 0, iV vt68, pV b17 1, iV vt130, .slice A2 cards1.length c3, .slice A228 (cards1.drop (3 : Int).toNat).length c229, .agg #[iV vt68, iV vt130, .slice A228 (cards1.drop (3 : Int).toNat).length c229, .slice none 0 0], pV b17 2, iV vt192, fV, fV, .slice A6 data5.length c7, iV (data5.length : Int), pV b231 0, iV vt68, pV b231 1, iV vt130, iV (w64 (vt68 * vt130)), pV b17 2, iV vt192, iV (w64 ((w64 (vt68 * vt130)) * vt192)), fV, fV, uV, pV b231 0, iV vt68, pV b231 1, iV vt130, iV (w64 (vt68 * vt130)), iV x406, tV, iV x406, .slice A6 data5.length c7, iV x406, pV b17 2, iV vt192, iV (w64 (x406 * vt192)), iV x406, iV (w64 (x406 + 1)), pV b17 2, iV vt192, iV (w64 ((w64 (x406 + 1)) * vt192)), .slice A439 ((data5.take (w64 ((w64 (x406 + 1)) * vt192)).toNat).drop (w64 (x406 * vt192)).toNat).length c440, iV (((data5.take (w64 ((w64 (x406 + 1)) * vt192)).toNat).drop (w64 (x406 * vt192)).toNat).length : Int), iV x458, (j456 1), (j456 2), (j456 3), (j456 4), (j456 5), (j456 6), (j456 7), (j456 8), (j456 9), (j405 27), (j405 28), (j405 29), (j405 30), (j405 31), (j405 32), (j405 33), uV], []⟩) k ⟨f401, 0, 0, (fun i_ => [(j405 2), (j405 18), (j405 19), (j405 20), (j405 21), (j405 22), (j405 23), (j405 24), (j405 25), (j405 26)].getD i_ undef), (FM.le.refl _), HS404, h, kr⟩ ?_
                          clear h
                          rintro n451 _ W454 ⟨f452, c457, x458, j456, L453, HS455, h, rfl⟩ K449 hK450
                          obtain _ | n451 := n451
                          · exact nomatch h
                          simp only [frame_whole.l1] at h
                          refine wp_seq_k fun K459 hK460 => rl ?_
                          refine seqL1 kr ?_
                          refine nl (hK460 _ _ ?_)
                          refine wp_seq_k (fun K461 hK462 => ?_)
                          have hq_ := ite_some h; clear h; rcases hq_ with ⟨c464, h⟩ | ⟨c464, h⟩
                          · have c464 : x458 < (((data5.take (w64 ((w64 (x406 + 1)) * vt192)).toNat).drop (w64 (x406 * vt192)).toNat).length : Int) := c464
                            refine wpRwI 92 (x := (decide (x458 < (((data5.take (w64 ((w64 (x406 + 1)) * vt192)).toNat).drop (w64 (x406 * vt192)).toNat).length : Int)))) (v := true) kr (decide_eq_true c464) ?_
                            refine condT kr ?_
                            refine wp_skip ?_
                            refine hK462 _ _ ?_
                            refine wp_seq_k (fun K465 hK466 => ?_)
                            refine blockK (fun B467 hx468 hn469 hr470 ho471 hp472 => ?_)
                            refine wp_seq_k fun K474 hK475 => rl ?_
                            have hq_ := guard_some h; clear h; obtain ⟨c476, h⟩ := hq_
                            have c476 : 0 ≤ x458 := c476
                            obtain ⟨b480, of481, cs477, hA482, hr478, hc479⟩ := (HR441.mono (L71.trans (L133.trans (L195.trans (L402.trans L453))))).at (i := x458) c476 c464
                            obtain rfl := hr478
                            refine seqK rfl (does_run (run_indexE hA482 (sz := 1) rfl Tryz.underlying23 kr (kv (.slice A439 ((data5.take (w64 ((w64 (x406 + 1)) * vt192)).toNat).drop (w64 (x406 * vt192)).toNat).length c440)) (kv (.int .i64 x458)) c476 c464 W454) ?_)
                            refine seqK rfl (does_run (run_load rfl Tryz.underlying5 rfl (kv (.pointer (some ⟨b480, of481 + (x458 : Int).toNat * 1, none⟩))) ((hc479 (FM.le.refl _) HS455) 0 (by decide))) ?_)
                            refine seqL1 kr ?_
                            refine nl (hK475 _ _ ?_)
                            refine rl ?_
                            refine seqL6 kr ?_
                            refine nl ?_
                            refine hn469 _ _ ?_
                            refine hK466 _ _ ?_
                            refine rl ?_
                            refine seqL2 kr ?_
                            refine nl ?_
                            refine hK450 n451 _ _ (Nat.lt_succ_self _) ?_
                            exact ⟨f452, (Go.bits .or .i64 (w64 (c457 * 2 ^ 8)) (w64 ((rd ((data5.take (w64 ((w64 (x406 + 1)) * vt192)).toNat).drop (w64 (x406 * vt192)).toNat) x458)))), (w64 (x458 + 1)), (fun i_ => [Value.int .u8 (rd ((data5.take (w64 ((w64 (x406 + 1)) * vt192)).toNat).drop (w64 (x406 * vt192)).toNat) x458), Value.bool true, Value.pointer (some ⟨b480, of481 + (x458 : Int).toNat * 1, none⟩), Value.int .u8 (rd ((data5.take (w64 ((w64 (x406 + 1)) * vt192)).toNat).drop (w64 (x406 * vt192)).toNat) x458), Value.int .i64 c457, Value.int .i64 (w64 (c457 * 2 ^ 8)), Value.int .u8 (rd ((data5.take (w64 ((w64 (x406 + 1)) * vt192)).toNat).drop (w64 (x406 * vt192)).toNat) x458), Value.int .i64 (w64 ((rd ((data5.take (w64 ((w64 (x406 + 1)) * vt192)).toNat).drop (w64 (x406 * vt192)).toNat) x458))), Value.int .i64 (Go.bits .or .i64 (w64 (c457 * 2 ^ 8)) (w64 ((rd ((data5.take (w64 ((w64 (x406 + 1)) * vt192)).toNat).drop (w64 (x406 * vt192)).toNat) x458)))), Value.int .i64 (w64 (x458 + 1))].getD i_ undef), L453, HS455, h, kr⟩
                          · have c464 : ¬ (x458 < (((data5.take (w64 ((w64 (x406 + 1)) * vt192)).toNat).drop (w64 (x406 * vt192)).toNat).length : Int)) := c464
                            refine wpRwI 92 (x := (decide (x458 < (((data5.take (w64 ((w64 (x406 + 1)) * vt192)).toNat).drop (w64 (x406 * vt192)).toNat).length : Int)))) (v := false) kr (decide_eq_false c464) ?_
                            refine condF kr ?_
                            refine wp_exit ?_
                            refine hx443 _ _ ?_
                            exact J490 f452 c457 (fun i_ => [(j456 0), Value.int .i64 x458, Value.bool false, (j456 2), (j456 3), (j456 4), (j456 5), (j456 6), (j456 7), (j456 8), (j456 9)].getD i_ undef) W454 _ L453 h HS455 kr
                        · have c418 : ¬ (x406 < (w64 (vt68 * vt130))) := c418
                          refine wpRwI 77 (x := (decide (x406 < (w64 (vt68 * vt130))))) (v := false) kr (decide_eq_false c418) ?_
                          refine condF kr ?_
                          refine wp_exit ?_
                          refine hx283 _ _ ?_
                          exact J522 f401 A408 c409 s410 x407 (fun i_ => [(j405 0), (j405 1), (j405 2), Value.int .i64 x406, Value.bool false, (j405 4), (j405 5), (j405 6), (j405 7), (j405 8), (j405 9), (j405 10), (j405 11), (j405 12), (j405 13), (j405 14), (j405 15), (j405 16), (j405 17), (j405 18), (j405 19), (j405 20), (j405 21), (j405 22), (j405 23), (j405 24), (j405 25), (j405 26), (j405 27), (j405 28), (j405 29), (j405 30), (j405 31), (j405 32), (j405 33)].getD i_ undef) W403 _ L402 h HS404 HO411 kr
                   refine takeEither 5 7 kr rfl rfl rfl rfl ?_ ?_
                   · refine does_cutL (e := ty_Card) (xs := cards1) rfl Tryz.underlying27 kr (kv (.slice A2 cards1.length c3)) (kv (.int .i64 3)) (by decide) c227 HR4 ?_
                     intro A243 c244 HR245
                     refine ⟨(Sg.g0 (Sx.of [] (FM.le.refl _) HS226)), ?_⟩
                     refine takeGL [6] (n := 3) (fuel := 2) #[true, true, true, true, true, true, true, false, false] rfl kr kr kr hnp (Sg.g0 (Sx.of [] (FM.le.refl _) HS226)) ?_
                     refine takeGE 7 kr rfl kr (does_alloc (z := Value.agg #[.int .i64 0, .int .i64 0, .slice none 0 0, .slice none 0 0]) (cs := #[.int .i64 0, .int .i64 0, .slice none 0 0, .slice none 0 0]) rfl kr rfl HS226 ?_)
                     intro b246 W247 HS248
                     refine ⟨(Sg.g0 (Sx.of [[(b246, .cells #[.int .i64 0, .int .i64 0, .slice none 0 0, .slice none 0 0] 29 (0, 0))]] (FM.le.refl _) HS248)), ?_⟩
                     refine takeGE 8 kr rfl kr (does_store (n := 4) (vs := [.int .i64 vt68, .int .i64 vt130, .slice A243 (cards1.drop (3 : Int).toNat).length c244, .slice none 0 0]) (cs' := #[.int .i64 vt68, .int .i64 vt130, .slice A243 (cards1.drop (3 : Int).toNat).length c244, .slice none 0 0]) rfl kr (kv (.pointer (some ⟨b246, 0, none⟩))) (kv (.agg #[.int .i64 vt68, .int .i64 vt130, .slice A243 (cards1.drop (3 : Int).toNat).length c244, .slice none 0 0])) rfl rfl (by intro u_ hu_; simp only [List.mem_cons, List.not_mem_nil, or_false] at hu_; rcases hu_ with rfl | rfl | rfl | rfl <;> rfl) HS248 (Nat.le_of_ble_eq_true rfl) kr ?_)
                     intro W250 HS251
                     refine ⟨(Sg.g0 (Sx.of [[(b246, .cells #[.int .i64 vt68, .int .i64 vt130, .slice A243 (cards1.drop (3 : Int).toNat).length c244, .slice none 0 0] 29 (0, 0))]] (FM.le.refl _) HS251)), ?_⟩
                     refine hR239 _ _ ?_
                     exact J240 A243 c244 b246 W250 _ HR245 HS251 kr
                   · refine does_alloc (z := Value.agg #[.int .i64 0, .int .i64 0, .slice none 0 0, .slice none 0 0]) (cs := #[.int .i64 0, .int .i64 0, .slice none 0 0, .slice none 0 0]) rfl kr rfl HS226 ?_
                     intro b252 W253 HS254
                     refine ⟨(Sg.g0 (Sx.of [[(b252, .cells #[.int .i64 0, .int .i64 0, .slice none 0 0, .slice none 0 0] 29 (0, 0))]] (FM.le.refl _) HS254)), ?_⟩
                     refine takeGE 5 kr rfl kr (does_cutL (e := ty_Card) (xs := cards1) rfl Tryz.underlying27 kr (kv (.slice A2 cards1.length c3)) (kv (.int .i64 3)) (by decide) c227 HR4 ?_)
                     intro A256 c257 HR258
                     refine ⟨(Sg.g0 (Sx.of [[(b252, .cells #[.int .i64 0, .int .i64 0, .slice none 0 0, .slice none 0 0] 29 (0, 0))]] (FM.le.refl _) HS254)), ?_⟩
                     refine takeGL [6] (n := 2) (fuel := 1) #[true, true, true, true, true, true, true, true, false] rfl kr kr kr hnp (Sg.g0 (Sx.of [[(b252, .cells #[.int .i64 0, .int .i64 0, .slice none 0 0, .slice none 0 0] 29 (0, 0))]] (FM.le.refl _) HS254)) ?_
                     refine takeGE 8 kr rfl kr (does_store (n := 4) (vs := [.int .i64 vt68, .int .i64 vt130, .slice A256 (cards1.drop (3 : Int).toNat).length c257, .slice none 0 0]) (cs' := #[.int .i64 vt68, .int .i64 vt130, .slice A256 (cards1.drop (3 : Int).toNat).length c257, .slice none 0 0]) rfl kr (kv (.pointer (some ⟨b252, 0, none⟩))) (kv (.agg #[.int .i64 vt68, .int .i64 vt130, .slice A256 (cards1.drop (3 : Int).toNat).length c257, .slice none 0 0])) rfl rfl (by intro u_ hu_; simp only [List.mem_cons, List.not_mem_nil, or_false] at hu_; rcases hu_ with rfl | rfl | rfl | rfl <;> rfl) HS254 (Nat.le_of_ble_eq_true rfl) kr ?_)
                     intro W259 HS260
                     refine ⟨(Sg.g0 (Sx.of [[(b252, .cells #[.int .i64 vt68, .int .i64 vt130, .slice A256 (cards1.drop (3 : Int).toNat).length c257, .slice none 0 0] 29 (0, 0))]] (FM.le.refl _) HS260)), ?_⟩
                     refine hR239 _ _ ?_
                     exact J240 A256 c257 b252 W259 _ HR258 HS260 kr

end Go.Sp.U5
