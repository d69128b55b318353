import Derived.Test.YtpbpeiofebgjiaaGreatDoorProg
import Derived.Test.YtpbpeiofebgjiaaGreatDoorSpCopy
import Derived.Test.YtpbpeiofebgjiaaGreatDoorFK3
import Derived.Test.YtpbpeiofebgjiaaGreatDoorSpStr
import Derived.Test.YtpbpeiofebgjiaaGreatDoorSpLib
import Derived.Test.YtpbpeiofebgjiaaGreatDoorConv
import Derived.Test.YtpbpeiofebgjiaaGreatDoorLibs
import Derived.Test.YtpbpeiofebgjiaaGreatDoorKK3n0
import Derived.Test.YtpbpeiofebgjiaaGreatDoorKK3n1
import Derived.Test.YtpbpeiofebgjiaaGreatDoorKK3n2
namespace Go.Sp.K3
open Go Go.Sp Go.Proofs
set_option linter.unusedVariables false
attribute [local irreducible] wpList AnyL Code.wp Calls Does
set_option maxRecDepth 100000 in
set_option maxHeartbeats 4000000 in
theorem expose_Shot.calls (k : Nat) (A2 : Option Addr) (c3 : Nat) (A5 : Option Addr) (c6 : Nat) (vf1 : S_Frame) {t w : World} {f : FM} {H : List Seg} (HS : St t w f (H)) (HR4 : SlR ty_Card f A2 c3 vf1.Cards) (HR7 : SlR (tInt .i64) f A5 c6 vf1.Counts) (HA : TabF Tryz.prog "strings.asciiSpace" .u8 Go.Lib.asciiSpaceTab f) (HT : TabF Tryz.prog "internal/strconv.uint64pow10" .u64 Go.Lib.pow10Tab f) (rr1 : S_Shot) (rr2 : Int) (h : expose_Shot k vf1 = some (rr1, rr2)) :
    Calls Tryz.prog 47 #[.agg #[.int .i64 vf1.W, .int .i64 vf1.H, .slice A2 vf1.Cards.length c3, .slice A5 vf1.Counts.length c6]] w (fun e w' => ∃ (g : FM) (A432 : Option Addr) (c433 : Nat) (s434 : Seg), e = .returned (Value.tuple #[.agg #[.int .i64 rr1.Kind, .int .u64 rr1.Seed, .int .i64 rr1.Number, .int .i64 rr1.Begin, .int .i64 rr1.Beats, .int .i64 rr1.Plate.A, .int .i64 rr1.Plate.B, .int .i64 rr1.Plate.C, .int .i64 rr1.Plate.D, .int .i64 rr1.Seeing, .int .i64 rr1.DriftX, .int .i64 rr1.DriftY, .int .i64 rr1.Lamp, .slice A432 rr1.Hits.length c433], .int .i64 rr2]) ∧ FM.le f g ∧ St t w' g (s434 :: H) ∧ Own ty_Hit 246 g A432 c433 s434 rr1.Hits) := by
 unfold expose_Shot at h
 refine enter Tryz.func47 rfl (tm := #[(ag_Frame vf1 A2 c3 A5 c6), uV, uV, uV, uV, uV, uV, uV, uV, uV, uV, uV, uV, uV, uV, uV, uV, uV, uV, uV, uV, uV, uV, uV, uV, uV, uV, uV, uV, uV, uV, uV, uV, uV, uV, uV, uV, uV, uV, uV, uV, uV, uV, uV, uV, uV, uV, uV, uV, uV, uV, uV, uV, uV, uV, uV, uV, uV, uV, uV, uV, uV, uV, uV, uV, uV, uV, uV, uV, uV, uV, uV, uV, uV, uV, uV, uV, uV, uV, uV, uV, uV, uV, uV, uV, uV, uV, uV, uV, uV, uV, uV, uV, uV, uV, uV, uV, uV, uV, uV, uV]) kr ?_
 intro B hret hnor hnp
 refine wp_seq_k fun K8 hK9 => rl ?_
 refine seqK rfl (does_box (cs := #[.int .i64 vf1.W, .int .i64 vf1.H, .slice A2 vf1.Cards.length c3, .slice A5 vf1.Counts.length c6]) rfl (kv (.agg #[.int .i64 vf1.W, .int .i64 vf1.H, .slice A2 vf1.Cards.length c3, .slice A5 vf1.Counts.length c6])) rfl HS ?_)
 intro b10 W11 HS12
 refine seqK rfl (does_alloc (z := Value.agg #[.int .i64 0, .int .u64 0, .int .i64 0, .int .i64 0, .int .i64 0, .int .i64 0, .int .i64 0, .int .i64 0, .int .i64 0, .int .i64 0, .int .i64 0, .int .i64 0, .int .i64 0, .slice none 0 0]) (cs := #[.int .i64 0, .int .u64 0, .int .i64 0, .int .i64 0, .int .i64 0, .int .i64 0, .int .i64 0, .int .i64 0, .int .i64 0, .int .i64 0, .int .i64 0, .int .i64 0, .int .i64 0, .slice none 0 0]) rfl kr rfl HS12 ?_)
 intro b14 W15 HS16
 refine seqL1 kr ?_
 refine nl (hK9 _ _ ?_)
 refine wp_seq_k (fun K18 hK19 => ?_)
 refine wp_seq_k fun K20 hK21 => rl ?_
 refine seqK rfl (does_run (run_loadN (n := 4) rfl Tryz.underlying54 rfl kr (kv (.pointer (some ⟨b10, 0, none⟩))) (cs := [.int .i64 vf1.W, .int .i64 vf1.H, .slice A2 vf1.Cards.length c3, .slice A5 vf1.Counts.length c6]) rfl (HS16.u1.cells 0 4 _ rfl)) ?_)
 have hq_ := bind_some h; clear h; obtain ⟨vt22, hc23, h⟩ := hq_
 refine seqK rfl (does_call (f := 55) (args := #[.agg #[.int .i64 vf1.W, .int .i64 vf1.H, .slice A2 vf1.Cards.length c3, .slice A5 vf1.Counts.length c6]]) kr (frame_Check.calls k A2 c3 A5 c6 vf1 HS16 HR4 HR7 HA vt22 hc23) ?_)
 rintro _ W26 ⟨f24, rfl, L25, HS27⟩
 refine ⟨_, rfl, ?_⟩
 refine seqL1 kr ?_
 refine nl (hK21 _ _ ?_)
 refine wp_seq_k fun K28 hK29 => rl ?_
 refine seqL2 kr ?_
 refine nl (hK29 _ _ ?_)
 have hq_ := ite_some h; clear h; rcases hq_ with ⟨c31, h⟩ | ⟨c31, h⟩
 · have c31 : vt22 ≠ 0 := c31
   refine wpRwI 15 (x := (vt22 != 0)) (v := true) kr (bne_iff_ne.mpr c31) ?_
   refine condT kr ?_
   refine wp_seq_k fun K32 hK33 => rl ?_
   refine seqL2 kr ?_
   refine seqK rfl (does_store (n := 14) (vs := [.int .i64 0, .int .u64 0, .int .i64 0, .int .i64 0, .int .i64 0, .int .i64 0, .int .i64 0, .int .i64 0, .int .i64 0, .int .i64 0, .int .i64 0, .int .i64 0, .int .i64 0, .slice none 0 0]) (cs' := #[.int .i64 0, .int .u64 0, .int .i64 0, .int .i64 0, .int .i64 0, .int .i64 0, .int .i64 0, .int .i64 0, .int .i64 0, .int .i64 0, .int .i64 0, .int .i64 0, .int .i64 0, .slice none 0 0]) rfl kr (kv (.pointer (some ⟨b14, 0, none⟩))) (kv (.agg #[.int .i64 0, .int .u64 0, .int .i64 0, .int .i64 0, .int .i64 0, .int .i64 0, .int .i64 0, .int .i64 0, .int .i64 0, .int .i64 0, .int .i64 0, .int .i64 0, .int .i64 0, .slice none 0 0])) rfl rfl (by intro u_ hu_; simp only [List.mem_cons, List.not_mem_nil, or_false] at hu_; rcases hu_ with rfl | rfl | rfl | rfl | rfl | rfl | rfl | rfl | rfl | rfl | rfl | rfl | rfl | rfl <;> rfl) HS27 (Nat.le_of_ble_eq_true rfl) kr ?_)
   intro W34 HS35
   refine seqL1 kr ?_
   refine nl (hK33 _ _ ?_)
   refine wp_ret ?_
   refine hret _ _ ?_
   have HS364 := HS35.cons_nil
   refine ends (v := Value.tuple #[.agg #[.int .i64 0, .int .u64 0, .int .i64 0, .int .i64 0, .int .i64 0, .int .i64 0, .int .i64 0, .int .i64 0, .int .i64 0, .int .i64 0, .int .i64 0, .int .i64 0, .int .i64 0, .slice none 0 0], .int .i64 vt22]) (results2 (q1 := .cell 2 77) (q2 := .tmp 3) kr (resN (n := 14) (cs := [.int .i64 0, .int .u64 0, .int .i64 0, .int .i64 0, .int .i64 0, .int .i64 0, .int .i64 0, .int .i64 0, .int .i64 0, .int .i64 0, .int .i64 0, .int .i64 0, .int .i64 0, .slice none 0 0]) (kv (.pointer (some ⟨b14, 0, none⟩))) Tryz.underlying77 rfl kr rfl (HS364.u1.cells 0 14 _ rfl)) (resT (kv (.int .i64 vt22)))) kr ?_
   have HS366 := HS364.u2
   have HS367 := HS366.u2
   have HS368 := HS367.drop
   have HS369 := HS368.drop
   injection h with h
   injection h with h0_ h
   subst h0_ h
   exact ⟨f24, none, 0, [], rfl, L25, HS369, (Own.nil _)⟩
 · have c31 : ¬ (vt22 ≠ 0) := c31
   refine wpRwI 15 (x := (vt22 != 0)) (v := false) kr (bne_eq_false_iff_eq.mpr (Decidable.of_not_not c31)) ?_
   refine condF kr ?_
   refine wp_skip ?_
   refine hK19 _ _ ?_
   refine wp_seq_k fun K36 hK37 => rl ?_
   refine seqK rfl (does_run (run_loadN (n := 4) rfl Tryz.underlying54 rfl kr (kv (.pointer (some ⟨b10, 0, none⟩))) (cs := [.int .i64 vf1.W, .int .i64 vf1.H, .slice A2 vf1.Cards.length c3, .slice A5 vf1.Counts.length c6]) rfl (HS27.u1.cells 0 4 _ rfl)) ?_)
   have hq_ := bind_some h; clear h; obtain ⟨⟨vt38, vt39⟩, hc40, h⟩ := hq_
   refine seqK rfl (does_call (f := 56) (args := #[.agg #[.int .i64 vf1.W, .int .i64 vf1.H, .slice A2 vf1.Cards.length c3, .slice A5 vf1.Counts.length c6], .string ⟨#[75, 73, 78, 68]⟩]) kr (frame_Get.calls k A2 c3 A5 c6 vf1 (⟨#[75, 73, 78, 68]⟩ : ByteArray) HS27 (HR4.mono L25) (HR7.mono L25) vt38 vt39 hc40) ?_)
   rintro _ W43 ⟨f41, rfl, L42, HS44⟩
   refine ⟨_, rfl, ?_⟩
   refine seqL3 kr ?_
   refine seqK rfl (does_alloc (z := Value.agg #[.string ⟨#[]⟩, .string ⟨#[]⟩, .string ⟨#[]⟩, .string ⟨#[]⟩]) (cs := #[.string ⟨#[]⟩, .string ⟨#[]⟩, .string ⟨#[]⟩, .string ⟨#[]⟩]) rfl kr rfl HS44 ?_)
   intro b45 W46 HS47
   refine seqK rfl (does_store (n := 4) (vs := [.string vt38.Key, .string vt38.Value, .string vt38.Unit, .string vt38.Note]) (cs' := #[.string vt38.Key, .string vt38.Value, .string vt38.Unit, .string vt38.Note]) rfl kr (kv (.pointer (some ⟨b45, 0, none⟩))) (kv (.agg #[.string vt38.Key, .string vt38.Value, .string vt38.Unit, .string vt38.Note])) rfl rfl (by intro u_ hu_; simp only [List.mem_cons, List.not_mem_nil, or_false] at hu_; rcases hu_ with rfl | rfl | rfl | rfl <;> rfl) HS47 (Nat.le_of_ble_eq_true rfl) kr ?_)
   intro W49 HS50
   refine seqL1 kr ?_
   refine nl (hK37 _ _ ?_)
   refine wp_seq_k (fun K51 hK52 => ?_)
   refine wp_seq_k fun K53 hK54 => rl ?_
   refine seqL2 kr ?_
   refine nl (hK54 _ _ ?_)
   have hq_ := ite_some h; clear h; rcases hq_ with ⟨c56, h⟩ | ⟨c56, h⟩
   · have c56 : ¬ (vt39 = true) := c56
     refine wpRwI 24 (x := (!vt39)) (v := true) kr (congrArg (fun b_ => !b_) (show vt39 = false from (Bool.eq_false_iff.mpr c56)) : (!vt39) = true) ?_
     refine condT kr ?_
     refine wp_seq_k fun K57 hK58 => rl ?_
     have HS59 := HS50.u1
     refine seqL1 kr ?_
     refine seqK rfl (does_store (n := 14) (vs := [.int .i64 0, .int .u64 0, .int .i64 0, .int .i64 0, .int .i64 0, .int .i64 0, .int .i64 0, .int .i64 0, .int .i64 0, .int .i64 0, .int .i64 0, .int .i64 0, .int .i64 0, .slice none 0 0]) (cs' := #[.int .i64 0, .int .u64 0, .int .i64 0, .int .i64 0, .int .i64 0, .int .i64 0, .int .i64 0, .int .i64 0, .int .i64 0, .int .i64 0, .int .i64 0, .int .i64 0, .int .i64 0, .slice none 0 0]) rfl kr (kv (.pointer (some ⟨b14, 0, none⟩))) (kv (.agg #[.int .i64 0, .int .u64 0, .int .i64 0, .int .i64 0, .int .i64 0, .int .i64 0, .int .i64 0, .int .i64 0, .int .i64 0, .int .i64 0, .int .i64 0, .int .i64 0, .int .i64 0, .slice none 0 0])) rfl rfl (by intro u_ hu_; simp only [List.mem_cons, List.not_mem_nil, or_false] at hu_; rcases hu_ with rfl | rfl | rfl | rfl | rfl | rfl | rfl | rfl | rfl | rfl | rfl | rfl | rfl | rfl <;> rfl) HS59 (Nat.le_of_ble_eq_true rfl) kr ?_)
     intro W60 HS61
     refine seqL1 kr ?_
     refine nl (hK58 _ _ ?_)
     refine wp_ret ?_
     refine hret _ _ ?_
     have HS370 := HS61.cons_nil
     refine ends (v := Value.tuple #[.agg #[.int .i64 0, .int .u64 0, .int .i64 0, .int .i64 0, .int .i64 0, .int .i64 0, .int .i64 0, .int .i64 0, .int .i64 0, .int .i64 0, .int .i64 0, .int .i64 0, .int .i64 0, .slice none 0 0], .int .i64 8]) (results2 (q1 := .cell 2 77) (q2 := .tmp 3) kr (resN (n := 14) (cs := [.int .i64 0, .int .u64 0, .int .i64 0, .int .i64 0, .int .i64 0, .int .i64 0, .int .i64 0, .int .i64 0, .int .i64 0, .int .i64 0, .int .i64 0, .int .i64 0, .int .i64 0, .slice none 0 0]) (kv (.pointer (some ⟨b14, 0, none⟩))) Tryz.underlying77 rfl kr rfl (HS370.u1.cells 0 14 _ rfl)) (resT (kv (.int .i64 8)))) kr ?_
     have HS372 := HS370.u3
     have HS373 := HS372.u3
     have HS374 := HS373.u3
     have HS375 := HS374.drop
     have HS376 := HS375.drop
     have HS377 := HS376.drop
     injection h with h
     injection h with h0_ h
     subst h0_ h
     exact ⟨f41, none, 0, [], rfl, (L25.trans L42), HS377, (Own.nil _)⟩
   · have c56 : ¬ (¬ (vt39 = true)) := c56
     refine wpRwI 24 (x := (!vt39)) (v := false) kr (congrArg (fun b_ => !b_) (show vt39 = true from (Decidable.of_not_not c56)) : (!vt39) = false) ?_
     refine condF kr ?_
     refine wp_skip ?_
     refine hK52 _ _ ?_
     refine wp_seq_k fun K62 hK63 => rl ?_
     refine seqL1 kr ?_
     refine seqK rfl (does_alloc (z := Value.agg #[.int .i64 0, .int .u64 0, .int .i64 0, .int .i64 0, .int .i64 0, .int .i64 0, .int .i64 0, .int .i64 0, .int .i64 0, .int .i64 0, .int .i64 0, .int .i64 0, .int .i64 0, .slice none 0 0]) (cs := #[.int .i64 0, .int .u64 0, .int .i64 0, .int .i64 0, .int .i64 0, .int .i64 0, .int .i64 0, .int .i64 0, .int .i64 0, .int .i64 0, .int .i64 0, .int .i64 0, .int .i64 0, .slice none 0 0]) rfl kr rfl HS50 ?_)
     intro b64 W65 HS66
     refine seqK rfl (does_store (n := 14) (vs := [.int .i64 (-1), .int .u64 0, .int .i64 0, .int .i64 0, .int .i64 0, .int .i64 0, .int .i64 0, .int .i64 0, .int .i64 0, .int .i64 0, .int .i64 0, .int .i64 0, .int .i64 0, .slice none 0 0]) (cs' := #[.int .i64 (-1), .int .u64 0, .int .i64 0, .int .i64 0, .int .i64 0, .int .i64 0, .int .i64 0, .int .i64 0, .int .i64 0, .int .i64 0, .int .i64 0, .int .i64 0, .int .i64 0, .slice none 0 0]) rfl kr (kv (.pointer (some ⟨b64, 0, none⟩))) (kv (.agg #[.int .i64 (-1), .int .u64 0, .int .i64 0, .int .i64 0, .int .i64 0, .int .i64 0, .int .i64 0, .int .i64 0, .int .i64 0, .int .i64 0, .int .i64 0, .int .i64 0, .int .i64 0, .slice none 0 0])) rfl rfl (by intro u_ hu_; simp only [List.mem_cons, List.not_mem_nil, or_false] at hu_; rcases hu_ with rfl | rfl | rfl | rfl | rfl | rfl | rfl | rfl | rfl | rfl | rfl | rfl | rfl | rfl <;> rfl) HS66 (Nat.le_of_ble_eq_true rfl) kr ?_)
     intro W68 HS69
     refine nl (hK63 _ _ ?_)
     refine wp_seq_k (fun K70 hK71 => ?_)
     refine wp_seq_k fun K72 hK73 => rl ?_
     have hq_ := bind_some h; clear h; obtain ⟨vt74, hc75, h⟩ := hq_
     refine seqK rfl (does_call (f := 57) (args := #[]) kr (expose_kinds.calls k  HS69 vt74 hc75) ?_)
     rintro _ W78 ⟨f76, A80, c81, s82, rfl, L77, HS79, HO83⟩
     refine ⟨_, rfl, ?_⟩
     refine seqL2 kr ?_
     refine nl (hK73 _ _ ?_)
     refine blockK (fun B85 hx86 hn87 hr88 ho89 hp90 => ?_)
     have hq_ := bind_some h; clear h; obtain ⟨o133, hv182, h⟩ := hq_
     have J183 : ∀ (f176 : FM) (x181 : Int) (j180 : Nat → Value) (W178 : World) (a_ : Act), FM.le f76 f176 → some (x181) = some o133 → St t W178 f176 (s82 :: [(b64, .cells #[.int .i64 x181, .int .u64 0, .int .i64 0, .int .i64 0, .int .i64 0, .int .i64 0, .int .i64 0, .int .i64 0, .int .i64 0, .int .i64 0, .int .i64 0, .int .i64 0, .int .i64 0, .slice none 0 0] 77 (0, 0))] :: [(b45, .cells #[.string vt38.Key, .string vt38.Value, .string vt38.Unit, .string vt38.Note] 98 (0, 0))] :: [(b14, .cells #[.int .i64 0, .int .u64 0, .int .i64 0, .int .i64 0, .int .i64 0, .int .i64 0, .int .i64 0, .int .i64 0, .int .i64 0, .int .i64 0, .int .i64 0, .int .i64 0, .int .i64 0, .slice none 0 0] 77 (0, 0))] :: [(b10, .cells #[.int .i64 vf1.W, .int .i64 vf1.H, .slice A2 vf1.Cards.length c3, .slice A5 vf1.Counts.length c6] 54 (0, 0))] :: H) → a_ = ⟨#[(ag_Frame vf1 A2 c3 A5 c6), pV b10 0, pV b14 0, iV 0, iV vt22, pV b45 0, .bool vt39, pV b64 0, (j180 0), (j180 1), uV, uV, (ag_Frame vf1 A2 c3 A5 c6), iV vt22, iV vt22, fV, uV, uV, .tuple #[(ag_Card vt38), .bool vt39], (ag_Frame vf1 A2 c3 A5 c6), .tuple #[(ag_Card vt38), .bool vt39], (ag_Card vt38), .bool vt39, .bool vt39, fV, uV, .agg #[iV (-1), .int .u64 0, iV 0, iV 0, iV 0, iV 0, iV 0, iV 0, iV 0, iV 0, iV 0, iV 0, iV 0, .slice none 0 0], .slice A80 vt74.length c81, iV (vt74.length : Int), (j180 2), (j180 3), (j180 4), (j180 5), (j180 6), (j180 7), (j180 8), (j180 9), (j180 10), (j180 11), (j180 12), (j180 13), (j180 14), (j180 15), (j180 16), (j180 17), (j180 18), uV, uV, uV, uV, uV, uV, uV, uV, uV, uV, uV, uV, uV, uV, uV, uV, uV, uV, uV, uV, uV, uV, uV, uV, uV, uV, uV, uV, uV, uV, uV, uV, uV, uV, uV, uV, uV, uV, uV, uV, uV, uV, uV, uV, uV, uV, uV, uV, uV, uV, uV, uV, uV, uV, uV], []⟩ → K70 a_ W178 := by
      intro f176 x181 j180 W178 a_ L177 hj184 HS179  hfr_; subst hfr_
      injection hj184 with hj184; subst hj184; try dsimp only at h
      refine hK71 _ _ ?_
      refine wp_seq_k (fun K190 hK191 => ?_)
      refine wp_seq_k fun K192 hK193 => rl ?_
      refine seqL1 kr ?_
      refine seqK rfl (does_run (run_load rfl Tryz.underlying3 rfl (kv (.pointer (some ⟨b64, 0, none⟩))) (HS179.u1.cell 0)) ?_)
      refine seqL1 kr ?_
      refine nl (hK193 _ _ ?_)
      have hq_ := ite_some h; clear h; rcases hq_ with ⟨c195, h⟩ | ⟨c195, h⟩
      · have c195 : x181 < 0 := c195
        refine wpRwI 48 (x := (decide (x181 < 0))) (v := true) kr (decide_eq_true c195) ?_
        refine condT kr ?_
        refine wp_seq_k fun K196 hK197 => rl ?_
        have HS198 := HS179.u3
        refine seqL1 kr ?_
        refine seqK rfl (does_store (n := 14) (vs := [.int .i64 0, .int .u64 0, .int .i64 0, .int .i64 0, .int .i64 0, .int .i64 0, .int .i64 0, .int .i64 0, .int .i64 0, .int .i64 0, .int .i64 0, .int .i64 0, .int .i64 0, .slice none 0 0]) (cs' := #[.int .i64 0, .int .u64 0, .int .i64 0, .int .i64 0, .int .i64 0, .int .i64 0, .int .i64 0, .int .i64 0, .int .i64 0, .int .i64 0, .int .i64 0, .int .i64 0, .int .i64 0, .slice none 0 0]) rfl kr (kv (.pointer (some ⟨b14, 0, none⟩))) (kv (.agg #[.int .i64 0, .int .u64 0, .int .i64 0, .int .i64 0, .int .i64 0, .int .i64 0, .int .i64 0, .int .i64 0, .int .i64 0, .int .i64 0, .int .i64 0, .int .i64 0, .int .i64 0, .slice none 0 0])) rfl rfl (by intro u_ hu_; simp only [List.mem_cons, List.not_mem_nil, or_false] at hu_; rcases hu_ with rfl | rfl | rfl | rfl | rfl | rfl | rfl | rfl | rfl | rfl | rfl | rfl | rfl | rfl <;> rfl) HS198 (Nat.le_of_ble_eq_true rfl) kr ?_)
        intro W199 HS200
        refine seqL1 kr ?_
        refine nl (hK197 _ _ ?_)
        refine wp_ret ?_
        refine hret _ _ ?_
        have HS378 := HS200.cons_nil
        refine ends (v := Value.tuple #[.agg #[.int .i64 0, .int .u64 0, .int .i64 0, .int .i64 0, .int .i64 0, .int .i64 0, .int .i64 0, .int .i64 0, .int .i64 0, .int .i64 0, .int .i64 0, .int .i64 0, .int .i64 0, .slice none 0 0], .int .i64 12]) (results2 (q1 := .cell 2 77) (q2 := .tmp 3) kr (resN (n := 14) (cs := [.int .i64 0, .int .u64 0, .int .i64 0, .int .i64 0, .int .i64 0, .int .i64 0, .int .i64 0, .int .i64 0, .int .i64 0, .int .i64 0, .int .i64 0, .int .i64 0, .int .i64 0, .slice none 0 0]) (kv (.pointer (some ⟨b14, 0, none⟩))) Tryz.underlying77 rfl kr rfl (HS378.u1.cells 0 14 _ rfl)) (resT (kv (.int .i64 12)))) kr ?_
        have HS380 := HS378.u5
        have HS381 := HS380.u5
        have HS382 := HS381.u5
        have HS383 := HS382.u5
        have HS384 := HS383.u5
        have HS385 := HS384.drop
        have HS386 := HS385.drop
        have HS387 := HS386.drop
        have HS388 := HS387.drop
        have HS389 := HS388.drop
        injection h with h
        injection h with h0_ h
        subst h0_ h
        exact ⟨f176, none, 0, [], rfl, (L25.trans (L42.trans (L77.trans L177))), HS389, (Own.nil _)⟩
      · have c195 : ¬ (x181 < 0) := c195
        refine wpRwI 48 (x := (decide (x181 < 0))) (v := false) kr (decide_eq_false c195) ?_
        refine condF kr ?_
        refine wp_skip ?_
        refine hK191 _ _ ?_
        refine wp_seq_k fun K201 hK202 => rl ?_
        refine seqK rfl (does_run (run_loadN (n := 4) rfl Tryz.underlying54 rfl kr (kv (.pointer (some ⟨b10, 0, none⟩))) (cs := [.int .i64 vf1.W, .int .i64 vf1.H, .slice A2 vf1.Cards.length c3, .slice A5 vf1.Counts.length c6]) rfl (HS179.u4.cells 0 4 _ rfl)) ?_)
        refine seqL1 kr ?_
        refine seqK rfl (does_box (cs := #[.int .i64 vf1.W, .int .i64 vf1.H, .slice A2 vf1.Cards.length c3, .slice A5 vf1.Counts.length c6, .int .i64 0]) rfl (kv (.agg #[.int .i64 vf1.W, .int .i64 vf1.H, .slice A2 vf1.Cards.length c3, .slice A5 vf1.Counts.length c6, .int .i64 0])) rfl HS179 ?_)
        intro b203 W204 HS205
        refine seqL1 kr ?_
        refine nl (hK202 _ _ ?_)
        refine wp_seq_k fun K207 hK208 => rl ?_
        have hq_ := bind_some h; clear h; obtain ⟨⟨vt209, vt210⟩, hc211, h⟩ := hq_
        refine seqL1 kr ?_
        refine seqK rfl (does_call (f := 58) (args := #[.pointer (some ⟨b203, 0, none⟩), .string ⟨#[78, 85, 77, 66, 69, 82]⟩, .string ⟨#[]⟩]) kr (expose_numbers_get.calls k b203 A2 c3 A5 c6 (⟨vf1, 0⟩ : S_numbers) (⟨#[78, 85, 77, 66, 69, 82]⟩ : ByteArray) (⟨#[]⟩ : ByteArray) HS205 (HR4.mono (L25.trans (L42.trans (L77.trans L177)))) (HR7.mono (L25.trans (L42.trans (L77.trans L177)))) (HT.mono (L25.trans (L42.trans (L77.trans L177)))) vt209 vt210 hc211) ?_)
        rintro _ W214 ⟨f212, rfl, L213, HS215⟩
        refine ⟨_, rfl, ?_⟩
        have hq_ := bind_some h; clear h; obtain ⟨⟨vt216, vt217⟩, hc218, h⟩ := hq_
        refine seqL1 kr ?_
        refine seqK rfl (does_call (f := 58) (args := #[.pointer (some ⟨b203, 0, none⟩), .string ⟨#[66, 69, 71, 73, 78]⟩, .string ⟨#[116, 105, 99, 107]⟩]) kr (expose_numbers_get.calls k b203 A2 c3 A5 c6 (⟨vf1, vt210⟩ : S_numbers) (⟨#[66, 69, 71, 73, 78]⟩ : ByteArray) (⟨#[116, 105, 99, 107]⟩ : ByteArray) HS215 (HR4.mono (L25.trans (L42.trans (L77.trans (L177.trans L213))))) (HR7.mono (L25.trans (L42.trans (L77.trans (L177.trans L213))))) (HT.mono (L25.trans (L42.trans (L77.trans (L177.trans L213))))) vt216 vt217 hc218) ?_)
        rintro _ W221 ⟨f219, rfl, L220, HS222⟩
        refine ⟨_, rfl, ?_⟩
        have hq_ := bind_some h; clear h; obtain ⟨⟨vt223, vt224⟩, hc225, h⟩ := hq_
        refine seqL1 kr ?_
        refine seqK rfl (does_call (f := 58) (args := #[.pointer (some ⟨b203, 0, none⟩), .string ⟨#[66, 69, 65, 84, 83]⟩, .string ⟨#[98, 101, 97, 116]⟩]) kr (expose_numbers_get.calls k b203 A2 c3 A5 c6 (⟨vf1, vt217⟩ : S_numbers) (⟨#[66, 69, 65, 84, 83]⟩ : ByteArray) (⟨#[98, 101, 97, 116]⟩ : ByteArray) HS222 (HR4.mono (L25.trans (L42.trans (L77.trans (L177.trans (L213.trans L220)))))) (HR7.mono (L25.trans (L42.trans (L77.trans (L177.trans (L213.trans L220)))))) (HT.mono (L25.trans (L42.trans (L77.trans (L177.trans (L213.trans L220)))))) vt223 vt224 hc225) ?_)
        rintro _ W228 ⟨f226, rfl, L227, HS229⟩
        refine ⟨_, rfl, ?_⟩
        have HS230 := HS229.u2
        refine seqL1 kr ?_
        refine seqK rfl (does_store (n := 1) (vs := [.int .i64 vt209]) (cs' := #[.int .i64 x181, .int .u64 0, .int .i64 vt209, .int .i64 0, .int .i64 0, .int .i64 0, .int .i64 0, .int .i64 0, .int .i64 0, .int .i64 0, .int .i64 0, .int .i64 0, .int .i64 0, .slice none 0 0]) rfl kr (kv (.pointer (some ⟨b64, 2, none⟩))) (kv (.int .i64 vt209)) rfl rfl (by intro u_ hu_; simp only [List.mem_cons, List.not_mem_nil, or_false] at hu_; subst hu_; rfl) HS230 (Nat.le_of_ble_eq_true rfl) kr ?_)
        intro W231 HS232
        refine seqL1 kr ?_
        refine seqK rfl (does_store (n := 1) (vs := [.int .i64 vt216]) (cs' := #[.int .i64 x181, .int .u64 0, .int .i64 vt209, .int .i64 vt216, .int .i64 0, .int .i64 0, .int .i64 0, .int .i64 0, .int .i64 0, .int .i64 0, .int .i64 0, .int .i64 0, .int .i64 0, .slice none 0 0]) rfl kr (kv (.pointer (some ⟨b64, 3, none⟩))) (kv (.int .i64 vt216)) rfl rfl (by intro u_ hu_; simp only [List.mem_cons, List.not_mem_nil, or_false] at hu_; subst hu_; rfl) HS232 (Nat.le_of_ble_eq_true rfl) kr ?_)
        intro W233 HS234
        refine seqL1 kr ?_
        refine seqK rfl (does_store (n := 1) (vs := [.int .i64 vt223]) (cs' := #[.int .i64 x181, .int .u64 0, .int .i64 vt209, .int .i64 vt216, .int .i64 vt223, .int .i64 0, .int .i64 0, .int .i64 0, .int .i64 0, .int .i64 0, .int .i64 0, .int .i64 0, .int .i64 0, .slice none 0 0]) rfl kr (kv (.pointer (some ⟨b64, 4, none⟩))) (kv (.int .i64 vt223)) rfl rfl (by intro u_ hu_; simp only [List.mem_cons, List.not_mem_nil, or_false] at hu_; subst hu_; rfl) HS234 (Nat.le_of_ble_eq_true rfl) kr ?_)
        intro W235 HS236
        refine nl (hK208 _ _ ?_)
        refine wp_seq_k (fun K237 hK238 => ?_)
        refine wp_seq_k fun K239 hK240 => rl ?_
        refine seqL1 kr ?_
        refine seqK rfl (does_run (run_load rfl Tryz.underlying3 rfl (kv (.pointer (some ⟨b64, 0, none⟩))) (HS236.cell 0)) ?_)
        refine seqL1 kr ?_
        refine nl (hK240 _ _ ?_)
        have hq_ := bind_some h; clear h; obtain ⟨v241, hv319, h⟩ := hq_
        have J320 : ∀ (f306 : FM) (x311 : Int) (x312 : Int) (x313 : Int) (x314 : Int) (x315 : Int) (x316 : Int) (x317 : Int) (x318 : Int) (j310 : Nat → Value) (W308 : World) (a_ : Act), FM.le f226 f306 → some ((x311, x312, x313, x314, x315, x316, x317, x318)) = some v241 → St t W308 f306 ([(b64, .cells #[.int .i64 x181, .int .u64 0, .int .i64 vt209, .int .i64 vt216, .int .i64 vt223, .int .i64 x311, .int .i64 x312, .int .i64 x313, .int .i64 x314, .int .i64 x315, .int .i64 x316, .int .i64 x317, .int .i64 0, .slice none 0 0] 77 (0, 0))] :: [(b203, .cells #[.int .i64 vf1.W, .int .i64 vf1.H, .slice A2 vf1.Cards.length c3, .slice A5 vf1.Counts.length c6, .int .i64 x318] 124 (0, 0))] :: s82 :: [(b45, .cells #[.string vt38.Key, .string vt38.Value, .string vt38.Unit, .string vt38.Note] 98 (0, 0))] :: [(b14, .cells #[.int .i64 0, .int .u64 0, .int .i64 0, .int .i64 0, .int .i64 0, .int .i64 0, .int .i64 0, .int .i64 0, .int .i64 0, .int .i64 0, .int .i64 0, .int .i64 0, .int .i64 0, .slice none 0 0] 77 (0, 0))] :: [(b10, .cells #[.int .i64 vf1.W, .int .i64 vf1.H, .slice A2 vf1.Cards.length c3, .slice A5 vf1.Counts.length c6] 54 (0, 0))] :: H) → a_ = ⟨#[(ag_Frame vf1 A2 c3 A5 c6), pV b10 0, pV b14 0, iV 0, iV vt22, pV b45 0, .bool vt39, pV b64 0, (j180 0), (j180 1), pV b203 0, uV, (ag_Frame vf1 A2 c3 A5 c6), iV vt22, iV vt22, fV, uV, uV, .tuple #[(ag_Card vt38), .bool vt39], (ag_Frame vf1 A2 c3 A5 c6), .tuple #[(ag_Card vt38), .bool vt39], (ag_Card vt38), .bool vt39, .bool vt39, fV, uV, .agg #[iV (-1), .int .u64 0, iV 0, iV 0, iV 0, iV 0, iV 0, iV 0, iV 0, iV 0, iV 0, iV 0, iV 0, .slice none 0 0], .slice A80 vt74.length c81, iV (vt74.length : Int), (j180 2), (j180 3), (j180 4), (j180 5), (j180 6), (j180 7), (j180 8), (j180 9), (j180 10), (j180 11), (j180 12), (j180 13), (j180 14), (j180 15), (j180 16), (j180 17), (j180 18), pV b64 0, iV x181, fV, uV, (ag_Frame vf1 A2 c3 A5 c6), .agg #[iV vf1.W, iV vf1.H, .slice A2 vf1.Cards.length c3, .slice A5 vf1.Counts.length c6, iV 0], pV b203 0, pV b203 0, iV vt209, pV b203 0, iV vt216, pV b203 0, iV vt223, pV b64 2, pV b64 3, pV b64 4, pV b64 0, iV x181, .bool (x181 == 3), (j310 0), (j310 1), (j310 2), (j310 3), (j310 4), (j310 5), (j310 6), (j310 7), (j310 8), (j310 9), (j310 10), (j310 11), (j310 12), (j310 13), (j310 14), (j310 15), (j310 16), (j310 17), (j310 18), uV, uV, uV, uV, uV, uV, uV, uV, uV, uV, uV, uV, uV, uV, uV, uV, uV], []⟩ → K237 a_ W308 := by
         intro f306 x311 x312 x313 x314 x315 x316 x317 x318 j310 W308 a_ L307 hj321 HS309  hfr_; subst hfr_
         injection hj321 with hj321; subst hj321; try dsimp only at h
         refine hK238 _ _ ?_
         refine wp_seq_k (fun K322 hK323 => ?_)
         refine wp_seq_k fun K324 hK325 => rl ?_
         refine seqL3 kr ?_
         refine seqK rfl (does_run (run_load rfl Tryz.underlying34 rfl (kv (.pointer (some ⟨b203, 4, none⟩))) (HS309.u1.cell 4)) ?_)
         refine seqL1 kr ?_
         refine nl (hK325 _ _ ?_)
         have hq_ := ite_some h; clear h; rcases hq_ with ⟨c327, h⟩ | ⟨c327, h⟩
         · have c327 : x318 ≠ 0 := c327
           refine wpRwI 88 (x := (x318 != 0)) (v := true) kr (bne_iff_ne.mpr c327) ?_
           refine condT kr ?_
           refine wp_seq_k (fun K328 hK329 => ?_)
           have HS330 := HS309.u5
           have HS331 := HS330.u4
           have HS332 := HS331.u4
           have HS333 := HS332.u4
           have HS334 := HS333.u4
           have HS335 := HS334.u5
           refine heldG (S := Sg t f306 ([(b64, .cells #[.int .i64 x181, .int .u64 0, .int .i64 vt209, .int .i64 vt216, .int .i64 vt223, .int .i64 x311, .int .i64 x312, .int .i64 x313, .int .i64 x314, .int .i64 x315, .int .i64 x316, .int .i64 x317, .int .i64 0, .slice none 0 0] 77 (0, 0))] :: [(b203, .cells #[.int .i64 vf1.W, .int .i64 vf1.H, .slice A2 vf1.Cards.length c3, .slice A5 vf1.Counts.length c6, .int .i64 x318] 124 (0, 0))] :: s82 :: [(b45, .cells #[.string vt38.Key, .string vt38.Value, .string vt38.Unit, .string vt38.Note] 98 (0, 0))] :: [(b10, .cells #[.int .i64 vf1.W, .int .i64 vf1.H, .slice A2 vf1.Cards.length c3, .slice A5 vf1.Counts.length c6] 54 (0, 0))] :: H) [(5, [(b14, .cells #[.int .i64 0, .int .u64 0, .int .i64 0, .int .i64 0, .int .i64 0, .int .i64 0, .int .i64 0, .int .i64 0, .int .i64 0, .int .i64 0, .int .i64 0, .int .i64 0, .int .i64 0, .slice none 0 0] 77 (0, 0))])]) (n := 7) kr rfl HS335 ?_
           intro W336 HS337
           refine takeGL [0, 1, 2, 3] (n := 7) (fuel := 3) #[true, true, true, true, false, false, false] rfl kr kr kr hnp (Sg.g1 (Sx.of [[(b14, .cells #[.int .i64 0, .int .u64 0, .int .i64 0, .int .i64 0, .int .i64 0, .int .i64 0, .int .i64 0, .int .i64 0, .int .i64 0, .int .i64 0, .int .i64 0, .int .i64 0, .int .i64 0, .slice none 0 0] 77 (0, 0))]] (FM.le.refl _) HS337) (fun _ => St.only [] HS337 (FM.le.refl _))) ?_
           refine takeGQ 4 [] rfl kr kr kr kr kr kr hnp (Sg.g1 (Sx.of [[(b14, .cells #[.int .i64 0, .int .u64 0, .int .i64 0, .int .i64 0, .int .i64 0, .int .i64 0, .int .i64 0, .int .i64 0, .int .i64 0, .int .i64 0, .int .i64 0, .int .i64 0, .int .i64 0, .slice none 0 0] 77 (0, 0))]] (FM.le.refl _) HS337) (fun _ => St.only [] HS337 (FM.le.refl _))) (fun w_ hw_ => by obtain ⟨g_, hl_, hS_⟩ := hw_.st; exact run_load rfl Tryz.underlying34 rfl (kv (.pointer (some ⟨b203, 4, none⟩))) (hS_.u1.cell 4)) ?_
           refine takeGE 5 kr rfl kr (does_store (n := 14) (vs := [.int .i64 0, .int .u64 0, .int .i64 0, .int .i64 0, .int .i64 0, .int .i64 0, .int .i64 0, .int .i64 0, .int .i64 0, .int .i64 0, .int .i64 0, .int .i64 0, .int .i64 0, .slice none 0 0]) (cs' := #[.int .i64 0, .int .u64 0, .int .i64 0, .int .i64 0, .int .i64 0, .int .i64 0, .int .i64 0, .int .i64 0, .int .i64 0, .int .i64 0, .int .i64 0, .int .i64 0, .int .i64 0, .slice none 0 0]) rfl kr (kv (.pointer (some ⟨b14, 0, none⟩))) (kv (.agg #[.int .i64 0, .int .u64 0, .int .i64 0, .int .i64 0, .int .i64 0, .int .i64 0, .int .i64 0, .int .i64 0, .int .i64 0, .int .i64 0, .int .i64 0, .int .i64 0, .int .i64 0, .slice none 0 0])) rfl rfl (by intro u_ hu_; simp only [List.mem_cons, List.not_mem_nil, or_false] at hu_; rcases hu_ with rfl | rfl | rfl | rfl | rfl | rfl | rfl | rfl | rfl | rfl | rfl | rfl | rfl | rfl <;> rfl) HS337 (Nat.le_of_ble_eq_true rfl) kr ?_)
           intro W338 HS339
           refine ⟨(Sg.g1 (Sx.of [[(b14, .cells #[.int .i64 0, .int .u64 0, .int .i64 0, .int .i64 0, .int .i64 0, .int .i64 0, .int .i64 0, .int .i64 0, .int .i64 0, .int .i64 0, .int .i64 0, .int .i64 0, .int .i64 0, .slice none 0 0] 77 (0, 0))]] (FM.le.refl _) HS339) (fun hl_ => Bool.noConfusion (show true = false from hl_))), ?_⟩
           refine takeGL [6] (n := 1) (fuel := 0) #[true, true, true, true, true, true, true] rfl kr kr kr hnp (Sg.g1 (Sx.of [[(b14, .cells #[.int .i64 0, .int .u64 0, .int .i64 0, .int .i64 0, .int .i64 0, .int .i64 0, .int .i64 0, .int .i64 0, .int .i64 0, .int .i64 0, .int .i64 0, .int .i64 0, .int .i64 0, .slice none 0 0] 77 (0, 0))]] (FM.le.refl _) HS339) (fun hl_ => Bool.noConfusion (show true = false from hl_))) ?_
           refine doneG kr ?_ _
           refine hK329 _ _ ?_
           refine wp_ret ?_
           refine hret _ _ ?_
           have HS390 := HS339.cons_nil
           refine ends (v := Value.tuple #[.agg #[.int .i64 0, .int .u64 0, .int .i64 0, .int .i64 0, .int .i64 0, .int .i64 0, .int .i64 0, .int .i64 0, .int .i64 0, .int .i64 0, .int .i64 0, .int .i64 0, .int .i64 0, .slice none 0 0], .int .i64 x318]) (results2 (q1 := .cell 2 77) (q2 := .tmp 3) kr (resN (n := 14) (cs := [.int .i64 0, .int .u64 0, .int .i64 0, .int .i64 0, .int .i64 0, .int .i64 0, .int .i64 0, .int .i64 0, .int .i64 0, .int .i64 0, .int .i64 0, .int .i64 0, .int .i64 0, .slice none 0 0]) (kv (.pointer (some ⟨b14, 0, none⟩))) Tryz.underlying77 rfl kr rfl (HS390.u1.cells 0 14 _ rfl)) (resT (kv (.int .i64 x318)))) kr ?_
           have HS392 := HS390.u6
           have HS393 := HS392.u6
           have HS394 := HS393.u6
           have HS395 := HS394.u6
           have HS396 := HS395.u6
           have HS397 := HS396.u6
           have HS398 := HS397.drop
           have HS399 := HS398.drop
           have HS400 := HS399.drop
           have HS401 := HS400.drop
           have HS402 := HS401.drop
           have HS403 := HS402.drop
           injection h with h
           injection h with h0_ h
           subst h0_ h
           exact ⟨f306, none, 0, [], rfl, (L25.trans (L42.trans (L77.trans (L177.trans (L213.trans (L220.trans (L227.trans L307))))))), HS403, (Own.nil _)⟩
         · have c327 : ¬ (x318 ≠ 0) := c327
           refine wpRwI 88 (x := (x318 != 0)) (v := false) kr (bne_eq_false_iff_eq.mpr (Decidable.of_not_not c327)) ?_
           refine condF kr ?_
           refine wp_skip ?_
           refine hK323 _ _ ?_
           refine wp_seq_k (fun K340 hK341 => ?_)
           refine wp_seq_k fun K342 hK343 => rl ?_
           refine seqK rfl (does_run (run_loadN (n := 14) rfl Tryz.underlying77 rfl kr (kv (.pointer (some ⟨b64, 0, none⟩))) (cs := [.int .i64 x181, .int .u64 0, .int .i64 vt209, .int .i64 vt216, .int .i64 vt223, .int .i64 x311, .int .i64 x312, .int .i64 x313, .int .i64 x314, .int .i64 x315, .int .i64 x316, .int .i64 x317, .int .i64 0, .slice none 0 0]) rfl (HS309.cells 0 14 _ rfl)) ?_)
           have hq_ := bind_some h; clear h; obtain ⟨vt344, hc345, h⟩ := hq_
           refine seqK rfl (does_call (f := 59) (args := #[.agg #[.int .i64 x181, .int .u64 0, .int .i64 vt209, .int .i64 vt216, .int .i64 vt223, .int .i64 x311, .int .i64 x312, .int .i64 x313, .int .i64 x314, .int .i64 x315, .int .i64 x316, .int .i64 x317, .int .i64 0, .slice none 0 0]]) kr (expose_described.calls k none 0 (⟨x181, 0, vt209, vt216, vt223, (⟨x311, x312, x313, x314⟩ : S_Plate), x315, x316, x317, 0, ([] : List S_Hit)⟩ : S_Shot) HS309 (SlR.nil _ _) vt344 hc345) ?_)
           rintro _ W348 ⟨f346, rfl, L347, HS349⟩
           refine ⟨_, rfl, ?_⟩
           refine seqL1 kr ?_
           refine nl (hK343 _ _ ?_)
           refine wp_seq_k fun K350 hK351 => rl ?_
           refine seqL2 kr ?_
           refine nl (hK351 _ _ ?_)
           have hq_ := ite_some h; clear h; rcases hq_ with ⟨c353, h⟩ | ⟨c353, h⟩
           · have c353 : vt344 ≠ 0 := c353
             refine wpRwI 97 (x := (vt344 != 0)) (v := true) kr (bne_iff_ne.mpr c353) ?_
             refine condT kr ?_
             refine wp_seq_k fun K354 hK355 => rl ?_
             have HS356 := HS349.u4
             refine seqL2 kr ?_
             refine seqK rfl (does_store (n := 14) (vs := [.int .i64 0, .int .u64 0, .int .i64 0, .int .i64 0, .int .i64 0, .int .i64 0, .int .i64 0, .int .i64 0, .int .i64 0, .int .i64 0, .int .i64 0, .int .i64 0, .int .i64 0, .slice none 0 0]) (cs' := #[.int .i64 0, .int .u64 0, .int .i64 0, .int .i64 0, .int .i64 0, .int .i64 0, .int .i64 0, .int .i64 0, .int .i64 0, .int .i64 0, .int .i64 0, .int .i64 0, .int .i64 0, .slice none 0 0]) rfl kr (kv (.pointer (some ⟨b14, 0, none⟩))) (kv (.agg #[.int .i64 0, .int .u64 0, .int .i64 0, .int .i64 0, .int .i64 0, .int .i64 0, .int .i64 0, .int .i64 0, .int .i64 0, .int .i64 0, .int .i64 0, .int .i64 0, .int .i64 0, .slice none 0 0])) rfl rfl (by intro u_ hu_; simp only [List.mem_cons, List.not_mem_nil, or_false] at hu_; rcases hu_ with rfl | rfl | rfl | rfl | rfl | rfl | rfl | rfl | rfl | rfl | rfl | rfl | rfl | rfl <;> rfl) HS356 (Nat.le_of_ble_eq_true rfl) kr ?_)
             intro W357 HS358
             refine seqL1 kr ?_
             refine nl (hK355 _ _ ?_)
             refine wp_ret ?_
             refine hret _ _ ?_
             have HS404 := HS358.cons_nil
             refine ends (v := Value.tuple #[.agg #[.int .i64 0, .int .u64 0, .int .i64 0, .int .i64 0, .int .i64 0, .int .i64 0, .int .i64 0, .int .i64 0, .int .i64 0, .int .i64 0, .int .i64 0, .int .i64 0, .int .i64 0, .slice none 0 0], .int .i64 vt344]) (results2 (q1 := .cell 2 77) (q2 := .tmp 3) kr (resN (n := 14) (cs := [.int .i64 0, .int .u64 0, .int .i64 0, .int .i64 0, .int .i64 0, .int .i64 0, .int .i64 0, .int .i64 0, .int .i64 0, .int .i64 0, .int .i64 0, .int .i64 0, .int .i64 0, .slice none 0 0]) (kv (.pointer (some ⟨b14, 0, none⟩))) Tryz.underlying77 rfl kr rfl (HS404.u1.cells 0 14 _ rfl)) (resT (kv (.int .i64 vt344)))) kr ?_
             have HS406 := HS404.u6
             have HS407 := HS406.u6
             have HS408 := HS407.u6
             have HS409 := HS408.u6
             have HS410 := HS409.u6
             have HS411 := HS410.u6
             have HS412 := HS411.drop
             have HS413 := HS412.drop
             have HS414 := HS413.drop
             have HS415 := HS414.drop
             have HS416 := HS415.drop
             have HS417 := HS416.drop
             injection h with h
             injection h with h0_ h
             subst h0_ h
             exact ⟨f346, none, 0, [], rfl, (L25.trans (L42.trans (L77.trans (L177.trans (L213.trans (L220.trans (L227.trans (L307.trans L347)))))))), HS417, (Own.nil _)⟩
           · have c353 : ¬ (vt344 ≠ 0) := c353
             refine wpRwI 97 (x := (vt344 != 0)) (v := false) kr (bne_eq_false_iff_eq.mpr (Decidable.of_not_not c353)) ?_
             refine condF kr ?_
             refine wp_skip ?_
             refine hK341 _ _ ?_
             refine wp_seq_k fun K359 hK360 => rl ?_
             refine seqK rfl (does_run (run_loadN (n := 14) rfl Tryz.underlying77 rfl kr (kv (.pointer (some ⟨b64, 0, none⟩))) (cs := [.int .i64 x181, .int .u64 0, .int .i64 vt209, .int .i64 vt216, .int .i64 vt223, .int .i64 x311, .int .i64 x312, .int .i64 x313, .int .i64 x314, .int .i64 x315, .int .i64 x316, .int .i64 x317, .int .i64 0, .slice none 0 0]) rfl (HS349.cells 0 14 _ rfl)) ?_)
             have HS361 := HS349.u4
             refine seqK rfl (does_store (n := 14) (vs := [.int .i64 x181, .int .u64 0, .int .i64 vt209, .int .i64 vt216, .int .i64 vt223, .int .i64 x311, .int .i64 x312, .int .i64 x313, .int .i64 x314, .int .i64 x315, .int .i64 x316, .int .i64 x317, .int .i64 0, .slice none 0 0]) (cs' := #[.int .i64 x181, .int .u64 0, .int .i64 vt209, .int .i64 vt216, .int .i64 vt223, .int .i64 x311, .int .i64 x312, .int .i64 x313, .int .i64 x314, .int .i64 x315, .int .i64 x316, .int .i64 x317, .int .i64 0, .slice none 0 0]) rfl kr (kv (.pointer (some ⟨b14, 0, none⟩))) (kv (.agg #[.int .i64 x181, .int .u64 0, .int .i64 vt209, .int .i64 vt216, .int .i64 vt223, .int .i64 x311, .int .i64 x312, .int .i64 x313, .int .i64 x314, .int .i64 x315, .int .i64 x316, .int .i64 x317, .int .i64 0, .slice none 0 0])) rfl rfl (by intro u_ hu_; simp only [List.mem_cons, List.not_mem_nil, or_false] at hu_; rcases hu_ with rfl | rfl | rfl | rfl | rfl | rfl | rfl | rfl | rfl | rfl | rfl | rfl | rfl | rfl <;> rfl) HS361 (Nat.le_of_ble_eq_true rfl) kr ?_)
             intro W362 HS363
             refine seqL1 kr ?_
             refine nl (hK360 _ _ ?_)
             refine wp_ret ?_
             refine hret _ _ ?_
             have HS418 := HS363.cons_nil
             refine ends (v := Value.tuple #[.agg #[.int .i64 x181, .int .u64 0, .int .i64 vt209, .int .i64 vt216, .int .i64 vt223, .int .i64 x311, .int .i64 x312, .int .i64 x313, .int .i64 x314, .int .i64 x315, .int .i64 x316, .int .i64 x317, .int .i64 0, .slice none 0 0], .int .i64 0]) (results2 (q1 := .cell 2 77) (q2 := .tmp 3) kr (resN (n := 14) (cs := [.int .i64 x181, .int .u64 0, .int .i64 vt209, .int .i64 vt216, .int .i64 vt223, .int .i64 x311, .int .i64 x312, .int .i64 x313, .int .i64 x314, .int .i64 x315, .int .i64 x316, .int .i64 x317, .int .i64 0, .slice none 0 0]) (kv (.pointer (some ⟨b14, 0, none⟩))) Tryz.underlying77 rfl kr rfl (HS418.u1.cells 0 14 _ rfl)) (resT (kv (.int .i64 0)))) kr ?_
             have HS420 := HS418.u6
             have HS421 := HS420.u6
             have HS422 := HS421.u6
             have HS423 := HS422.u6
             have HS424 := HS423.u6
             have HS425 := HS424.u6
             have HS426 := HS425.drop
             have HS427 := HS426.drop
             have HS428 := HS427.drop
             have HS429 := HS428.drop
             have HS430 := HS429.drop
             have HS431 := HS430.drop
             injection h with h
             injection h with h0_ h
             subst h0_ h
             exact ⟨f346, none, 0, [], rfl, (L25.trans (L42.trans (L77.trans (L177.trans (L213.trans (L220.trans (L227.trans (L307.trans L347)))))))), HS431, (Own.nil _)⟩
        clear h; have h := hv319; clear hv319
        have hq_ := ite_some h; clear h; rcases hq_ with ⟨c242, h⟩ | ⟨c242, h⟩
        · have c242 : x181 = 3 := c242
          refine wpRwI 64 (x := (x181 == 3)) (v := true) kr (beq_iff_eq.mpr c242) ?_
          refine condT kr ?_
          refine wp_seq_k fun K243 hK244 => rl ?_
          have HS245 := HS236.u1
          have hq_ := bind_some h; clear h; obtain ⟨⟨vt246, vt247⟩, hc248, h⟩ := hq_
          refine seqL1 kr ?_
          refine seqK rfl (does_call (f := 58) (args := #[.pointer (some ⟨b203, 0, none⟩), .string ⟨#[80, 76, 65, 84, 69, 45, 65]⟩, .string ⟨#[]⟩]) kr (expose_numbers_get.calls k b203 A2 c3 A5 c6 (⟨vf1, vt224⟩ : S_numbers) (⟨#[80, 76, 65, 84, 69, 45, 65]⟩ : ByteArray) (⟨#[]⟩ : ByteArray) HS245 (HR4.mono (L25.trans (L42.trans (L77.trans (L177.trans (L213.trans (L220.trans L227))))))) (HR7.mono (L25.trans (L42.trans (L77.trans (L177.trans (L213.trans (L220.trans L227))))))) (HT.mono (L25.trans (L42.trans (L77.trans (L177.trans (L213.trans (L220.trans L227))))))) vt246 vt247 hc248) ?_)
          rintro _ W251 ⟨f249, rfl, L250, HS252⟩
          refine ⟨_, rfl, ?_⟩
          have hq_ := bind_some h; clear h; obtain ⟨⟨vt253, vt254⟩, hc255, h⟩ := hq_
          refine seqL1 kr ?_
          refine seqK rfl (does_call (f := 58) (args := #[.pointer (some ⟨b203, 0, none⟩), .string ⟨#[80, 76, 65, 84, 69, 45, 66]⟩, .string ⟨#[]⟩]) kr (expose_numbers_get.calls k b203 A2 c3 A5 c6 (⟨vf1, vt247⟩ : S_numbers) (⟨#[80, 76, 65, 84, 69, 45, 66]⟩ : ByteArray) (⟨#[]⟩ : ByteArray) HS252 (HR4.mono (L25.trans (L42.trans (L77.trans (L177.trans (L213.trans (L220.trans (L227.trans L250)))))))) (HR7.mono (L25.trans (L42.trans (L77.trans (L177.trans (L213.trans (L220.trans (L227.trans L250)))))))) (HT.mono (L25.trans (L42.trans (L77.trans (L177.trans (L213.trans (L220.trans (L227.trans L250)))))))) vt253 vt254 hc255) ?_)
          rintro _ W258 ⟨f256, rfl, L257, HS259⟩
          refine ⟨_, rfl, ?_⟩
          have hq_ := bind_some h; clear h; obtain ⟨⟨vt260, vt261⟩, hc262, h⟩ := hq_
          refine seqL1 kr ?_
          refine seqK rfl (does_call (f := 58) (args := #[.pointer (some ⟨b203, 0, none⟩), .string ⟨#[80, 76, 65, 84, 69, 45, 67]⟩, .string ⟨#[]⟩]) kr (expose_numbers_get.calls k b203 A2 c3 A5 c6 (⟨vf1, vt254⟩ : S_numbers) (⟨#[80, 76, 65, 84, 69, 45, 67]⟩ : ByteArray) (⟨#[]⟩ : ByteArray) HS259 (HR4.mono (L25.trans (L42.trans (L77.trans (L177.trans (L213.trans (L220.trans (L227.trans (L250.trans L257))))))))) (HR7.mono (L25.trans (L42.trans (L77.trans (L177.trans (L213.trans (L220.trans (L227.trans (L250.trans L257))))))))) (HT.mono (L25.trans (L42.trans (L77.trans (L177.trans (L213.trans (L220.trans (L227.trans (L250.trans L257))))))))) vt260 vt261 hc262) ?_)
          rintro _ W265 ⟨f263, rfl, L264, HS266⟩
          refine ⟨_, rfl, ?_⟩
          have hq_ := bind_some h; clear h; obtain ⟨⟨vt267, vt268⟩, hc269, h⟩ := hq_
          refine seqL1 kr ?_
          refine seqK rfl (does_call (f := 58) (args := #[.pointer (some ⟨b203, 0, none⟩), .string ⟨#[80, 76, 65, 84, 69, 45, 68]⟩, .string ⟨#[]⟩]) kr (expose_numbers_get.calls k b203 A2 c3 A5 c6 (⟨vf1, vt261⟩ : S_numbers) (⟨#[80, 76, 65, 84, 69, 45, 68]⟩ : ByteArray) (⟨#[]⟩ : ByteArray) HS266 (HR4.mono (L25.trans (L42.trans (L77.trans (L177.trans (L213.trans (L220.trans (L227.trans (L250.trans (L257.trans L264)))))))))) (HR7.mono (L25.trans (L42.trans (L77.trans (L177.trans (L213.trans (L220.trans (L227.trans (L250.trans (L257.trans L264)))))))))) (HT.mono (L25.trans (L42.trans (L77.trans (L177.trans (L213.trans (L220.trans (L227.trans (L250.trans (L257.trans L264)))))))))) vt267 vt268 hc269) ?_)
          rintro _ W272 ⟨f270, rfl, L271, HS273⟩
          refine ⟨_, rfl, ?_⟩
          have HS274 := HS273.u1
          refine seqL2 kr ?_
          refine seqK rfl (does_store (n := 4) (vs := [.int .i64 vt246, .int .i64 vt253, .int .i64 vt260, .int .i64 vt267]) (cs' := #[.int .i64 x181, .int .u64 0, .int .i64 vt209, .int .i64 vt216, .int .i64 vt223, .int .i64 vt246, .int .i64 vt253, .int .i64 vt260, .int .i64 vt267, .int .i64 0, .int .i64 0, .int .i64 0, .int .i64 0, .slice none 0 0]) rfl kr (kv (.pointer (some ⟨b64, 5, none⟩))) (kv (.agg #[.int .i64 vt246, .int .i64 vt253, .int .i64 vt260, .int .i64 vt267])) rfl rfl (by intro u_ hu_; simp only [List.mem_cons, List.not_mem_nil, or_false] at hu_; rcases hu_ with rfl | rfl | rfl | rfl <;> rfl) HS274 (Nat.le_of_ble_eq_true rfl) kr ?_)
          intro W275 HS276
          refine nl (hK244 _ _ ?_)
          refine rl ?_
          have HS277 := HS276.u1
          have hq_ := bind_some h; clear h; obtain ⟨⟨vt278, vt279⟩, hc280, h⟩ := hq_
          refine seqL1 kr ?_
          refine seqK rfl (does_call (f := 58) (args := #[.pointer (some ⟨b203, 0, none⟩), .string ⟨#[83, 69, 69, 73, 78, 71]⟩, .string ⟨#[99, 101, 108, 108]⟩]) kr (expose_numbers_get.calls k b203 A2 c3 A5 c6 (⟨vf1, vt268⟩ : S_numbers) (⟨#[83, 69, 69, 73, 78, 71]⟩ : ByteArray) (⟨#[99, 101, 108, 108]⟩ : ByteArray) HS277 (HR4.mono (L25.trans (L42.trans (L77.trans (L177.trans (L213.trans (L220.trans (L227.trans (L250.trans (L257.trans (L264.trans L271))))))))))) (HR7.mono (L25.trans (L42.trans (L77.trans (L177.trans (L213.trans (L220.trans (L227.trans (L250.trans (L257.trans (L264.trans L271))))))))))) (HT.mono (L25.trans (L42.trans (L77.trans (L177.trans (L213.trans (L220.trans (L227.trans (L250.trans (L257.trans (L264.trans L271))))))))))) vt278 vt279 hc280) ?_)
          rintro _ W283 ⟨f281, rfl, L282, HS284⟩
          refine ⟨_, rfl, ?_⟩
          have hq_ := bind_some h; clear h; obtain ⟨⟨vt285, vt286⟩, hc287, h⟩ := hq_
          refine seqL1 kr ?_
          refine seqK rfl (does_call (f := 58) (args := #[.pointer (some ⟨b203, 0, none⟩), .string ⟨#[68, 82, 73, 70, 84, 45, 88]⟩, .string ⟨#[115, 117, 98]⟩]) kr (expose_numbers_get.calls k b203 A2 c3 A5 c6 (⟨vf1, vt279⟩ : S_numbers) (⟨#[68, 82, 73, 70, 84, 45, 88]⟩ : ByteArray) (⟨#[115, 117, 98]⟩ : ByteArray) HS284 (HR4.mono (L25.trans (L42.trans (L77.trans (L177.trans (L213.trans (L220.trans (L227.trans (L250.trans (L257.trans (L264.trans (L271.trans L282)))))))))))) (HR7.mono (L25.trans (L42.trans (L77.trans (L177.trans (L213.trans (L220.trans (L227.trans (L250.trans (L257.trans (L264.trans (L271.trans L282)))))))))))) (HT.mono (L25.trans (L42.trans (L77.trans (L177.trans (L213.trans (L220.trans (L227.trans (L250.trans (L257.trans (L264.trans (L271.trans L282)))))))))))) vt285 vt286 hc287) ?_)
          rintro _ W290 ⟨f288, rfl, L289, HS291⟩
          refine ⟨_, rfl, ?_⟩
          have hq_ := bind_some h; clear h; obtain ⟨⟨vt292, vt293⟩, hc294, h⟩ := hq_
          refine seqL1 kr ?_
          refine seqK rfl (does_call (f := 58) (args := #[.pointer (some ⟨b203, 0, none⟩), .string ⟨#[68, 82, 73, 70, 84, 45, 89]⟩, .string ⟨#[115, 117, 98]⟩]) kr (expose_numbers_get.calls k b203 A2 c3 A5 c6 (⟨vf1, vt286⟩ : S_numbers) (⟨#[68, 82, 73, 70, 84, 45, 89]⟩ : ByteArray) (⟨#[115, 117, 98]⟩ : ByteArray) HS291 (HR4.mono (L25.trans (L42.trans (L77.trans (L177.trans (L213.trans (L220.trans (L227.trans (L250.trans (L257.trans (L264.trans (L271.trans (L282.trans L289))))))))))))) (HR7.mono (L25.trans (L42.trans (L77.trans (L177.trans (L213.trans (L220.trans (L227.trans (L250.trans (L257.trans (L264.trans (L271.trans (L282.trans L289))))))))))))) (HT.mono (L25.trans (L42.trans (L77.trans (L177.trans (L213.trans (L220.trans (L227.trans (L250.trans (L257.trans (L264.trans (L271.trans (L282.trans L289))))))))))))) vt292 vt293 hc294) ?_)
          rintro _ W297 ⟨f295, rfl, L296, HS298⟩
          refine ⟨_, rfl, ?_⟩
          have HS299 := HS298.u1
          refine seqL1 kr ?_
          refine seqK rfl (does_store (n := 1) (vs := [.int .i64 vt278]) (cs' := #[.int .i64 x181, .int .u64 0, .int .i64 vt209, .int .i64 vt216, .int .i64 vt223, .int .i64 vt246, .int .i64 vt253, .int .i64 vt260, .int .i64 vt267, .int .i64 vt278, .int .i64 0, .int .i64 0, .int .i64 0, .slice none 0 0]) rfl kr (kv (.pointer (some ⟨b64, 9, none⟩))) (kv (.int .i64 vt278)) rfl rfl (by intro u_ hu_; simp only [List.mem_cons, List.not_mem_nil, or_false] at hu_; subst hu_; rfl) HS299 (Nat.le_of_ble_eq_true rfl) kr ?_)
          intro W300 HS301
          refine seqL1 kr ?_
          refine seqK rfl (does_store (n := 1) (vs := [.int .i64 vt285]) (cs' := #[.int .i64 x181, .int .u64 0, .int .i64 vt209, .int .i64 vt216, .int .i64 vt223, .int .i64 vt246, .int .i64 vt253, .int .i64 vt260, .int .i64 vt267, .int .i64 vt278, .int .i64 vt285, .int .i64 0, .int .i64 0, .slice none 0 0]) rfl kr (kv (.pointer (some ⟨b64, 10, none⟩))) (kv (.int .i64 vt285)) rfl rfl (by intro u_ hu_; simp only [List.mem_cons, List.not_mem_nil, or_false] at hu_; subst hu_; rfl) HS301 (Nat.le_of_ble_eq_true rfl) kr ?_)
          intro W302 HS303
          refine seqL1 kr ?_
          refine seqK rfl (does_store (n := 1) (vs := [.int .i64 vt292]) (cs' := #[.int .i64 x181, .int .u64 0, .int .i64 vt209, .int .i64 vt216, .int .i64 vt223, .int .i64 vt246, .int .i64 vt253, .int .i64 vt260, .int .i64 vt267, .int .i64 vt278, .int .i64 vt285, .int .i64 vt292, .int .i64 0, .slice none 0 0]) rfl kr (kv (.pointer (some ⟨b64, 11, none⟩))) (kv (.int .i64 vt292)) rfl rfl (by intro u_ hu_; simp only [List.mem_cons, List.not_mem_nil, or_false] at hu_; subst hu_; rfl) HS303 (Nat.le_of_ble_eq_true rfl) kr ?_)
          intro W304 HS305
          refine nl ?_
          refine fnRwI (F := K237) 64 (x := true) (v := (x181 == 3)) kr (Eq.symm (beq_iff_eq.mpr c242)) ?_
          exact J320 f295 vt246 vt253 vt260 vt267 vt278 vt285 vt292 vt293 (fun i_ => [Value.pointer (some ⟨b203, 0, none⟩), Value.int .i64 vt246, Value.pointer (some ⟨b203, 0, none⟩), Value.int .i64 vt253, Value.pointer (some ⟨b203, 0, none⟩), Value.int .i64 vt260, Value.pointer (some ⟨b203, 0, none⟩), Value.int .i64 vt267, Value.agg #[.int .i64 vt246, .int .i64 vt253, .int .i64 vt260, .int .i64 vt267], Value.pointer (some ⟨b64, 5, none⟩), Value.pointer (some ⟨b203, 0, none⟩), Value.int .i64 vt278, Value.pointer (some ⟨b203, 0, none⟩), Value.int .i64 vt285, Value.pointer (some ⟨b203, 0, none⟩), Value.int .i64 vt292, Value.pointer (some ⟨b64, 9, none⟩), Value.pointer (some ⟨b64, 10, none⟩), Value.pointer (some ⟨b64, 11, none⟩)].getD i_ undef) W304 _ (L250.trans (L257.trans (L264.trans (L271.trans (L282.trans (L289.trans L296)))))) h HS305 kr
        · have c242 : ¬ (x181 = 3) := c242
          refine wpRwI 64 (x := (x181 == 3)) (v := false) kr (beq_eq_false_iff_ne.mpr c242) ?_
          refine condF kr ?_
          refine wp_skip ?_
          refine fnRwI (F := K237) 64 (x := false) (v := (x181 == 3)) kr (Eq.symm (beq_eq_false_iff_ne.mpr c242)) ?_
          exact J320 f226 0 0 0 0 0 0 0 vt224 (fun i_ => [undef, undef, undef, undef, undef, undef, undef, undef, undef, undef, undef, undef, undef, undef, undef, undef, undef, undef, undef].getD i_ undef) W235 _ (FM.le.refl _) h HS236 kr
     clear h; have h := hv182; clear hv182
     refine loopK (fun n_ a_ w_ => ∃ (f137 : FM) (x142 : Int) (x143 : Int) (j141 : Nat → Value), FM.le f76 f137 ∧ St t w_ f137 (s82 :: [(b64, .cells #[.int .i64 x143, .int .u64 0, .int .i64 0, .int .i64 0, .int .i64 0, .int .i64 0, .int .i64 0, .int .i64 0, .int .i64 0, .int .i64 0, .int .i64 0, .int .i64 0, .int .i64 0, .slice none 0 0] 77 (0, 0))] :: [(b45, .cells #[.string vt38.Key, .string vt38.Value, .string vt38.Unit, .string vt38.Note] 98 (0, 0))] :: [(b14, .cells #[.int .i64 0, .int .u64 0, .int .i64 0, .int .i64 0, .int .i64 0, .int .i64 0, .int .i64 0, .int .i64 0, .int .i64 0, .int .i64 0, .int .i64 0, .int .i64 0, .int .i64 0, .slice none 0 0] 77 (0, 0))] :: [(b10, .cells #[.int .i64 vf1.W, .int .i64 vf1.H, .slice A2 vf1.Cards.length c3, .slice A5 vf1.Counts.length c6] 54 (0, 0))] :: H) ∧ expose_Shot.l0 k vt74 vt38 n_ x142 x143 = some o133 ∧ a_ = ⟨#[(ag_Frame vf1 A2 c3 A5 c6), pV b10 0, pV b14 0, iV 0, iV vt22, pV b45 0, .bool vt39, pV b64 0, (j141 0), (j141 1), uV, uV, (ag_Frame vf1 A2 c3 A5 c6), iV vt22, iV vt22, fV, uV, uV, .tuple #[(ag_Card vt38), .bool vt39], (ag_Frame vf1 A2 c3 A5 c6), .tuple #[(ag_Card vt38), .bool vt39], (ag_Card vt38), .bool vt39, .bool vt39, fV, uV, .agg #[iV (-1), .int .u64 0, iV 0, iV 0, iV 0, iV 0, iV 0, iV 0, iV 0, iV 0, iV 0, iV 0, iV 0, .slice none 0 0], .slice A80 vt74.length c81, iV (vt74.length : Int), iV x142, (j141 2), (j141 3), (j141 4), (j141 5), (j141 6), (j141 7), (j141 8), (j141 9), (j141 10), (j141 11), (j141 12), (j141 13), (j141 14), (j141 15), (j141 16), (j141 17), uV, uV, uV, uV, uV, uV, uV, uV, uV, uV, uV, uV, uV, uV, uV, uV, uV, uV, uV, uV, uV, uV, uV, uV, uV, uV, uV, uV, uV, uV, uV, uV, uV, uV, uV, uV, uV, uV, uV, uV, uV, uV, uV, uV, uV, uV, uV, uV, uV, uV, uV, uV, uV, uV, uV], []⟩) k ⟨f76, 0, (-1), (fun i_ => [undef, undef, undef, undef, undef, undef, undef, undef, undef, undef, undef, undef, undef, undef, undef, undef, undef, undef].getD i_ undef), (FM.le.refl _), HS79, h, kr⟩ ?_
     clear h
     rintro n136 _ W139 ⟨f137, x142, x143, j141, L138, HS140, h, rfl⟩ K134 hK135
     obtain _ | n136 := n136
     · exact nomatch h
     simp only [expose_Shot.l0] at h
     refine wp_seq_k fun K144 hK145 => rl ?_
     refine seqL1 kr ?_
     refine nl (hK145 _ _ ?_)
     refine wp_seq_k (fun K146 hK147 => ?_)
     have hq_ := ite_some h; clear h; rcases hq_ with ⟨c149, h⟩ | ⟨c149, h⟩
     · have c149 : x142 < (vt74.length : Int) := c149
       refine wpRwI 30 (x := (decide (x142 < (vt74.length : Int)))) (v := true) kr (decide_eq_true c149) ?_
       refine condT kr ?_
       refine wp_skip ?_
       refine hK147 _ _ ?_
       refine wp_seq_k (fun K150 hK151 => ?_)
       refine blockK (fun B152 hx153 hn154 hr155 ho156 hp157 => ?_)
       refine wp_seq_k fun K159 hK160 => rl ?_
       have hq_ := guard_some h; clear h; obtain ⟨c161, h⟩ := hq_
       have c161 : 0 ≤ x142 := c161
       obtain ⟨b165, of166, cs162, hA167, hr163, hc164⟩ := (HO83.mono L138).at (i := x142) c161 c149
       obtain rfl := hr163
       refine seqL1 kr ?_
       refine seqK rfl (does_run (run_indexE hA167 (sz := 1) rfl Tryz.underlying101 kr (kv (.slice A80 vt74.length c81)) (kv (.int .i64 x142)) c161 c149 W139) ?_)
       refine seqK rfl (does_run (run_load rfl Tryz.underlying9 rfl (kv (.pointer (some ⟨b165, of166 + (x142 : Int).toNat * 1, none⟩))) ((hc164 HS140) 0 (by decide))) ?_)
       refine seqL2 kr ?_
       refine nl (hK160 _ _ ?_)
       refine wp_seq_k fun K168 hK169 => rl ?_
       refine seqL2 kr ?_
       refine seqK rfl (does_run (run_load rfl Tryz.underlying9 rfl (kv (.pointer (some ⟨b45, 1, none⟩))) (HS140.u2.cell 1)) ?_)
       refine seqL2 kr ?_
       have hq_ := ite_some h; clear h; rcases hq_ with ⟨c170, h⟩ | ⟨c170, h⟩
       · have c170 : ((rd vt74 x142).toList == vt38.Value.toList) = true := c170
         refine seqRwI 37 (x := ((rd vt74 x142).toList == vt38.Value.toList)) (v := true) kr c170 ?_
         refine seqRwI 38 (x := ((rd vt74 x142).toList == vt38.Value.toList)) (v := true) kr c170 ?_
         refine seqL1 kr ?_
         refine seqG kr (does_run (run_load rfl Tryz.underlying9 rfl (kv (.pointer (some ⟨b45, 2, none⟩))) (HS140.u2.cell 2)) ?_)
         refine seqL2 kr ?_
         refine nl (hK169 _ _ ?_)
         have hq_ := ite_some h; clear h; rcases hq_ with ⟨c172, h⟩ | ⟨c172, h⟩
         · have c172 : (vt38.Unit.toList == (⟨#[]⟩ : ByteArray).toList) = true := c172
           refine wpRwI 41 (x := (vt38.Unit.toList == (⟨#[]⟩ : ByteArray).toList)) (v := true) kr c172 ?_
           refine wpRwI 42 (x := (vt38.Unit.toList == (⟨#[]⟩ : ByteArray).toList)) (v := true) kr c172 ?_
           refine condT kr ?_
           refine rl ?_
           have HS173 := HS140.u1
           refine seqL2 kr ?_
           refine seqK rfl (does_store (n := 1) (vs := [.int .i64 x142]) (cs' := #[.int .i64 x142, .int .u64 0, .int .i64 0, .int .i64 0, .int .i64 0, .int .i64 0, .int .i64 0, .int .i64 0, .int .i64 0, .int .i64 0, .int .i64 0, .int .i64 0, .int .i64 0, .slice none 0 0]) rfl kr (kv (.pointer (some ⟨b64, 0, none⟩))) (kv (.int .i64 x142)) rfl rfl (by intro u_ hu_; simp only [List.mem_cons, List.not_mem_nil, or_false] at hu_; subst hu_; rfl) HS173 (Nat.le_of_ble_eq_true rfl) kr ?_)
           intro W174 HS175
           refine nl ?_
           refine hn154 _ _ ?_
           refine hK151 _ _ ?_
           refine rl ?_
           refine seqL2 kr ?_
           refine nl ?_
           refine hK135 n136 _ _ (Nat.lt_succ_self _) ?_
           have HS185 := HS175.u4
           have HS186 := HS185.u4
           have HS187 := HS186.u4
           have HS188 := HS187.u3
           have HS189 := HS188.u4
           exact ⟨f137, (w64 (x142 + 1)), x142, (fun i_ => [Value.int .i64 x142, Value.string (rd vt74 x142), Value.bool true, Value.int .i64 x142, Value.pointer (some ⟨b165, of166 + (x142 : Int).toNat * 1, none⟩), Value.string (rd vt74 x142), Value.string (rd vt74 x142), Value.pointer (some ⟨b45, 1, none⟩), Value.string vt38.Value, Value.bool true, Value.bool true, Value.pointer (some ⟨b45, 2, none⟩), Value.string vt38.Unit, Value.bool true, Value.bool true, Value.int .i64 x142, Value.pointer (some ⟨b64, 0, none⟩), Value.int .i64 (w64 (x142 + 1))].getD i_ undef), L138, HS189, h, kr⟩
         · have c172 : ¬ ((vt38.Unit.toList == (⟨#[]⟩ : ByteArray).toList) = true) := c172
           refine wpRwI 41 (x := (vt38.Unit.toList == (⟨#[]⟩ : ByteArray).toList)) (v := false) kr (Bool.eq_false_iff.mpr c172) ?_
           refine wpRwI 42 (x := (vt38.Unit.toList == (⟨#[]⟩ : ByteArray).toList)) (v := false) kr (Bool.eq_false_iff.mpr c172) ?_
           refine condF kr ?_
           refine wp_skip ?_
           refine hn154 _ _ ?_
           refine hK151 _ _ ?_
           refine rl ?_
           refine seqL2 kr ?_
           refine nl ?_
           refine hK135 n136 _ _ (Nat.lt_succ_self _) ?_
           exact ⟨f137, (w64 (x142 + 1)), x143, (fun i_ => [Value.int .i64 x142, Value.string (rd vt74 x142), Value.bool true, Value.int .i64 x142, Value.pointer (some ⟨b165, of166 + (x142 : Int).toNat * 1, none⟩), Value.string (rd vt74 x142), Value.string (rd vt74 x142), Value.pointer (some ⟨b45, 1, none⟩), Value.string vt38.Value, Value.bool true, Value.bool true, Value.pointer (some ⟨b45, 2, none⟩), Value.string vt38.Unit, Value.bool false, Value.bool false, (j141 15), (j141 16), Value.int .i64 (w64 (x142 + 1))].getD i_ undef), L138, HS140, h, kr⟩
       · have c170 : ¬ (((rd vt74 x142).toList == vt38.Value.toList) = true) := c170
         refine seqRwI 37 (x := ((rd vt74 x142).toList == vt38.Value.toList)) (v := false) kr (Bool.eq_false_iff.mpr c170) ?_
         refine seqRwI 38 (x := ((rd vt74 x142).toList == vt38.Value.toList)) (v := false) kr (Bool.eq_false_iff.mpr c170) ?_
         refine seqL4 kr ?_
         refine nl (hK169 _ _ ?_)
         refine condF kr ?_
         refine wp_skip ?_
         refine hn154 _ _ ?_
         refine hK151 _ _ ?_
         refine rl ?_
         refine seqL2 kr ?_
         refine nl ?_
         refine hK135 n136 _ _ (Nat.lt_succ_self _) ?_
         exact ⟨f137, (w64 (x142 + 1)), x143, (fun i_ => [Value.int .i64 x142, Value.string (rd vt74 x142), Value.bool true, Value.int .i64 x142, Value.pointer (some ⟨b165, of166 + (x142 : Int).toNat * 1, none⟩), Value.string (rd vt74 x142), Value.string (rd vt74 x142), Value.pointer (some ⟨b45, 1, none⟩), Value.string vt38.Value, Value.bool false, Value.bool false, undef, undef, undef, Value.bool false, (j141 15), (j141 16), Value.int .i64 (w64 (x142 + 1))].getD i_ undef), L138, HS140, h, kr⟩
     · have c149 : ¬ (x142 < (vt74.length : Int)) := c149
       refine wpRwI 30 (x := (decide (x142 < (vt74.length : Int)))) (v := false) kr (decide_eq_false c149) ?_
       refine condF kr ?_
       refine wp_exit ?_
       refine hx86 _ _ ?_
       exact J183 f137 x143 (fun i_ => [(j141 0), (j141 1), Value.int .i64 x142, Value.bool false, (j141 3), (j141 4), (j141 5), (j141 6), (j141 7), (j141 8), (j141 9), (j141 10), (j141 11), (j141 12), (j141 13), (j141 14), (j141 15), (j141 16), (j141 17)].getD i_ undef) W139 _ L138 h HS140 kr

set_option maxRecDepth 100000 in
set_option maxHeartbeats 4000000 in
theorem master_frames.calls (k : Nat) (A3 : Option Addr) (c4 : Nat) (vk1 : S_Camera) (l2 : List S_Frame) (kind6 : Int) (vf7 : Int) {t w : World} {f : FM} {H : List Seg} (HS : St t w f (H)) (HR5 : SlR ty_Frame f A3 c4 l2) (HA : TabF Tryz.prog "strings.asciiSpace" .u8 Go.Lib.asciiSpaceTab f) (HT : TabF Tryz.prog "internal/strconv.uint64pow10" .u64 Go.Lib.pow10Tab f) (rr1 : List S_Shot) (rr2 : Int) (h : master_frames k vk1 l2 kind6 vf7 = some (rr1, rr2)) :
    Calls Tryz.prog 36 #[.agg #[.int .i64 vk1.W, .int .i64 vk1.H, .int .i64 vk1.Full, .int .i64 vk1.Gain, .int .i64 vk1.Noise], .slice A3 l2.length c4, .int .i64 kind6, .int .i64 vf7] w (fun e w' => ∃ (g : FM) (A285 : Option Addr) (c286 : Nat) (s287 : Seg), e = .returned (Value.tuple #[.slice A285 rr1.length c286, .int .i64 rr2]) ∧ FM.le f g ∧ St t w' g (s287 :: H) ∧ Own ty_Shot 77 g A285 c286 s287 rr1) := by
 unfold master_frames at h
 refine enter Tryz.func36 rfl (tm := #[(ag_Camera vk1), .slice A3 l2.length c4, iV kind6, iV vf7, uV, uV, uV, uV, uV, uV, uV, uV, uV, uV, uV, uV, uV, uV, uV, uV, uV, uV, uV, uV, uV, uV, uV, uV, uV, uV, uV, uV, uV, uV, uV, uV, uV, uV, uV, uV, uV, uV, uV, uV, uV, uV, uV, uV, uV, uV, uV, uV, uV, uV, uV, uV, uV, uV, uV, uV, uV, uV, uV, uV, uV, uV, uV, uV, uV, uV, uV, uV, uV, uV, uV, uV, uV, uV]) kr ?_
 intro B hret hnor hnp
 refine wp_seq_k fun K8 hK9 => rl ?_
 refine seqK rfl (does_box (cs := #[.int .i64 vk1.W, .int .i64 vk1.H, .int .i64 vk1.Full, .int .i64 vk1.Gain, .int .i64 vk1.Noise]) rfl (kv (.agg #[.int .i64 vk1.W, .int .i64 vk1.H, .int .i64 vk1.Full, .int .i64 vk1.Gain, .int .i64 vk1.Noise])) rfl HS ?_)
 intro b10 W11 HS12
 refine seqL2 kr ?_
 refine nl (hK9 _ _ ?_)
 refine wp_seq_k (fun K14 hK15 => ?_)
 refine wp_seq_k fun K16 hK17 => rl ?_
 refine seqK rfl (does_run (run_loadN (n := 5) rfl Tryz.underlying50 rfl kr (kv (.pointer (some ⟨b10, 0, none⟩))) (cs := [.int .i64 vk1.W, .int .i64 vk1.H, .int .i64 vk1.Full, .int .i64 vk1.Gain, .int .i64 vk1.Noise]) rfl (HS12.cells 0 5 _ rfl)) ?_)
 have hq_ := bind_some h; clear h; obtain ⟨vt18, hc19, h⟩ := hq_
 refine seqK rfl (does_call (f := 28) (args := #[.agg #[.int .i64 vk1.W, .int .i64 vk1.H, .int .i64 vk1.Full, .int .i64 vk1.Gain, .int .i64 vk1.Noise]]) kr (master_CheckCamera.calls k vk1 HS12 vt18 hc19) ?_)
 rintro _ W22 ⟨f20, rfl, L21, HS23⟩
 refine ⟨_, rfl, ?_⟩
 refine seqL1 kr ?_
 refine nl (hK17 _ _ ?_)
 refine wp_seq_k fun K24 hK25 => rl ?_
 refine seqL2 kr ?_
 refine nl (hK25 _ _ ?_)
 have hq_ := ite_some h; clear h; rcases hq_ with ⟨c27, h⟩ | ⟨c27, h⟩
 · have c27 : vt18 ≠ 0 := c27
   refine wpRwI 19 (x := (vt18 != 0)) (v := true) kr (bne_iff_ne.mpr c27) ?_
   refine condT kr ?_
   refine wp_seq_k fun K28 hK29 => rl ?_
   refine seqL3 kr ?_
   refine nl (hK29 _ _ ?_)
   refine wp_ret ?_
   refine hret _ _ ?_
   have HS215 := HS23.cons_nil
   refine ends_still (v := Value.tuple #[.slice none 0 0, .int .i64 vt18]) kr kr ?_
   have HS217 := HS215.u1
   have HS218 := HS217.drop
   injection h with h
   injection h with h0_ h
   subst h0_ h
   exact ⟨f20, none, 0, [], rfl, L21, HS218, (Own.nil _)⟩
 · have c27 : ¬ (vt18 ≠ 0) := c27
   refine wpRwI 19 (x := (vt18 != 0)) (v := false) kr (bne_eq_false_iff_eq.mpr (Decidable.of_not_not c27)) ?_
   refine condF kr ?_
   refine wp_skip ?_
   refine hK15 _ _ ?_
   refine wp_seq_k (fun K30 hK31 => ?_)
   refine blockK (fun B32 hx33 hn34 hr35 ho36 hp37 => ?_)
   refine wp_seq_k fun K39 hK40 => rl ?_
   refine seqL3 kr ?_
   refine nl (hK40 _ _ ?_)
   have hq_ := ite_some h; clear h; rcases hq_ with ⟨c42, h⟩ | ⟨c42, h⟩
   · have c42 : vf7 < 0 := c42
     refine wpRwI 21 (x := (decide (vf7 < 0))) (v := true) kr (decide_eq_true c42) ?_
     refine wpRwI 23 (x := (decide (vf7 < 0))) (v := true) kr (decide_eq_true c42) ?_
     refine condT kr ?_
     refine wp_seq_k fun K43 hK44 => rl ?_
     refine seqL2 kr ?_
     refine nl (hK44 _ _ ?_)
     refine wp_ret ?_
     refine hr35 _ _ ?_
     refine hret _ _ ?_
     have HS219 := HS23.cons_nil
     refine ends_still (v := Value.tuple #[.slice none 0 0, .int .i64 1]) kr kr ?_
     have HS221 := HS219.u1
     have HS222 := HS221.drop
     injection h with h
     injection h with h0_ h
     subst h0_ h
     exact ⟨f20, none, 0, [], rfl, L21, HS222, (Own.nil _)⟩
   · have c42 : ¬ (vf7 < 0) := c42
     refine wpRwI 21 (x := (decide (vf7 < 0))) (v := false) kr (decide_eq_false c42) ?_
     refine wpRwI 23 (x := (decide (vf7 < 0))) (v := false) kr (decide_eq_false c42) ?_
     refine condF kr ?_
     refine wp_seq_k fun K45 hK46 => rl ?_
     refine seqL4 kr ?_
     refine nl (hK46 _ _ ?_)
     have hq_ := ite_some h; clear h; rcases hq_ with ⟨c48, h⟩ | ⟨c48, h⟩
     · have c48 : (l2.length : Int) > 16 := c48
       refine wpRwI 24 (x := (decide ((l2.length : Int) > 16))) (v := true) kr (decide_eq_true c48) ?_
       refine wpRwI 27 (x := (decide ((l2.length : Int) > 16))) (v := true) kr (decide_eq_true c48) ?_
       refine condT kr ?_
       refine wp_seq_k fun K49 hK50 => rl ?_
       refine seqL2 kr ?_
       refine nl (hK50 _ _ ?_)
       refine wp_ret ?_
       refine hr35 _ _ ?_
       refine hret _ _ ?_
       have HS223 := HS23.cons_nil
       refine ends_still (v := Value.tuple #[.slice none 0 0, .int .i64 2]) kr kr ?_
       have HS225 := HS223.u1
       have HS226 := HS225.drop
       injection h with h
       injection h with h0_ h
       subst h0_ h
       exact ⟨f20, none, 0, [], rfl, L21, HS226, (Own.nil _)⟩
     · have c48 : ¬ ((l2.length : Int) > 16) := c48
       refine wpRwI 24 (x := (decide ((l2.length : Int) > 16))) (v := false) kr (decide_eq_false c48) ?_
       refine wpRwI 27 (x := (decide ((l2.length : Int) > 16))) (v := false) kr (decide_eq_false c48) ?_
       refine condF kr ?_
       refine wp_seq_k fun K51 hK52 => rl ?_
       refine seqL3 kr ?_
       have hq_ := ite_some h; clear h; rcases hq_ with ⟨c53, h⟩ | ⟨c53, h⟩
       · have c53 : vf7 > 16 := c53
         refine seqRwI 30 (x := (decide (vf7 > 16))) (v := true) kr (decide_eq_true c53) ?_
         refine seqRwI 31 (x := (decide (vf7 > 16))) (v := true) kr (decide_eq_true c53) ?_
         refine seqL8 kr ?_
         refine nl (hK52 _ _ ?_)
         refine condT kr ?_
         refine wp_seq_k fun K54 hK55 => rl ?_
         refine seqL2 kr ?_
         refine nl (hK55 _ _ ?_)
         refine wp_ret ?_
         refine hr35 _ _ ?_
         refine hret _ _ ?_
         have HS227 := HS23.cons_nil
         refine ends_still (v := Value.tuple #[.slice none 0 0, .int .i64 14]) kr kr ?_
         have HS229 := HS227.u1
         have HS230 := HS229.drop
         injection h with h
         injection h with h0_ h
         subst h0_ h
         exact ⟨f20, none, 0, [], rfl, L21, HS230, (Own.nil _)⟩
       · have c53 : ¬ (vf7 > 16) := c53
         refine seqRwI 30 (x := (decide (vf7 > 16))) (v := false) kr (decide_eq_false c53) ?_
         refine seqRwI 31 (x := (decide (vf7 > 16))) (v := false) kr (decide_eq_false c53) ?_
         refine seqL8 kr ?_
         refine nl (hK52 _ _ ?_)
         have hq_ := ite_some h; clear h; rcases hq_ with ⟨c57, h⟩ | ⟨c57, h⟩
         · have c57 : (l2.length : Int) < (w64 ((w64 (2 * vf7)) + 1)) := c57
           refine wpRwI 28 (x := (decide ((l2.length : Int) < (w64 ((w64 (2 * vf7)) + 1))))) (v := true) kr (decide_eq_true c57) ?_
           refine wpRwI 37 (x := (decide ((l2.length : Int) < (w64 ((w64 (2 * vf7)) + 1))))) (v := true) kr (decide_eq_true c57) ?_
           refine wpRwI 38 (x := (decide ((l2.length : Int) < (w64 ((w64 (2 * vf7)) + 1))))) (v := true) kr (decide_eq_true c57) ?_
           refine condT kr ?_
           refine wp_seq_k fun K58 hK59 => rl ?_
           refine seqL2 kr ?_
           refine nl (hK59 _ _ ?_)
           refine wp_ret ?_
           refine hr35 _ _ ?_
           refine hret _ _ ?_
           have HS231 := HS23.cons_nil
           refine ends_still (v := Value.tuple #[.slice none 0 0, .int .i64 14]) kr kr ?_
           have HS233 := HS231.u1
           have HS234 := HS233.drop
           injection h with h
           injection h with h0_ h
           subst h0_ h
           exact ⟨f20, none, 0, [], rfl, L21, HS234, (Own.nil _)⟩
         · have c57 : ¬ ((l2.length : Int) < (w64 ((w64 (2 * vf7)) + 1))) := c57
           refine wpRwI 28 (x := (decide ((l2.length : Int) < (w64 ((w64 (2 * vf7)) + 1))))) (v := false) kr (decide_eq_false c57) ?_
           refine wpRwI 37 (x := (decide ((l2.length : Int) < (w64 ((w64 (2 * vf7)) + 1))))) (v := false) kr (decide_eq_false c57) ?_
           refine wpRwI 38 (x := (decide ((l2.length : Int) < (w64 ((w64 (2 * vf7)) + 1))))) (v := false) kr (decide_eq_false c57) ?_
           refine condF kr ?_
           refine wp_skip ?_
           refine hn34 _ _ ?_
           refine hK31 _ _ ?_
           refine wp_seq_k fun K60 hK61 => rl ?_
           refine seqL1 kr ?_
           refine nl (hK61 _ _ ?_)
           refine wp_seq_k (fun K62 hK63 => ?_)
           refine wp_seq_k fun K64 hK65 => rl ?_
           refine seqL3 kr ?_
           refine nl (hK65 _ _ ?_)
           refine blockK (fun B66 hx67 hn68 hr69 ho70 hp71 => ?_)
           have hq_ := bind_some h; clear h; obtain ⟨o72, hv201, h⟩ := hq_
           have JR203 : ∀ z_, some (Sum.inl z_) = some o72 → some z_ = some (rr1, rr2) := by
            intro z_ e_; injection e_ with e_; subst e_; exact h
           have J202 : ∀ (f190 : FM) (A196 : Option Addr) (c197 : Nat) (s198 : Seg) (out195 : List S_Shot) (j194 : Nat → Value) (W192 : World) (a_ : Act), FM.le f20 f190 → some (Sum.inr out195) = some o72 → St t W192 f190 (s198 :: [(b10, .cells #[.int .i64 vk1.W, .int .i64 vk1.H, .int .i64 vk1.Full, .int .i64 vk1.Gain, .int .i64 vk1.Noise] 50 (0, 0))] :: H) → Own ty_Shot 77 f190 A196 c197 s198 out195 → a_ = ⟨#[(ag_Camera vk1), .slice A3 l2.length c4, iV kind6, iV vf7, pV b10 0, uV, uV, uV, (j194 0), (j194 1), iV vt18, .slice A196 out195.length c197, uV, (j194 2), (j194 3), (j194 4), (ag_Camera vk1), iV vt18, iV vt18, fV, uV, fV, iV vf7, fV, fV, .slice A3 l2.length c4, iV (l2.length : Int), fV, fV, iV vf7, fV, fV, .slice A3 l2.length c4, iV (l2.length : Int), iV vf7, iV (w64 (2 * vf7)), iV (w64 ((w64 (2 * vf7)) + 1)), fV, fV, .slice A3 l2.length c4, iV (l2.length : Int), (j194 5), (j194 6), (j194 7), (j194 8), (j194 9), (j194 10), (j194 11), (j194 12), (j194 13), (j194 14), (j194 15), (j194 16), (j194 17), (j194 18), (j194 19), (j194 20), (j194 21), (j194 22), (j194 23), (j194 24), (j194 25), (j194 26), (j194 27), (j194 28), (j194 29), (j194 30), (j194 31), (j194 32), (j194 33), (j194 34), (j194 35), (j194 36), (j194 37), (j194 38), (j194 39), (j194 40), uV], []⟩ → K62 a_ W192 := by
            intro f190 A196 c197 s198 out195 j194 W192 a_ L191 hj204 HS193 HO199 hfr_; subst hfr_
            injection hj204 with hj204; subst hj204; try dsimp only at h
            simp only [Sum.elim_inr] at h
            refine hK63 _ _ ?_
            refine wp_seq_k fun K213 hK214 => rl ?_
            refine seqL3 kr ?_
            refine nl (hK214 _ _ ?_)
            refine wp_ret ?_
            refine hret _ _ ?_
            refine ends_still (v := Value.tuple #[.slice A196 out195.length c197, .int .i64 0]) kr kr ?_
            have HS283 := HS193.u1
            have HS284 := HS283.drop
            injection h with h
            injection h with h0_ h
            subst h0_ h
            exact ⟨f190, A196, c197, s198, rfl, (L21.trans L191), HS284, HO199⟩
           clear h; have h := hv201; clear hv201
           have HS205 := HS23.cons_nil
           refine loopK (fun n_ a_ w_ => ∃ (f76 : FM) (A82 : Option Addr) (c83 : Nat) (s84 : Seg) (out81 : List S_Shot) (x87 : Int) (j80 : Nat → Value), FM.le f20 f76 ∧ St t w_ f76 (s84 :: [(b10, .cells #[.int .i64 vk1.W, .int .i64 vk1.H, .int .i64 vk1.Full, .int .i64 vk1.Gain, .int .i64 vk1.Noise] 50 (0, 0))] :: H) ∧ Own ty_Shot 77 f76 A82 c83 s84 out81 ∧ master_frames.l0 k l2 kind6 vk1 n_ out81 x87 = some o72 ∧ a_ = ⟨#[(ag_Camera vk1), .slice A3 l2.length c4, iV kind6, iV vf7, pV b10 0, uV, uV, uV, (j80 0), (j80 1), iV vt18, .slice A82 out81.length c83, uV, (j80 2), (j80 3), (j80 4), (ag_Camera vk1), iV vt18, iV vt18, fV, uV, fV, iV vf7, fV, fV, .slice A3 l2.length c4, iV (l2.length : Int), fV, fV, iV vf7, fV, fV, .slice A3 l2.length c4, iV (l2.length : Int), iV vf7, iV (w64 (2 * vf7)), iV (w64 ((w64 (2 * vf7)) + 1)), fV, fV, .slice A3 l2.length c4, iV (l2.length : Int), iV x87, (j80 5), (j80 6), (j80 7), (j80 8), (j80 9), (j80 10), (j80 11), (j80 12), (j80 13), (j80 14), (j80 15), (j80 16), (j80 17), (j80 18), (j80 19), (j80 20), (j80 21), (j80 22), (j80 23), (j80 24), (j80 25), (j80 26), (j80 27), (j80 28), (j80 29), (j80 30), (j80 31), (j80 32), (j80 33), (j80 34), (j80 35), (j80 36), (j80 37), (j80 38), (j80 39), uV], []⟩) k ⟨f20, none, 0, [], ([] : List S_Shot), 0, (fun i_ => [Value.slice none 0 0, Value.int .i64 0, undef, undef, undef, undef, undef, undef, undef, undef, undef, undef, undef, undef, undef, undef, undef, undef, undef, undef, undef, undef, undef, undef, undef, undef, undef, undef, undef, undef, undef, undef, undef, undef, undef, undef, undef, undef, undef, undef].getD i_ undef), (FM.le.refl _), HS205, (Own.nil _), h, kr⟩ ?_
           clear h
           rintro n75 _ W78 ⟨f76, A82, c83, s84, out81, x87, j80, L77, HS79, HO85, h, rfl⟩ K73 hK74
           obtain _ | n75 := n75
           · exact nomatch h
           simp only [master_frames.l0] at h
           refine wp_seq_k fun K88 hK89 => rl ?_
           refine seqL1 kr ?_
           refine nl (hK89 _ _ ?_)
           refine wp_seq_k (fun K90 hK91 => ?_)
           have hq_ := ite_some h; clear h; rcases hq_ with ⟨c93, h⟩ | ⟨c93, h⟩
           · have c93 : x87 < (l2.length : Int) := c93
             refine wpRwI 42 (x := (decide (x87 < (l2.length : Int)))) (v := true) kr (decide_eq_true c93) ?_
             refine condT kr ?_
             refine wp_skip ?_
             refine hK91 _ _ ?_
             refine wp_seq_k (fun K94 hK95 => ?_)
             refine blockK (fun B96 hx97 hn98 hr99 ho100 hp101 => ?_)
             refine wp_seq_k fun K103 hK104 => rl ?_
             have hq_ := guard_some h; clear h; obtain ⟨c105, h⟩ := hq_
             have c105 : 0 ≤ x87 := c105
             obtain ⟨b109, of110, cs106, hA111, hr107, hc108⟩ := (HR5.mono (L21.trans L77)).at (i := x87) c105 c93
             obtain ⟨A112, c112, A113, c113, rfl, HR112, HR113⟩ := hr107
             refine seqK rfl (does_run (run_indexE hA111 (sz := 4) rfl Tryz.underlying78 kr (kv (.slice A3 l2.length c4)) (kv (.int .i64 x87)) c105 c93 W78) ?_)
             refine seqK rfl (does_run (run_loadN (n := 4) rfl Tryz.underlying54 rfl kr (kv (.pointer (some ⟨b109, of110 + (x87 : Int).toNat * 4, none⟩))) (cs := [.int .i64 ((rd l2 x87).W), .int .i64 ((rd l2 x87).H), .slice A112 ((rd l2 x87).Cards).length c112, .slice A113 ((rd l2 x87).Counts).length c113]) rfl (fun j_ hj_ => ((hc108 (FM.le.refl _) HS79) j_ hj_))) ?_)
             refine seqK rfl (does_alloc (z := Value.agg #[.int .i64 0, .int .i64 0, .slice none 0 0, .slice none 0 0]) (cs := #[.int .i64 0, .int .i64 0, .slice none 0 0, .slice none 0 0]) rfl kr rfl HS79 ?_)
             intro b114 W115 HS116
             refine seqK rfl (does_store (n := 4) (vs := [.int .i64 ((rd l2 x87).W), .int .i64 ((rd l2 x87).H), .slice A112 ((rd l2 x87).Cards).length c112, .slice A113 ((rd l2 x87).Counts).length c113]) (cs' := #[.int .i64 ((rd l2 x87).W), .int .i64 ((rd l2 x87).H), .slice A112 ((rd l2 x87).Cards).length c112, .slice A113 ((rd l2 x87).Counts).length c113]) rfl kr (kv (.pointer (some ⟨b114, 0, none⟩))) (kv (.agg #[.int .i64 ((rd l2 x87).W), .int .i64 ((rd l2 x87).H), .slice A112 ((rd l2 x87).Cards).length c112, .slice A113 ((rd l2 x87).Counts).length c113])) rfl rfl (by intro u_ hu_; simp only [List.mem_cons, List.not_mem_nil, or_false] at hu_; rcases hu_ with rfl | rfl | rfl | rfl <;> rfl) HS116 (Nat.le_of_ble_eq_true rfl) kr ?_)
             intro W118 HS119
             refine nl (hK104 _ _ ?_)
             refine wp_seq_k fun K120 hK121 => rl ?_
             refine seqK rfl (does_run (run_loadN (n := 4) rfl Tryz.underlying54 rfl kr (kv (.pointer (some ⟨b114, 0, none⟩))) (cs := [.int .i64 ((rd l2 x87).W), .int .i64 ((rd l2 x87).H), .slice A112 ((rd l2 x87).Cards).length c112, .slice A113 ((rd l2 x87).Counts).length c113]) rfl (HS119.cells 0 4 _ rfl)) ?_)
             have hq_ := bind_some h; clear h; obtain ⟨⟨vt122, vt123⟩, hc124, h⟩ := hq_
             refine seqK rfl (does_call (f := 47) (args := #[.agg #[.int .i64 ((rd l2 x87).W), .int .i64 ((rd l2 x87).H), .slice A112 ((rd l2 x87).Cards).length c112, .slice A113 ((rd l2 x87).Counts).length c113]]) kr (expose_Shot.calls k A112 c112 A113 c113 (rd l2 x87) HS119 HR112 HR113 (HA.mono (L21.trans L77)) (HT.mono (L21.trans L77)) vt122 vt123 hc124) ?_)
             rintro _ W127 ⟨f125, A129, c130, s131, rfl, L126, HS128, HO132⟩
             refine ⟨_, rfl, ?_⟩
             refine seqL3 kr ?_
             refine seqK rfl (does_alloc (z := Value.agg #[.int .i64 0, .int .u64 0, .int .i64 0, .int .i64 0, .int .i64 0, .int .i64 0, .int .i64 0, .int .i64 0, .int .i64 0, .int .i64 0, .int .i64 0, .int .i64 0, .int .i64 0, .slice none 0 0]) (cs := #[.int .i64 0, .int .u64 0, .int .i64 0, .int .i64 0, .int .i64 0, .int .i64 0, .int .i64 0, .int .i64 0, .int .i64 0, .int .i64 0, .int .i64 0, .int .i64 0, .int .i64 0, .slice none 0 0]) rfl kr rfl HS128 ?_)
             intro b134 W135 HS136
             refine seqK rfl (does_store (n := 14) (vs := [.int .i64 vt122.Kind, .int .u64 vt122.Seed, .int .i64 vt122.Number, .int .i64 vt122.Begin, .int .i64 vt122.Beats, .int .i64 vt122.Plate.A, .int .i64 vt122.Plate.B, .int .i64 vt122.Plate.C, .int .i64 vt122.Plate.D, .int .i64 vt122.Seeing, .int .i64 vt122.DriftX, .int .i64 vt122.DriftY, .int .i64 vt122.Lamp, .slice A129 vt122.Hits.length c130]) (cs' := #[.int .i64 vt122.Kind, .int .u64 vt122.Seed, .int .i64 vt122.Number, .int .i64 vt122.Begin, .int .i64 vt122.Beats, .int .i64 vt122.Plate.A, .int .i64 vt122.Plate.B, .int .i64 vt122.Plate.C, .int .i64 vt122.Plate.D, .int .i64 vt122.Seeing, .int .i64 vt122.DriftX, .int .i64 vt122.DriftY, .int .i64 vt122.Lamp, .slice A129 vt122.Hits.length c130]) rfl kr (kv (.pointer (some ⟨b134, 0, none⟩))) (kv (.agg #[.int .i64 vt122.Kind, .int .u64 vt122.Seed, .int .i64 vt122.Number, .int .i64 vt122.Begin, .int .i64 vt122.Beats, .int .i64 vt122.Plate.A, .int .i64 vt122.Plate.B, .int .i64 vt122.Plate.C, .int .i64 vt122.Plate.D, .int .i64 vt122.Seeing, .int .i64 vt122.DriftX, .int .i64 vt122.DriftY, .int .i64 vt122.Lamp, .slice A129 vt122.Hits.length c130])) rfl rfl (by intro u_ hu_; simp only [List.mem_cons, List.not_mem_nil, or_false] at hu_; rcases hu_ with rfl | rfl | rfl | rfl | rfl | rfl | rfl | rfl | rfl | rfl | rfl | rfl | rfl | rfl <;> rfl) HS136 (Nat.le_of_ble_eq_true rfl) kr ?_)
             intro W138 HS139
             refine seqL1 kr ?_
             refine nl (hK121 _ _ ?_)
             refine wp_seq_k (fun K140 hK141 => ?_)
             refine blockK (fun B142 hx143 hn144 hr145 ho146 hp147 => ?_)
             refine wp_seq_k fun K149 hK150 => rl ?_
             refine seqL3 kr ?_
             refine nl (hK150 _ _ ?_)
             have hq_ := ite_some h; clear h; rcases hq_ with ⟨c152, h⟩ | ⟨c152, h⟩
             · have c152 : vt123 ≠ 0 := c152
               refine wpRwI 50 (x := (vt123 != 0)) (v := true) kr (bne_iff_ne.mpr c152) ?_
               refine wpRwI 52 (x := (vt123 != 0)) (v := true) kr (bne_iff_ne.mpr c152) ?_
               refine condT kr ?_
               refine wp_seq_k fun K153 hK154 => rl ?_
               refine seqL3 kr ?_
               refine nl (hK154 _ _ ?_)
               refine wp_ret ?_
               refine hr145 _ _ ?_
               refine hr99 _ _ ?_
               refine hr69 _ _ ?_
               refine hret _ _ ?_
               have HS235 := HS139.cons_nil
               refine ends_still (v := Value.tuple #[.slice none 0 0, .int .i64 vt123]) kr kr ?_
               have HS237 := HS235.u5
               have HS238 := HS237.u5
               have HS239 := HS238.u5
               have HS240 := HS239.u5
               have HS241 := HS240.u5
               have HS242 := HS241.drop
               have HS243 := HS242.drop
               have HS244 := HS243.drop
               have HS245 := HS244.drop
               have HS246 := HS245.drop
               replace h := JR203 _ h
               injection h with h
               injection h with h0_ h
               subst h0_ h
               exact ⟨f125, none, 0, [], rfl, (L21.trans (L77.trans L126)), HS246, (Own.nil _)⟩
             · have c152 : ¬ (vt123 ≠ 0) := c152
               refine wpRwI 50 (x := (vt123 != 0)) (v := false) kr (bne_eq_false_iff_eq.mpr (Decidable.of_not_not c152)) ?_
               refine wpRwI 52 (x := (vt123 != 0)) (v := false) kr (bne_eq_false_iff_eq.mpr (Decidable.of_not_not c152)) ?_
               refine condF kr ?_
               refine wp_seq_k fun K155 hK156 => rl ?_
               refine seqL1 kr ?_
               refine seqK rfl (does_run (run_load rfl Tryz.underlying3 rfl (kv (.pointer (some ⟨b134, 0, none⟩))) (HS139.cell 0)) ?_)
               refine seqL3 kr ?_
               refine nl (hK156 _ _ ?_)
               have hq_ := ite_some h; clear h; rcases hq_ with ⟨c158, h⟩ | ⟨c158, h⟩
               · have c158 : vt122.Kind ≠ kind6 := c158
                 refine wpRwI 54 (x := (vt122.Kind != kind6)) (v := true) kr (bne_iff_ne.mpr c158) ?_
                 refine wpRwI 58 (x := (vt122.Kind != kind6)) (v := true) kr (bne_iff_ne.mpr c158) ?_
                 refine condT kr ?_
                 refine wp_seq_k fun K159 hK160 => rl ?_
                 refine seqL2 kr ?_
                 refine nl (hK160 _ _ ?_)
                 refine wp_ret ?_
                 refine hr145 _ _ ?_
                 refine hr99 _ _ ?_
                 refine hr69 _ _ ?_
                 refine hret _ _ ?_
                 have HS247 := HS139.cons_nil
                 refine ends_still (v := Value.tuple #[.slice none 0 0, .int .i64 12]) kr kr ?_
                 have HS249 := HS247.u5
                 have HS250 := HS249.u5
                 have HS251 := HS250.u5
                 have HS252 := HS251.u5
                 have HS253 := HS252.u5
                 have HS254 := HS253.drop
                 have HS255 := HS254.drop
                 have HS256 := HS255.drop
                 have HS257 := HS256.drop
                 have HS258 := HS257.drop
                 replace h := JR203 _ h
                 injection h with h
                 injection h with h0_ h
                 subst h0_ h
                 exact ⟨f125, none, 0, [], rfl, (L21.trans (L77.trans L126)), HS258, (Own.nil _)⟩
               · have c158 : ¬ (vt122.Kind ≠ kind6) := c158
                 refine wpRwI 54 (x := (vt122.Kind != kind6)) (v := false) kr (bne_eq_false_iff_eq.mpr (Decidable.of_not_not c158)) ?_
                 refine wpRwI 58 (x := (vt122.Kind != kind6)) (v := false) kr (bne_eq_false_iff_eq.mpr (Decidable.of_not_not c158)) ?_
                 refine condF kr ?_
                 refine wp_seq_k fun K161 hK162 => rl ?_
                 refine seqL1 kr ?_
                 refine seqK rfl (does_run (run_load rfl Tryz.underlying3 rfl (kv (.pointer (some ⟨b114, 0, none⟩))) (HS139.u2.cell 0)) ?_)
                 refine seqL1 kr ?_
                 refine seqK rfl (does_run (run_load rfl Tryz.underlying3 rfl (kv (.pointer (some ⟨b10, 0, none⟩))) (HS139.u4.cell 0)) ?_)
                 refine seqL2 kr ?_
                 have hq_ := ite_some h; clear h; rcases hq_ with ⟨c163, h⟩ | ⟨c163, h⟩
                 · have c163 : ((rd l2 x87).W) ≠ vk1.W := c163
                   refine seqRwI 64 (x := (((rd l2 x87).W) != vk1.W)) (v := true) kr (bne_iff_ne.mpr c163) ?_
                   refine seqRwI 65 (x := (((rd l2 x87).W) != vk1.W)) (v := true) kr (bne_iff_ne.mpr c163) ?_
                   refine seqL7 kr ?_
                   refine nl (hK162 _ _ ?_)
                   refine condT kr ?_
                   refine wp_seq_k fun K164 hK165 => rl ?_
                   refine seqL2 kr ?_
                   refine nl (hK165 _ _ ?_)
                   refine wp_ret ?_
                   refine hr145 _ _ ?_
                   refine hr99 _ _ ?_
                   refine hr69 _ _ ?_
                   refine hret _ _ ?_
                   have HS259 := HS139.cons_nil
                   refine ends_still (v := Value.tuple #[.slice none 0 0, .int .i64 3]) kr kr ?_
                   have HS261 := HS259.u5
                   have HS262 := HS261.u5
                   have HS263 := HS262.u5
                   have HS264 := HS263.u5
                   have HS265 := HS264.u5
                   have HS266 := HS265.drop
                   have HS267 := HS266.drop
                   have HS268 := HS267.drop
                   have HS269 := HS268.drop
                   have HS270 := HS269.drop
                   replace h := JR203 _ h
                   injection h with h
                   injection h with h0_ h
                   subst h0_ h
                   exact ⟨f125, none, 0, [], rfl, (L21.trans (L77.trans L126)), HS270, (Own.nil _)⟩
                 · have c163 : ¬ (((rd l2 x87).W) ≠ vk1.W) := c163
                   refine seqRwI 64 (x := (((rd l2 x87).W) != vk1.W)) (v := false) kr (bne_eq_false_iff_eq.mpr (Decidable.of_not_not c163)) ?_
                   refine seqRwI 65 (x := (((rd l2 x87).W) != vk1.W)) (v := false) kr (bne_eq_false_iff_eq.mpr (Decidable.of_not_not c163)) ?_
                   refine seqL1 kr ?_
                   refine seqG kr (does_run (run_load rfl Tryz.underlying3 rfl (kv (.pointer (some ⟨b114, 1, none⟩))) (HS139.u2.cell 1)) ?_)
                   refine seqL1 kr ?_
                   refine seqG kr (does_run (run_load rfl Tryz.underlying3 rfl (kv (.pointer (some ⟨b10, 1, none⟩))) (HS139.u4.cell 1)) ?_)
                   refine seqL3 kr ?_
                   refine nl (hK162 _ _ ?_)
                   have hq_ := ite_some h; clear h; rcases hq_ with ⟨c167, h⟩ | ⟨c167, h⟩
                   · have c167 : ((rd l2 x87).H) ≠ vk1.H := c167
                     refine wpRwI 59 (x := (((rd l2 x87).H) != vk1.H)) (v := true) kr (bne_iff_ne.mpr c167) ?_
                     refine wpRwI 70 (x := (((rd l2 x87).H) != vk1.H)) (v := true) kr (bne_iff_ne.mpr c167) ?_
                     refine wpRwI 71 (x := (((rd l2 x87).H) != vk1.H)) (v := true) kr (bne_iff_ne.mpr c167) ?_
                     refine condT kr ?_
                     refine wp_seq_k fun K168 hK169 => rl ?_
                     refine seqL2 kr ?_
                     refine nl (hK169 _ _ ?_)
                     refine wp_ret ?_
                     refine hr145 _ _ ?_
                     refine hr99 _ _ ?_
                     refine hr69 _ _ ?_
                     refine hret _ _ ?_
                     have HS271 := HS139.cons_nil
                     refine ends_still (v := Value.tuple #[.slice none 0 0, .int .i64 3]) kr kr ?_
                     have HS273 := HS271.u5
                     have HS274 := HS273.u5
                     have HS275 := HS274.u5
                     have HS276 := HS275.u5
                     have HS277 := HS276.u5
                     have HS278 := HS277.drop
                     have HS279 := HS278.drop
                     have HS280 := HS279.drop
                     have HS281 := HS280.drop
                     have HS282 := HS281.drop
                     replace h := JR203 _ h
                     injection h with h
                     injection h with h0_ h
                     subst h0_ h
                     exact ⟨f125, none, 0, [], rfl, (L21.trans (L77.trans L126)), HS282, (Own.nil _)⟩
                   · have c167 : ¬ (((rd l2 x87).H) ≠ vk1.H) := c167
                     refine wpRwI 59 (x := (((rd l2 x87).H) != vk1.H)) (v := false) kr (bne_eq_false_iff_eq.mpr (Decidable.of_not_not c167)) ?_
                     refine wpRwI 70 (x := (((rd l2 x87).H) != vk1.H)) (v := false) kr (bne_eq_false_iff_eq.mpr (Decidable.of_not_not c167)) ?_
                     refine wpRwI 71 (x := (((rd l2 x87).H) != vk1.H)) (v := false) kr (bne_eq_false_iff_eq.mpr (Decidable.of_not_not c167)) ?_
                     refine condF kr ?_
                     refine wp_skip ?_
                     refine hn144 _ _ ?_
                     refine hK141 _ _ ?_
                     refine rl ?_
                     refine seqL1 kr ?_
                     refine seqK rfl (does_run (run_loadN (n := 14) rfl Tryz.underlying77 rfl kr (kv (.pointer (some ⟨b134, 0, none⟩))) (cs := [.int .i64 vt122.Kind, .int .u64 vt122.Seed, .int .i64 vt122.Number, .int .i64 vt122.Begin, .int .i64 vt122.Beats, .int .i64 vt122.Plate.A, .int .i64 vt122.Plate.B, .int .i64 vt122.Plate.C, .int .i64 vt122.Plate.D, .int .i64 vt122.Seeing, .int .i64 vt122.DriftX, .int .i64 vt122.DriftY, .int .i64 vt122.Lamp, .slice A129 vt122.Hits.length c130]) rfl (HS139.cells 0 14 _ rfl)) ?_)
                     have HS170 := HS139.u1
                     obtain ⟨f171, L172, HS173, HR174⟩ := HO132.freeze HS170
                     refine seqK rfl (does_lit (e := ty_Shot) (E := 77) (vs := #[(0, Value.agg #[.int .i64 vt122.Kind, .int .u64 vt122.Seed, .int .i64 vt122.Number, .int .i64 vt122.Begin, .int .i64 vt122.Beats, .int .i64 vt122.Plate.A, .int .i64 vt122.Plate.B, .int .i64 vt122.Plate.C, .int .i64 vt122.Plate.D, .int .i64 vt122.Seeing, .int .i64 vt122.DriftX, .int .i64 vt122.DriftY, .int .i64 vt122.Lamp, .slice A129 vt122.Hits.length c130])]) (cs := #[.int .i64 vt122.Kind, .int .u64 vt122.Seed, .int .i64 vt122.Number, .int .i64 vt122.Begin, .int .i64 vt122.Beats, .int .i64 vt122.Plate.A, .int .i64 vt122.Plate.B, .int .i64 vt122.Plate.C, .int .i64 vt122.Plate.D, .int .i64 vt122.Seeing, .int .i64 vt122.DriftX, .int .i64 vt122.DriftY, .int .i64 vt122.Lamp, .slice A129 vt122.Hits.length c130]) (xs := ([vt122] : List S_Shot)) rfl Tryz.underlying91 kr kr ⟨[.int .i64 vt122.Kind, .int .u64 vt122.Seed, .int .i64 vt122.Number, .int .i64 vt122.Begin, .int .i64 vt122.Beats, .int .i64 vt122.Plate.A, .int .i64 vt122.Plate.B, .int .i64 vt122.Plate.C, .int .i64 vt122.Plate.D, .int .i64 vt122.Seeing, .int .i64 vt122.DriftX, .int .i64 vt122.DriftY, .int .i64 vt122.Lamp, .slice A129 vt122.Hits.length c130], _, rfl, ⟨A129, c130, rfl, HR174⟩, rfl⟩ rfl HS173 ?_ (by decide))
                     intro b175 W176 s177 HS178 _ HO179
                     have hq_ := guard_some h; clear h; obtain ⟨c181, h⟩ := hq_
                     have c181 : (out81.length + 1) * 128 ≤ 140737488355328 := c181
                     have HS182 := HS178.u3
                     have HS183 := HS182.u1
                     refine seqK rfl (does_append1 (e := ty_Shot) (E := 77) (xs := out81) (ys := ([vt122] : List S_Shot)) rfl (kv (.slice A82 out81.length c83)) (kv (.slice (some ⟨b175, 0, none⟩) ([vt122] : List S_Shot).length 1)) Tryz.underlying91 inf77 (HO85.mono (L126.trans L172)) HO179 HS183 c181 (lim63 c181 (by decide)) ?_)
                     intro A184 c185 s186 W187 HS188 HO189
                     refine seqL1 kr ?_
                     refine nl ?_
                     refine hn98 _ _ ?_
                     refine hK95 _ _ ?_
                     refine rl ?_
                     refine seqL2 kr ?_
                     refine nl ?_
                     refine hK74 n75 _ _ (Nat.lt_succ_self _) ?_
                     have HS207 := HS188.u3
                     have HS208 := HS207.u1
                     have HS209 := HS208.u3
                     have HS210 := HS209.u3
                     have HS211 := HS210.drop
                     have HS212 := HS211.drop
                     exact ⟨f171, A184, c185, s186, (out81 ++ ([vt122] : List S_Shot)), (w64 (x87 + 1)), (fun i_ => [(j80 0), (j80 1), Value.pointer (some ⟨b114, 0, none⟩), Value.pointer (some ⟨b134, 0, none⟩), Value.int .i64 vt123, Value.bool true, Value.pointer (some ⟨b109, of110 + (x87 : Int).toNat * 4, none⟩), (ag_Frame (rd l2 x87) A112 c112 A113 c113), Value.tuple #[(ag_Shot vt122 A129 c130), .int .i64 vt123], (ag_Frame (rd l2 x87) A112 c112 A113 c113), Value.tuple #[(ag_Shot vt122 A129 c130), .int .i64 vt123], (ag_Shot vt122 A129 c130), Value.int .i64 vt123, Value.bool false, Value.int .i64 vt123, Value.bool false, (j80 16), Value.bool false, Value.pointer (some ⟨b134, 0, none⟩), Value.int .i64 vt122.Kind, Value.int .i64 kind6, Value.bool false, Value.bool false, Value.pointer (some ⟨b114, 0, none⟩), Value.int .i64 ((rd l2 x87).W), Value.pointer (some ⟨b10, 0, none⟩), Value.int .i64 vk1.W, Value.bool false, Value.bool false, Value.pointer (some ⟨b114, 1, none⟩), Value.int .i64 ((rd l2 x87).H), Value.pointer (some ⟨b10, 1, none⟩), Value.int .i64 vk1.H, Value.bool false, Value.bool false, Value.slice A82 out81.length c83, (ag_Shot vt122 A129 c130), Value.slice (some ⟨b175, 0, none⟩) ([vt122] : List S_Shot).length 1, Value.slice A184 (out81 ++ ([vt122] : List S_Shot)).length c185, Value.int .i64 (w64 (x87 + 1))].getD i_ undef), (L77.trans (L126.trans L172)), HS212, HO189, h, kr⟩
           · have c93 : ¬ (x87 < (l2.length : Int)) := c93
             refine wpRwI 42 (x := (decide (x87 < (l2.length : Int)))) (v := false) kr (decide_eq_false c93) ?_
             refine condF kr ?_
             refine wp_exit ?_
             refine hx67 _ _ ?_
             exact J202 f76 A82 c83 s84 out81 (fun i_ => [(j80 0), (j80 1), (j80 2), (j80 3), (j80 4), Value.int .i64 x87, Value.bool false, (j80 6), (j80 7), (j80 8), (j80 9), (j80 10), (j80 11), (j80 12), (j80 13), (j80 14), (j80 15), (j80 16), (j80 17), (j80 18), (j80 19), (j80 20), (j80 21), (j80 22), (j80 23), (j80 24), (j80 25), (j80 26), (j80 27), (j80 28), (j80 29), (j80 30), (j80 31), (j80 32), (j80 33), (j80 34), (j80 35), (j80 36), (j80 37), (j80 38), (j80 39)].getD i_ undef) W78 _ L77 h HS79 HO85 kr

set_option maxRecDepth 100000 in
set_option maxHeartbeats 4000000 in
theorem bound_Check_Count.calls (k : Nat)  (b1 : S_Bound) {t w : World} {f : FM} {H : List Seg} (HS : St t w f (H)) (rr1 : Int) (h : bound_Check_Count k b1 = some rr1) :
    Calls Tryz.prog 41 #[.agg #[.int .i64 b1.Lo, .int .i64 b1.Hi, .bool b1.Unknown]] w (fun e w' => ∃ (g : FM), e = .returned (Value.int .i64 rr1) ∧ FM.le f g ∧ St t w' g (H)) := by
 unfold bound_Check_Count at h
 refine enter Tryz.func41 rfl (tm := #[(ag_Bound b1), uV, uV, uV, uV, uV, uV, uV, uV, uV, uV, uV, uV, uV, uV, uV, uV, uV, uV, uV, uV, uV, uV, uV, uV, uV, uV, uV, uV, uV, uV, uV, uV, uV, uV, uV, uV]) kr ?_
 intro B hret hnor hnp
 refine wp_seq_k fun K2 hK3 => rl ?_
 refine seqK rfl (does_box (cs := #[.int .i64 b1.Lo, .int .i64 b1.Hi, .bool b1.Unknown]) rfl (kv (.agg #[.int .i64 b1.Lo, .int .i64 b1.Hi, .bool b1.Unknown])) rfl HS ?_)
 intro b4 W5 HS6
 refine seqL1 kr ?_
 refine nl (hK3 _ _ ?_)
 refine wp_seq_k (fun K8 hK9 => ?_)
 refine blockK (fun B10 hx11 hn12 hr13 ho14 hp15 => ?_)
 refine wp_seq_k fun K17 hK18 => rl ?_
 refine seqL1 kr ?_
 refine seqK rfl (does_run (run_load rfl Tryz.underlying4 rfl (kv (.pointer (some ⟨b4, 2, none⟩))) (HS6.cell 2)) ?_)
 refine seqL1 kr ?_
 have hq_ := ite_some h; clear h; rcases hq_ with ⟨c19, h⟩ | ⟨c19, h⟩
 · have c19 : b1.Unknown = true := c19
   refine seqRwI 5 (x := b1.Unknown) (v := true) kr c19 ?_
   refine seqRwI 6 (x := b1.Unknown) (v := true) kr c19 ?_
   refine seqL1 kr ?_
   refine seqG kr (does_run (run_load rfl Tryz.underlying41 rfl (kv (.pointer (some ⟨b4, 0, none⟩))) (HS6.cell 0)) ?_)
   refine seqL2 kr ?_
   have hq_ := ite_some h; clear h; rcases hq_ with ⟨c20, h⟩ | ⟨c20, h⟩
   · have c20 : b1.Lo ≠ 0 := c20
     refine seqRwI 9 (x := (b1.Lo != 0)) (v := true) kr (bne_iff_ne.mpr c20) ?_
     refine seqRwI 10 (x := (b1.Lo != 0)) (v := true) kr (bne_iff_ne.mpr c20) ?_
     refine seqL6 kr ?_
     refine nl (hK18 _ _ ?_)
     refine condT kr ?_
     refine wp_seq_k fun K21 hK22 => rl ?_
     refine seqL1 kr ?_
     refine nl (hK22 _ _ ?_)
     refine wp_ret ?_
     refine hr13 _ _ ?_
     refine hret _ _ ?_
     refine ends_still (v := Value.int .i64 3) kr kr ?_
     have HS61 := HS6.drop
     injection h with h
     subst h
     exact ⟨f, rfl, FM.le.refl _, HS61⟩
   · have c20 : ¬ (b1.Lo ≠ 0) := c20
     refine seqRwI 9 (x := (b1.Lo != 0)) (v := false) kr (bne_eq_false_iff_eq.mpr (Decidable.of_not_not c20)) ?_
     refine seqRwI 10 (x := (b1.Lo != 0)) (v := false) kr (bne_eq_false_iff_eq.mpr (Decidable.of_not_not c20)) ?_
     refine seqL1 kr ?_
     refine seqG kr (does_run (run_load rfl Tryz.underlying41 rfl (kv (.pointer (some ⟨b4, 1, none⟩))) (HS6.cell 1)) ?_)
     refine seqL4 kr ?_
     refine nl (hK18 _ _ ?_)
     have hq_ := ite_some h; clear h; rcases hq_ with ⟨c24, h⟩ | ⟨c24, h⟩
     · have c24 : b1.Hi ≠ 0 := c24
       refine wpRwI 3 (x := (b1.Hi != 0)) (v := true) kr (bne_iff_ne.mpr c24) ?_
       refine wpRwI 13 (x := (b1.Hi != 0)) (v := true) kr (bne_iff_ne.mpr c24) ?_
       refine wpRwI 14 (x := (b1.Hi != 0)) (v := true) kr (bne_iff_ne.mpr c24) ?_
       refine wpRwI 15 (x := (b1.Hi != 0)) (v := true) kr (bne_iff_ne.mpr c24) ?_
       refine condT kr ?_
       refine wp_seq_k fun K25 hK26 => rl ?_
       refine seqL1 kr ?_
       refine nl (hK26 _ _ ?_)
       refine wp_ret ?_
       refine hr13 _ _ ?_
       refine hret _ _ ?_
       refine ends_still (v := Value.int .i64 3) kr kr ?_
       have HS62 := HS6.drop
       injection h with h
       subst h
       exact ⟨f, rfl, FM.le.refl _, HS62⟩
     · have c24 : ¬ (b1.Hi ≠ 0) := c24
       refine wpRwI 3 (x := (b1.Hi != 0)) (v := false) kr (bne_eq_false_iff_eq.mpr (Decidable.of_not_not c24)) ?_
       refine wpRwI 13 (x := (b1.Hi != 0)) (v := false) kr (bne_eq_false_iff_eq.mpr (Decidable.of_not_not c24)) ?_
       refine wpRwI 14 (x := (b1.Hi != 0)) (v := false) kr (bne_eq_false_iff_eq.mpr (Decidable.of_not_not c24)) ?_
       refine wpRwI 15 (x := (b1.Hi != 0)) (v := false) kr (bne_eq_false_iff_eq.mpr (Decidable.of_not_not c24)) ?_
       refine condF kr ?_
       refine wp_seq_k fun K27 hK28 => rl ?_
       refine seqL1 kr ?_
       refine seqK rfl (does_run (run_load rfl Tryz.underlying41 rfl (kv (.pointer (some ⟨b4, 0, none⟩))) (HS6.cell 0)) ?_)
       refine seqL1 kr ?_
       refine seqK rfl (does_run (run_load rfl Tryz.underlying41 rfl (kv (.pointer (some ⟨b4, 1, none⟩))) (HS6.cell 1)) ?_)
       refine seqL3 kr ?_
       have hq_ := ite_some h; clear h; rcases hq_ with ⟨c29, h⟩ | ⟨c29, h⟩
       · have c29 : (mn b1.Lo b1.Hi) < (-1152921504606846976) := c29
         refine seqRwI 22 (x := (decide ((mn b1.Lo b1.Hi) < (-1152921504606846976)))) (v := true) kr (decide_eq_true c29) ?_
         refine seqRwI 23 (x := (decide ((mn b1.Lo b1.Hi) < (-1152921504606846976)))) (v := true) kr (decide_eq_true c29) ?_
         refine seqL8 kr ?_
         refine nl (hK28 _ _ ?_)
         refine condT kr ?_
         refine wp_seq_k fun K30 hK31 => rl ?_
         refine seqL1 kr ?_
         refine nl (hK31 _ _ ?_)
         refine wp_ret ?_
         refine hr13 _ _ ?_
         refine hret _ _ ?_
         refine ends_still (v := Value.int .i64 4) kr kr ?_
         have HS63 := HS6.drop
         injection h with h
         subst h
         exact ⟨f, rfl, FM.le.refl _, HS63⟩
       · have c29 : ¬ ((mn b1.Lo b1.Hi) < (-1152921504606846976)) := c29
         refine seqRwI 22 (x := (decide ((mn b1.Lo b1.Hi) < (-1152921504606846976)))) (v := false) kr (decide_eq_false c29) ?_
         refine seqRwI 23 (x := (decide ((mn b1.Lo b1.Hi) < (-1152921504606846976)))) (v := false) kr (decide_eq_false c29) ?_
         refine seqL1 kr ?_
         refine seqG kr (does_run (run_load rfl Tryz.underlying41 rfl (kv (.pointer (some ⟨b4, 0, none⟩))) (HS6.cell 0)) ?_)
         refine seqL1 kr ?_
         refine seqG kr (does_run (run_load rfl Tryz.underlying41 rfl (kv (.pointer (some ⟨b4, 1, none⟩))) (HS6.cell 1)) ?_)
         refine seqL4 kr ?_
         refine nl (hK28 _ _ ?_)
         have hq_ := ite_some h; clear h; rcases hq_ with ⟨c33, h⟩ | ⟨c33, h⟩
         · have c33 : (mx b1.Lo b1.Hi) > 1152921504606846976 := c33
           refine wpRwI 16 (x := (decide ((mx b1.Lo b1.Hi) > 1152921504606846976))) (v := true) kr (decide_eq_true c33) ?_
           refine wpRwI 29 (x := (decide ((mx b1.Lo b1.Hi) > 1152921504606846976))) (v := true) kr (decide_eq_true c33) ?_
           refine wpRwI 30 (x := (decide ((mx b1.Lo b1.Hi) > 1152921504606846976))) (v := true) kr (decide_eq_true c33) ?_
           refine condT kr ?_
           refine wp_seq_k fun K34 hK35 => rl ?_
           refine seqL1 kr ?_
           refine nl (hK35 _ _ ?_)
           refine wp_ret ?_
           refine hr13 _ _ ?_
           refine hret _ _ ?_
           refine ends_still (v := Value.int .i64 4) kr kr ?_
           have HS64 := HS6.drop
           injection h with h
           subst h
           exact ⟨f, rfl, FM.le.refl _, HS64⟩
         · have c33 : ¬ ((mx b1.Lo b1.Hi) > 1152921504606846976) := c33
           refine wpRwI 16 (x := (decide ((mx b1.Lo b1.Hi) > 1152921504606846976))) (v := false) kr (decide_eq_false c33) ?_
           refine wpRwI 29 (x := (decide ((mx b1.Lo b1.Hi) > 1152921504606846976))) (v := false) kr (decide_eq_false c33) ?_
           refine wpRwI 30 (x := (decide ((mx b1.Lo b1.Hi) > 1152921504606846976))) (v := false) kr (decide_eq_false c33) ?_
           refine condF kr ?_
           refine wp_seq_k fun K36 hK37 => rl ?_
           refine seqL1 kr ?_
           refine seqK rfl (does_run (run_load rfl Tryz.underlying41 rfl (kv (.pointer (some ⟨b4, 0, none⟩))) (HS6.cell 0)) ?_)
           refine seqL1 kr ?_
           refine seqK rfl (does_run (run_load rfl Tryz.underlying41 rfl (kv (.pointer (some ⟨b4, 1, none⟩))) (HS6.cell 1)) ?_)
           refine seqL2 kr ?_
           refine nl (hK37 _ _ ?_)
           have hq_ := ite_some h; clear h; rcases hq_ with ⟨c39, h⟩ | ⟨c39, h⟩
           · have c39 : b1.Lo > b1.Hi := c39
             refine wpRwI 31 (x := (decide (b1.Lo > b1.Hi))) (v := true) kr (decide_eq_true c39) ?_
             refine wpRwI 36 (x := (decide (b1.Lo > b1.Hi))) (v := true) kr (decide_eq_true c39) ?_
             refine condT kr ?_
             refine wp_seq_k fun K40 hK41 => rl ?_
             refine seqL1 kr ?_
             refine nl (hK41 _ _ ?_)
             refine wp_ret ?_
             refine hr13 _ _ ?_
             refine hret _ _ ?_
             refine ends_still (v := Value.int .i64 11) kr kr ?_
             have HS65 := HS6.drop
             injection h with h
             subst h
             exact ⟨f, rfl, FM.le.refl _, HS65⟩
           · have c39 : ¬ (b1.Lo > b1.Hi) := c39
             refine wpRwI 31 (x := (decide (b1.Lo > b1.Hi))) (v := false) kr (decide_eq_false c39) ?_
             refine wpRwI 36 (x := (decide (b1.Lo > b1.Hi))) (v := false) kr (decide_eq_false c39) ?_
             refine condF kr ?_
             refine wp_skip ?_
             refine hn12 _ _ ?_
             refine hK9 _ _ ?_
             refine wp_seq_k fun K57 hK58 => rl ?_
             refine seqL1 kr ?_
             refine nl (hK58 _ _ ?_)
             refine wp_ret ?_
             refine hret _ _ ?_
             refine ends_still (v := Value.int .i64 0) kr kr ?_
             have HS69 := HS6.drop
             injection h with h
             subst h
             exact ⟨f, rfl, FM.le.refl _, HS69⟩
 · have c19 : ¬ (b1.Unknown = true) := c19
   refine seqRwI 5 (x := b1.Unknown) (v := false) kr (Bool.eq_false_iff.mpr c19) ?_
   refine seqRwI 6 (x := b1.Unknown) (v := false) kr (Bool.eq_false_iff.mpr c19) ?_
   refine seqL10 kr ?_
   refine nl (hK18 _ _ ?_)
   refine condF kr ?_
   refine wp_seq_k fun K42 hK43 => rl ?_
   refine seqL1 kr ?_
   refine seqK rfl (does_run (run_load rfl Tryz.underlying41 rfl (kv (.pointer (some ⟨b4, 0, none⟩))) (HS6.cell 0)) ?_)
   refine seqL1 kr ?_
   refine seqK rfl (does_run (run_load rfl Tryz.underlying41 rfl (kv (.pointer (some ⟨b4, 1, none⟩))) (HS6.cell 1)) ?_)
   refine seqL3 kr ?_
   have hq_ := ite_some h; clear h; rcases hq_ with ⟨c44, h⟩ | ⟨c44, h⟩
   · have c44 : (mn b1.Lo b1.Hi) < (-1152921504606846976) := c44
     refine seqRwI 22 (x := (decide ((mn b1.Lo b1.Hi) < (-1152921504606846976)))) (v := true) kr (decide_eq_true c44) ?_
     refine seqRwI 23 (x := (decide ((mn b1.Lo b1.Hi) < (-1152921504606846976)))) (v := true) kr (decide_eq_true c44) ?_
     refine seqL8 kr ?_
     refine nl (hK43 _ _ ?_)
     refine condT kr ?_
     refine wp_seq_k fun K45 hK46 => rl ?_
     refine seqL1 kr ?_
     refine nl (hK46 _ _ ?_)
     refine wp_ret ?_
     refine hr13 _ _ ?_
     refine hret _ _ ?_
     refine ends_still (v := Value.int .i64 4) kr kr ?_
     have HS66 := HS6.drop
     injection h with h
     subst h
     exact ⟨f, rfl, FM.le.refl _, HS66⟩
   · have c44 : ¬ ((mn b1.Lo b1.Hi) < (-1152921504606846976)) := c44
     refine seqRwI 22 (x := (decide ((mn b1.Lo b1.Hi) < (-1152921504606846976)))) (v := false) kr (decide_eq_false c44) ?_
     refine seqRwI 23 (x := (decide ((mn b1.Lo b1.Hi) < (-1152921504606846976)))) (v := false) kr (decide_eq_false c44) ?_
     refine seqL1 kr ?_
     refine seqG kr (does_run (run_load rfl Tryz.underlying41 rfl (kv (.pointer (some ⟨b4, 0, none⟩))) (HS6.cell 0)) ?_)
     refine seqL1 kr ?_
     refine seqG kr (does_run (run_load rfl Tryz.underlying41 rfl (kv (.pointer (some ⟨b4, 1, none⟩))) (HS6.cell 1)) ?_)
     refine seqL4 kr ?_
     refine nl (hK43 _ _ ?_)
     have hq_ := ite_some h; clear h; rcases hq_ with ⟨c48, h⟩ | ⟨c48, h⟩
     · have c48 : (mx b1.Lo b1.Hi) > 1152921504606846976 := c48
       refine wpRwI 16 (x := (decide ((mx b1.Lo b1.Hi) > 1152921504606846976))) (v := true) kr (decide_eq_true c48) ?_
       refine wpRwI 29 (x := (decide ((mx b1.Lo b1.Hi) > 1152921504606846976))) (v := true) kr (decide_eq_true c48) ?_
       refine wpRwI 30 (x := (decide ((mx b1.Lo b1.Hi) > 1152921504606846976))) (v := true) kr (decide_eq_true c48) ?_
       refine condT kr ?_
       refine wp_seq_k fun K49 hK50 => rl ?_
       refine seqL1 kr ?_
       refine nl (hK50 _ _ ?_)
       refine wp_ret ?_
       refine hr13 _ _ ?_
       refine hret _ _ ?_
       refine ends_still (v := Value.int .i64 4) kr kr ?_
       have HS67 := HS6.drop
       injection h with h
       subst h
       exact ⟨f, rfl, FM.le.refl _, HS67⟩
     · have c48 : ¬ ((mx b1.Lo b1.Hi) > 1152921504606846976) := c48
       refine wpRwI 16 (x := (decide ((mx b1.Lo b1.Hi) > 1152921504606846976))) (v := false) kr (decide_eq_false c48) ?_
       refine wpRwI 29 (x := (decide ((mx b1.Lo b1.Hi) > 1152921504606846976))) (v := false) kr (decide_eq_false c48) ?_
       refine wpRwI 30 (x := (decide ((mx b1.Lo b1.Hi) > 1152921504606846976))) (v := false) kr (decide_eq_false c48) ?_
       refine condF kr ?_
       refine wp_seq_k fun K51 hK52 => rl ?_
       refine seqL1 kr ?_
       refine seqK rfl (does_run (run_load rfl Tryz.underlying41 rfl (kv (.pointer (some ⟨b4, 0, none⟩))) (HS6.cell 0)) ?_)
       refine seqL1 kr ?_
       refine seqK rfl (does_run (run_load rfl Tryz.underlying41 rfl (kv (.pointer (some ⟨b4, 1, none⟩))) (HS6.cell 1)) ?_)
       refine seqL2 kr ?_
       refine nl (hK52 _ _ ?_)
       have hq_ := ite_some h; clear h; rcases hq_ with ⟨c54, h⟩ | ⟨c54, h⟩
       · have c54 : b1.Lo > b1.Hi := c54
         refine wpRwI 31 (x := (decide (b1.Lo > b1.Hi))) (v := true) kr (decide_eq_true c54) ?_
         refine wpRwI 36 (x := (decide (b1.Lo > b1.Hi))) (v := true) kr (decide_eq_true c54) ?_
         refine condT kr ?_
         refine wp_seq_k fun K55 hK56 => rl ?_
         refine seqL1 kr ?_
         refine nl (hK56 _ _ ?_)
         refine wp_ret ?_
         refine hr13 _ _ ?_
         refine hret _ _ ?_
         refine ends_still (v := Value.int .i64 11) kr kr ?_
         have HS68 := HS6.drop
         injection h with h
         subst h
         exact ⟨f, rfl, FM.le.refl _, HS68⟩
       · have c54 : ¬ (b1.Lo > b1.Hi) := c54
         refine wpRwI 31 (x := (decide (b1.Lo > b1.Hi))) (v := false) kr (decide_eq_false c54) ?_
         refine wpRwI 36 (x := (decide (b1.Lo > b1.Hi))) (v := false) kr (decide_eq_false c54) ?_
         refine condF kr ?_
         refine wp_skip ?_
         refine hn12 _ _ ?_
         refine hK9 _ _ ?_
         refine wp_seq_k fun K59 hK60 => rl ?_
         refine seqL1 kr ?_
         refine nl (hK60 _ _ ?_)
         refine wp_ret ?_
         refine hret _ _ ?_
         refine ends_still (v := Value.int .i64 0) kr kr ?_
         have HS70 := HS6.drop
         injection h with h
         subst h
         exact ⟨f, rfl, FM.le.refl _, HS70⟩

set_option maxRecDepth 100000 in
set_option maxHeartbeats 4000000 in
theorem bound_None_Count.calls (k : Nat)   {t w : World} {f : FM} {H : List Seg} (HS : St t w f (H)) (rr1 : S_Bound) (h : bound_None_Count k = some rr1) :
    Calls Tryz.prog 37 #[] w (fun e w' => ∃ (g : FM), e = .returned (Value.agg #[.int .i64 rr1.Lo, .int .i64 rr1.Hi, .bool rr1.Unknown]) ∧ FM.le f g ∧ St t w' g (H)) := by
 unfold bound_None_Count at h
 refine enter Tryz.func37 rfl (tm := #[uV, uV]) kr ?_
 intro B hret hnor hnp
 refine wp_seq_k fun K1 hK2 => rl ?_
 refine seqK rfl (does_alloc (z := Value.agg #[.int .i64 0, .int .i64 0, .bool false]) (cs := #[.int .i64 0, .int .i64 0, .bool false]) rfl kr rfl HS ?_)
 intro b3 W4 HS5
 refine nl (hK2 _ _ ?_)
 refine wp_seq_k fun K7 hK8 => rl ?_
 refine seqL1 kr ?_
 refine seqK rfl (does_store (n := 3) (vs := [.int .i64 0, .int .i64 0, .bool true]) (cs' := #[.int .i64 0, .int .i64 0, .bool true]) rfl kr (kv (.pointer (some ⟨b3, 0, none⟩))) (kv (.agg #[.int .i64 0, .int .i64 0, .bool true])) rfl rfl (by intro u_ hu_; simp only [List.mem_cons, List.not_mem_nil, or_false] at hu_; rcases hu_ with rfl | rfl | rfl <;> rfl) HS5 (Nat.le_of_ble_eq_true rfl) kr ?_)
 intro W9 HS10
 refine nl (hK8 _ _ ?_)
 refine wp_ret ?_
 refine hret _ _ ?_
 refine ends (v := Value.agg #[.int .i64 0, .int .i64 0, .bool true]) (results1 (q1 := .cell 0 43) kr (resN (n := 3) (cs := [.int .i64 0, .int .i64 0, .bool true]) (kv (.pointer (some ⟨b3, 0, none⟩))) Tryz.underlying43 rfl kr rfl (HS10.cells 0 3 _ rfl))) kr ?_
 have HS11 := HS10.drop
 injection h with h
 subst h
 exact ⟨f, rfl, FM.le.refl _, HS11⟩

set_option maxRecDepth 100000 in
set_option maxHeartbeats 4000000 in
theorem bound_Norm_Count.calls (k : Nat)  (b1 : S_Bound) {t w : World} {f : FM} {H : List Seg} (HS : St t w f (H)) (rr1 : S_Bound) (h : bound_Norm_Count k b1 = some rr1) :
    Calls Tryz.prog 26 #[.agg #[.int .i64 b1.Lo, .int .i64 b1.Hi, .bool b1.Unknown]] w (fun e w' => ∃ (g : FM), e = .returned (Value.agg #[.int .i64 rr1.Lo, .int .i64 rr1.Hi, .bool rr1.Unknown]) ∧ FM.le f g ∧ St t w' g (H)) := by
 unfold bound_Norm_Count at h
 refine enter Tryz.func26 rfl (tm := #[(ag_Bound b1), uV, uV, uV, uV, uV, uV, uV]) kr ?_
 intro B hret hnor hnp
 refine wp_seq_k fun K2 hK3 => rl ?_
 refine seqK rfl (does_box (cs := #[.int .i64 b1.Lo, .int .i64 b1.Hi, .bool b1.Unknown]) rfl (kv (.agg #[.int .i64 b1.Lo, .int .i64 b1.Hi, .bool b1.Unknown])) rfl HS ?_)
 intro b4 W5 HS6
 refine seqK rfl (does_alloc (z := Value.agg #[.int .i64 0, .int .i64 0, .bool false]) (cs := #[.int .i64 0, .int .i64 0, .bool false]) rfl kr rfl HS6 ?_)
 intro b8 W9 HS10
 refine nl (hK3 _ _ ?_)
 refine wp_seq_k (fun K12 hK13 => ?_)
 refine wp_seq_k fun K14 hK15 => rl ?_
 refine seqK rfl (does_run (run_loadN (n := 3) rfl Tryz.underlying43 rfl kr (kv (.pointer (some ⟨b4, 0, none⟩))) (cs := [.int .i64 b1.Lo, .int .i64 b1.Hi, .bool b1.Unknown]) rfl (HS10.u1.cells 0 3 _ rfl)) ?_)
 have hq_ := bind_some h; clear h; obtain ⟨vt16, hc17, h⟩ := hq_
 refine seqK rfl (does_call (f := 41) (args := #[.agg #[.int .i64 b1.Lo, .int .i64 b1.Hi, .bool b1.Unknown]]) kr (bound_Check_Count.calls k b1 HS10 vt16 hc17) ?_)
 rintro _ W20 ⟨f18, rfl, L19, HS21⟩
 refine ⟨_, rfl, ?_⟩
 refine seqL1 kr ?_
 refine nl (hK15 _ _ ?_)
 have hq_ := ite_some h; clear h; rcases hq_ with ⟨c23, h⟩ | ⟨c23, h⟩
 · have c23 : vt16 ≠ 0 := c23
   refine wpRwI 5 (x := (vt16 != 0)) (v := true) kr (bne_iff_ne.mpr c23) ?_
   refine condT kr ?_
   refine wp_seq_k fun K24 hK25 => rl ?_
   have hq_ := bind_some h; clear h; obtain ⟨vt26, hc27, h⟩ := hq_
   refine seqK rfl (does_call (f := 37) (args := #[]) kr (bound_None_Count.calls k  HS21 vt26 hc27) ?_)
   rintro _ W30 ⟨f28, rfl, L29, HS31⟩
   refine ⟨_, rfl, ?_⟩
   refine seqK rfl (does_store (n := 3) (vs := [.int .i64 vt26.Lo, .int .i64 vt26.Hi, .bool vt26.Unknown]) (cs' := #[.int .i64 vt26.Lo, .int .i64 vt26.Hi, .bool vt26.Unknown]) rfl kr (kv (.pointer (some ⟨b8, 0, none⟩))) (kv (.agg #[.int .i64 vt26.Lo, .int .i64 vt26.Hi, .bool vt26.Unknown])) rfl rfl (by intro u_ hu_; simp only [List.mem_cons, List.not_mem_nil, or_false] at hu_; rcases hu_ with rfl | rfl | rfl <;> rfl) HS31 (Nat.le_of_ble_eq_true rfl) kr ?_)
   intro W32 HS33
   refine nl (hK25 _ _ ?_)
   refine wp_ret ?_
   refine hret _ _ ?_
   refine ends (v := Value.agg #[.int .i64 vt26.Lo, .int .i64 vt26.Hi, .bool vt26.Unknown]) (results1 (q1 := .cell 2 43) kr (resN (n := 3) (cs := [.int .i64 vt26.Lo, .int .i64 vt26.Hi, .bool vt26.Unknown]) (kv (.pointer (some ⟨b8, 0, none⟩))) Tryz.underlying43 rfl kr rfl (HS33.cells 0 3 _ rfl))) kr ?_
   have HS38 := HS33.drop
   have HS39 := HS38.drop
   injection h with h
   subst h
   exact ⟨f28, rfl, (L19.trans L29), HS39⟩
 · have c23 : ¬ (vt16 ≠ 0) := c23
   refine wpRwI 5 (x := (vt16 != 0)) (v := false) kr (bne_eq_false_iff_eq.mpr (Decidable.of_not_not c23)) ?_
   refine condF kr ?_
   refine wp_skip ?_
   refine hK13 _ _ ?_
   refine wp_seq_k fun K34 hK35 => rl ?_
   refine seqK rfl (does_run (run_loadN (n := 3) rfl Tryz.underlying43 rfl kr (kv (.pointer (some ⟨b4, 0, none⟩))) (cs := [.int .i64 b1.Lo, .int .i64 b1.Hi, .bool b1.Unknown]) rfl (HS21.u1.cells 0 3 _ rfl)) ?_)
   refine seqK rfl (does_store (n := 3) (vs := [.int .i64 b1.Lo, .int .i64 b1.Hi, .bool b1.Unknown]) (cs' := #[.int .i64 b1.Lo, .int .i64 b1.Hi, .bool b1.Unknown]) rfl kr (kv (.pointer (some ⟨b8, 0, none⟩))) (kv (.agg #[.int .i64 b1.Lo, .int .i64 b1.Hi, .bool b1.Unknown])) rfl rfl (by intro u_ hu_; simp only [List.mem_cons, List.not_mem_nil, or_false] at hu_; rcases hu_ with rfl | rfl | rfl <;> rfl) HS21 (Nat.le_of_ble_eq_true rfl) kr ?_)
   intro W36 HS37
   refine nl (hK35 _ _ ?_)
   refine wp_ret ?_
   refine hret _ _ ?_
   refine ends (v := Value.agg #[.int .i64 b1.Lo, .int .i64 b1.Hi, .bool b1.Unknown]) (results1 (q1 := .cell 2 43) kr (resN (n := 3) (cs := [.int .i64 b1.Lo, .int .i64 b1.Hi, .bool b1.Unknown]) (kv (.pointer (some ⟨b8, 0, none⟩))) Tryz.underlying43 rfl kr rfl (HS37.cells 0 3 _ rfl))) kr ?_
   have HS40 := HS37.drop
   have HS41 := HS40.drop
   injection h with h
   subst h
   exact ⟨f18, rfl, L19, HS41⟩

set_option maxRecDepth 100000 in
set_option maxHeartbeats 4000000 in
theorem bound_Of_Count.calls (k : Nat)  (lo1 : Int) (hi2 : Int) {t w : World} {f : FM} {H : List Seg} (HS : St t w f (H)) (rr1 : S_Bound) (h : bound_Of_Count k lo1 hi2 = some rr1) :
    Calls Tryz.prog 9 #[.int .i64 lo1, .int .i64 hi2] w (fun e w' => ∃ (g : FM), e = .returned (Value.agg #[.int .i64 rr1.Lo, .int .i64 rr1.Hi, .bool rr1.Unknown]) ∧ FM.le f g ∧ St t w' g (H)) := by
 unfold bound_Of_Count at h
 refine enter Tryz.func9 rfl (tm := #[iV lo1, iV hi2, uV, uV, uV, uV, uV, uV, uV]) kr ?_
 intro B hret hnor hnp
 refine wp_seq_k fun K3 hK4 => rl ?_
 refine seqK rfl (does_alloc (z := Value.agg #[.int .i64 0, .int .i64 0, .bool false]) (cs := #[.int .i64 0, .int .i64 0, .bool false]) rfl kr rfl HS ?_)
 intro b5 W6 HS7
 refine nl (hK4 _ _ ?_)
 refine wp_seq_k fun K9 hK10 => rl ?_
 have hq_ := bind_some h; clear h; obtain ⟨vt11, hc12, h⟩ := hq_
 refine seqL3 kr ?_
 refine seqK rfl (does_call (f := 26) (args := #[.agg #[.int .i64 lo1, .int .i64 hi2, .bool false]]) kr (bound_Norm_Count.calls k (⟨lo1, hi2, false⟩ : S_Bound) HS7 vt11 hc12) ?_)
 rintro _ W15 ⟨f13, rfl, L14, HS16⟩
 refine ⟨_, rfl, ?_⟩
 refine seqK rfl (does_store (n := 3) (vs := [.int .i64 vt11.Lo, .int .i64 vt11.Hi, .bool vt11.Unknown]) (cs' := #[.int .i64 vt11.Lo, .int .i64 vt11.Hi, .bool vt11.Unknown]) rfl kr (kv (.pointer (some ⟨b5, 0, none⟩))) (kv (.agg #[.int .i64 vt11.Lo, .int .i64 vt11.Hi, .bool vt11.Unknown])) rfl rfl (by intro u_ hu_; simp only [List.mem_cons, List.not_mem_nil, or_false] at hu_; rcases hu_ with rfl | rfl | rfl <;> rfl) HS16 (Nat.le_of_ble_eq_true rfl) kr ?_)
 intro W17 HS18
 refine nl (hK10 _ _ ?_)
 refine wp_ret ?_
 refine hret _ _ ?_
 refine ends (v := Value.agg #[.int .i64 vt11.Lo, .int .i64 vt11.Hi, .bool vt11.Unknown]) (results1 (q1 := .cell 4 43) kr (resN (n := 3) (cs := [.int .i64 vt11.Lo, .int .i64 vt11.Hi, .bool vt11.Unknown]) (kv (.pointer (some ⟨b5, 0, none⟩))) Tryz.underlying43 rfl kr rfl (HS18.cells 0 3 _ rfl))) kr ?_
 have HS19 := HS18.drop
 injection h with h
 subst h
 exact ⟨f13, rfl, L14, HS19⟩

set_option maxRecDepth 100000 in
set_option maxHeartbeats 4000000 in
theorem bound_None_Quanta.calls (k : Nat)   {t w : World} {f : FM} {H : List Seg} (HS : St t w f (H)) (rr1 : S_Bound) (h : bound_None_Quanta k = some rr1) :
    Calls Tryz.prog 30 #[] w (fun e w' => ∃ (g : FM), e = .returned (Value.agg #[.int .i64 rr1.Lo, .int .i64 rr1.Hi, .bool rr1.Unknown]) ∧ FM.le f g ∧ St t w' g (H)) := by
 unfold bound_None_Quanta at h
 refine enter Tryz.func30 rfl (tm := #[uV, uV]) kr ?_
 intro B hret hnor hnp
 refine wp_seq_k fun K1 hK2 => rl ?_
 refine seqK rfl (does_alloc (z := Value.agg #[.int .i64 0, .int .i64 0, .bool false]) (cs := #[.int .i64 0, .int .i64 0, .bool false]) rfl kr rfl HS ?_)
 intro b3 W4 HS5
 refine nl (hK2 _ _ ?_)
 refine wp_seq_k fun K7 hK8 => rl ?_
 refine seqL1 kr ?_
 refine seqK rfl (does_store (n := 3) (vs := [.int .i64 0, .int .i64 0, .bool true]) (cs' := #[.int .i64 0, .int .i64 0, .bool true]) rfl kr (kv (.pointer (some ⟨b3, 0, none⟩))) (kv (.agg #[.int .i64 0, .int .i64 0, .bool true])) rfl rfl (by intro u_ hu_; simp only [List.mem_cons, List.not_mem_nil, or_false] at hu_; rcases hu_ with rfl | rfl | rfl <;> rfl) HS5 (Nat.le_of_ble_eq_true rfl) kr ?_)
 intro W9 HS10
 refine nl (hK8 _ _ ?_)
 refine wp_ret ?_
 refine hret _ _ ?_
 refine ends (v := Value.agg #[.int .i64 0, .int .i64 0, .bool true]) (results1 (q1 := .cell 0 56) kr (resN (n := 3) (cs := [.int .i64 0, .int .i64 0, .bool true]) (kv (.pointer (some ⟨b3, 0, none⟩))) Tryz.underlying56 rfl kr rfl (HS10.cells 0 3 _ rfl))) kr ?_
 have HS11 := HS10.drop
 injection h with h
 subst h
 exact ⟨f, rfl, FM.le.refl _, HS11⟩

set_option maxRecDepth 100000 in
set_option maxHeartbeats 4000000 in
theorem bound_Check_Quanta.calls (k : Nat)  (b1 : S_Bound) {t w : World} {f : FM} {H : List Seg} (HS : St t w f (H)) (rr1 : Int) (h : bound_Check_Quanta k b1 = some rr1) :
    Calls Tryz.prog 50 #[.agg #[.int .i64 b1.Lo, .int .i64 b1.Hi, .bool b1.Unknown]] w (fun e w' => ∃ (g : FM), e = .returned (Value.int .i64 rr1) ∧ FM.le f g ∧ St t w' g (H)) := by
 unfold bound_Check_Quanta at h
 refine enter Tryz.func50 rfl (tm := #[(ag_Bound b1), uV, uV, uV, uV, uV, uV, uV, uV, uV, uV, uV, uV, uV, uV, uV, uV, uV, uV, uV, uV, uV, uV, uV, uV, uV, uV, uV, uV, uV, uV, uV, uV, uV, uV, uV, uV]) kr ?_
 intro B hret hnor hnp
 refine wp_seq_k fun K2 hK3 => rl ?_
 refine seqK rfl (does_box (cs := #[.int .i64 b1.Lo, .int .i64 b1.Hi, .bool b1.Unknown]) rfl (kv (.agg #[.int .i64 b1.Lo, .int .i64 b1.Hi, .bool b1.Unknown])) rfl HS ?_)
 intro b4 W5 HS6
 refine seqL1 kr ?_
 refine nl (hK3 _ _ ?_)
 refine wp_seq_k (fun K8 hK9 => ?_)
 refine blockK (fun B10 hx11 hn12 hr13 ho14 hp15 => ?_)
 refine wp_seq_k fun K17 hK18 => rl ?_
 refine seqL1 kr ?_
 refine seqK rfl (does_run (run_load rfl Tryz.underlying4 rfl (kv (.pointer (some ⟨b4, 2, none⟩))) (HS6.cell 2)) ?_)
 refine seqL1 kr ?_
 have hq_ := ite_some h; clear h; rcases hq_ with ⟨c19, h⟩ | ⟨c19, h⟩
 · have c19 : b1.Unknown = true := c19
   refine seqRwI 5 (x := b1.Unknown) (v := true) kr c19 ?_
   refine seqRwI 6 (x := b1.Unknown) (v := true) kr c19 ?_
   refine seqL1 kr ?_
   refine seqG kr (does_run (run_load rfl Tryz.underlying28 rfl (kv (.pointer (some ⟨b4, 0, none⟩))) (HS6.cell 0)) ?_)
   refine seqL2 kr ?_
   have hq_ := ite_some h; clear h; rcases hq_ with ⟨c20, h⟩ | ⟨c20, h⟩
   · have c20 : b1.Lo ≠ 0 := c20
     refine seqRwI 9 (x := (b1.Lo != 0)) (v := true) kr (bne_iff_ne.mpr c20) ?_
     refine seqRwI 10 (x := (b1.Lo != 0)) (v := true) kr (bne_iff_ne.mpr c20) ?_
     refine seqL6 kr ?_
     refine nl (hK18 _ _ ?_)
     refine condT kr ?_
     refine wp_seq_k fun K21 hK22 => rl ?_
     refine seqL1 kr ?_
     refine nl (hK22 _ _ ?_)
     refine wp_ret ?_
     refine hr13 _ _ ?_
     refine hret _ _ ?_
     refine ends_still (v := Value.int .i64 3) kr kr ?_
     have HS61 := HS6.drop
     injection h with h
     subst h
     exact ⟨f, rfl, FM.le.refl _, HS61⟩
   · have c20 : ¬ (b1.Lo ≠ 0) := c20
     refine seqRwI 9 (x := (b1.Lo != 0)) (v := false) kr (bne_eq_false_iff_eq.mpr (Decidable.of_not_not c20)) ?_
     refine seqRwI 10 (x := (b1.Lo != 0)) (v := false) kr (bne_eq_false_iff_eq.mpr (Decidable.of_not_not c20)) ?_
     refine seqL1 kr ?_
     refine seqG kr (does_run (run_load rfl Tryz.underlying28 rfl (kv (.pointer (some ⟨b4, 1, none⟩))) (HS6.cell 1)) ?_)
     refine seqL4 kr ?_
     refine nl (hK18 _ _ ?_)
     have hq_ := ite_some h; clear h; rcases hq_ with ⟨c24, h⟩ | ⟨c24, h⟩
     · have c24 : b1.Hi ≠ 0 := c24
       refine wpRwI 3 (x := (b1.Hi != 0)) (v := true) kr (bne_iff_ne.mpr c24) ?_
       refine wpRwI 13 (x := (b1.Hi != 0)) (v := true) kr (bne_iff_ne.mpr c24) ?_
       refine wpRwI 14 (x := (b1.Hi != 0)) (v := true) kr (bne_iff_ne.mpr c24) ?_
       refine wpRwI 15 (x := (b1.Hi != 0)) (v := true) kr (bne_iff_ne.mpr c24) ?_
       refine condT kr ?_
       refine wp_seq_k fun K25 hK26 => rl ?_
       refine seqL1 kr ?_
       refine nl (hK26 _ _ ?_)
       refine wp_ret ?_
       refine hr13 _ _ ?_
       refine hret _ _ ?_
       refine ends_still (v := Value.int .i64 3) kr kr ?_
       have HS62 := HS6.drop
       injection h with h
       subst h
       exact ⟨f, rfl, FM.le.refl _, HS62⟩
     · have c24 : ¬ (b1.Hi ≠ 0) := c24
       refine wpRwI 3 (x := (b1.Hi != 0)) (v := false) kr (bne_eq_false_iff_eq.mpr (Decidable.of_not_not c24)) ?_
       refine wpRwI 13 (x := (b1.Hi != 0)) (v := false) kr (bne_eq_false_iff_eq.mpr (Decidable.of_not_not c24)) ?_
       refine wpRwI 14 (x := (b1.Hi != 0)) (v := false) kr (bne_eq_false_iff_eq.mpr (Decidable.of_not_not c24)) ?_
       refine wpRwI 15 (x := (b1.Hi != 0)) (v := false) kr (bne_eq_false_iff_eq.mpr (Decidable.of_not_not c24)) ?_
       refine condF kr ?_
       refine wp_seq_k fun K27 hK28 => rl ?_
       refine seqL1 kr ?_
       refine seqK rfl (does_run (run_load rfl Tryz.underlying28 rfl (kv (.pointer (some ⟨b4, 0, none⟩))) (HS6.cell 0)) ?_)
       refine seqL1 kr ?_
       refine seqK rfl (does_run (run_load rfl Tryz.underlying28 rfl (kv (.pointer (some ⟨b4, 1, none⟩))) (HS6.cell 1)) ?_)
       refine seqL3 kr ?_
       have hq_ := ite_some h; clear h; rcases hq_ with ⟨c29, h⟩ | ⟨c29, h⟩
       · have c29 : (mn b1.Lo b1.Hi) < (-1152921504606846976) := c29
         refine seqRwI 22 (x := (decide ((mn b1.Lo b1.Hi) < (-1152921504606846976)))) (v := true) kr (decide_eq_true c29) ?_
         refine seqRwI 23 (x := (decide ((mn b1.Lo b1.Hi) < (-1152921504606846976)))) (v := true) kr (decide_eq_true c29) ?_
         refine seqL8 kr ?_
         refine nl (hK28 _ _ ?_)
         refine condT kr ?_
         refine wp_seq_k fun K30 hK31 => rl ?_
         refine seqL1 kr ?_
         refine nl (hK31 _ _ ?_)
         refine wp_ret ?_
         refine hr13 _ _ ?_
         refine hret _ _ ?_
         refine ends_still (v := Value.int .i64 4) kr kr ?_
         have HS63 := HS6.drop
         injection h with h
         subst h
         exact ⟨f, rfl, FM.le.refl _, HS63⟩
       · have c29 : ¬ ((mn b1.Lo b1.Hi) < (-1152921504606846976)) := c29
         refine seqRwI 22 (x := (decide ((mn b1.Lo b1.Hi) < (-1152921504606846976)))) (v := false) kr (decide_eq_false c29) ?_
         refine seqRwI 23 (x := (decide ((mn b1.Lo b1.Hi) < (-1152921504606846976)))) (v := false) kr (decide_eq_false c29) ?_
         refine seqL1 kr ?_
         refine seqG kr (does_run (run_load rfl Tryz.underlying28 rfl (kv (.pointer (some ⟨b4, 0, none⟩))) (HS6.cell 0)) ?_)
         refine seqL1 kr ?_
         refine seqG kr (does_run (run_load rfl Tryz.underlying28 rfl (kv (.pointer (some ⟨b4, 1, none⟩))) (HS6.cell 1)) ?_)
         refine seqL4 kr ?_
         refine nl (hK28 _ _ ?_)
         have hq_ := ite_some h; clear h; rcases hq_ with ⟨c33, h⟩ | ⟨c33, h⟩
         · have c33 : (mx b1.Lo b1.Hi) > 1152921504606846976 := c33
           refine wpRwI 16 (x := (decide ((mx b1.Lo b1.Hi) > 1152921504606846976))) (v := true) kr (decide_eq_true c33) ?_
           refine wpRwI 29 (x := (decide ((mx b1.Lo b1.Hi) > 1152921504606846976))) (v := true) kr (decide_eq_true c33) ?_
           refine wpRwI 30 (x := (decide ((mx b1.Lo b1.Hi) > 1152921504606846976))) (v := true) kr (decide_eq_true c33) ?_
           refine condT kr ?_
           refine wp_seq_k fun K34 hK35 => rl ?_
           refine seqL1 kr ?_
           refine nl (hK35 _ _ ?_)
           refine wp_ret ?_
           refine hr13 _ _ ?_
           refine hret _ _ ?_
           refine ends_still (v := Value.int .i64 4) kr kr ?_
           have HS64 := HS6.drop
           injection h with h
           subst h
           exact ⟨f, rfl, FM.le.refl _, HS64⟩
         · have c33 : ¬ ((mx b1.Lo b1.Hi) > 1152921504606846976) := c33
           refine wpRwI 16 (x := (decide ((mx b1.Lo b1.Hi) > 1152921504606846976))) (v := false) kr (decide_eq_false c33) ?_
           refine wpRwI 29 (x := (decide ((mx b1.Lo b1.Hi) > 1152921504606846976))) (v := false) kr (decide_eq_false c33) ?_
           refine wpRwI 30 (x := (decide ((mx b1.Lo b1.Hi) > 1152921504606846976))) (v := false) kr (decide_eq_false c33) ?_
           refine condF kr ?_
           refine wp_seq_k fun K36 hK37 => rl ?_
           refine seqL1 kr ?_
           refine seqK rfl (does_run (run_load rfl Tryz.underlying28 rfl (kv (.pointer (some ⟨b4, 0, none⟩))) (HS6.cell 0)) ?_)
           refine seqL1 kr ?_
           refine seqK rfl (does_run (run_load rfl Tryz.underlying28 rfl (kv (.pointer (some ⟨b4, 1, none⟩))) (HS6.cell 1)) ?_)
           refine seqL2 kr ?_
           refine nl (hK37 _ _ ?_)
           have hq_ := ite_some h; clear h; rcases hq_ with ⟨c39, h⟩ | ⟨c39, h⟩
           · have c39 : b1.Lo > b1.Hi := c39
             refine wpRwI 31 (x := (decide (b1.Lo > b1.Hi))) (v := true) kr (decide_eq_true c39) ?_
             refine wpRwI 36 (x := (decide (b1.Lo > b1.Hi))) (v := true) kr (decide_eq_true c39) ?_
             refine condT kr ?_
             refine wp_seq_k fun K40 hK41 => rl ?_
             refine seqL1 kr ?_
             refine nl (hK41 _ _ ?_)
             refine wp_ret ?_
             refine hr13 _ _ ?_
             refine hret _ _ ?_
             refine ends_still (v := Value.int .i64 11) kr kr ?_
             have HS65 := HS6.drop
             injection h with h
             subst h
             exact ⟨f, rfl, FM.le.refl _, HS65⟩
           · have c39 : ¬ (b1.Lo > b1.Hi) := c39
             refine wpRwI 31 (x := (decide (b1.Lo > b1.Hi))) (v := false) kr (decide_eq_false c39) ?_
             refine wpRwI 36 (x := (decide (b1.Lo > b1.Hi))) (v := false) kr (decide_eq_false c39) ?_
             refine condF kr ?_
             refine wp_skip ?_
             refine hn12 _ _ ?_
             refine hK9 _ _ ?_
             refine wp_seq_k fun K57 hK58 => rl ?_
             refine seqL1 kr ?_
             refine nl (hK58 _ _ ?_)
             refine wp_ret ?_
             refine hret _ _ ?_
             refine ends_still (v := Value.int .i64 0) kr kr ?_
             have HS69 := HS6.drop
             injection h with h
             subst h
             exact ⟨f, rfl, FM.le.refl _, HS69⟩
 · have c19 : ¬ (b1.Unknown = true) := c19
   refine seqRwI 5 (x := b1.Unknown) (v := false) kr (Bool.eq_false_iff.mpr c19) ?_
   refine seqRwI 6 (x := b1.Unknown) (v := false) kr (Bool.eq_false_iff.mpr c19) ?_
   refine seqL10 kr ?_
   refine nl (hK18 _ _ ?_)
   refine condF kr ?_
   refine wp_seq_k fun K42 hK43 => rl ?_
   refine seqL1 kr ?_
   refine seqK rfl (does_run (run_load rfl Tryz.underlying28 rfl (kv (.pointer (some ⟨b4, 0, none⟩))) (HS6.cell 0)) ?_)
   refine seqL1 kr ?_
   refine seqK rfl (does_run (run_load rfl Tryz.underlying28 rfl (kv (.pointer (some ⟨b4, 1, none⟩))) (HS6.cell 1)) ?_)
   refine seqL3 kr ?_
   have hq_ := ite_some h; clear h; rcases hq_ with ⟨c44, h⟩ | ⟨c44, h⟩
   · have c44 : (mn b1.Lo b1.Hi) < (-1152921504606846976) := c44
     refine seqRwI 22 (x := (decide ((mn b1.Lo b1.Hi) < (-1152921504606846976)))) (v := true) kr (decide_eq_true c44) ?_
     refine seqRwI 23 (x := (decide ((mn b1.Lo b1.Hi) < (-1152921504606846976)))) (v := true) kr (decide_eq_true c44) ?_
     refine seqL8 kr ?_
     refine nl (hK43 _ _ ?_)
     refine condT kr ?_
     refine wp_seq_k fun K45 hK46 => rl ?_
     refine seqL1 kr ?_
     refine nl (hK46 _ _ ?_)
     refine wp_ret ?_
     refine hr13 _ _ ?_
     refine hret _ _ ?_
     refine ends_still (v := Value.int .i64 4) kr kr ?_
     have HS66 := HS6.drop
     injection h with h
     subst h
     exact ⟨f, rfl, FM.le.refl _, HS66⟩
   · have c44 : ¬ ((mn b1.Lo b1.Hi) < (-1152921504606846976)) := c44
     refine seqRwI 22 (x := (decide ((mn b1.Lo b1.Hi) < (-1152921504606846976)))) (v := false) kr (decide_eq_false c44) ?_
     refine seqRwI 23 (x := (decide ((mn b1.Lo b1.Hi) < (-1152921504606846976)))) (v := false) kr (decide_eq_false c44) ?_
     refine seqL1 kr ?_
     refine seqG kr (does_run (run_load rfl Tryz.underlying28 rfl (kv (.pointer (some ⟨b4, 0, none⟩))) (HS6.cell 0)) ?_)
     refine seqL1 kr ?_
     refine seqG kr (does_run (run_load rfl Tryz.underlying28 rfl (kv (.pointer (some ⟨b4, 1, none⟩))) (HS6.cell 1)) ?_)
     refine seqL4 kr ?_
     refine nl (hK43 _ _ ?_)
     have hq_ := ite_some h; clear h; rcases hq_ with ⟨c48, h⟩ | ⟨c48, h⟩
     · have c48 : (mx b1.Lo b1.Hi) > 1152921504606846976 := c48
       refine wpRwI 16 (x := (decide ((mx b1.Lo b1.Hi) > 1152921504606846976))) (v := true) kr (decide_eq_true c48) ?_
       refine wpRwI 29 (x := (decide ((mx b1.Lo b1.Hi) > 1152921504606846976))) (v := true) kr (decide_eq_true c48) ?_
       refine wpRwI 30 (x := (decide ((mx b1.Lo b1.Hi) > 1152921504606846976))) (v := true) kr (decide_eq_true c48) ?_
       refine condT kr ?_
       refine wp_seq_k fun K49 hK50 => rl ?_
       refine seqL1 kr ?_
       refine nl (hK50 _ _ ?_)
       refine wp_ret ?_
       refine hr13 _ _ ?_
       refine hret _ _ ?_
       refine ends_still (v := Value.int .i64 4) kr kr ?_
       have HS67 := HS6.drop
       injection h with h
       subst h
       exact ⟨f, rfl, FM.le.refl _, HS67⟩
     · have c48 : ¬ ((mx b1.Lo b1.Hi) > 1152921504606846976) := c48
       refine wpRwI 16 (x := (decide ((mx b1.Lo b1.Hi) > 1152921504606846976))) (v := false) kr (decide_eq_false c48) ?_
       refine wpRwI 29 (x := (decide ((mx b1.Lo b1.Hi) > 1152921504606846976))) (v := false) kr (decide_eq_false c48) ?_
       refine wpRwI 30 (x := (decide ((mx b1.Lo b1.Hi) > 1152921504606846976))) (v := false) kr (decide_eq_false c48) ?_
       refine condF kr ?_
       refine wp_seq_k fun K51 hK52 => rl ?_
       refine seqL1 kr ?_
       refine seqK rfl (does_run (run_load rfl Tryz.underlying28 rfl (kv (.pointer (some ⟨b4, 0, none⟩))) (HS6.cell 0)) ?_)
       refine seqL1 kr ?_
       refine seqK rfl (does_run (run_load rfl Tryz.underlying28 rfl (kv (.pointer (some ⟨b4, 1, none⟩))) (HS6.cell 1)) ?_)
       refine seqL2 kr ?_
       refine nl (hK52 _ _ ?_)
       have hq_ := ite_some h; clear h; rcases hq_ with ⟨c54, h⟩ | ⟨c54, h⟩
       · have c54 : b1.Lo > b1.Hi := c54
         refine wpRwI 31 (x := (decide (b1.Lo > b1.Hi))) (v := true) kr (decide_eq_true c54) ?_
         refine wpRwI 36 (x := (decide (b1.Lo > b1.Hi))) (v := true) kr (decide_eq_true c54) ?_
         refine condT kr ?_
         refine wp_seq_k fun K55 hK56 => rl ?_
         refine seqL1 kr ?_
         refine nl (hK56 _ _ ?_)
         refine wp_ret ?_
         refine hr13 _ _ ?_
         refine hret _ _ ?_
         refine ends_still (v := Value.int .i64 11) kr kr ?_
         have HS68 := HS6.drop
         injection h with h
         subst h
         exact ⟨f, rfl, FM.le.refl _, HS68⟩
       · have c54 : ¬ (b1.Lo > b1.Hi) := c54
         refine wpRwI 31 (x := (decide (b1.Lo > b1.Hi))) (v := false) kr (decide_eq_false c54) ?_
         refine wpRwI 36 (x := (decide (b1.Lo > b1.Hi))) (v := false) kr (decide_eq_false c54) ?_
         refine condF kr ?_
         refine wp_skip ?_
         refine hn12 _ _ ?_
         refine hK9 _ _ ?_
         refine wp_seq_k fun K59 hK60 => rl ?_
         refine seqL1 kr ?_
         refine nl (hK60 _ _ ?_)
         refine wp_ret ?_
         refine hret _ _ ?_
         refine ends_still (v := Value.int .i64 0) kr kr ?_
         have HS70 := HS6.drop
         injection h with h
         subst h
         exact ⟨f, rfl, FM.le.refl _, HS70⟩

set_option maxRecDepth 100000 in
set_option maxHeartbeats 4000000 in
theorem bound_Norm_Quanta.calls (k : Nat)  (b1 : S_Bound) {t w : World} {f : FM} {H : List Seg} (HS : St t w f (H)) (rr1 : S_Bound) (h : bound_Norm_Quanta k b1 = some rr1) :
    Calls Tryz.prog 43 #[.agg #[.int .i64 b1.Lo, .int .i64 b1.Hi, .bool b1.Unknown]] w (fun e w' => ∃ (g : FM), e = .returned (Value.agg #[.int .i64 rr1.Lo, .int .i64 rr1.Hi, .bool rr1.Unknown]) ∧ FM.le f g ∧ St t w' g (H)) := by
 unfold bound_Norm_Quanta at h
 refine enter Tryz.func43 rfl (tm := #[(ag_Bound b1), uV, uV, uV, uV, uV, uV, uV]) kr ?_
 intro B hret hnor hnp
 refine wp_seq_k fun K2 hK3 => rl ?_
 refine seqK rfl (does_box (cs := #[.int .i64 b1.Lo, .int .i64 b1.Hi, .bool b1.Unknown]) rfl (kv (.agg #[.int .i64 b1.Lo, .int .i64 b1.Hi, .bool b1.Unknown])) rfl HS ?_)
 intro b4 W5 HS6
 refine seqK rfl (does_alloc (z := Value.agg #[.int .i64 0, .int .i64 0, .bool false]) (cs := #[.int .i64 0, .int .i64 0, .bool false]) rfl kr rfl HS6 ?_)
 intro b8 W9 HS10
 refine nl (hK3 _ _ ?_)
 refine wp_seq_k (fun K12 hK13 => ?_)
 refine wp_seq_k fun K14 hK15 => rl ?_
 refine seqK rfl (does_run (run_loadN (n := 3) rfl Tryz.underlying56 rfl kr (kv (.pointer (some ⟨b4, 0, none⟩))) (cs := [.int .i64 b1.Lo, .int .i64 b1.Hi, .bool b1.Unknown]) rfl (HS10.u1.cells 0 3 _ rfl)) ?_)
 have hq_ := bind_some h; clear h; obtain ⟨vt16, hc17, h⟩ := hq_
 refine seqK rfl (does_call (f := 50) (args := #[.agg #[.int .i64 b1.Lo, .int .i64 b1.Hi, .bool b1.Unknown]]) kr (bound_Check_Quanta.calls k b1 HS10 vt16 hc17) ?_)
 rintro _ W20 ⟨f18, rfl, L19, HS21⟩
 refine ⟨_, rfl, ?_⟩
 refine seqL1 kr ?_
 refine nl (hK15 _ _ ?_)
 have hq_ := ite_some h; clear h; rcases hq_ with ⟨c23, h⟩ | ⟨c23, h⟩
 · have c23 : vt16 ≠ 0 := c23
   refine wpRwI 5 (x := (vt16 != 0)) (v := true) kr (bne_iff_ne.mpr c23) ?_
   refine condT kr ?_
   refine wp_seq_k fun K24 hK25 => rl ?_
   have hq_ := bind_some h; clear h; obtain ⟨vt26, hc27, h⟩ := hq_
   refine seqK rfl (does_call (f := 30) (args := #[]) kr (bound_None_Quanta.calls k  HS21 vt26 hc27) ?_)
   rintro _ W30 ⟨f28, rfl, L29, HS31⟩
   refine ⟨_, rfl, ?_⟩
   refine seqK rfl (does_store (n := 3) (vs := [.int .i64 vt26.Lo, .int .i64 vt26.Hi, .bool vt26.Unknown]) (cs' := #[.int .i64 vt26.Lo, .int .i64 vt26.Hi, .bool vt26.Unknown]) rfl kr (kv (.pointer (some ⟨b8, 0, none⟩))) (kv (.agg #[.int .i64 vt26.Lo, .int .i64 vt26.Hi, .bool vt26.Unknown])) rfl rfl (by intro u_ hu_; simp only [List.mem_cons, List.not_mem_nil, or_false] at hu_; rcases hu_ with rfl | rfl | rfl <;> rfl) HS31 (Nat.le_of_ble_eq_true rfl) kr ?_)
   intro W32 HS33
   refine nl (hK25 _ _ ?_)
   refine wp_ret ?_
   refine hret _ _ ?_
   refine ends (v := Value.agg #[.int .i64 vt26.Lo, .int .i64 vt26.Hi, .bool vt26.Unknown]) (results1 (q1 := .cell 2 56) kr (resN (n := 3) (cs := [.int .i64 vt26.Lo, .int .i64 vt26.Hi, .bool vt26.Unknown]) (kv (.pointer (some ⟨b8, 0, none⟩))) Tryz.underlying56 rfl kr rfl (HS33.cells 0 3 _ rfl))) kr ?_
   have HS38 := HS33.drop
   have HS39 := HS38.drop
   injection h with h
   subst h
   exact ⟨f28, rfl, (L19.trans L29), HS39⟩
 · have c23 : ¬ (vt16 ≠ 0) := c23
   refine wpRwI 5 (x := (vt16 != 0)) (v := false) kr (bne_eq_false_iff_eq.mpr (Decidable.of_not_not c23)) ?_
   refine condF kr ?_
   refine wp_skip ?_
   refine hK13 _ _ ?_
   refine wp_seq_k fun K34 hK35 => rl ?_
   refine seqK rfl (does_run (run_loadN (n := 3) rfl Tryz.underlying56 rfl kr (kv (.pointer (some ⟨b4, 0, none⟩))) (cs := [.int .i64 b1.Lo, .int .i64 b1.Hi, .bool b1.Unknown]) rfl (HS21.u1.cells 0 3 _ rfl)) ?_)
   refine seqK rfl (does_store (n := 3) (vs := [.int .i64 b1.Lo, .int .i64 b1.Hi, .bool b1.Unknown]) (cs' := #[.int .i64 b1.Lo, .int .i64 b1.Hi, .bool b1.Unknown]) rfl kr (kv (.pointer (some ⟨b8, 0, none⟩))) (kv (.agg #[.int .i64 b1.Lo, .int .i64 b1.Hi, .bool b1.Unknown])) rfl rfl (by intro u_ hu_; simp only [List.mem_cons, List.not_mem_nil, or_false] at hu_; rcases hu_ with rfl | rfl | rfl <;> rfl) HS21 (Nat.le_of_ble_eq_true rfl) kr ?_)
   intro W36 HS37
   refine nl (hK35 _ _ ?_)
   refine wp_ret ?_
   refine hret _ _ ?_
   refine ends (v := Value.agg #[.int .i64 b1.Lo, .int .i64 b1.Hi, .bool b1.Unknown]) (results1 (q1 := .cell 2 56) kr (resN (n := 3) (cs := [.int .i64 b1.Lo, .int .i64 b1.Hi, .bool b1.Unknown]) (kv (.pointer (some ⟨b8, 0, none⟩))) Tryz.underlying56 rfl kr rfl (HS37.cells 0 3 _ rfl))) kr ?_
   have HS40 := HS37.drop
   have HS41 := HS40.drop
   injection h with h
   subst h
   exact ⟨f18, rfl, L19, HS41⟩

set_option maxRecDepth 100000 in
set_option maxHeartbeats 4000000 in
theorem bound_Of_Quanta.calls (k : Nat)  (lo1 : Int) (hi2 : Int) {t w : World} {f : FM} {H : List Seg} (HS : St t w f (H)) (rr1 : S_Bound) (h : bound_Of_Quanta k lo1 hi2 = some rr1) :
    Calls Tryz.prog 42 #[.int .i64 lo1, .int .i64 hi2] w (fun e w' => ∃ (g : FM), e = .returned (Value.agg #[.int .i64 rr1.Lo, .int .i64 rr1.Hi, .bool rr1.Unknown]) ∧ FM.le f g ∧ St t w' g (H)) := by
 unfold bound_Of_Quanta at h
 refine enter Tryz.func42 rfl (tm := #[iV lo1, iV hi2, uV, uV, uV, uV, uV, uV, uV]) kr ?_
 intro B hret hnor hnp
 refine wp_seq_k fun K3 hK4 => rl ?_
 refine seqK rfl (does_alloc (z := Value.agg #[.int .i64 0, .int .i64 0, .bool false]) (cs := #[.int .i64 0, .int .i64 0, .bool false]) rfl kr rfl HS ?_)
 intro b5 W6 HS7
 refine nl (hK4 _ _ ?_)
 refine wp_seq_k fun K9 hK10 => rl ?_
 have hq_ := bind_some h; clear h; obtain ⟨vt11, hc12, h⟩ := hq_
 refine seqL3 kr ?_
 refine seqK rfl (does_call (f := 43) (args := #[.agg #[.int .i64 lo1, .int .i64 hi2, .bool false]]) kr (bound_Norm_Quanta.calls k (⟨lo1, hi2, false⟩ : S_Bound) HS7 vt11 hc12) ?_)
 rintro _ W15 ⟨f13, rfl, L14, HS16⟩
 refine ⟨_, rfl, ?_⟩
 refine seqK rfl (does_store (n := 3) (vs := [.int .i64 vt11.Lo, .int .i64 vt11.Hi, .bool vt11.Unknown]) (cs' := #[.int .i64 vt11.Lo, .int .i64 vt11.Hi, .bool vt11.Unknown]) rfl kr (kv (.pointer (some ⟨b5, 0, none⟩))) (kv (.agg #[.int .i64 vt11.Lo, .int .i64 vt11.Hi, .bool vt11.Unknown])) rfl rfl (by intro u_ hu_; simp only [List.mem_cons, List.not_mem_nil, or_false] at hu_; rcases hu_ with rfl | rfl | rfl <;> rfl) HS16 (Nat.le_of_ble_eq_true rfl) kr ?_)
 intro W17 HS18
 refine nl (hK10 _ _ ?_)
 refine wp_ret ?_
 refine hret _ _ ?_
 refine ends (v := Value.agg #[.int .i64 vt11.Lo, .int .i64 vt11.Hi, .bool vt11.Unknown]) (results1 (q1 := .cell 4 56) kr (resN (n := 3) (cs := [.int .i64 vt11.Lo, .int .i64 vt11.Hi, .bool vt11.Unknown]) (kv (.pointer (some ⟨b5, 0, none⟩))) Tryz.underlying56 rfl kr rfl (HS18.cells 0 3 _ rfl))) kr ?_
 have HS19 := HS18.drop
 injection h with h
 subst h
 exact ⟨f13, rfl, L14, HS19⟩

set_option maxRecDepth 100000 in
set_option maxHeartbeats 4000000 in
theorem master_Counted.calls (k : Nat)  (vk1 : S_Camera) (bias2 : S_Bound) (count3 : Int) {t w : World} {f : FM} {H : List Seg} (HS : St t w f (H)) (rr1 : S_Bound) (h : master_Counted k vk1 bias2 count3 = some rr1) :
    Calls Tryz.prog 29 #[.agg #[.int .i64 vk1.W, .int .i64 vk1.H, .int .i64 vk1.Full, .int .i64 vk1.Gain, .int .i64 vk1.Noise], .agg #[.int .i64 bias2.Lo, .int .i64 bias2.Hi, .bool bias2.Unknown], .int .i64 count3] w (fun e w' => ∃ (g : FM), e = .returned (Value.agg #[.int .i64 rr1.Lo, .int .i64 rr1.Hi, .bool rr1.Unknown]) ∧ FM.le f g ∧ St t w' g (H)) := by
 unfold master_Counted at h
 refine enter Tryz.func29 rfl (tm := #[(ag_Camera vk1), (ag_Bound bias2), iV count3, uV, uV, uV, uV, uV, uV, uV, uV, uV, uV, uV, uV, uV, uV, uV, uV, uV, uV, uV, uV, uV, uV, uV, uV, uV, uV, uV, uV, uV, uV, uV, uV, uV, uV, uV, uV, uV, uV, uV, uV, uV, uV, uV, uV, uV, uV, uV, uV, uV, uV, uV, uV, uV, uV, uV, uV, uV, uV, uV, uV, uV, uV, uV, uV, uV]) kr ?_
 intro B hret hnor hnp
 refine wp_seq_k fun K4 hK5 => rl ?_
 refine seqK rfl (does_box (cs := #[.int .i64 vk1.W, .int .i64 vk1.H, .int .i64 vk1.Full, .int .i64 vk1.Gain, .int .i64 vk1.Noise]) rfl (kv (.agg #[.int .i64 vk1.W, .int .i64 vk1.H, .int .i64 vk1.Full, .int .i64 vk1.Gain, .int .i64 vk1.Noise])) rfl HS ?_)
 intro b6 W7 HS8
 refine seqK rfl (does_box (cs := #[.int .i64 bias2.Lo, .int .i64 bias2.Hi, .bool bias2.Unknown]) rfl (kv (.agg #[.int .i64 bias2.Lo, .int .i64 bias2.Hi, .bool bias2.Unknown])) rfl HS8 ?_)
 intro b10 W11 HS12
 refine seqK rfl (does_alloc (z := Value.agg #[.int .i64 0, .int .i64 0, .bool false]) (cs := #[.int .i64 0, .int .i64 0, .bool false]) rfl kr rfl HS12 ?_)
 intro b14 W15 HS16
 refine nl (hK5 _ _ ?_)
 refine wp_seq_k fun K18 hK19 => rl ?_
 refine seqK rfl (does_run (run_loadN (n := 3) rfl Tryz.underlying43 rfl kr (kv (.pointer (some ⟨b10, 0, none⟩))) (cs := [.int .i64 bias2.Lo, .int .i64 bias2.Hi, .bool bias2.Unknown]) rfl (HS16.u1.cells 0 3 _ rfl)) ?_)
 have hq_ := bind_some h; clear h; obtain ⟨vt20, hc21, h⟩ := hq_
 refine seqK rfl (does_call (f := 26) (args := #[.agg #[.int .i64 bias2.Lo, .int .i64 bias2.Hi, .bool bias2.Unknown]]) kr (bound_Norm_Count.calls k bias2 HS16 vt20 hc21) ?_)
 rintro _ W24 ⟨f22, rfl, L23, HS25⟩
 refine ⟨_, rfl, ?_⟩
 have HS26 := HS25.u1
 refine seqK rfl (does_store (n := 3) (vs := [.int .i64 vt20.Lo, .int .i64 vt20.Hi, .bool vt20.Unknown]) (cs' := #[.int .i64 vt20.Lo, .int .i64 vt20.Hi, .bool vt20.Unknown]) rfl kr (kv (.pointer (some ⟨b10, 0, none⟩))) (kv (.agg #[.int .i64 vt20.Lo, .int .i64 vt20.Hi, .bool vt20.Unknown])) rfl rfl (by intro u_ hu_; simp only [List.mem_cons, List.not_mem_nil, or_false] at hu_; rcases hu_ with rfl | rfl | rfl <;> rfl) HS26 (Nat.le_of_ble_eq_true rfl) kr ?_)
 intro W27 HS28
 refine nl (hK19 _ _ ?_)
 refine wp_seq_k (fun K29 hK30 => ?_)
 refine wp_seq_k fun K31 hK32 => rl ?_
 refine seqK rfl (does_run (run_loadN (n := 5) rfl Tryz.underlying50 rfl kr (kv (.pointer (some ⟨b6, 0, none⟩))) (cs := [.int .i64 vk1.W, .int .i64 vk1.H, .int .i64 vk1.Full, .int .i64 vk1.Gain, .int .i64 vk1.Noise]) rfl (HS28.u2.cells 0 5 _ rfl)) ?_)
 have hq_ := bind_some h; clear h; obtain ⟨vt33, hc34, h⟩ := hq_
 refine seqK rfl (does_call (f := 28) (args := #[.agg #[.int .i64 vk1.W, .int .i64 vk1.H, .int .i64 vk1.Full, .int .i64 vk1.Gain, .int .i64 vk1.Noise]]) kr (master_CheckCamera.calls k vk1 HS28 vt33 hc34) ?_)
 rintro _ W37 ⟨f35, rfl, L36, HS38⟩
 refine ⟨_, rfl, ?_⟩
 refine seqL2 kr ?_
 have hq_ := ite_some h; clear h; rcases hq_ with ⟨c39, h⟩ | ⟨c39, h⟩
 · have c39 : vt33 ≠ 0 := c39
   refine seqRwI 13 (x := (vt33 != 0)) (v := true) kr (bne_iff_ne.mpr c39) ?_
   refine seqRwI 14 (x := (vt33 != 0)) (v := true) kr (bne_iff_ne.mpr c39) ?_
   refine seqL21 kr ?_
   refine nl (hK32 _ _ ?_)
   refine condT kr ?_
   refine wp_seq_k fun K40 hK41 => rl ?_
   have hq_ := bind_some h; clear h; obtain ⟨vt42, hc43, h⟩ := hq_
   refine seqK rfl (does_call (f := 30) (args := #[]) kr (bound_None_Quanta.calls k  HS38 vt42 hc43) ?_)
   rintro _ W46 ⟨f44, rfl, L45, HS47⟩
   refine ⟨_, rfl, ?_⟩
   have HS48 := HS47.u1
   refine seqK rfl (does_store (n := 3) (vs := [.int .i64 vt42.Lo, .int .i64 vt42.Hi, .bool vt42.Unknown]) (cs' := #[.int .i64 vt42.Lo, .int .i64 vt42.Hi, .bool vt42.Unknown]) rfl kr (kv (.pointer (some ⟨b14, 0, none⟩))) (kv (.agg #[.int .i64 vt42.Lo, .int .i64 vt42.Hi, .bool vt42.Unknown])) rfl rfl (by intro u_ hu_; simp only [List.mem_cons, List.not_mem_nil, or_false] at hu_; rcases hu_ with rfl | rfl | rfl <;> rfl) HS48 (Nat.le_of_ble_eq_true rfl) kr ?_)
   intro W49 HS50
   refine nl (hK41 _ _ ?_)
   refine wp_ret ?_
   refine hret _ _ ?_
   refine ends (v := Value.agg #[.int .i64 vt42.Lo, .int .i64 vt42.Hi, .bool vt42.Unknown]) (results1 (q1 := .cell 6 56) kr (resN (n := 3) (cs := [.int .i64 vt42.Lo, .int .i64 vt42.Hi, .bool vt42.Unknown]) (kv (.pointer (some ⟨b14, 0, none⟩))) Tryz.underlying56 rfl kr rfl (HS50.cells 0 3 _ rfl))) kr ?_
   have HS144 := HS50.drop
   have HS145 := HS144.drop
   have HS146 := HS145.drop
   injection h with h
   subst h
   exact ⟨f44, rfl, (L23.trans (L36.trans L45)), HS146⟩
 · have c39 : ¬ (vt33 ≠ 0) := c39
   refine seqRwI 13 (x := (vt33 != 0)) (v := false) kr (bne_eq_false_iff_eq.mpr (Decidable.of_not_not c39)) ?_
   refine seqRwI 14 (x := (vt33 != 0)) (v := false) kr (bne_eq_false_iff_eq.mpr (Decidable.of_not_not c39)) ?_
   refine seqL1 kr ?_
   refine seqG kr (does_run (run_load rfl Tryz.underlying4 rfl (kv (.pointer (some ⟨b10, 2, none⟩))) (HS38.cell 2)) ?_)
   refine seqL2 kr ?_
   have hq_ := ite_some h; clear h; rcases hq_ with ⟨c51, h⟩ | ⟨c51, h⟩
   · have c51 : vt20.Unknown = true := c51
     refine seqRwI 16 (x := vt20.Unknown) (v := true) kr c51 ?_
     refine seqRwI 17 (x := vt20.Unknown) (v := true) kr c51 ?_
     refine seqRwI 18 (x := vt20.Unknown) (v := true) kr c51 ?_
     refine seqL17 kr ?_
     refine nl (hK32 _ _ ?_)
     refine condT kr ?_
     refine wp_seq_k fun K52 hK53 => rl ?_
     have hq_ := bind_some h; clear h; obtain ⟨vt54, hc55, h⟩ := hq_
     refine seqK rfl (does_call (f := 30) (args := #[]) kr (bound_None_Quanta.calls k  HS38 vt54 hc55) ?_)
     rintro _ W58 ⟨f56, rfl, L57, HS59⟩
     refine ⟨_, rfl, ?_⟩
     have HS60 := HS59.u1
     refine seqK rfl (does_store (n := 3) (vs := [.int .i64 vt54.Lo, .int .i64 vt54.Hi, .bool vt54.Unknown]) (cs' := #[.int .i64 vt54.Lo, .int .i64 vt54.Hi, .bool vt54.Unknown]) rfl kr (kv (.pointer (some ⟨b14, 0, none⟩))) (kv (.agg #[.int .i64 vt54.Lo, .int .i64 vt54.Hi, .bool vt54.Unknown])) rfl rfl (by intro u_ hu_; simp only [List.mem_cons, List.not_mem_nil, or_false] at hu_; rcases hu_ with rfl | rfl | rfl <;> rfl) HS60 (Nat.le_of_ble_eq_true rfl) kr ?_)
     intro W61 HS62
     refine nl (hK53 _ _ ?_)
     refine wp_ret ?_
     refine hret _ _ ?_
     refine ends (v := Value.agg #[.int .i64 vt54.Lo, .int .i64 vt54.Hi, .bool vt54.Unknown]) (results1 (q1 := .cell 6 56) kr (resN (n := 3) (cs := [.int .i64 vt54.Lo, .int .i64 vt54.Hi, .bool vt54.Unknown]) (kv (.pointer (some ⟨b14, 0, none⟩))) Tryz.underlying56 rfl kr rfl (HS62.cells 0 3 _ rfl))) kr ?_
     have HS147 := HS62.drop
     have HS148 := HS147.drop
     have HS149 := HS148.drop
     injection h with h
     subst h
     exact ⟨f56, rfl, (L23.trans (L36.trans L57)), HS149⟩
   · have c51 : ¬ (vt20.Unknown = true) := c51
     refine seqRwI 16 (x := vt20.Unknown) (v := false) kr (Bool.eq_false_iff.mpr c51) ?_
     refine seqRwI 17 (x := vt20.Unknown) (v := false) kr (Bool.eq_false_iff.mpr c51) ?_
     refine seqRwI 18 (x := vt20.Unknown) (v := false) kr (Bool.eq_false_iff.mpr c51) ?_
     refine seqL4 kr ?_
     have hq_ := ite_some h; clear h; rcases hq_ with ⟨c63, h⟩ | ⟨c63, h⟩
     · have c63 : count3 < 0 := c63
       refine seqRwI 20 (x := (decide (count3 < 0))) (v := true) kr (decide_eq_true c63) ?_
       refine seqRwI 21 (x := (decide (count3 < 0))) (v := true) kr (decide_eq_true c63) ?_
       refine seqRwI 22 (x := (decide (count3 < 0))) (v := true) kr (decide_eq_true c63) ?_
       refine seqL13 kr ?_
       refine nl (hK32 _ _ ?_)
       refine condT kr ?_
       refine wp_seq_k fun K64 hK65 => rl ?_
       have hq_ := bind_some h; clear h; obtain ⟨vt66, hc67, h⟩ := hq_
       refine seqK rfl (does_call (f := 30) (args := #[]) kr (bound_None_Quanta.calls k  HS38 vt66 hc67) ?_)
       rintro _ W70 ⟨f68, rfl, L69, HS71⟩
       refine ⟨_, rfl, ?_⟩
       have HS72 := HS71.u1
       refine seqK rfl (does_store (n := 3) (vs := [.int .i64 vt66.Lo, .int .i64 vt66.Hi, .bool vt66.Unknown]) (cs' := #[.int .i64 vt66.Lo, .int .i64 vt66.Hi, .bool vt66.Unknown]) rfl kr (kv (.pointer (some ⟨b14, 0, none⟩))) (kv (.agg #[.int .i64 vt66.Lo, .int .i64 vt66.Hi, .bool vt66.Unknown])) rfl rfl (by intro u_ hu_; simp only [List.mem_cons, List.not_mem_nil, or_false] at hu_; rcases hu_ with rfl | rfl | rfl <;> rfl) HS72 (Nat.le_of_ble_eq_true rfl) kr ?_)
       intro W73 HS74
       refine nl (hK65 _ _ ?_)
       refine wp_ret ?_
       refine hret _ _ ?_
       refine ends (v := Value.agg #[.int .i64 vt66.Lo, .int .i64 vt66.Hi, .bool vt66.Unknown]) (results1 (q1 := .cell 6 56) kr (resN (n := 3) (cs := [.int .i64 vt66.Lo, .int .i64 vt66.Hi, .bool vt66.Unknown]) (kv (.pointer (some ⟨b14, 0, none⟩))) Tryz.underlying56 rfl kr rfl (HS74.cells 0 3 _ rfl))) kr ?_
       have HS150 := HS74.drop
       have HS151 := HS150.drop
       have HS152 := HS151.drop
       injection h with h
       subst h
       exact ⟨f68, rfl, (L23.trans (L36.trans L69)), HS152⟩
     · have c63 : ¬ (count3 < 0) := c63
       refine seqRwI 20 (x := (decide (count3 < 0))) (v := false) kr (decide_eq_false c63) ?_
       refine seqRwI 21 (x := (decide (count3 < 0))) (v := false) kr (decide_eq_false c63) ?_
       refine seqRwI 22 (x := (decide (count3 < 0))) (v := false) kr (decide_eq_false c63) ?_
       refine seqL4 kr ?_
       have hq_ := ite_some h; clear h; rcases hq_ with ⟨c75, h⟩ | ⟨c75, h⟩
       · have c75 : count3 ≥ 65535 := c75
         refine seqRwI 24 (x := (decide (count3 ≥ 65535))) (v := true) kr (decide_eq_true c75) ?_
         refine seqRwI 25 (x := (decide (count3 ≥ 65535))) (v := true) kr (decide_eq_true c75) ?_
         refine seqRwI 26 (x := (decide (count3 ≥ 65535))) (v := true) kr (decide_eq_true c75) ?_
         refine seqL9 kr ?_
         refine nl (hK32 _ _ ?_)
         refine condT kr ?_
         refine wp_seq_k fun K76 hK77 => rl ?_
         have hq_ := bind_some h; clear h; obtain ⟨vt78, hc79, h⟩ := hq_
         refine seqK rfl (does_call (f := 30) (args := #[]) kr (bound_None_Quanta.calls k  HS38 vt78 hc79) ?_)
         rintro _ W82 ⟨f80, rfl, L81, HS83⟩
         refine ⟨_, rfl, ?_⟩
         have HS84 := HS83.u1
         refine seqK rfl (does_store (n := 3) (vs := [.int .i64 vt78.Lo, .int .i64 vt78.Hi, .bool vt78.Unknown]) (cs' := #[.int .i64 vt78.Lo, .int .i64 vt78.Hi, .bool vt78.Unknown]) rfl kr (kv (.pointer (some ⟨b14, 0, none⟩))) (kv (.agg #[.int .i64 vt78.Lo, .int .i64 vt78.Hi, .bool vt78.Unknown])) rfl rfl (by intro u_ hu_; simp only [List.mem_cons, List.not_mem_nil, or_false] at hu_; rcases hu_ with rfl | rfl | rfl <;> rfl) HS84 (Nat.le_of_ble_eq_true rfl) kr ?_)
         intro W85 HS86
         refine nl (hK77 _ _ ?_)
         refine wp_ret ?_
         refine hret _ _ ?_
         refine ends (v := Value.agg #[.int .i64 vt78.Lo, .int .i64 vt78.Hi, .bool vt78.Unknown]) (results1 (q1 := .cell 6 56) kr (resN (n := 3) (cs := [.int .i64 vt78.Lo, .int .i64 vt78.Hi, .bool vt78.Unknown]) (kv (.pointer (some ⟨b14, 0, none⟩))) Tryz.underlying56 rfl kr rfl (HS86.cells 0 3 _ rfl))) kr ?_
         have HS153 := HS86.drop
         have HS154 := HS153.drop
         have HS155 := HS154.drop
         injection h with h
         subst h
         exact ⟨f80, rfl, (L23.trans (L36.trans L81)), HS155⟩
       · have c75 : ¬ (count3 ≥ 65535) := c75
         refine seqRwI 24 (x := (decide (count3 ≥ 65535))) (v := false) kr (decide_eq_false c75) ?_
         refine seqRwI 25 (x := (decide (count3 ≥ 65535))) (v := false) kr (decide_eq_false c75) ?_
         refine seqRwI 26 (x := (decide (count3 ≥ 65535))) (v := false) kr (decide_eq_false c75) ?_
         refine seqL1 kr ?_
         refine seqG kr (does_run (run_load rfl Tryz.underlying41 rfl (kv (.pointer (some ⟨b10, 0, none⟩))) (HS38.cell 0)) ?_)
         refine seqL3 kr ?_
         have hq_ := ite_some h; clear h; rcases hq_ with ⟨c87, h⟩ | ⟨c87, h⟩
         · have c87 : vt20.Lo < 0 := c87
           refine seqRwI 29 (x := (decide (vt20.Lo < 0))) (v := true) kr (decide_eq_true c87) ?_
           refine seqRwI 30 (x := (decide (vt20.Lo < 0))) (v := true) kr (decide_eq_true c87) ?_
           refine seqRwI 31 (x := (decide (vt20.Lo < 0))) (v := true) kr (decide_eq_true c87) ?_
           refine seqL4 kr ?_
           refine nl (hK32 _ _ ?_)
           refine condT kr ?_
           refine wp_seq_k fun K88 hK89 => rl ?_
           have hq_ := bind_some h; clear h; obtain ⟨vt90, hc91, h⟩ := hq_
           refine seqK rfl (does_call (f := 30) (args := #[]) kr (bound_None_Quanta.calls k  HS38 vt90 hc91) ?_)
           rintro _ W94 ⟨f92, rfl, L93, HS95⟩
           refine ⟨_, rfl, ?_⟩
           have HS96 := HS95.u1
           refine seqK rfl (does_store (n := 3) (vs := [.int .i64 vt90.Lo, .int .i64 vt90.Hi, .bool vt90.Unknown]) (cs' := #[.int .i64 vt90.Lo, .int .i64 vt90.Hi, .bool vt90.Unknown]) rfl kr (kv (.pointer (some ⟨b14, 0, none⟩))) (kv (.agg #[.int .i64 vt90.Lo, .int .i64 vt90.Hi, .bool vt90.Unknown])) rfl rfl (by intro u_ hu_; simp only [List.mem_cons, List.not_mem_nil, or_false] at hu_; rcases hu_ with rfl | rfl | rfl <;> rfl) HS96 (Nat.le_of_ble_eq_true rfl) kr ?_)
           intro W97 HS98
           refine nl (hK89 _ _ ?_)
           refine wp_ret ?_
           refine hret _ _ ?_
           refine ends (v := Value.agg #[.int .i64 vt90.Lo, .int .i64 vt90.Hi, .bool vt90.Unknown]) (results1 (q1 := .cell 6 56) kr (resN (n := 3) (cs := [.int .i64 vt90.Lo, .int .i64 vt90.Hi, .bool vt90.Unknown]) (kv (.pointer (some ⟨b14, 0, none⟩))) Tryz.underlying56 rfl kr rfl (HS98.cells 0 3 _ rfl))) kr ?_
           have HS156 := HS98.drop
           have HS157 := HS156.drop
           have HS158 := HS157.drop
           injection h with h
           subst h
           exact ⟨f92, rfl, (L23.trans (L36.trans L93)), HS158⟩
         · have c87 : ¬ (vt20.Lo < 0) := c87
           refine seqRwI 29 (x := (decide (vt20.Lo < 0))) (v := false) kr (decide_eq_false c87) ?_
           refine seqRwI 30 (x := (decide (vt20.Lo < 0))) (v := false) kr (decide_eq_false c87) ?_
           refine seqRwI 31 (x := (decide (vt20.Lo < 0))) (v := false) kr (decide_eq_false c87) ?_
           refine seqL1 kr ?_
           refine seqG kr (does_run (run_load rfl Tryz.underlying41 rfl (kv (.pointer (some ⟨b10, 1, none⟩))) (HS38.cell 1)) ?_)
           refine seqL2 kr ?_
           refine nl (hK32 _ _ ?_)
           have hq_ := ite_some h; clear h; rcases hq_ with ⟨c100, h⟩ | ⟨c100, h⟩
           · have c100 : vt20.Hi > 65535 := c100
             refine wpRwI 34 (x := (decide (vt20.Hi > 65535))) (v := true) kr (decide_eq_true c100) ?_
             refine wpRwI 35 (x := (decide (vt20.Hi > 65535))) (v := true) kr (decide_eq_true c100) ?_
             refine condT kr ?_
             refine wp_seq_k fun K101 hK102 => rl ?_
             have hq_ := bind_some h; clear h; obtain ⟨vt103, hc104, h⟩ := hq_
             refine seqK rfl (does_call (f := 30) (args := #[]) kr (bound_None_Quanta.calls k  HS38 vt103 hc104) ?_)
             rintro _ W107 ⟨f105, rfl, L106, HS108⟩
             refine ⟨_, rfl, ?_⟩
             have HS109 := HS108.u1
             refine seqK rfl (does_store (n := 3) (vs := [.int .i64 vt103.Lo, .int .i64 vt103.Hi, .bool vt103.Unknown]) (cs' := #[.int .i64 vt103.Lo, .int .i64 vt103.Hi, .bool vt103.Unknown]) rfl kr (kv (.pointer (some ⟨b14, 0, none⟩))) (kv (.agg #[.int .i64 vt103.Lo, .int .i64 vt103.Hi, .bool vt103.Unknown])) rfl rfl (by intro u_ hu_; simp only [List.mem_cons, List.not_mem_nil, or_false] at hu_; rcases hu_ with rfl | rfl | rfl <;> rfl) HS109 (Nat.le_of_ble_eq_true rfl) kr ?_)
             intro W110 HS111
             refine nl (hK102 _ _ ?_)
             refine wp_ret ?_
             refine hret _ _ ?_
             refine ends (v := Value.agg #[.int .i64 vt103.Lo, .int .i64 vt103.Hi, .bool vt103.Unknown]) (results1 (q1 := .cell 6 56) kr (resN (n := 3) (cs := [.int .i64 vt103.Lo, .int .i64 vt103.Hi, .bool vt103.Unknown]) (kv (.pointer (some ⟨b14, 0, none⟩))) Tryz.underlying56 rfl kr rfl (HS111.cells 0 3 _ rfl))) kr ?_
             have HS159 := HS111.drop
             have HS160 := HS159.drop
             have HS161 := HS160.drop
             injection h with h
             subst h
             exact ⟨f105, rfl, (L23.trans (L36.trans L106)), HS161⟩
           · have c100 : ¬ (vt20.Hi > 65535) := c100
             refine wpRwI 34 (x := (decide (vt20.Hi > 65535))) (v := false) kr (decide_eq_false c100) ?_
             refine wpRwI 35 (x := (decide (vt20.Hi > 65535))) (v := false) kr (decide_eq_false c100) ?_
             refine condF kr ?_
             refine wp_skip ?_
             refine hK30 _ _ ?_
             refine wp_seq_k fun K112 hK113 => rl ?_
             refine seqL2 kr ?_
             refine seqK rfl (does_run (run_load rfl Tryz.underlying3 rfl (kv (.pointer (some ⟨b6, 4, none⟩))) (HS38.u2.cell 4)) ?_)
             refine seqL2 kr ?_
             refine seqK rfl (does_run (run_load rfl Tryz.underlying41 rfl (kv (.pointer (some ⟨b10, 1, none⟩))) (HS38.cell 1)) ?_)
             refine seqL2 kr ?_
             refine nl (hK113 _ _ ?_)
             refine wp_seq_k fun K114 hK115 => rl ?_
             refine seqL2 kr ?_
             refine seqK rfl (does_run (run_load rfl Tryz.underlying3 rfl (kv (.pointer (some ⟨b6, 4, none⟩))) (HS38.u2.cell 4)) ?_)
             refine seqL2 kr ?_
             refine seqK rfl (does_run (run_load rfl Tryz.underlying41 rfl (kv (.pointer (some ⟨b10, 0, none⟩))) (HS38.cell 0)) ?_)
             refine seqL2 kr ?_
             refine nl (hK115 _ _ ?_)
             refine wp_seq_k (fun K116 hK117 => ?_)
             refine wp_seq_k fun K118 hK119 => rl ?_
             refine seqL2 kr ?_
             refine nl (hK119 _ _ ?_)
             have hq_ := ite_some h; clear h; rcases hq_ with ⟨c121, h⟩ | ⟨c121, h⟩
             · have c121 : (w64 ((w64 (count3 + vk1.Noise)) - vt20.Lo)) < 0 := c121
               refine wpRwI 52 (x := (decide ((w64 ((w64 (count3 + vk1.Noise)) - vt20.Lo)) < 0))) (v := true) kr (decide_eq_true c121) ?_
               refine condT kr ?_
               refine wp_seq_k fun K122 hK123 => rl ?_
               have hq_ := bind_some h; clear h; obtain ⟨vt124, hc125, h⟩ := hq_
               refine seqK rfl (does_call (f := 30) (args := #[]) kr (bound_None_Quanta.calls k  HS38 vt124 hc125) ?_)
               rintro _ W128 ⟨f126, rfl, L127, HS129⟩
               refine ⟨_, rfl, ?_⟩
               have HS130 := HS129.u1
               refine seqK rfl (does_store (n := 3) (vs := [.int .i64 vt124.Lo, .int .i64 vt124.Hi, .bool vt124.Unknown]) (cs' := #[.int .i64 vt124.Lo, .int .i64 vt124.Hi, .bool vt124.Unknown]) rfl kr (kv (.pointer (some ⟨b14, 0, none⟩))) (kv (.agg #[.int .i64 vt124.Lo, .int .i64 vt124.Hi, .bool vt124.Unknown])) rfl rfl (by intro u_ hu_; simp only [List.mem_cons, List.not_mem_nil, or_false] at hu_; rcases hu_ with rfl | rfl | rfl <;> rfl) HS130 (Nat.le_of_ble_eq_true rfl) kr ?_)
               intro W131 HS132
               refine nl (hK123 _ _ ?_)
               refine wp_ret ?_
               refine hret _ _ ?_
               refine ends (v := Value.agg #[.int .i64 vt124.Lo, .int .i64 vt124.Hi, .bool vt124.Unknown]) (results1 (q1 := .cell 6 56) kr (resN (n := 3) (cs := [.int .i64 vt124.Lo, .int .i64 vt124.Hi, .bool vt124.Unknown]) (kv (.pointer (some ⟨b14, 0, none⟩))) Tryz.underlying56 rfl kr rfl (HS132.cells 0 3 _ rfl))) kr ?_
               have HS162 := HS132.drop
               have HS163 := HS162.drop
               have HS164 := HS163.drop
               injection h with h
               subst h
               exact ⟨f126, rfl, (L23.trans (L36.trans L127)), HS164⟩
             · have c121 : ¬ ((w64 ((w64 (count3 + vk1.Noise)) - vt20.Lo)) < 0) := c121
               refine wpRwI 52 (x := (decide ((w64 ((w64 (count3 + vk1.Noise)) - vt20.Lo)) < 0))) (v := false) kr (decide_eq_false c121) ?_
               refine condF kr ?_
               refine wp_skip ?_
               refine hK117 _ _ ?_
               refine wp_seq_k fun K133 hK134 => rl ?_
               refine seqL2 kr ?_
               refine seqK rfl (does_run (run_load rfl Tryz.underlying28 rfl (kv (.pointer (some ⟨b6, 3, none⟩))) (HS38.u2.cell 3)) ?_)
               refine seqL4 kr ?_
               refine seqK rfl (does_run (run_load rfl Tryz.underlying28 rfl (kv (.pointer (some ⟨b6, 3, none⟩))) (HS38.u2.cell 3)) ?_)
               refine seqL2 kr ?_
               refine seqK rfl (does_run (run_load rfl Tryz.underlying28 rfl (kv (.pointer (some ⟨b6, 3, none⟩))) (HS38.u2.cell 3)) ?_)
               have hq_ := bind_some h; clear h; obtain ⟨vt135, hc136, h⟩ := hq_
               refine seqL2 kr ?_
               refine seqK rfl (does_call (f := 42) (args := #[.int .i64 (mx 0 (w64 ((w64 ((w64 (count3 - vk1.Noise)) - vt20.Hi)) * vk1.Gain))), .int .i64 (w64 ((w64 ((w64 ((w64 ((w64 (count3 + vk1.Noise)) - vt20.Lo)) * vk1.Gain)) + vk1.Gain)) - 1))]) kr (bound_Of_Quanta.calls k (mx 0 (w64 ((w64 ((w64 (count3 - vk1.Noise)) - vt20.Hi)) * vk1.Gain))) (w64 ((w64 ((w64 ((w64 ((w64 (count3 + vk1.Noise)) - vt20.Lo)) * vk1.Gain)) + vk1.Gain)) - 1)) HS38 vt135 hc136) ?_)
               rintro _ W139 ⟨f137, rfl, L138, HS140⟩
               refine ⟨_, rfl, ?_⟩
               have HS141 := HS140.u1
               refine seqK rfl (does_store (n := 3) (vs := [.int .i64 vt135.Lo, .int .i64 vt135.Hi, .bool vt135.Unknown]) (cs' := #[.int .i64 vt135.Lo, .int .i64 vt135.Hi, .bool vt135.Unknown]) rfl kr (kv (.pointer (some ⟨b14, 0, none⟩))) (kv (.agg #[.int .i64 vt135.Lo, .int .i64 vt135.Hi, .bool vt135.Unknown])) rfl rfl (by intro u_ hu_; simp only [List.mem_cons, List.not_mem_nil, or_false] at hu_; rcases hu_ with rfl | rfl | rfl <;> rfl) HS141 (Nat.le_of_ble_eq_true rfl) kr ?_)
               intro W142 HS143
               refine nl (hK134 _ _ ?_)
               refine wp_ret ?_
               refine hret _ _ ?_
               refine ends (v := Value.agg #[.int .i64 vt135.Lo, .int .i64 vt135.Hi, .bool vt135.Unknown]) (results1 (q1 := .cell 6 56) kr (resN (n := 3) (cs := [.int .i64 vt135.Lo, .int .i64 vt135.Hi, .bool vt135.Unknown]) (kv (.pointer (some ⟨b14, 0, none⟩))) Tryz.underlying56 rfl kr rfl (HS143.cells 0 3 _ rfl))) kr ?_
               have HS165 := HS143.drop
               have HS166 := HS165.drop
               have HS167 := HS166.drop
               injection h with h
               subst h
               exact ⟨f137, rfl, (L23.trans (L36.trans L138)), HS167⟩

end Go.Sp.K3
