import Derived.Test.YtdogeeomknanpaaProg
import Derived.Test.YtdogeeomknanpaaSpCopy
import Derived.Test.YtdogeeomknanpaaFV3
import Derived.Test.YtdogeeomknanpaaKV3n0
namespace Go.Sp.V3
open Go Go.Sp Go.Proofs
set_option linter.unusedVariables false
attribute [local irreducible] wpList AnyL Code.wp Calls Does
set_option maxRecDepth 100000 in
set_option maxHeartbeats 4000000 in
theorem spykeep3_around.calls (k : Nat) (b1 : Nat) (A4 : Option Addr) (c5 : Nat) (s3 : S_Stream) (n7 : Int) (vf8 : Int) {t w : World} {f : FM} {H : List Seg} (HS : St t w f ([(b1, .cells #[.slice A4 s3.L.length c5, .int .i64 s3.vat] 25 (0, 0))] :: H)) (HR6 : SlR (tInt .i64) f A4 c5 s3.L) (r1 : List S_Cells) (r2 : List Int) (r3 : Int) (h : spykeep3_around k s3 n7 vf8 = some (r1, r2, r3)) :
    Calls Try.prog 11 #[.pointer (some ⟨b1, 0, none⟩), .int .i64 n7, .int .i64 vf8] w (fun e w' => ∃ (g : FM) (A1267 : Option Addr) (c1268 : Nat) (s1269 : Seg) (A1270 : Option Addr) (c1271 : Nat) (s1272 : Seg), e = .returned (Value.tuple #[.slice A1267 r1.length c1268, .slice A1270 r2.length c1271]) ∧ FM.le f g ∧ St t w' g (s1269 :: s1272 :: [(b1, .cells #[.slice A4 s3.L.length c5, .int .i64 r3] 25 (0, 0))] :: H) ∧ Own ty_Cells 34 g A1267 c1268 s1269 r1 ∧ Own (tInt .i64) 42 g A1270 c1271 s1272 r2) := by
  unfold spykeep3_around at h
  refine enter Try.func11 rfl (tm := #[.pointer (some ⟨b1, 0, none⟩), .int .i64 n7, .int .i64 vf8, undef, undef, undef, undef, undef, undef, undef, undef, undef, undef, undef, undef, undef, undef, undef, undef, undef, undef, undef, undef, undef, undef, undef, undef, undef, undef, undef, undef, undef, undef, undef, undef, undef, undef, undef, undef, undef, undef, undef, undef, undef, undef, undef, undef, undef, undef, undef, undef, undef, undef, undef, undef, undef, undef, undef, undef, undef, undef, undef, undef, undef, undef, undef, undef, undef, undef, undef, undef, undef, undef, undef, undef, undef, undef, undef, undef, undef, undef, undef, undef, undef, undef, undef, undef, undef, undef, undef, undef, undef, undef, undef]) (by kernel_rfl) ?_
  intro B hret hnor hnp
  refine wp_seq_k (fun K9 hK10 => ?_)
  refine wp_region_lit ?_
  refine seqS2 (a' := ⟨#[.pointer (some ⟨b1, 0, none⟩), .int .i64 n7, .int .i64 vf8, undef, undef, undef, .slice none 0 0, .slice none 0 0, undef, undef, undef, undef, undef, undef, undef, undef, undef, undef, undef, undef, undef, undef, undef, undef, undef, undef, undef, undef, undef, undef, undef, undef, undef, undef, undef, undef, undef, undef, undef, undef, undef, undef, undef, undef, undef, undef, undef, undef, undef, undef, undef, undef, undef, undef, undef, undef, undef, undef, undef, undef, undef, undef, undef, undef, undef, undef, undef, undef, undef, undef, undef, undef, undef, undef, undef, undef, undef, undef, undef, undef, undef, undef, undef, undef, undef, undef, undef, undef, undef, undef, undef, undef, undef, undef], []⟩) (by kernel_rfl) ?_
  refine wpList_nil ?_
  refine hK10 _ _ ?_
  refine wp_seq_k (fun K11 hK12 => ?_)
  refine wp_region_lit ?_
  have hq_ := bind_some h; clear h; obtain ⟨⟨vt13, vt14⟩, hc15, h⟩ := hq_
  refine seqL1 (by kernel_rfl) ?_
  refine seqK rfl (does_call (f := 25) (args := #[.pointer (some ⟨b1, 0, none⟩), .int .i64 1, .int .i64 4]) (by kernel_rfl) (spymake_Stream_Range.calls k b1 A4 c5 s3 1 4 HS HR6 vt13 vt14 hc15) ?_)
  rintro _ W18 ⟨f16, rfl, L17, HS19⟩
  refine ⟨_, rfl, ?_⟩
  have hq_ := bind_some h; clear h; obtain ⟨⟨vt20, vt21⟩, hc22, h⟩ := hq_
  refine seqL1 (by kernel_rfl) ?_
  refine seqK rfl (does_call (f := 25) (args := #[.pointer (some ⟨b1, 0, none⟩), .int .i64 1, .int .i64 4]) (by kernel_rfl) (spymake_Stream_Range.calls k b1 A4 c5 (⟨s3.L, vt14⟩ : S_Stream) 1 4 HS19 (HR6.mono L17) vt20 vt21 hc22) ?_)
  rintro _ W25 ⟨f23, rfl, L24, HS26⟩
  refine ⟨_, rfl, ?_⟩
  refine seqS2 (a' := ⟨#[.pointer (some ⟨b1, 0, none⟩), .int .i64 n7, .int .i64 vf8, undef, undef, undef, .slice none 0 0, .slice none 0 0, .int .i64 vt13, .int .i64 vt20, undef, undef, undef, undef, undef, undef, undef, .pointer (some ⟨b1, 0, none⟩), .int .i64 vt13, .pointer (some ⟨b1, 0, none⟩), .int .i64 vt20, undef, undef, undef, undef, undef, undef, undef, undef, undef, undef, undef, undef, undef, undef, undef, undef, undef, undef, undef, undef, undef, undef, undef, undef, undef, undef, undef, undef, undef, undef, undef, undef, undef, undef, undef, undef, undef, undef, undef, undef, undef, undef, undef, undef, undef, undef, undef, undef, undef, undef, undef, undef, undef, undef, undef, undef, undef, undef, undef, undef, undef, undef, undef, undef, undef, undef, undef, undef, undef, undef, undef, undef, undef], []⟩) (by kernel_rfl) ?_
  refine wpList_nil ?_
  refine hK12 _ _ ?_
  refine wp_seq_k (fun K27 hK28 => ?_)
  refine wp_region_lit ?_
  refine seqS1 (a' := ⟨#[.pointer (some ⟨b1, 0, none⟩), .int .i64 n7, .int .i64 vf8, undef, undef, undef, .slice none 0 0, .slice none 0 0, .int .i64 vt13, .int .i64 vt20, .slice none 0 0, undef, undef, undef, undef, undef, undef, .pointer (some ⟨b1, 0, none⟩), .int .i64 vt13, .pointer (some ⟨b1, 0, none⟩), .int .i64 vt20, undef, undef, undef, undef, undef, undef, undef, undef, undef, undef, undef, undef, undef, undef, undef, undef, undef, undef, undef, undef, undef, undef, undef, undef, undef, undef, undef, undef, undef, undef, undef, undef, undef, undef, undef, undef, undef, undef, undef, undef, undef, undef, undef, undef, undef, undef, undef, undef, undef, undef, undef, undef, undef, undef, undef, undef, undef, undef, undef, undef, undef, undef, undef, undef, undef, undef, undef, undef, undef, undef, undef, undef, undef], []⟩) (by kernel_rfl) ?_
  refine wpList_nil ?_
  refine hK28 _ _ ?_
  refine wp_seq_k (fun K29 hK30 => ?_)
  refine wp_region_lit ?_
  refine seqL3 (by kernel_rfl) ?_
  refine seqK rfl (does_lit (e := ty_Cells) (E := 34) (vs := #[(0, Value.agg #[.int .i64 vt13, .int .i64 vt20, .slice none 0 0])]) (cs := #[.int .i64 vt13, .int .i64 vt20, .slice none 0 0]) (xs := ([(⟨vt13, vt20, ([] : List S_Bound)⟩ : S_Cells)] : List S_Cells)) rfl Try.underlying27 (by kernel_rfl) (by kernel_rfl) ⟨[.int .i64 vt13, .int .i64 vt20, .slice none 0 0], _, rfl, ⟨none, 0, rfl, (SlR.nil _ _)⟩, rfl⟩ rfl HS26 ?_ (by decide))
  intro b31 W32 s33 HS34 _ HO35
  obtain ⟨f37, L38, HS39, HR40⟩ := HO35.freeze HS34
  have hq_ := bind_some h; clear h; obtain ⟨vt41, hc42, h⟩ := hq_
  refine seqL1 (by kernel_rfl) ?_
  refine seqK rfl (does_call (f := 39) (args := #[.slice (some ⟨b31, 0, none⟩) ([(⟨vt13, vt20, ([] : List S_Bound)⟩ : S_Cells)] : List S_Cells).length 1, .int .i64 n7]) (by kernel_rfl) (slices_Repeat_Cells.calls k (some ⟨b31, 0, none⟩) 1 ([(⟨vt13, vt20, ([] : List S_Bound)⟩ : S_Cells)] : List S_Cells) n7 HS39 HR40 vt41 hc42) ?_)
  rintro _ W45 ⟨f43, A47, c48, s49, rfl, L44, HS46, HO50⟩
  refine ⟨_, rfl, ?_⟩
  refine seqS1 (a' := ⟨#[.pointer (some ⟨b1, 0, none⟩), .int .i64 n7, .int .i64 vf8, undef, undef, undef, .slice none 0 0, .slice none 0 0, .int .i64 vt13, .int .i64 vt20, .slice none 0 0, .slice A47 vt41.length c48, undef, undef, undef, undef, undef, .pointer (some ⟨b1, 0, none⟩), .int .i64 vt13, .pointer (some ⟨b1, 0, none⟩), .int .i64 vt20, .int .i64 vt13, .int .i64 vt20, .agg #[.int .i64 vt13, .int .i64 vt20, .slice none 0 0], .slice (some ⟨b31, 0, none⟩) ([(⟨vt13, vt20, ([] : List S_Bound)⟩ : S_Cells)] : List S_Cells).length 1, .int .i64 n7, .slice A47 vt41.length c48, undef, undef, undef, undef, undef, undef, undef, undef, undef, undef, undef, undef, undef, undef, undef, undef, undef, undef, undef, undef, undef, undef, undef, undef, undef, undef, undef, undef, undef, undef, undef, undef, undef, undef, undef, undef, undef, undef, undef, undef, undef, undef, undef, undef, undef, undef, undef, undef, undef, undef, undef, undef, undef, undef, undef, undef, undef, undef, undef, undef, undef, undef, undef, undef, undef, undef, undef], []⟩) (by kernel_rfl) ?_
  refine wpList_nil ?_
  refine hK30 _ _ ?_
  refine wp_seq_k (fun K52 hK53 => ?_)
  refine wp_seq_k (fun K54 hK55 => ?_)
  refine wp_region_lit ?_
  refine seqS4 (a' := ⟨#[.pointer (some ⟨b1, 0, none⟩), .int .i64 n7, .int .i64 vf8, undef, undef, undef, .slice none 0 0, .slice none 0 0, .int .i64 vt13, .int .i64 vt20, .slice none 0 0, .slice A47 vt41.length c48, undef, undef, undef, undef, undef, .pointer (some ⟨b1, 0, none⟩), .int .i64 vt13, .pointer (some ⟨b1, 0, none⟩), .int .i64 vt20, .int .i64 vt13, .int .i64 vt20, .agg #[.int .i64 vt13, .int .i64 vt20, .slice none 0 0], .slice (some ⟨b31, 0, none⟩) ([(⟨vt13, vt20, ([] : List S_Bound)⟩ : S_Cells)] : List S_Cells).length 1, .int .i64 n7, .slice A47 vt41.length c48, .int .i64 vt13, .int .i64 vt20, .int .i64 (w64 (vt13 * vt20)), .int .i64 0, undef, undef, undef, undef, undef, undef, undef, undef, undef, undef, undef, undef, undef, undef, undef, undef, undef, undef, undef, undef, undef, undef, undef, undef, undef, undef, undef, undef, undef, undef, undef, undef, undef, undef, undef, undef, undef, undef, undef, undef, undef, undef, undef, undef, undef, undef, undef, undef, undef, undef, undef, undef, undef, undef, undef, undef, undef, undef, undef, undef, undef, undef, undef], []⟩) (by kernel_rfl) ?_
  refine wpList_nil ?_
  refine hK55 _ _ ?_
  refine blockK (fun B56 hx57 hn58 hr59 ho60 hp61 => ?_)
  have hq_ := bind_some h; clear h; obtain ⟨o648, hv1255, h⟩ := hq_
  have J1256 : ∀ (f1239 : FM) (A1245 : Option Addr) (c1246 : Nat) (s1247 : Seg) (s1251 : Seg) (truth1244 : List Int) (l1250 : List S_Cells) (x1254 : Int) (j1243 : Nat → Value) (W1241 : World) (a_ : Act), FM.le f43 f1239 → some ((truth1244, l1250, x1254)) = some o648 → St t W1241 f1239 (s1247 :: s1251 :: [(b1, .cells #[.slice A4 s3.L.length c5, .int .i64 x1254] 25 (0, 0))] :: H) → Own (tInt .i64) 42 f1239 A1245 c1246 s1247 truth1244 → Own ty_Cells 34 f1239 A47 c48 s1251 l1250 → l1250.length = vt41.length → a_ = ⟨#[.pointer (some ⟨b1, 0, none⟩), .int .i64 n7, .int .i64 vf8, undef, undef, undef, .slice none 0 0, .slice none 0 0, .int .i64 vt13, .int .i64 vt20, .slice A1245 truth1244.length c1246, .slice A47 l1250.length c48, (j1243 0), (j1243 1), (j1243 2), (j1243 3), (j1243 4), .pointer (some ⟨b1, 0, none⟩), .int .i64 vt13, .pointer (some ⟨b1, 0, none⟩), .int .i64 vt20, .int .i64 vt13, .int .i64 vt20, .agg #[.int .i64 vt13, .int .i64 vt20, .slice none 0 0], .slice (some ⟨b31, 0, none⟩) ([(⟨vt13, vt20, ([] : List S_Bound)⟩ : S_Cells)] : List S_Cells).length 1, .int .i64 n7, (j1243 5), .int .i64 vt13, .int .i64 vt20, .int .i64 (w64 (vt13 * vt20)), (j1243 6), (j1243 7), (j1243 8), (j1243 9), (j1243 10), (j1243 11), (j1243 12), (j1243 13), (j1243 14), (j1243 15), (j1243 16), (j1243 17), (j1243 18), (j1243 19), (j1243 20), (j1243 21), (j1243 22), (j1243 23), (j1243 24), (j1243 25), (j1243 26), (j1243 27), (j1243 28), (j1243 29), (j1243 30), (j1243 31), (j1243 32), (j1243 33), (j1243 34), (j1243 35), (j1243 36), (j1243 37), (j1243 38), (j1243 39), (j1243 40), (j1243 41), (j1243 42), (j1243 43), (j1243 44), (j1243 45), (j1243 46), (j1243 47), (j1243 48), (j1243 49), (j1243 50), (j1243 51), (j1243 52), (j1243 53), (j1243 54), (j1243 55), (j1243 56), (j1243 57), (j1243 58), (j1243 59), (j1243 60), (j1243 61), (j1243 62), (j1243 63), (j1243 64), (j1243 65), (j1243 66), (j1243 67), undef, undef], []⟩ → K52 a_ W1241 := by
    intro f1239 A1245 c1246 s1247 s1251 truth1244 l1250 x1254 j1243 W1241 a_ L1240 hj1257 HS1242 HO1248 HO1252 HL1253 hfr_; subst hfr_
    injection hj1257 with hj1257; subst hj1257; try dsimp only at h
    refine hK53 _ _ ?_
    refine wp_seq_k (fun K1262 hK1263 => ?_)
    refine wp_region_lit ?_
    refine seqS4 (a' := ⟨#[.pointer (some ⟨b1, 0, none⟩), .int .i64 n7, .int .i64 vf8, undef, undef, undef, .slice A47 l1250.length c48, .slice A1245 truth1244.length c1246, .int .i64 vt13, .int .i64 vt20, .slice A1245 truth1244.length c1246, .slice A47 l1250.length c48, (j1243 0), (j1243 1), (j1243 2), (j1243 3), (j1243 4), .pointer (some ⟨b1, 0, none⟩), .int .i64 vt13, .pointer (some ⟨b1, 0, none⟩), .int .i64 vt20, .int .i64 vt13, .int .i64 vt20, .agg #[.int .i64 vt13, .int .i64 vt20, .slice none 0 0], .slice (some ⟨b31, 0, none⟩) ([(⟨vt13, vt20, ([] : List S_Bound)⟩ : S_Cells)] : List S_Cells).length 1, .int .i64 n7, (j1243 5), .int .i64 vt13, .int .i64 vt20, .int .i64 (w64 (vt13 * vt20)), (j1243 6), (j1243 7), (j1243 8), (j1243 9), (j1243 10), (j1243 11), (j1243 12), (j1243 13), (j1243 14), (j1243 15), (j1243 16), (j1243 17), (j1243 18), (j1243 19), (j1243 20), (j1243 21), (j1243 22), (j1243 23), (j1243 24), (j1243 25), (j1243 26), (j1243 27), (j1243 28), (j1243 29), (j1243 30), (j1243 31), (j1243 32), (j1243 33), (j1243 34), (j1243 35), (j1243 36), (j1243 37), (j1243 38), (j1243 39), (j1243 40), (j1243 41), (j1243 42), (j1243 43), (j1243 44), (j1243 45), (j1243 46), (j1243 47), (j1243 48), (j1243 49), (j1243 50), (j1243 51), (j1243 52), (j1243 53), (j1243 54), (j1243 55), (j1243 56), (j1243 57), (j1243 58), (j1243 59), (j1243 60), (j1243 61), (j1243 62), (j1243 63), (j1243 64), (j1243 65), (j1243 66), (j1243 67), .slice A47 l1250.length c48, .slice A1245 truth1244.length c1246], []⟩) (by kernel_rfl) ?_
    refine wpList_nil ?_
    refine hK1263 _ _ ?_
    refine wp_ret ?_
    refine hret _ _ ?_
    refine ends_still (v := Value.tuple #[.slice A47 l1250.length c48, .slice A1245 truth1244.length c1246]) (by kernel_rfl) (by kernel_rfl) ?_
    have HS1264 := HS1242.u2
    have HS1265 := HS1264.u1
    have HS1266 := HS1265.u2
    injection h with h
    injection h with h0_ h
    injection h with h1_ h
    subst h0_ h1_ h
    exact ⟨f1239, A47, c48, s1251, A1245, c1246, s1247, rfl, (L17.trans (L24.trans (L38.trans (L44.trans L1240)))), HS1266, HO1252, HO1248⟩
  clear h; have h := hv1255; clear hv1255
  have HS1258 := HS46.cons_nil
  refine loopK (fun n_ a_ w_ => ∃ (f652 : FM) (A658 : Option Addr) (c659 : Nat) (s660 : Seg) (s664 : Seg) (truth657 : List Int) (l663 : List S_Cells) (x667 : Int) (x668 : Int) (j656 : Nat → Value), FM.le f43 f652 ∧ St t w_ f652 (s660 :: s664 :: [(b1, .cells #[.slice A4 s3.L.length c5, .int .i64 x668] 25 (0, 0))] :: H) ∧ Own (tInt .i64) 42 f652 A658 c659 s660 truth657 ∧ Own ty_Cells 34 f652 A47 c48 s664 l663 ∧ l663.length = vt41.length ∧ spykeep3_around.l0 k vt13 vt20 s3 vf8 n7 n_ truth657 l663 x667 x668 = some o648 ∧ a_ = ⟨#[.pointer (some ⟨b1, 0, none⟩), .int .i64 n7, .int .i64 vf8, undef, undef, undef, .slice none 0 0, .slice none 0 0, .int .i64 vt13, .int .i64 vt20, .slice A658 truth657.length c659, .slice A47 l663.length c48, (j656 0), (j656 1), (j656 2), (j656 3), (j656 4), .pointer (some ⟨b1, 0, none⟩), .int .i64 vt13, .pointer (some ⟨b1, 0, none⟩), .int .i64 vt20, .int .i64 vt13, .int .i64 vt20, .agg #[.int .i64 vt13, .int .i64 vt20, .slice none 0 0], .slice (some ⟨b31, 0, none⟩) ([(⟨vt13, vt20, ([] : List S_Bound)⟩ : S_Cells)] : List S_Cells).length 1, .int .i64 n7, .slice A47 vt41.length c48, .int .i64 vt13, .int .i64 vt20, .int .i64 (w64 (vt13 * vt20)), .int .i64 x667, (j656 5), (j656 6), (j656 7), (j656 8), (j656 9), (j656 10), (j656 11), (j656 12), (j656 13), (j656 14), (j656 15), (j656 16), (j656 17), (j656 18), (j656 19), (j656 20), (j656 21), (j656 22), (j656 23), (j656 24), (j656 25), (j656 26), (j656 27), (j656 28), (j656 29), (j656 30), (j656 31), (j656 32), (j656 33), (j656 34), (j656 35), (j656 36), (j656 37), (j656 38), (j656 39), (j656 40), (j656 41), (j656 42), (j656 43), (j656 44), (j656 45), (j656 46), (j656 47), (j656 48), (j656 49), (j656 50), (j656 51), (j656 52), (j656 53), (j656 54), (j656 55), (j656 56), (j656 57), (j656 58), (j656 59), (j656 60), (j656 61), (j656 62), (j656 63), (j656 64), (j656 65), undef, undef], []⟩) k ⟨f43, none, 0, [], s49, ([] : List Int), vt41, 0, vt21, (fun i_ => [undef, undef, undef, undef, undef, undef, undef, undef, undef, undef, undef, undef, undef, undef, undef, undef, undef, undef, undef, undef, undef, undef, undef, undef, undef, undef, undef, undef, undef, undef, undef, undef, undef, undef, undef, undef, undef, undef, undef, undef, undef, undef, undef, undef, undef, undef, undef, undef, undef, undef, undef, undef, undef, undef, undef, undef, undef, undef, undef, undef, undef, undef, undef, undef, undef, undef].getD i_ undef), (FM.le.refl _), HS1258, (Own.nil _), HO50, rfl, h, (by kernel_rfl)⟩ ?_
  clear h
  rintro n651 _ W654 ⟨f652, A658, c659, s660, s664, truth657, l663, x667, x668, j656, L653, HS655, HO661, HO665, HL666, h, rfl⟩ K649 hK650
  obtain _ | n651 := n651
  · exact nomatch h
  simp only [spykeep3_around.l0] at h
  refine wp_seq_k (fun K669 hK670 => ?_)
  refine wp_region_lit ?_
  refine seqS1 (a' := ⟨#[.pointer (some ⟨b1, 0, none⟩), .int .i64 n7, .int .i64 vf8, undef, undef, undef, .slice none 0 0, .slice none 0 0, .int .i64 vt13, .int .i64 vt20, .slice A658 truth657.length c659, .slice A47 l663.length c48, (j656 0), (j656 1), (j656 2), (j656 3), (j656 4), .pointer (some ⟨b1, 0, none⟩), .int .i64 vt13, .pointer (some ⟨b1, 0, none⟩), .int .i64 vt20, .int .i64 vt13, .int .i64 vt20, .agg #[.int .i64 vt13, .int .i64 vt20, .slice none 0 0], .slice (some ⟨b31, 0, none⟩) ([(⟨vt13, vt20, ([] : List S_Bound)⟩ : S_Cells)] : List S_Cells).length 1, .int .i64 n7, .slice A47 vt41.length c48, .int .i64 vt13, .int .i64 vt20, .int .i64 (w64 (vt13 * vt20)), .int .i64 x667, .bool (decide (x667 < (w64 (vt13 * vt20)))), (j656 6), (j656 7), (j656 8), (j656 9), (j656 10), (j656 11), (j656 12), (j656 13), (j656 14), (j656 15), (j656 16), (j656 17), (j656 18), (j656 19), (j656 20), (j656 21), (j656 22), (j656 23), (j656 24), (j656 25), (j656 26), (j656 27), (j656 28), (j656 29), (j656 30), (j656 31), (j656 32), (j656 33), (j656 34), (j656 35), (j656 36), (j656 37), (j656 38), (j656 39), (j656 40), (j656 41), (j656 42), (j656 43), (j656 44), (j656 45), (j656 46), (j656 47), (j656 48), (j656 49), (j656 50), (j656 51), (j656 52), (j656 53), (j656 54), (j656 55), (j656 56), (j656 57), (j656 58), (j656 59), (j656 60), (j656 61), (j656 62), (j656 63), (j656 64), (j656 65), undef, undef], []⟩) (by kernel_rfl) ?_
  refine wpList_nil ?_
  refine hK670 _ _ ?_
  refine wp_seq_k (fun K671 hK672 => ?_)
  have hq_ := ite_some h; clear h; rcases hq_ with ⟨c674, h⟩ | ⟨c674, h⟩
  · have c674 : x667 < (w64 (vt13 * vt20)) := c674
    refine wpRwI 31 (x := (decide (x667 < (w64 (vt13 * vt20))))) (v := true) (by kernel_rfl) (decide_eq_true c674) ?_
    refine condT (by kernel_rfl) ?_
    refine wp_skip ?_
    refine hK672 _ _ ?_
    refine wp_seq_k (fun K675 hK676 => ?_)
    refine blockK (fun B677 hx678 hn679 hr680 ho681 hp682 => ?_)
    refine wp_seq_k (fun K684 hK685 => ?_)
    refine wp_region_lit ?_
    have HS686 := HS655.u2
    have hq_ := bind_some h; clear h; obtain ⟨⟨vt687, vt688⟩, hc689, h⟩ := hq_
    refine seqL1 (by kernel_rfl) ?_
    refine seqK rfl (does_call (f := 12) (args := #[.pointer (some ⟨b1, 0, none⟩), .int .i64 1000]) (by kernel_rfl) (spymake_Stream_Next.calls k b1 A4 c5 (⟨s3.L, x668⟩ : S_Stream) 1000 HS686 (HR6.mono (L17.trans (L24.trans (L38.trans (L44.trans L653))))) vt687 vt688 hc689) ?_)
    rintro _ W692 ⟨f690, rfl, L691, HS693⟩
    refine ⟨_, rfl, ?_⟩
    refine seqS1 (a' := ⟨#[.pointer (some ⟨b1, 0, none⟩), .int .i64 n7, .int .i64 vf8, undef, undef, undef, .slice none 0 0, .slice none 0 0, .int .i64 vt13, .int .i64 vt20, .slice A658 truth657.length c659, .slice A47 l663.length c48, .int .i64 vt687, (j656 1), (j656 2), (j656 3), (j656 4), .pointer (some ⟨b1, 0, none⟩), .int .i64 vt13, .pointer (some ⟨b1, 0, none⟩), .int .i64 vt20, .int .i64 vt13, .int .i64 vt20, .agg #[.int .i64 vt13, .int .i64 vt20, .slice none 0 0], .slice (some ⟨b31, 0, none⟩) ([(⟨vt13, vt20, ([] : List S_Bound)⟩ : S_Cells)] : List S_Cells).length 1, .int .i64 n7, .slice A47 vt41.length c48, .int .i64 vt13, .int .i64 vt20, .int .i64 (w64 (vt13 * vt20)), .int .i64 x667, .bool true, .pointer (some ⟨b1, 0, none⟩), .int .i64 vt687, (j656 8), (j656 9), (j656 10), (j656 11), (j656 12), (j656 13), (j656 14), (j656 15), (j656 16), (j656 17), (j656 18), (j656 19), (j656 20), (j656 21), (j656 22), (j656 23), (j656 24), (j656 25), (j656 26), (j656 27), (j656 28), (j656 29), (j656 30), (j656 31), (j656 32), (j656 33), (j656 34), (j656 35), (j656 36), (j656 37), (j656 38), (j656 39), (j656 40), (j656 41), (j656 42), (j656 43), (j656 44), (j656 45), (j656 46), (j656 47), (j656 48), (j656 49), (j656 50), (j656 51), (j656 52), (j656 53), (j656 54), (j656 55), (j656 56), (j656 57), (j656 58), (j656 59), (j656 60), (j656 61), (j656 62), (j656 63), (j656 64), (j656 65), undef, undef], []⟩) (by kernel_rfl) ?_
    refine wpList_nil ?_
    refine hK685 _ _ ?_
    refine wp_seq_k (fun K694 hK695 => ?_)
    refine wp_region_lit ?_
    refine seqL2 (by kernel_rfl) ?_
    refine seqK rfl (does_lit (e := (tInt .i64)) (E := 42) (vs := #[(0, Value.int .i64 vt687)]) (cs := #[.int .i64 vt687]) (xs := ([vt687] : List Int)) rfl Try.underlying28 (by kernel_rfl) (by kernel_rfl) ⟨[.int .i64 vt687], _, rfl, rfl, rfl⟩ rfl HS693 ?_ (by decide))
    intro b696 W697 s698 HS699 _ HO700
    have hq_ := guard_some h; clear h; obtain ⟨c702, h⟩ := hq_
    have c702 : (truth657.length + 1) * 8 ≤ 140737488355328 := c702
    have HS703 := HS699.u2
    have HS704 := HS703.u1
    refine seqK rfl (does_append1 (e := (tInt .i64)) (E := 42) (xs := truth657) (ys := ([vt687] : List Int)) rfl (by kernel_rfl : _ = Value.slice A658 truth657.length c659) (by kernel_rfl : _ = Value.slice (some ⟨b696, 0, none⟩) ([vt687] : List Int).length 1) Try.underlying28 inf42 (HO661.mono L691) HO700 HS704 c702 (lim63 c702 (by decide)) ?_)
    intro A705 c706 s707 W708 HS709 HO710
    refine seqS1 (a' := ⟨#[.pointer (some ⟨b1, 0, none⟩), .int .i64 n7, .int .i64 vf8, undef, undef, undef, .slice none 0 0, .slice none 0 0, .int .i64 vt13, .int .i64 vt20, .slice A705 (truth657 ++ ([vt687] : List Int)).length c706, .slice A47 l663.length c48, .int .i64 vt687, (j656 1), (j656 2), (j656 3), (j656 4), .pointer (some ⟨b1, 0, none⟩), .int .i64 vt13, .pointer (some ⟨b1, 0, none⟩), .int .i64 vt20, .int .i64 vt13, .int .i64 vt20, .agg #[.int .i64 vt13, .int .i64 vt20, .slice none 0 0], .slice (some ⟨b31, 0, none⟩) ([(⟨vt13, vt20, ([] : List S_Bound)⟩ : S_Cells)] : List S_Cells).length 1, .int .i64 n7, .slice A47 vt41.length c48, .int .i64 vt13, .int .i64 vt20, .int .i64 (w64 (vt13 * vt20)), .int .i64 x667, .bool true, .pointer (some ⟨b1, 0, none⟩), .int .i64 vt687, .slice A658 truth657.length c659, .int .i64 vt687, .slice (some ⟨b696, 0, none⟩) ([vt687] : List Int).length 1, .slice A705 (truth657 ++ ([vt687] : List Int)).length c706, (j656 12), (j656 13), (j656 14), (j656 15), (j656 16), (j656 17), (j656 18), (j656 19), (j656 20), (j656 21), (j656 22), (j656 23), (j656 24), (j656 25), (j656 26), (j656 27), (j656 28), (j656 29), (j656 30), (j656 31), (j656 32), (j656 33), (j656 34), (j656 35), (j656 36), (j656 37), (j656 38), (j656 39), (j656 40), (j656 41), (j656 42), (j656 43), (j656 44), (j656 45), (j656 46), (j656 47), (j656 48), (j656 49), (j656 50), (j656 51), (j656 52), (j656 53), (j656 54), (j656 55), (j656 56), (j656 57), (j656 58), (j656 59), (j656 60), (j656 61), (j656 62), (j656 63), (j656 64), (j656 65), undef, undef], []⟩) (by kernel_rfl) ?_
    refine wpList_nil ?_
    refine hK695 _ _ ?_
    refine wp_seq_k (fun K711 hK712 => ?_)
    refine wp_region_lit ?_
    have HS713 := HS709.u1
    have hq_ := bind_some h; clear h; obtain ⟨⟨vt714, vt715⟩, hc716, h⟩ := hq_
    refine seqL3 (by kernel_rfl) ?_
    refine seqK rfl (does_call (f := 12) (args := #[.pointer (some ⟨b1, 0, none⟩), .int .i64 (w64 (vf8 + 1))]) (by kernel_rfl) (spymake_Stream_Next.calls k b1 A4 c5 (⟨s3.L, vt688⟩ : S_Stream) (w64 (vf8 + 1)) HS713 (HR6.mono (L17.trans (L24.trans (L38.trans (L44.trans (L653.trans L691)))))) vt714 vt715 hc716) ?_)
    rintro _ W719 ⟨f717, rfl, L718, HS720⟩
    refine ⟨_, rfl, ?_⟩
    have hq_ := bind_some h; clear h; obtain ⟨⟨vt721, vt722⟩, hc723, h⟩ := hq_
    refine seqL2 (by kernel_rfl) ?_
    refine seqK rfl (does_call (f := 12) (args := #[.pointer (some ⟨b1, 0, none⟩), .int .i64 n7]) (by kernel_rfl) (spymake_Stream_Next.calls k b1 A4 c5 (⟨s3.L, vt715⟩ : S_Stream) n7 HS720 (HR6.mono (L17.trans (L24.trans (L38.trans (L44.trans (L653.trans (L691.trans L718))))))) vt721 vt722 hc723) ?_)
    rintro _ W726 ⟨f724, rfl, L725, HS727⟩
    refine ⟨_, rfl, ?_⟩
    refine seqS2 (a' := ⟨#[.pointer (some ⟨b1, 0, none⟩), .int .i64 n7, .int .i64 vf8, undef, undef, undef, .slice none 0 0, .slice none 0 0, .int .i64 vt13, .int .i64 vt20, .slice A705 (truth657 ++ ([vt687] : List Int)).length c706, .slice A47 l663.length c48, .int .i64 vt687, .int .i64 vt714, .int .i64 vt721, (j656 3), (j656 4), .pointer (some ⟨b1, 0, none⟩), .int .i64 vt13, .pointer (some ⟨b1, 0, none⟩), .int .i64 vt20, .int .i64 vt13, .int .i64 vt20, .agg #[.int .i64 vt13, .int .i64 vt20, .slice none 0 0], .slice (some ⟨b31, 0, none⟩) ([(⟨vt13, vt20, ([] : List S_Bound)⟩ : S_Cells)] : List S_Cells).length 1, .int .i64 n7, .slice A47 vt41.length c48, .int .i64 vt13, .int .i64 vt20, .int .i64 (w64 (vt13 * vt20)), .int .i64 x667, .bool true, .pointer (some ⟨b1, 0, none⟩), .int .i64 vt687, .slice A658 truth657.length c659, .int .i64 vt687, .slice (some ⟨b696, 0, none⟩) ([vt687] : List Int).length 1, .slice A705 (truth657 ++ ([vt687] : List Int)).length c706, .pointer (some ⟨b1, 0, none⟩), .int .i64 vf8, .int .i64 (w64 (vf8 + 1)), .int .i64 vt714, .pointer (some ⟨b1, 0, none⟩), .int .i64 n7, .int .i64 vt721, (j656 19), (j656 20), (j656 21), (j656 22), (j656 23), (j656 24), (j656 25), (j656 26), (j656 27), (j656 28), (j656 29), (j656 30), (j656 31), (j656 32), (j656 33), (j656 34), (j656 35), (j656 36), (j656 37), (j656 38), (j656 39), (j656 40), (j656 41), (j656 42), (j656 43), (j656 44), (j656 45), (j656 46), (j656 47), (j656 48), (j656 49), (j656 50), (j656 51), (j656 52), (j656 53), (j656 54), (j656 55), (j656 56), (j656 57), (j656 58), (j656 59), (j656 60), (j656 61), (j656 62), (j656 63), (j656 64), (j656 65), undef, undef], []⟩) (by kernel_rfl) ?_
    refine wpList_nil ?_
    refine hK712 _ _ ?_
    refine wp_seq_k (fun K728 hK729 => ?_)
    refine wp_region_lit ?_
    refine seqS3 (a' := ⟨#[.pointer (some ⟨b1, 0, none⟩), .int .i64 n7, .int .i64 vf8, undef, undef, undef, .slice none 0 0, .slice none 0 0, .int .i64 vt13, .int .i64 vt20, .slice A705 (truth657 ++ ([vt687] : List Int)).length c706, .slice A47 l663.length c48, .int .i64 vt687, .int .i64 vt714, .int .i64 vt721, (j656 3), (j656 4), .pointer (some ⟨b1, 0, none⟩), .int .i64 vt13, .pointer (some ⟨b1, 0, none⟩), .int .i64 vt20, .int .i64 vt13, .int .i64 vt20, .agg #[.int .i64 vt13, .int .i64 vt20, .slice none 0 0], .slice (some ⟨b31, 0, none⟩) ([(⟨vt13, vt20, ([] : List S_Bound)⟩ : S_Cells)] : List S_Cells).length 1, .int .i64 n7, .slice A47 vt41.length c48, .int .i64 vt13, .int .i64 vt20, .int .i64 (w64 (vt13 * vt20)), .int .i64 x667, .bool true, .pointer (some ⟨b1, 0, none⟩), .int .i64 vt687, .slice A658 truth657.length c659, .int .i64 vt687, .slice (some ⟨b696, 0, none⟩) ([vt687] : List Int).length 1, .slice A705 (truth657 ++ ([vt687] : List Int)).length c706, .pointer (some ⟨b1, 0, none⟩), .int .i64 vf8, .int .i64 (w64 (vf8 + 1)), .int .i64 vt714, .pointer (some ⟨b1, 0, none⟩), .int .i64 n7, .int .i64 vt721, .slice A47 l663.length c48, .int .i64 (l663.length : Int), .int .i64 0, (j656 22), (j656 23), (j656 24), (j656 25), (j656 26), (j656 27), (j656 28), (j656 29), (j656 30), (j656 31), (j656 32), (j656 33), (j656 34), (j656 35), (j656 36), (j656 37), (j656 38), (j656 39), (j656 40), (j656 41), (j656 42), (j656 43), (j656 44), (j656 45), (j656 46), (j656 47), (j656 48), (j656 49), (j656 50), (j656 51), (j656 52), (j656 53), (j656 54), (j656 55), (j656 56), (j656 57), (j656 58), (j656 59), (j656 60), (j656 61), (j656 62), (j656 63), (j656 64), (j656 65), undef, undef], []⟩) (by kernel_rfl) ?_
    refine wpList_nil ?_
    refine hK729 _ _ ?_
    refine blockK (fun B730 hx731 hn732 hr733 ho734 hp735 => ?_)
    have hq_ := bind_some h; clear h; obtain ⟨o976, hv1232, h⟩ := hq_
    have J1233 : ∀ (f1222 : FM) (s1228 : Seg) (l1227 : List S_Cells) (x1231 : Int) (j1226 : Nat → Value) (W1224 : World) (a_ : Act), FM.le f724 f1222 → some ((l1227, x1231)) = some o976 → St t W1224 f1222 ([(b1, .cells #[.slice A4 s3.L.length c5, .int .i64 x1231] 25 (0, 0))] :: s707 :: s1228 :: H) → Own ty_Cells 34 f1222 A47 c48 s1228 l1227 → l1227.length = l663.length → a_ = ⟨#[.pointer (some ⟨b1, 0, none⟩), .int .i64 n7, .int .i64 vf8, undef, undef, undef, .slice none 0 0, .slice none 0 0, .int .i64 vt13, .int .i64 vt20, .slice A705 (truth657 ++ ([vt687] : List Int)).length c706, .slice A47 l1227.length c48, .int .i64 vt687, .int .i64 vt714, .int .i64 vt721, (j1226 0), (j1226 1), .pointer (some ⟨b1, 0, none⟩), .int .i64 vt13, .pointer (some ⟨b1, 0, none⟩), .int .i64 vt20, .int .i64 vt13, .int .i64 vt20, .agg #[.int .i64 vt13, .int .i64 vt20, .slice none 0 0], .slice (some ⟨b31, 0, none⟩) ([(⟨vt13, vt20, ([] : List S_Bound)⟩ : S_Cells)] : List S_Cells).length 1, .int .i64 n7, .slice A47 vt41.length c48, .int .i64 vt13, .int .i64 vt20, .int .i64 (w64 (vt13 * vt20)), .int .i64 x667, .bool true, .pointer (some ⟨b1, 0, none⟩), .int .i64 vt687, .slice A658 truth657.length c659, .int .i64 vt687, .slice (some ⟨b696, 0, none⟩) ([vt687] : List Int).length 1, .slice A705 (truth657 ++ ([vt687] : List Int)).length c706, .pointer (some ⟨b1, 0, none⟩), .int .i64 vf8, .int .i64 (w64 (vf8 + 1)), .int .i64 vt714, .pointer (some ⟨b1, 0, none⟩), .int .i64 n7, .int .i64 vt721, (j1226 2), .int .i64 (l663.length : Int), (j1226 3), (j1226 4), (j1226 5), (j1226 6), (j1226 7), (j1226 8), (j1226 9), (j1226 10), (j1226 11), (j1226 12), (j1226 13), (j1226 14), (j1226 15), (j1226 16), (j1226 17), (j1226 18), (j1226 19), (j1226 20), (j1226 21), (j1226 22), (j1226 23), (j1226 24), (j1226 25), (j1226 26), (j1226 27), (j1226 28), (j1226 29), (j1226 30), (j1226 31), (j1226 32), (j1226 33), (j1226 34), (j1226 35), (j1226 36), (j1226 37), (j1226 38), (j1226 39), (j1226 40), (j1226 41), (j1226 42), (j1226 43), (j1226 44), (j1226 45), (j1226 46), (j656 65), undef, undef], []⟩ → B677 Exit.normal a_ W1224 := by
      intro f1222 s1228 l1227 x1231 j1226 W1224 a_ L1223 hj1234 HS1225 HO1229 HL1230 hfr_; subst hfr_
      injection hj1234 with hj1234; subst hj1234; try dsimp only at h
      refine hn679 _ _ ?_
      refine hK676 _ _ ?_
      refine wp_region_lit ?_
      refine seqS2 (a' := ⟨#[.pointer (some ⟨b1, 0, none⟩), .int .i64 n7, .int .i64 vf8, undef, undef, undef, .slice none 0 0, .slice none 0 0, .int .i64 vt13, .int .i64 vt20, .slice A705 (truth657 ++ ([vt687] : List Int)).length c706, .slice A47 l1227.length c48, .int .i64 vt687, .int .i64 vt714, .int .i64 vt721, (j1226 0), (j1226 1), .pointer (some ⟨b1, 0, none⟩), .int .i64 vt13, .pointer (some ⟨b1, 0, none⟩), .int .i64 vt20, .int .i64 vt13, .int .i64 vt20, .agg #[.int .i64 vt13, .int .i64 vt20, .slice none 0 0], .slice (some ⟨b31, 0, none⟩) ([(⟨vt13, vt20, ([] : List S_Bound)⟩ : S_Cells)] : List S_Cells).length 1, .int .i64 n7, .slice A47 vt41.length c48, .int .i64 vt13, .int .i64 vt20, .int .i64 (w64 (vt13 * vt20)), .int .i64 (w64 (x667 + 1)), .bool true, .pointer (some ⟨b1, 0, none⟩), .int .i64 vt687, .slice A658 truth657.length c659, .int .i64 vt687, .slice (some ⟨b696, 0, none⟩) ([vt687] : List Int).length 1, .slice A705 (truth657 ++ ([vt687] : List Int)).length c706, .pointer (some ⟨b1, 0, none⟩), .int .i64 vf8, .int .i64 (w64 (vf8 + 1)), .int .i64 vt714, .pointer (some ⟨b1, 0, none⟩), .int .i64 n7, .int .i64 vt721, (j1226 2), .int .i64 (l663.length : Int), (j1226 3), (j1226 4), (j1226 5), (j1226 6), (j1226 7), (j1226 8), (j1226 9), (j1226 10), (j1226 11), (j1226 12), (j1226 13), (j1226 14), (j1226 15), (j1226 16), (j1226 17), (j1226 18), (j1226 19), (j1226 20), (j1226 21), (j1226 22), (j1226 23), (j1226 24), (j1226 25), (j1226 26), (j1226 27), (j1226 28), (j1226 29), (j1226 30), (j1226 31), (j1226 32), (j1226 33), (j1226 34), (j1226 35), (j1226 36), (j1226 37), (j1226 38), (j1226 39), (j1226 40), (j1226 41), (j1226 42), (j1226 43), (j1226 44), (j1226 45), (j1226 46), .int .i64 (w64 (x667 + 1)), undef, undef], []⟩) (by kernel_rfl) ?_
      refine wpList_nil ?_
      refine hK650 n651 _ _ (Nat.lt_succ_self _) ?_
      have HS1260 := HS1225.u2
      have HS1261 := HS1260.u2
      exact ⟨f1222, A705, c706, s707, s1228, (truth657 ++ ([vt687] : List Int)), l1227, (w64 (x667 + 1)), x1231, (fun i_ => [Value.int .i64 vt687, Value.int .i64 vt714, Value.int .i64 vt721, (j1226 0), (j1226 1), Value.bool true, Value.pointer (some ⟨b1, 0, none⟩), Value.int .i64 vt687, Value.slice A658 truth657.length c659, Value.int .i64 vt687, Value.slice (some ⟨b696, 0, none⟩) ([vt687] : List Int).length 1, Value.slice A705 (truth657 ++ ([vt687] : List Int)).length c706, Value.pointer (some ⟨b1, 0, none⟩), Value.int .i64 vf8, Value.int .i64 (w64 (vf8 + 1)), Value.int .i64 vt714, Value.pointer (some ⟨b1, 0, none⟩), Value.int .i64 n7, Value.int .i64 vt721, (j1226 2), Value.int .i64 (l663.length : Int), (j1226 3), (j1226 4), (j1226 5), (j1226 6), (j1226 7), (j1226 8), (j1226 9), (j1226 10), (j1226 11), (j1226 12), (j1226 13), (j1226 14), (j1226 15), (j1226 16), (j1226 17), (j1226 18), (j1226 19), (j1226 20), (j1226 21), (j1226 22), (j1226 23), (j1226 24), (j1226 25), (j1226 26), (j1226 27), (j1226 28), (j1226 29), (j1226 30), (j1226 31), (j1226 32), (j1226 33), (j1226 34), (j1226 35), (j1226 36), (j1226 37), (j1226 38), (j1226 39), (j1226 40), (j1226 41), (j1226 42), (j1226 43), (j1226 44), (j1226 45), (j1226 46), Value.int .i64 (w64 (x667 + 1))].getD i_ undef), (L653.trans (L691.trans (L718.trans (L725.trans L1223)))), HS1261, (HO710.mono (L718.trans (L725.trans L1223))), HO1229, (HL1230.trans HL666), h, (by kernel_rfl)⟩
    clear h; have h := hv1232; clear hv1232
    refine loopK (fun n_ a_ w_ => ∃ (f980 : FM) (s986 : Seg) (l985 : List S_Cells) (x989 : Int) (x990 : Int) (j984 : Nat → Value), FM.le f724 f980 ∧ St t w_ f980 ([(b1, .cells #[.slice A4 s3.L.length c5, .int .i64 x990] 25 (0, 0))] :: s707 :: s986 :: H) ∧ Own ty_Cells 34 f980 A47 c48 s986 l985 ∧ l985.length = l663.length ∧ spykeep3_around.l1 k l663 s3 n7 vt721 vt714 vt687 n_ l985 x989 x990 = some o976 ∧ a_ = ⟨#[.pointer (some ⟨b1, 0, none⟩), .int .i64 n7, .int .i64 vf8, undef, undef, undef, .slice none 0 0, .slice none 0 0, .int .i64 vt13, .int .i64 vt20, .slice A705 (truth657 ++ ([vt687] : List Int)).length c706, .slice A47 l985.length c48, .int .i64 vt687, .int .i64 vt714, .int .i64 vt721, (j984 0), (j984 1), .pointer (some ⟨b1, 0, none⟩), .int .i64 vt13, .pointer (some ⟨b1, 0, none⟩), .int .i64 vt20, .int .i64 vt13, .int .i64 vt20, .agg #[.int .i64 vt13, .int .i64 vt20, .slice none 0 0], .slice (some ⟨b31, 0, none⟩) ([(⟨vt13, vt20, ([] : List S_Bound)⟩ : S_Cells)] : List S_Cells).length 1, .int .i64 n7, .slice A47 vt41.length c48, .int .i64 vt13, .int .i64 vt20, .int .i64 (w64 (vt13 * vt20)), .int .i64 x667, .bool true, .pointer (some ⟨b1, 0, none⟩), .int .i64 vt687, .slice A658 truth657.length c659, .int .i64 vt687, .slice (some ⟨b696, 0, none⟩) ([vt687] : List Int).length 1, .slice A705 (truth657 ++ ([vt687] : List Int)).length c706, .pointer (some ⟨b1, 0, none⟩), .int .i64 vf8, .int .i64 (w64 (vf8 + 1)), .int .i64 vt714, .pointer (some ⟨b1, 0, none⟩), .int .i64 n7, .int .i64 vt721, .slice A47 l663.length c48, .int .i64 (l663.length : Int), .int .i64 x989, (j984 2), (j984 3), (j984 4), (j984 5), (j984 6), (j984 7), (j984 8), (j984 9), (j984 10), (j984 11), (j984 12), (j984 13), (j984 14), (j984 15), (j984 16), (j984 17), (j984 18), (j984 19), (j984 20), (j984 21), (j984 22), (j984 23), (j984 24), (j984 25), (j984 26), (j984 27), (j984 28), (j984 29), (j984 30), (j984 31), (j984 32), (j984 33), (j984 34), (j984 35), (j984 36), (j984 37), (j984 38), (j984 39), (j984 40), (j984 41), (j984 42), (j984 43), (j984 44), (j656 65), undef, undef], []⟩) k ⟨f724, s664, l663, 0, vt722, (fun i_ => [(j656 3), (j656 4), (j656 22), (j656 23), (j656 24), (j656 25), (j656 26), (j656 27), (j656 28), (j656 29), (j656 30), (j656 31), (j656 32), (j656 33), (j656 34), (j656 35), (j656 36), (j656 37), (j656 38), (j656 39), (j656 40), (j656 41), (j656 42), (j656 43), (j656 44), (j656 45), (j656 46), (j656 47), (j656 48), (j656 49), (j656 50), (j656 51), (j656 52), (j656 53), (j656 54), (j656 55), (j656 56), (j656 57), (j656 58), (j656 59), (j656 60), (j656 61), (j656 62), (j656 63), (j656 64)].getD i_ undef), (FM.le.refl _), HS727, (HO665.mono (L691.trans (L718.trans L725))), rfl, h, (by kernel_rfl)⟩ ?_
    clear h
    rintro n979 _ W982 ⟨f980, s986, l985, x989, x990, j984, L981, HS983, HO987, HL988, h, rfl⟩ K977 hK978
    obtain _ | n979 := n979
    · exact nomatch h
    simp only [spykeep3_around.l1] at h
    refine wp_seq_k (fun K991 hK992 => ?_)
    refine wp_region_lit ?_
    refine seqS1 (a' := ⟨#[.pointer (some ⟨b1, 0, none⟩), .int .i64 n7, .int .i64 vf8, undef, undef, undef, .slice none 0 0, .slice none 0 0, .int .i64 vt13, .int .i64 vt20, .slice A705 (truth657 ++ ([vt687] : List Int)).length c706, .slice A47 l985.length c48, .int .i64 vt687, .int .i64 vt714, .int .i64 vt721, (j984 0), (j984 1), .pointer (some ⟨b1, 0, none⟩), .int .i64 vt13, .pointer (some ⟨b1, 0, none⟩), .int .i64 vt20, .int .i64 vt13, .int .i64 vt20, .agg #[.int .i64 vt13, .int .i64 vt20, .slice none 0 0], .slice (some ⟨b31, 0, none⟩) ([(⟨vt13, vt20, ([] : List S_Bound)⟩ : S_Cells)] : List S_Cells).length 1, .int .i64 n7, .slice A47 vt41.length c48, .int .i64 vt13, .int .i64 vt20, .int .i64 (w64 (vt13 * vt20)), .int .i64 x667, .bool true, .pointer (some ⟨b1, 0, none⟩), .int .i64 vt687, .slice A658 truth657.length c659, .int .i64 vt687, .slice (some ⟨b696, 0, none⟩) ([vt687] : List Int).length 1, .slice A705 (truth657 ++ ([vt687] : List Int)).length c706, .pointer (some ⟨b1, 0, none⟩), .int .i64 vf8, .int .i64 (w64 (vf8 + 1)), .int .i64 vt714, .pointer (some ⟨b1, 0, none⟩), .int .i64 n7, .int .i64 vt721, .slice A47 l663.length c48, .int .i64 (l663.length : Int), .int .i64 x989, .bool (decide (x989 < (l663.length : Int))), (j984 3), (j984 4), (j984 5), (j984 6), (j984 7), (j984 8), (j984 9), (j984 10), (j984 11), (j984 12), (j984 13), (j984 14), (j984 15), (j984 16), (j984 17), (j984 18), (j984 19), (j984 20), (j984 21), (j984 22), (j984 23), (j984 24), (j984 25), (j984 26), (j984 27), (j984 28), (j984 29), (j984 30), (j984 31), (j984 32), (j984 33), (j984 34), (j984 35), (j984 36), (j984 37), (j984 38), (j984 39), (j984 40), (j984 41), (j984 42), (j984 43), (j984 44), (j656 65), undef, undef], []⟩) (by kernel_rfl) ?_
    refine wpList_nil ?_
    refine hK992 _ _ ?_
    refine wp_seq_k (fun K993 hK994 => ?_)
    have hq_ := ite_some h; clear h; rcases hq_ with ⟨c996, h⟩ | ⟨c996, h⟩
    · have c996 : x989 < (l663.length : Int) := c996
      refine wpRwI 48 (x := (decide (x989 < (l663.length : Int)))) (v := true) (by kernel_rfl) (decide_eq_true c996) ?_
      refine condT (by kernel_rfl) ?_
      refine wp_skip ?_
      refine hK994 _ _ ?_
      refine wp_seq_k (fun K997 hK998 => ?_)
      refine blockK (fun B999 hx1000 hn1001 hr1002 ho1003 hp1004 => ?_)
      refine wp_seq_k (fun K1006 hK1007 => ?_)
      refine wp_region_lit ?_
      refine seqS2 (a' := ⟨#[.pointer (some ⟨b1, 0, none⟩), .int .i64 n7, .int .i64 vf8, undef, undef, undef, .slice none 0 0, .slice none 0 0, .int .i64 vt13, .int .i64 vt20, .slice A705 (truth657 ++ ([vt687] : List Int)).length c706, .slice A47 l985.length c48, .int .i64 vt687, .int .i64 vt714, .int .i64 vt721, .int .i64 x989, (j984 1), .pointer (some ⟨b1, 0, none⟩), .int .i64 vt13, .pointer (some ⟨b1, 0, none⟩), .int .i64 vt20, .int .i64 vt13, .int .i64 vt20, .agg #[.int .i64 vt13, .int .i64 vt20, .slice none 0 0], .slice (some ⟨b31, 0, none⟩) ([(⟨vt13, vt20, ([] : List S_Bound)⟩ : S_Cells)] : List S_Cells).length 1, .int .i64 n7, .slice A47 vt41.length c48, .int .i64 vt13, .int .i64 vt20, .int .i64 (w64 (vt13 * vt20)), .int .i64 x667, .bool true, .pointer (some ⟨b1, 0, none⟩), .int .i64 vt687, .slice A658 truth657.length c659, .int .i64 vt687, .slice (some ⟨b696, 0, none⟩) ([vt687] : List Int).length 1, .slice A705 (truth657 ++ ([vt687] : List Int)).length c706, .pointer (some ⟨b1, 0, none⟩), .int .i64 vf8, .int .i64 (w64 (vf8 + 1)), .int .i64 vt714, .pointer (some ⟨b1, 0, none⟩), .int .i64 n7, .int .i64 vt721, .slice A47 l663.length c48, .int .i64 (l663.length : Int), .int .i64 x989, .bool true, .int .i64 x989, (j984 4), (j984 5), (j984 6), (j984 7), (j984 8), (j984 9), (j984 10), (j984 11), (j984 12), (j984 13), (j984 14), (j984 15), (j984 16), (j984 17), (j984 18), (j984 19), (j984 20), (j984 21), (j984 22), (j984 23), (j984 24), (j984 25), (j984 26), (j984 27), (j984 28), (j984 29), (j984 30), (j984 31), (j984 32), (j984 33), (j984 34), (j984 35), (j984 36), (j984 37), (j984 38), (j984 39), (j984 40), (j984 41), (j984 42), (j984 43), (j984 44), (j656 65), undef, undef], []⟩) (by kernel_rfl) ?_
      refine wpList_nil ?_
      refine hK1007 _ _ ?_
      refine wp_seq_k (fun K1008 hK1009 => ?_)
      refine wp_region_lit ?_
      have hq_ := bind_some h; clear h; obtain ⟨⟨vt1010, vt1011⟩, hc1012, h⟩ := hq_
      refine seqL2 (by kernel_rfl) ?_
      refine seqK rfl (does_call (f := 12) (args := #[.pointer (some ⟨b1, 0, none⟩), .int .i64 20]) (by kernel_rfl) (spymake_Stream_Next.calls k b1 A4 c5 (⟨s3.L, x990⟩ : S_Stream) 20 HS983 (HR6.mono (L17.trans (L24.trans (L38.trans (L44.trans (L653.trans (L691.trans (L718.trans (L725.trans L981))))))))) vt1010 vt1011 hc1012) ?_)
      rintro _ W1015 ⟨f1013, rfl, L1014, HS1016⟩
      refine ⟨_, rfl, ?_⟩
      have hq_ := bind_some h; clear h; obtain ⟨⟨vt1017, vt1018⟩, hc1019, h⟩ := hq_
      refine seqL3 (by kernel_rfl) ?_
      refine seqK rfl (does_call (f := 12) (args := #[.pointer (some ⟨b1, 0, none⟩), .int .i64 20]) (by kernel_rfl) (spymake_Stream_Next.calls k b1 A4 c5 (⟨s3.L, vt1011⟩ : S_Stream) 20 HS1016 (HR6.mono (L17.trans (L24.trans (L38.trans (L44.trans (L653.trans (L691.trans (L718.trans (L725.trans (L981.trans L1014)))))))))) vt1017 vt1018 hc1019) ?_)
      rintro _ W1022 ⟨f1020, rfl, L1021, HS1023⟩
      refine ⟨_, rfl, ?_⟩
      refine seqL2 (by kernel_rfl) ?_
      refine seqK rfl (does_alloc (z := Value.agg #[.int .i64 0, .int .i64 0, .bool false]) (cs := #[.int .i64 0, .int .i64 0, .bool false]) rfl (by kernel_rfl) rfl HS1023 ?_)
      intro b1024 W1025 HS1026
      refine seqK rfl (does_store (n := 3) (vs := [.int .i64 (w64 (vt687 - vt1010)), .int .i64 (w64 (vt687 + vt1017)), .bool false]) (cs' := #[.int .i64 (w64 (vt687 - vt1010)), .int .i64 (w64 (vt687 + vt1017)), .bool false]) rfl (by kernel_rfl) (by kernel_rfl : _ = Value.pointer (some ⟨b1024, 0, none⟩)) (by kernel_rfl : _ = Value.agg #[.int .i64 (w64 (vt687 - vt1010)), .int .i64 (w64 (vt687 + vt1017)), .bool false]) rfl rfl (by intro u_ hu_; simp only [List.mem_cons, List.not_mem_nil, or_false] at hu_; rcases hu_ with rfl | rfl | rfl <;> rfl) HS1026 (Nat.le_of_ble_eq_true rfl) (by kernel_rfl) ?_)
      intro W1028 HS1029
      refine wpList_nil ?_
      refine hK1009 _ _ ?_
      refine wp_seq_k (fun K1030 hK1031 => ?_)
      refine wp_seq_k (fun K1032 hK1033 => ?_)
      refine wp_region_lit ?_
      have hq_ := guard_some h; clear h; obtain ⟨c1034, h⟩ := hq_
      have c1034 : ¬ (n7 = 0) := c1034
      refine seqL6 (by kernel_rfl) ?_
      refine seqK rfl (does_run (run_rem rfl (by kernel_rfl : _ = Value.int .i64 (w64 ((w64 (x989 - vt721)) + n7))) (by kernel_rfl : _ = Value.int .i64 n7) c1034 W1028) ?_)
      refine seqS2 (a' := ⟨#[.pointer (some ⟨b1, 0, none⟩), .int .i64 n7, .int .i64 vf8, undef, undef, undef, .slice none 0 0, .slice none 0 0, .int .i64 vt13, .int .i64 vt20, .slice A705 (truth657 ++ ([vt687] : List Int)).length c706, .slice A47 l985.length c48, .int .i64 vt687, .int .i64 vt714, .int .i64 vt721, .int .i64 x989, .pointer (some ⟨b1024, 0, none⟩), .pointer (some ⟨b1, 0, none⟩), .int .i64 vt13, .pointer (some ⟨b1, 0, none⟩), .int .i64 vt20, .int .i64 vt13, .int .i64 vt20, .agg #[.int .i64 vt13, .int .i64 vt20, .slice none 0 0], .slice (some ⟨b31, 0, none⟩) ([(⟨vt13, vt20, ([] : List S_Bound)⟩ : S_Cells)] : List S_Cells).length 1, .int .i64 n7, .slice A47 vt41.length c48, .int .i64 vt13, .int .i64 vt20, .int .i64 (w64 (vt13 * vt20)), .int .i64 x667, .bool true, .pointer (some ⟨b1, 0, none⟩), .int .i64 vt687, .slice A658 truth657.length c659, .int .i64 vt687, .slice (some ⟨b696, 0, none⟩) ([vt687] : List Int).length 1, .slice A705 (truth657 ++ ([vt687] : List Int)).length c706, .pointer (some ⟨b1, 0, none⟩), .int .i64 vf8, .int .i64 (w64 (vf8 + 1)), .int .i64 vt714, .pointer (some ⟨b1, 0, none⟩), .int .i64 n7, .int .i64 vt721, .slice A47 l663.length c48, .int .i64 (l663.length : Int), .int .i64 x989, .bool true, .int .i64 x989, .int .i64 vt687, .pointer (some ⟨b1, 0, none⟩), .int .i64 vt1010, .int .i64 (w64 (vt687 - vt1010)), .int .i64 vt687, .pointer (some ⟨b1, 0, none⟩), .int .i64 vt1017, .int .i64 (w64 (vt687 + vt1017)), .agg #[.int .i64 (w64 (vt687 - vt1010)), .int .i64 (w64 (vt687 + vt1017)), .bool false], .int .i64 x989, .int .i64 vt721, .int .i64 (w64 (x989 - vt721)), .int .i64 n7, .int .i64 (w64 ((w64 (x989 - vt721)) + n7)), .int .i64 n7, .int .i64 (Int.tmod (w64 ((w64 (x989 - vt721)) + n7)) n7), .int .i64 vt714, .bool (decide ((Int.tmod (w64 ((w64 (x989 - vt721)) + n7)) n7) < vt714)), (j984 22), (j984 23), (j984 24), (j984 25), (j984 26), (j984 27), (j984 28), (j984 29), (j984 30), (j984 31), (j984 32), (j984 33), (j984 34), (j984 35), (j984 36), (j984 37), (j984 38), (j984 39), (j984 40), (j984 41), (j984 42), (j984 43), (j984 44), (j656 65), undef, undef], []⟩) (by kernel_rfl) ?_
      refine wpList_nil ?_
      refine hK1033 _ _ ?_
      have hq_ := bind_some h; clear h; obtain ⟨v1035, hv1084, h⟩ := hq_
      have J1085 : ∀ (f1075 : FM) (x1080 : Int) (x1081 : Int) (x1082 : Bool) (x1083 : Int) (j1079 : Nat → Value) (W1077 : World) (a_ : Act), FM.le f1020 f1075 → some ((x1080, x1081, x1082, x1083)) = some v1035 → St t W1077 f1075 ([(b1024, .cells #[.int .i64 x1080, .int .i64 x1081, .bool x1082] 44 (0, 0))] :: [(b1, .cells #[.slice A4 s3.L.length c5, .int .i64 x1083] 25 (0, 0))] :: s707 :: s986 :: H) → a_ = ⟨#[.pointer (some ⟨b1, 0, none⟩), .int .i64 n7, .int .i64 vf8, undef, undef, undef, .slice none 0 0, .slice none 0 0, .int .i64 vt13, .int .i64 vt20, .slice A705 (truth657 ++ ([vt687] : List Int)).length c706, .slice A47 l985.length c48, .int .i64 vt687, .int .i64 vt714, .int .i64 vt721, .int .i64 x989, .pointer (some ⟨b1024, 0, none⟩), .pointer (some ⟨b1, 0, none⟩), .int .i64 vt13, .pointer (some ⟨b1, 0, none⟩), .int .i64 vt20, .int .i64 vt13, .int .i64 vt20, .agg #[.int .i64 vt13, .int .i64 vt20, .slice none 0 0], .slice (some ⟨b31, 0, none⟩) ([(⟨vt13, vt20, ([] : List S_Bound)⟩ : S_Cells)] : List S_Cells).length 1, .int .i64 n7, .slice A47 vt41.length c48, .int .i64 vt13, .int .i64 vt20, .int .i64 (w64 (vt13 * vt20)), .int .i64 x667, .bool true, .pointer (some ⟨b1, 0, none⟩), .int .i64 vt687, .slice A658 truth657.length c659, .int .i64 vt687, .slice (some ⟨b696, 0, none⟩) ([vt687] : List Int).length 1, .slice A705 (truth657 ++ ([vt687] : List Int)).length c706, .pointer (some ⟨b1, 0, none⟩), .int .i64 vf8, .int .i64 (w64 (vf8 + 1)), .int .i64 vt714, .pointer (some ⟨b1, 0, none⟩), .int .i64 n7, .int .i64 vt721, .slice A47 l663.length c48, .int .i64 (l663.length : Int), .int .i64 x989, .bool true, .int .i64 x989, .int .i64 vt687, .pointer (some ⟨b1, 0, none⟩), .int .i64 vt1010, .int .i64 (w64 (vt687 - vt1010)), .int .i64 vt687, .pointer (some ⟨b1, 0, none⟩), .int .i64 vt1017, .int .i64 (w64 (vt687 + vt1017)), .agg #[.int .i64 (w64 (vt687 - vt1010)), .int .i64 (w64 (vt687 + vt1017)), .bool false], .int .i64 x989, .int .i64 vt721, .int .i64 (w64 (x989 - vt721)), .int .i64 n7, .int .i64 (w64 ((w64 (x989 - vt721)) + n7)), .int .i64 n7, .int .i64 (Int.tmod (w64 ((w64 (x989 - vt721)) + n7)) n7), .int .i64 vt714, (j1079 0), (j1079 1), (j1079 2), (j1079 3), (j1079 4), (j1079 5), (j1079 6), (j1079 7), (j1079 8), (j1079 9), (j984 31), (j984 32), (j984 33), (j984 34), (j984 35), (j984 36), (j984 37), (j984 38), (j984 39), (j984 40), (j984 41), (j984 42), (j984 43), (j984 44), (j656 65), undef, undef], []⟩ → K1030 a_ W1077 := by
        intro f1075 x1080 x1081 x1082 x1083 j1079 W1077 a_ L1076 hj1086 HS1078  hfr_; subst hfr_
        injection hj1086 with hj1086; subst hj1086; try dsimp only at h
        refine hK1031 _ _ ?_
        have HS1091 := HS1078.u2
        have HS1092 := HS1091.u2
        have HS1093 := HS1092.u2
        have HS1094 := HS1093.u3
        refine heldG (S := Sg t f1075 ([(b1024, .cells #[.int .i64 x1080, .int .i64 x1081, .bool x1082] 44 (0, 0))] :: [(b1, .cells #[.slice A4 s3.L.length c5, .int .i64 x1083] 25 (0, 0))] :: s707 :: H) [(13, s986)]) (n := 14) (by kernel_rfl) rfl HS1094 ?_
        intro W1095 HS1096
        have hq_ := guard_some h; clear h; obtain ⟨c1097, h⟩ := hq_
        have c1097 : 0 ≤ x989 := c1097
        have hq_ := guard_some h; clear h; obtain ⟨c1098, h⟩ := hq_
        have c1098 : x989 < (l985.length : Int) := c1098
        obtain ⟨b1102, of1103, cs1099, hA1104, hr1100, hc1101⟩ := (HO987.mono (L1014.trans (L1021.trans L1076))).at (i := x989) c1097 c1098
        obtain ⟨A1105, c1105, rfl, HR1105⟩ := hr1100
        refine takeG [0, 1, 2, 3] (n := 14) (fuel := 10) (l' := #[true, true, true, true, false, false, false, false, false, false, false, false, false, false]) (a' := ⟨#[.pointer (some ⟨b1, 0, none⟩), .int .i64 n7, .int .i64 vf8, undef, undef, undef, .slice none 0 0, .slice none 0 0, .int .i64 vt13, .int .i64 vt20, .slice A705 (truth657 ++ ([vt687] : List Int)).length c706, .slice A47 l985.length c48, .int .i64 vt687, .int .i64 vt714, .int .i64 vt721, .int .i64 x989, .pointer (some ⟨b1024, 0, none⟩), .pointer (some ⟨b1, 0, none⟩), .int .i64 vt13, .pointer (some ⟨b1, 0, none⟩), .int .i64 vt20, .int .i64 vt13, .int .i64 vt20, .agg #[.int .i64 vt13, .int .i64 vt20, .slice none 0 0], .slice (some ⟨b31, 0, none⟩) ([(⟨vt13, vt20, ([] : List S_Bound)⟩ : S_Cells)] : List S_Cells).length 1, .int .i64 n7, .slice A47 vt41.length c48, .int .i64 vt13, .int .i64 vt20, .int .i64 (w64 (vt13 * vt20)), .int .i64 x667, .bool true, .pointer (some ⟨b1, 0, none⟩), .int .i64 vt687, .slice A658 truth657.length c659, .int .i64 vt687, .slice (some ⟨b696, 0, none⟩) ([vt687] : List Int).length 1, .slice A705 (truth657 ++ ([vt687] : List Int)).length c706, .pointer (some ⟨b1, 0, none⟩), .int .i64 vf8, .int .i64 (w64 (vf8 + 1)), .int .i64 vt714, .pointer (some ⟨b1, 0, none⟩), .int .i64 n7, .int .i64 vt721, .slice A47 l663.length c48, .int .i64 (l663.length : Int), .int .i64 x989, .bool true, .int .i64 x989, .int .i64 vt687, .pointer (some ⟨b1, 0, none⟩), .int .i64 vt1010, .int .i64 (w64 (vt687 - vt1010)), .int .i64 vt687, .pointer (some ⟨b1, 0, none⟩), .int .i64 vt1017, .int .i64 (w64 (vt687 + vt1017)), .agg #[.int .i64 (w64 (vt687 - vt1010)), .int .i64 (w64 (vt687 + vt1017)), .bool false], .int .i64 x989, .int .i64 vt721, .int .i64 (w64 (x989 - vt721)), .int .i64 n7, .int .i64 (w64 ((w64 (x989 - vt721)) + n7)), .int .i64 n7, .int .i64 (Int.tmod (w64 ((w64 (x989 - vt721)) + n7)) n7), .int .i64 vt714, (j1079 0), (j1079 1), (j1079 2), (j1079 3), (j1079 4), (j1079 5), (j1079 6), (j1079 7), (j1079 8), (j1079 9), .slice A47 l985.length c48, .int .i64 x989, .slice A47 l985.length c48, .int .i64 x989, (j984 35), (j984 36), (j984 37), (j984 38), (j984 39), (j984 40), (j984 41), (j984 42), (j984 43), (j984 44), (j656 65), undef, undef], []⟩) rfl (by kernel_rfl) (by kernel_rfl) (by kernel_rfl) (fun ch_ a_ w_ q_ => (fun ch_ a_ w_ q_ => (fun ch_ a_ w_ q_ => (fun ch_ a_ w_ q_ => hnp ch_ a_ w_ (hp61 ch_ a_ w_ q_)) ch_ a_ w_ (hp682 ch_ a_ w_ q_)) ch_ a_ w_ (hp735 ch_ a_ w_ q_)) ch_ a_ w_ (hp1004 ch_ a_ w_ q_)) (Sg.g1 (Sx.of [s986] (FM.le.refl _) HS1096) (fun _ => St.only [] HS1096 (FM.le.refl _))) ?_
        refine takeGQ 4 [] rfl (by kernel_rfl) (by kernel_rfl) (by kernel_rfl) (by kernel_rfl) (by kernel_rfl) (by kernel_rfl) (fun ch_ a_ w_ q_ => (fun ch_ a_ w_ q_ => (fun ch_ a_ w_ q_ => (fun ch_ a_ w_ q_ => hnp ch_ a_ w_ (hp61 ch_ a_ w_ q_)) ch_ a_ w_ (hp682 ch_ a_ w_ q_)) ch_ a_ w_ (hp735 ch_ a_ w_ q_)) ch_ a_ w_ (hp1004 ch_ a_ w_ q_)) (Sg.g1 (Sx.of [s986] (FM.le.refl _) HS1096) (fun _ => St.only [] HS1096 (FM.le.refl _))) (fun w_ hw_ => by obtain ⟨g_, hl_, hS_⟩ := hw_.st; exact run_indexE hA1104 (sz := 3) rfl Try.underlying27 (by kernel_rfl) (by kernel_rfl : _ = Value.slice A47 l985.length c48) (by kernel_rfl : _ = Value.int .i64 x989) c1097 c1098 w_) ?_
        refine takeG [5] (n := 9) (fuel := 8) (l' := #[true, true, true, true, true, true, false, false, false, false, false, false, false, false]) (a' := ⟨#[.pointer (some ⟨b1, 0, none⟩), .int .i64 n7, .int .i64 vf8, undef, undef, undef, .slice none 0 0, .slice none 0 0, .int .i64 vt13, .int .i64 vt20, .slice A705 (truth657 ++ ([vt687] : List Int)).length c706, .slice A47 l985.length c48, .int .i64 vt687, .int .i64 vt714, .int .i64 vt721, .int .i64 x989, .pointer (some ⟨b1024, 0, none⟩), .pointer (some ⟨b1, 0, none⟩), .int .i64 vt13, .pointer (some ⟨b1, 0, none⟩), .int .i64 vt20, .int .i64 vt13, .int .i64 vt20, .agg #[.int .i64 vt13, .int .i64 vt20, .slice none 0 0], .slice (some ⟨b31, 0, none⟩) ([(⟨vt13, vt20, ([] : List S_Bound)⟩ : S_Cells)] : List S_Cells).length 1, .int .i64 n7, .slice A47 vt41.length c48, .int .i64 vt13, .int .i64 vt20, .int .i64 (w64 (vt13 * vt20)), .int .i64 x667, .bool true, .pointer (some ⟨b1, 0, none⟩), .int .i64 vt687, .slice A658 truth657.length c659, .int .i64 vt687, .slice (some ⟨b696, 0, none⟩) ([vt687] : List Int).length 1, .slice A705 (truth657 ++ ([vt687] : List Int)).length c706, .pointer (some ⟨b1, 0, none⟩), .int .i64 vf8, .int .i64 (w64 (vf8 + 1)), .int .i64 vt714, .pointer (some ⟨b1, 0, none⟩), .int .i64 n7, .int .i64 vt721, .slice A47 l663.length c48, .int .i64 (l663.length : Int), .int .i64 x989, .bool true, .int .i64 x989, .int .i64 vt687, .pointer (some ⟨b1, 0, none⟩), .int .i64 vt1010, .int .i64 (w64 (vt687 - vt1010)), .int .i64 vt687, .pointer (some ⟨b1, 0, none⟩), .int .i64 vt1017, .int .i64 (w64 (vt687 + vt1017)), .agg #[.int .i64 (w64 (vt687 - vt1010)), .int .i64 (w64 (vt687 + vt1017)), .bool false], .int .i64 x989, .int .i64 vt721, .int .i64 (w64 (x989 - vt721)), .int .i64 n7, .int .i64 (w64 ((w64 (x989 - vt721)) + n7)), .int .i64 n7, .int .i64 (Int.tmod (w64 ((w64 (x989 - vt721)) + n7)) n7), .int .i64 vt714, (j1079 0), (j1079 1), (j1079 2), (j1079 3), (j1079 4), (j1079 5), (j1079 6), (j1079 7), (j1079 8), (j1079 9), .slice A47 l985.length c48, .int .i64 x989, .slice A47 l985.length c48, .int .i64 x989, .pointer (some ⟨b1102, of1103 + (x989 : Int).toNat * 3, none⟩), .pointer (some ⟨b1102, of1103 + (x989 : Int).toNat * 3 + 2, none⟩), (j984 37), (j984 38), (j984 39), (j984 40), (j984 41), (j984 42), (j984 43), (j984 44), (j656 65), undef, undef], []⟩) rfl (by kernel_rfl) (by kernel_rfl) (by kernel_rfl) (fun ch_ a_ w_ q_ => (fun ch_ a_ w_ q_ => (fun ch_ a_ w_ q_ => (fun ch_ a_ w_ q_ => hnp ch_ a_ w_ (hp61 ch_ a_ w_ q_)) ch_ a_ w_ (hp682 ch_ a_ w_ q_)) ch_ a_ w_ (hp735 ch_ a_ w_ q_)) ch_ a_ w_ (hp1004 ch_ a_ w_ q_)) (Sg.g1 (Sx.of [s986] (FM.le.refl _) HS1096) (fun _ => St.only [] HS1096 (FM.le.refl _))) ?_
        refine takeGQ 6 [13] rfl (by kernel_rfl) (by kernel_rfl) (by kernel_rfl) (by kernel_rfl) (by kernel_rfl) (by kernel_rfl) (fun ch_ a_ w_ q_ => (fun ch_ a_ w_ q_ => (fun ch_ a_ w_ q_ => (fun ch_ a_ w_ q_ => hnp ch_ a_ w_ (hp61 ch_ a_ w_ q_)) ch_ a_ w_ (hp682 ch_ a_ w_ q_)) ch_ a_ w_ (hp735 ch_ a_ w_ q_)) ch_ a_ w_ (hp1004 ch_ a_ w_ q_)) (Sg.g1 (Sx.of [s986] (FM.le.refl _) HS1096) (fun _ => St.only [] HS1096 (FM.le.refl _))) (fun w_ hw_ => by obtain ⟨g_, hl_, hS_⟩ := hw_.seg (j := 13) (s := s986) (by simp) (by simp); exact run_load rfl Try.underlying32 rfl (by kernel_rfl : _ = Value.pointer (some ⟨b1102, of1103 + (x989 : Int).toNat * 3 + 2, none⟩)) ((hc1101 hS_) 2 (by decide))) ?_
        refine takeGQ 8 [] rfl (by kernel_rfl) (by kernel_rfl) (by kernel_rfl) (by kernel_rfl) (by kernel_rfl) (by kernel_rfl) (fun ch_ a_ w_ q_ => (fun ch_ a_ w_ q_ => (fun ch_ a_ w_ q_ => (fun ch_ a_ w_ q_ => hnp ch_ a_ w_ (hp61 ch_ a_ w_ q_)) ch_ a_ w_ (hp682 ch_ a_ w_ q_)) ch_ a_ w_ (hp735 ch_ a_ w_ q_)) ch_ a_ w_ (hp1004 ch_ a_ w_ q_)) (Sg.g1 (Sx.of [s986] (FM.le.refl _) HS1096) (fun _ => St.only [] HS1096 (FM.le.refl _))) (fun w_ hw_ => by obtain ⟨g_, hl_, hS_⟩ := hw_.st; exact run_loadN (n := 3) rfl Try.underlying44 rfl (by kernel_rfl) (by kernel_rfl : _ = Value.pointer (some ⟨b1024, 0, none⟩)) (cs := [.int .i64 x1080, .int .i64 x1081, .bool x1082]) rfl (hS_.cells 0 3 _ rfl)) ?_
        have hq_ := bind_some h; clear h; obtain ⟨vt1106, hc1107, h⟩ := hq_
        have hq_ := guard_some h; clear h; obtain ⟨c1123, h⟩ := hq_
        have c1123 : (vt1106.length + 1) * 24 ≤ 140737488355328 := c1123
        refine withR #[true, true, true, true, true, true, true, true, true, true, true, true, true, true] ?_
        intro R1155 hR1156 hR1157
        have J1158 : ∀ (f1124 : FM) (A1128 : Option Addr) (c1129 : Nat) (s1130 : Seg) (b1133 : Nat) (s1135 : Seg) (A1141 : Option Addr) (c1142 : Nat) (s1143 : Seg) (f1147 : FM) (s1152 : Seg) (W1159 : World) (a_ : Act), FM.le f1075 f1124 → Own ty_Bound 44 f1124 A1128 c1129 s1130 vt1106 → Own ty_Bound 44 f1124 (some ⟨b1133, 0, none⟩) 1 s1135 ([(⟨x1080, x1081, x1082⟩ : S_Bound)] : List S_Bound) → Own ty_Bound 44 f1124 A1141 c1142 s1143 (vt1106 ++ ([(⟨x1080, x1081, x1082⟩ : S_Bound)] : List S_Bound)) → FM.le f1124 f1147 → SlR ty_Bound f1147 A1141 c1142 (vt1106 ++ ([(⟨x1080, x1081, x1082⟩ : S_Bound)] : List S_Bound)) → Own ty_Cells 34 f1147 A47 c48 s1152 (l985.set (x989).toNat (⟨(rd l985 x989).W, (rd l985 x989).H, (vt1106 ++ ([(⟨x1080, x1081, x1082⟩ : S_Bound)] : List S_Bound))⟩ : S_Cells)) → St t W1159 f1147 (s1152 :: [(b1024, .cells #[.int .i64 x1080, .int .i64 x1081, .bool x1082] 44 (0, 0))] :: [(b1, .cells #[.slice A4 s3.L.length c5, .int .i64 x1083] 25 (0, 0))] :: s707 :: H) → a_ = ⟨#[.pointer (some ⟨b1, 0, none⟩), .int .i64 n7, .int .i64 vf8, undef, undef, undef, .slice none 0 0, .slice none 0 0, .int .i64 vt13, .int .i64 vt20, .slice A705 (truth657 ++ ([vt687] : List Int)).length c706, .slice A47 (l985.set (x989).toNat (⟨(rd l985 x989).W, (rd l985 x989).H, (vt1106 ++ ([(⟨x1080, x1081, x1082⟩ : S_Bound)] : List S_Bound))⟩ : S_Cells)).length c48, .int .i64 vt687, .int .i64 vt714, .int .i64 vt721, .int .i64 x989, .pointer (some ⟨b1024, 0, none⟩), .pointer (some ⟨b1, 0, none⟩), .int .i64 vt13, .pointer (some ⟨b1, 0, none⟩), .int .i64 vt20, .int .i64 vt13, .int .i64 vt20, .agg #[.int .i64 vt13, .int .i64 vt20, .slice none 0 0], .slice (some ⟨b31, 0, none⟩) ([(⟨vt13, vt20, ([] : List S_Bound)⟩ : S_Cells)] : List S_Cells).length 1, .int .i64 n7, .slice A47 vt41.length c48, .int .i64 vt13, .int .i64 vt20, .int .i64 (w64 (vt13 * vt20)), .int .i64 x667, .bool true, .pointer (some ⟨b1, 0, none⟩), .int .i64 vt687, .slice A658 truth657.length c659, .int .i64 vt687, .slice (some ⟨b696, 0, none⟩) ([vt687] : List Int).length 1, .slice A705 (truth657 ++ ([vt687] : List Int)).length c706, .pointer (some ⟨b1, 0, none⟩), .int .i64 vf8, .int .i64 (w64 (vf8 + 1)), .int .i64 vt714, .pointer (some ⟨b1, 0, none⟩), .int .i64 n7, .int .i64 vt721, .slice A47 l663.length c48, .int .i64 (l663.length : Int), .int .i64 x989, .bool true, .int .i64 x989, .int .i64 vt687, .pointer (some ⟨b1, 0, none⟩), .int .i64 vt1010, .int .i64 (w64 (vt687 - vt1010)), .int .i64 vt687, .pointer (some ⟨b1, 0, none⟩), .int .i64 vt1017, .int .i64 (w64 (vt687 + vt1017)), .agg #[.int .i64 (w64 (vt687 - vt1010)), .int .i64 (w64 (vt687 + vt1017)), .bool false], .int .i64 x989, .int .i64 vt721, .int .i64 (w64 (x989 - vt721)), .int .i64 n7, .int .i64 (w64 ((w64 (x989 - vt721)) + n7)), .int .i64 n7, .int .i64 (Int.tmod (w64 ((w64 (x989 - vt721)) + n7)) n7), .int .i64 vt714, (j1079 0), (j1079 1), (j1079 2), (j1079 3), (j1079 4), (j1079 5), (j1079 6), (j1079 7), (j1079 8), (j1079 9), .slice A47 (l985.set (x989).toNat (⟨(rd l985 x989).W, (rd l985 x989).H, (vt1106 ++ ([(⟨x1080, x1081, x1082⟩ : S_Bound)] : List S_Bound))⟩ : S_Cells)).length c48, .int .i64 x989, .slice A47 (l985.set (x989).toNat (⟨(rd l985 x989).W, (rd l985 x989).H, (vt1106 ++ ([(⟨x1080, x1081, x1082⟩ : S_Bound)] : List S_Bound))⟩ : S_Cells)).length c48, .int .i64 x989, .pointer (some ⟨b1102, of1103 + (x989 : Int).toNat * 3, none⟩), .pointer (some ⟨b1102, of1103 + (x989 : Int).toNat * 3 + 2, none⟩), .slice A1105 ((rd l985 x989).At).length c1105, .slice A1128 vt1106.length c1129, .agg #[.int .i64 x1080, .int .i64 x1081, .bool x1082], .slice (some ⟨b1133, 0, none⟩) ([(⟨x1080, x1081, x1082⟩ : S_Bound)] : List S_Bound).length 1, .slice A1141 (vt1106 ++ ([(⟨x1080, x1081, x1082⟩ : S_Bound)] : List S_Bound)).length c1142, .pointer (some ⟨b1102, of1103 + (x989 : Int).toNat * 3, none⟩), .pointer (some ⟨b1102, of1103 + (x989 : Int).toNat * 3 + 2, none⟩), (j984 44), (j656 65), undef, undef], []⟩ → R1155 a_ W1159 := by
          intro f1124 A1128 c1129 s1130 b1133 s1135 A1141 c1142 s1143 f1147 s1152 W1159 a_ L1125 HO1131 HO1137 HO1146 L1148 HR1150 HO1154 HS1160 hfr_; subst hfr_
          refine hR1156 _ _ ?_
          refine doneG (by kernel_rfl) ?_ _
          refine hn1001 _ _ ?_
          refine hK998 _ _ ?_
          refine wp_region_lit ?_
          refine seqS2 (a' := ⟨#[.pointer (some ⟨b1, 0, none⟩), .int .i64 n7, .int .i64 vf8, undef, undef, undef, .slice none 0 0, .slice none 0 0, .int .i64 vt13, .int .i64 vt20, .slice A705 (truth657 ++ ([vt687] : List Int)).length c706, .slice A47 (l985.set (x989).toNat (⟨(rd l985 x989).W, (rd l985 x989).H, (vt1106 ++ ([(⟨x1080, x1081, x1082⟩ : S_Bound)] : List S_Bound))⟩ : S_Cells)).length c48, .int .i64 vt687, .int .i64 vt714, .int .i64 vt721, .int .i64 x989, .pointer (some ⟨b1024, 0, none⟩), .pointer (some ⟨b1, 0, none⟩), .int .i64 vt13, .pointer (some ⟨b1, 0, none⟩), .int .i64 vt20, .int .i64 vt13, .int .i64 vt20, .agg #[.int .i64 vt13, .int .i64 vt20, .slice none 0 0], .slice (some ⟨b31, 0, none⟩) ([(⟨vt13, vt20, ([] : List S_Bound)⟩ : S_Cells)] : List S_Cells).length 1, .int .i64 n7, .slice A47 vt41.length c48, .int .i64 vt13, .int .i64 vt20, .int .i64 (w64 (vt13 * vt20)), .int .i64 x667, .bool true, .pointer (some ⟨b1, 0, none⟩), .int .i64 vt687, .slice A658 truth657.length c659, .int .i64 vt687, .slice (some ⟨b696, 0, none⟩) ([vt687] : List Int).length 1, .slice A705 (truth657 ++ ([vt687] : List Int)).length c706, .pointer (some ⟨b1, 0, none⟩), .int .i64 vf8, .int .i64 (w64 (vf8 + 1)), .int .i64 vt714, .pointer (some ⟨b1, 0, none⟩), .int .i64 n7, .int .i64 vt721, .slice A47 l663.length c48, .int .i64 (l663.length : Int), .int .i64 (w64 (x989 + 1)), .bool true, .int .i64 x989, .int .i64 vt687, .pointer (some ⟨b1, 0, none⟩), .int .i64 vt1010, .int .i64 (w64 (vt687 - vt1010)), .int .i64 vt687, .pointer (some ⟨b1, 0, none⟩), .int .i64 vt1017, .int .i64 (w64 (vt687 + vt1017)), .agg #[.int .i64 (w64 (vt687 - vt1010)), .int .i64 (w64 (vt687 + vt1017)), .bool false], .int .i64 x989, .int .i64 vt721, .int .i64 (w64 (x989 - vt721)), .int .i64 n7, .int .i64 (w64 ((w64 (x989 - vt721)) + n7)), .int .i64 n7, .int .i64 (Int.tmod (w64 ((w64 (x989 - vt721)) + n7)) n7), .int .i64 vt714, (j1079 0), (j1079 1), (j1079 2), (j1079 3), (j1079 4), (j1079 5), (j1079 6), (j1079 7), (j1079 8), (j1079 9), .slice A47 (l985.set (x989).toNat (⟨(rd l985 x989).W, (rd l985 x989).H, (vt1106 ++ ([(⟨x1080, x1081, x1082⟩ : S_Bound)] : List S_Bound))⟩ : S_Cells)).length c48, .int .i64 x989, .slice A47 (l985.set (x989).toNat (⟨(rd l985 x989).W, (rd l985 x989).H, (vt1106 ++ ([(⟨x1080, x1081, x1082⟩ : S_Bound)] : List S_Bound))⟩ : S_Cells)).length c48, .int .i64 x989, .pointer (some ⟨b1102, of1103 + (x989 : Int).toNat * 3, none⟩), .pointer (some ⟨b1102, of1103 + (x989 : Int).toNat * 3 + 2, none⟩), .slice A1105 ((rd l985 x989).At).length c1105, .slice A1128 vt1106.length c1129, .agg #[.int .i64 x1080, .int .i64 x1081, .bool x1082], .slice (some ⟨b1133, 0, none⟩) ([(⟨x1080, x1081, x1082⟩ : S_Bound)] : List S_Bound).length 1, .slice A1141 (vt1106 ++ ([(⟨x1080, x1081, x1082⟩ : S_Bound)] : List S_Bound)).length c1142, .pointer (some ⟨b1102, of1103 + (x989 : Int).toNat * 3, none⟩), .pointer (some ⟨b1102, of1103 + (x989 : Int).toNat * 3 + 2, none⟩), .int .i64 (w64 (x989 + 1)), (j656 65), undef, undef], []⟩) (by kernel_rfl) ?_
          refine wpList_nil ?_
          refine hK978 n979 _ _ (Nat.lt_succ_self _) ?_
          have HS1235 := HS1160.u3
          have HS1236 := HS1235.u3
          have HS1237 := HS1236.u3
          have HS1238 := HS1237.drop
          exact ⟨f1147, s1152, (l985.set (x989).toNat (⟨(rd l985 x989).W, (rd l985 x989).H, (vt1106 ++ ([(⟨x1080, x1081, x1082⟩ : S_Bound)] : List S_Bound))⟩ : S_Cells)), (w64 (x989 + 1)), x1083, (fun i_ => [Value.int .i64 x989, Value.pointer (some ⟨b1024, 0, none⟩), Value.bool true, Value.int .i64 x989, Value.int .i64 vt687, Value.pointer (some ⟨b1, 0, none⟩), Value.int .i64 vt1010, Value.int .i64 (w64 (vt687 - vt1010)), Value.int .i64 vt687, Value.pointer (some ⟨b1, 0, none⟩), Value.int .i64 vt1017, Value.int .i64 (w64 (vt687 + vt1017)), Value.agg #[.int .i64 (w64 (vt687 - vt1010)), .int .i64 (w64 (vt687 + vt1017)), .bool false], Value.int .i64 x989, Value.int .i64 vt721, Value.int .i64 (w64 (x989 - vt721)), Value.int .i64 n7, Value.int .i64 (w64 ((w64 (x989 - vt721)) + n7)), Value.int .i64 n7, Value.int .i64 (Int.tmod (w64 ((w64 (x989 - vt721)) + n7)) n7), Value.int .i64 vt714, (j1079 0), (j1079 1), (j1079 2), (j1079 3), (j1079 4), (j1079 5), (j1079 6), (j1079 7), (j1079 8), (j1079 9), Value.slice A47 (l985.set (x989).toNat (⟨(rd l985 x989).W, (rd l985 x989).H, (vt1106 ++ ([(⟨x1080, x1081, x1082⟩ : S_Bound)] : List S_Bound))⟩ : S_Cells)).length c48, Value.int .i64 x989, Value.slice A47 (l985.set (x989).toNat (⟨(rd l985 x989).W, (rd l985 x989).H, (vt1106 ++ ([(⟨x1080, x1081, x1082⟩ : S_Bound)] : List S_Bound))⟩ : S_Cells)).length c48, Value.int .i64 x989, Value.pointer (some ⟨b1102, of1103 + (x989 : Int).toNat * 3, none⟩), Value.pointer (some ⟨b1102, of1103 + (x989 : Int).toNat * 3 + 2, none⟩), Value.slice A1105 ((rd l985 x989).At).length c1105, Value.slice A1128 vt1106.length c1129, Value.agg #[.int .i64 x1080, .int .i64 x1081, .bool x1082], Value.slice (some ⟨b1133, 0, none⟩) ([(⟨x1080, x1081, x1082⟩ : S_Bound)] : List S_Bound).length 1, Value.slice A1141 (vt1106 ++ ([(⟨x1080, x1081, x1082⟩ : S_Bound)] : List S_Bound)).length c1142, Value.pointer (some ⟨b1102, of1103 + (x989 : Int).toNat * 3, none⟩), Value.pointer (some ⟨b1102, of1103 + (x989 : Int).toNat * 3 + 2, none⟩), Value.int .i64 (w64 (x989 + 1))].getD i_ undef), (L981.trans (L1014.trans (L1021.trans (L1076.trans (L1125.trans L1148))))), HS1238, HO1154, (List.length_set.trans HL988), h, (by kernel_rfl)⟩
        refine takeEither 7 9 (by kernel_rfl) rfl rfl rfl rfl ?_ ?_
        · refine does_call (f := 37) (args := #[.slice A1105 ((rd l985 x989).At).length c1105]) (by kernel_rfl) (slices_Clone_Bound_Quanta.calls k A1105 c1105 ((rd l985 x989).At) HS1096 HR1105 vt1106 hc1107) ?_
          rintro _ W1163 ⟨f1161, A1165, c1166, s1167, rfl, L1162, HS1164, HO1168⟩
          refine ⟨_, rfl, ?_⟩
          refine ⟨(Sg.g1 (Sx.of [s1167, s986] L1162 HS1164) (fun _ => St.only [s1167] HS1164 L1162)), ?_⟩
          refine takeGE 9 (by kernel_rfl) rfl (by kernel_rfl) (does_lit (e := ty_Bound) (E := 44) (vs := #[(0, Value.agg #[.int .i64 x1080, .int .i64 x1081, .bool x1082])]) (cs := #[.int .i64 x1080, .int .i64 x1081, .bool x1082]) (xs := ([(⟨x1080, x1081, x1082⟩ : S_Bound)] : List S_Bound)) rfl Try.underlying32 (by kernel_rfl) (by kernel_rfl) ⟨[.int .i64 x1080, .int .i64 x1081, .bool x1082], _, rfl, rfl, rfl⟩ rfl HS1164 ?_ (by decide))
          intro b1170 W1171 s1172 HS1173 _ HO1174
          refine ⟨(Sg.g1 (Sx.of [s1172, s1167, s986] L1162 HS1173) (fun _ => St.only [s1172, s1167] HS1173 L1162)), ?_⟩
          have HS1176 := HS1173.u1
          have HS1177 := HS1176.u1
          refine takeGE 10 (by kernel_rfl) rfl (by kernel_rfl) (does_append1 (e := ty_Bound) (E := 44) (xs := vt1106) (ys := ([(⟨x1080, x1081, x1082⟩ : S_Bound)] : List S_Bound)) rfl (by kernel_rfl : _ = Value.slice A1165 vt1106.length c1166) (by kernel_rfl : _ = Value.slice (some ⟨b1170, 0, none⟩) ([(⟨x1080, x1081, x1082⟩ : S_Bound)] : List S_Bound).length 1) Try.underlying32 inf44 HO1168 HO1174 HS1177 c1123 (lim63 c1123 (by decide)) ?_)
          intro A1178 c1179 s1180 W1181 HS1182 HO1183
          refine ⟨(Sg.g1 (Sx.of [s1180, s986] L1162 HS1182) (fun _ => St.only [s1180] HS1182 L1162)), ?_⟩
          refine takeGQ 11 [] rfl (by kernel_rfl) (by kernel_rfl) (by kernel_rfl) (by kernel_rfl) (by kernel_rfl) (by kernel_rfl) (fun ch_ a_ w_ q_ => (fun ch_ a_ w_ q_ => (fun ch_ a_ w_ q_ => (fun ch_ a_ w_ q_ => hnp ch_ a_ w_ (hp61 ch_ a_ w_ q_)) ch_ a_ w_ (hp682 ch_ a_ w_ q_)) ch_ a_ w_ (hp735 ch_ a_ w_ q_)) ch_ a_ w_ (hp1004 ch_ a_ w_ q_)) (Sg.g1 (Sx.of [s1180, s986] L1162 HS1182) (fun _ => St.only [s1180] HS1182 L1162)) (fun w_ hw_ => by obtain ⟨g_, hl_, hS_⟩ := hw_.st; exact run_indexE hA1104 (sz := 3) rfl Try.underlying27 (by kernel_rfl) (by kernel_rfl : _ = Value.slice A47 l985.length c48) (by kernel_rfl : _ = Value.int .i64 x989) c1097 c1098 w_) ?_
          refine takeG [12] (n := 2) (fuel := 1) (l' := #[true, true, true, true, true, true, true, true, true, true, true, true, true, false]) (a' := ⟨#[.pointer (some ⟨b1, 0, none⟩), .int .i64 n7, .int .i64 vf8, undef, undef, undef, .slice none 0 0, .slice none 0 0, .int .i64 vt13, .int .i64 vt20, .slice A705 (truth657 ++ ([vt687] : List Int)).length c706, .slice A47 l985.length c48, .int .i64 vt687, .int .i64 vt714, .int .i64 vt721, .int .i64 x989, .pointer (some ⟨b1024, 0, none⟩), .pointer (some ⟨b1, 0, none⟩), .int .i64 vt13, .pointer (some ⟨b1, 0, none⟩), .int .i64 vt20, .int .i64 vt13, .int .i64 vt20, .agg #[.int .i64 vt13, .int .i64 vt20, .slice none 0 0], .slice (some ⟨b31, 0, none⟩) ([(⟨vt13, vt20, ([] : List S_Bound)⟩ : S_Cells)] : List S_Cells).length 1, .int .i64 n7, .slice A47 vt41.length c48, .int .i64 vt13, .int .i64 vt20, .int .i64 (w64 (vt13 * vt20)), .int .i64 x667, .bool true, .pointer (some ⟨b1, 0, none⟩), .int .i64 vt687, .slice A658 truth657.length c659, .int .i64 vt687, .slice (some ⟨b696, 0, none⟩) ([vt687] : List Int).length 1, .slice A705 (truth657 ++ ([vt687] : List Int)).length c706, .pointer (some ⟨b1, 0, none⟩), .int .i64 vf8, .int .i64 (w64 (vf8 + 1)), .int .i64 vt714, .pointer (some ⟨b1, 0, none⟩), .int .i64 n7, .int .i64 vt721, .slice A47 l663.length c48, .int .i64 (l663.length : Int), .int .i64 x989, .bool true, .int .i64 x989, .int .i64 vt687, .pointer (some ⟨b1, 0, none⟩), .int .i64 vt1010, .int .i64 (w64 (vt687 - vt1010)), .int .i64 vt687, .pointer (some ⟨b1, 0, none⟩), .int .i64 vt1017, .int .i64 (w64 (vt687 + vt1017)), .agg #[.int .i64 (w64 (vt687 - vt1010)), .int .i64 (w64 (vt687 + vt1017)), .bool false], .int .i64 x989, .int .i64 vt721, .int .i64 (w64 (x989 - vt721)), .int .i64 n7, .int .i64 (w64 ((w64 (x989 - vt721)) + n7)), .int .i64 n7, .int .i64 (Int.tmod (w64 ((w64 (x989 - vt721)) + n7)) n7), .int .i64 vt714, (j1079 0), (j1079 1), (j1079 2), (j1079 3), (j1079 4), (j1079 5), (j1079 6), (j1079 7), (j1079 8), (j1079 9), .slice A47 l985.length c48, .int .i64 x989, .slice A47 l985.length c48, .int .i64 x989, .pointer (some ⟨b1102, of1103 + (x989 : Int).toNat * 3, none⟩), .pointer (some ⟨b1102, of1103 + (x989 : Int).toNat * 3 + 2, none⟩), .slice A1105 ((rd l985 x989).At).length c1105, .slice A1165 vt1106.length c1166, .agg #[.int .i64 x1080, .int .i64 x1081, .bool x1082], .slice (some ⟨b1170, 0, none⟩) ([(⟨x1080, x1081, x1082⟩ : S_Bound)] : List S_Bound).length 1, .slice A1178 (vt1106 ++ ([(⟨x1080, x1081, x1082⟩ : S_Bound)] : List S_Bound)).length c1179, .pointer (some ⟨b1102, of1103 + (x989 : Int).toNat * 3, none⟩), .pointer (some ⟨b1102, of1103 + (x989 : Int).toNat * 3 + 2, none⟩), (j984 44), (j656 65), undef, undef], []⟩) rfl (by kernel_rfl) (by kernel_rfl) (by kernel_rfl) (fun ch_ a_ w_ q_ => (fun ch_ a_ w_ q_ => (fun ch_ a_ w_ q_ => (fun ch_ a_ w_ q_ => hnp ch_ a_ w_ (hp61 ch_ a_ w_ q_)) ch_ a_ w_ (hp682 ch_ a_ w_ q_)) ch_ a_ w_ (hp735 ch_ a_ w_ q_)) ch_ a_ w_ (hp1004 ch_ a_ w_ q_)) (Sg.g1 (Sx.of [s1180, s986] L1162 HS1182) (fun _ => St.only [s1180] HS1182 L1162)) ?_
          obtain ⟨f1184, L1185, HS1186, HR1187⟩ := HO1183.freeze HS1182
          refine takeGE 13 (by kernel_rfl) rfl (by kernel_rfl) (does_putP (e := ty_Cells) (E := 34) (fo := 2) (vs := [.slice A1178 (vt1106 ++ ([(⟨x1080, x1081, x1082⟩ : S_Bound)] : List S_Bound)).length c1179]) (u := (⟨(rd l985 x989).W, (rd l985 x989).H, (vt1106 ++ ([(⟨x1080, x1081, x1082⟩ : S_Bound)] : List S_Bound))⟩ : S_Cells)) (i := x989) rfl (by kernel_rfl) (HO987.mono (L1014.trans (L1021.trans (L1076.trans (L1162.trans L1185))))) HS1186 hA1104 (by kernel_rfl : _ = Value.pointer (some ⟨b1102, of1103 + (x989 : Int).toNat * 3 + 2, none⟩)) (by kernel_rfl : _ = Value.slice A1178 (vt1106 ++ ([(⟨x1080, x1081, x1082⟩ : S_Bound)] : List S_Bound)).length c1179) rfl rfl (by intro u_ hu_; simp only [List.mem_cons, List.not_mem_nil, or_false] at hu_; subst hu_; rfl) (u0 := (rd l985 x989)) ⟨A1105, c1105, rfl, (HR1105.mono (L1162.trans L1185))⟩ rfl ⟨A1178, c1179, rfl, HR1187⟩ (Nat.le_of_ble_eq_true rfl) (hc1101 HS1186) c1097 c1098 ?_)
          intro W1188 s1189 HS1190 HO1191
          refine ⟨(Sg.g1 (Sx.of [s1189] (L1162.trans L1185) HS1190) (fun hl_ => Bool.noConfusion (show true = false from hl_))), ?_⟩
          refine gateRwS 11 (A := A47) (m := l985.length) (n := (l985.set (x989).toNat (⟨(rd l985 x989).W, (rd l985 x989).H, (vt1106 ++ ([(⟨x1080, x1081, x1082⟩ : S_Bound)] : List S_Bound))⟩ : S_Cells)).length) (c := c48) (by kernel_rfl) (List.length_set).symm ?_
          refine gateRwS 77 (A := A47) (m := l985.length) (n := (l985.set (x989).toNat (⟨(rd l985 x989).W, (rd l985 x989).H, (vt1106 ++ ([(⟨x1080, x1081, x1082⟩ : S_Bound)] : List S_Bound))⟩ : S_Cells)).length) (c := c48) (by kernel_rfl) (List.length_set).symm ?_
          refine gateRwS 79 (A := A47) (m := l985.length) (n := (l985.set (x989).toNat (⟨(rd l985 x989).W, (rd l985 x989).H, (vt1106 ++ ([(⟨x1080, x1081, x1082⟩ : S_Bound)] : List S_Bound))⟩ : S_Cells)).length) (c := c48) (by kernel_rfl) (List.length_set).symm ?_
          refine hR1157 _ _ ?_
          exact J1158 f1161 A1165 c1166 s1167 b1170 s1172 A1178 c1179 s1180 f1184 s1189 W1188 _ L1162 HO1168 HO1174 HO1183 L1185 HR1187 HO1191 HS1190 (by kernel_rfl)
        · refine does_lit (e := ty_Bound) (E := 44) (vs := #[(0, Value.agg #[.int .i64 x1080, .int .i64 x1081, .bool x1082])]) (cs := #[.int .i64 x1080, .int .i64 x1081, .bool x1082]) (xs := ([(⟨x1080, x1081, x1082⟩ : S_Bound)] : List S_Bound)) rfl Try.underlying32 (by kernel_rfl) (by kernel_rfl) ⟨[.int .i64 x1080, .int .i64 x1081, .bool x1082], _, rfl, rfl, rfl⟩ rfl HS1096 ?_ (by decide)
          intro b1192 W1193 s1194 HS1195 _ HO1196
          refine ⟨(Sg.g1 (Sx.of [s1194, s986] (FM.le.refl _) HS1195) (fun _ => St.only [s1194] HS1195 (FM.le.refl _))), ?_⟩
          refine takeGE 7 (by kernel_rfl) rfl (by kernel_rfl) (does_call (f := 37) (args := #[.slice A1105 ((rd l985 x989).At).length c1105]) (by kernel_rfl) (slices_Clone_Bound_Quanta.calls k A1105 c1105 ((rd l985 x989).At) HS1195 HR1105 vt1106 hc1107) ?_)
          rintro _ W1200 ⟨f1198, A1202, c1203, s1204, rfl, L1199, HS1201, HO1205⟩
          refine ⟨_, rfl, ?_⟩
          refine ⟨(Sg.g1 (Sx.of [s1204, s1194, s986] L1199 HS1201) (fun _ => St.only [s1204, s1194] HS1201 L1199)), ?_⟩
          have HS1207 := HS1201.u1
          refine takeGE 10 (by kernel_rfl) rfl (by kernel_rfl) (does_append1 (e := ty_Bound) (E := 44) (xs := vt1106) (ys := ([(⟨x1080, x1081, x1082⟩ : S_Bound)] : List S_Bound)) rfl (by kernel_rfl : _ = Value.slice A1202 vt1106.length c1203) (by kernel_rfl : _ = Value.slice (some ⟨b1192, 0, none⟩) ([(⟨x1080, x1081, x1082⟩ : S_Bound)] : List S_Bound).length 1) Try.underlying32 inf44 HO1205 (HO1196.mono L1199) HS1207 c1123 (lim63 c1123 (by decide)) ?_)
          intro A1208 c1209 s1210 W1211 HS1212 HO1213
          refine ⟨(Sg.g1 (Sx.of [s1210, s986] L1199 HS1212) (fun _ => St.only [s1210] HS1212 L1199)), ?_⟩
          refine takeGQ 11 [] rfl (by kernel_rfl) (by kernel_rfl) (by kernel_rfl) (by kernel_rfl) (by kernel_rfl) (by kernel_rfl) (fun ch_ a_ w_ q_ => (fun ch_ a_ w_ q_ => (fun ch_ a_ w_ q_ => (fun ch_ a_ w_ q_ => hnp ch_ a_ w_ (hp61 ch_ a_ w_ q_)) ch_ a_ w_ (hp682 ch_ a_ w_ q_)) ch_ a_ w_ (hp735 ch_ a_ w_ q_)) ch_ a_ w_ (hp1004 ch_ a_ w_ q_)) (Sg.g1 (Sx.of [s1210, s986] L1199 HS1212) (fun _ => St.only [s1210] HS1212 L1199)) (fun w_ hw_ => by obtain ⟨g_, hl_, hS_⟩ := hw_.st; exact run_indexE hA1104 (sz := 3) rfl Try.underlying27 (by kernel_rfl) (by kernel_rfl : _ = Value.slice A47 l985.length c48) (by kernel_rfl : _ = Value.int .i64 x989) c1097 c1098 w_) ?_
          refine takeG [12] (n := 2) (fuel := 1) (l' := #[true, true, true, true, true, true, true, true, true, true, true, true, true, false]) (a' := ⟨#[.pointer (some ⟨b1, 0, none⟩), .int .i64 n7, .int .i64 vf8, undef, undef, undef, .slice none 0 0, .slice none 0 0, .int .i64 vt13, .int .i64 vt20, .slice A705 (truth657 ++ ([vt687] : List Int)).length c706, .slice A47 l985.length c48, .int .i64 vt687, .int .i64 vt714, .int .i64 vt721, .int .i64 x989, .pointer (some ⟨b1024, 0, none⟩), .pointer (some ⟨b1, 0, none⟩), .int .i64 vt13, .pointer (some ⟨b1, 0, none⟩), .int .i64 vt20, .int .i64 vt13, .int .i64 vt20, .agg #[.int .i64 vt13, .int .i64 vt20, .slice none 0 0], .slice (some ⟨b31, 0, none⟩) ([(⟨vt13, vt20, ([] : List S_Bound)⟩ : S_Cells)] : List S_Cells).length 1, .int .i64 n7, .slice A47 vt41.length c48, .int .i64 vt13, .int .i64 vt20, .int .i64 (w64 (vt13 * vt20)), .int .i64 x667, .bool true, .pointer (some ⟨b1, 0, none⟩), .int .i64 vt687, .slice A658 truth657.length c659, .int .i64 vt687, .slice (some ⟨b696, 0, none⟩) ([vt687] : List Int).length 1, .slice A705 (truth657 ++ ([vt687] : List Int)).length c706, .pointer (some ⟨b1, 0, none⟩), .int .i64 vf8, .int .i64 (w64 (vf8 + 1)), .int .i64 vt714, .pointer (some ⟨b1, 0, none⟩), .int .i64 n7, .int .i64 vt721, .slice A47 l663.length c48, .int .i64 (l663.length : Int), .int .i64 x989, .bool true, .int .i64 x989, .int .i64 vt687, .pointer (some ⟨b1, 0, none⟩), .int .i64 vt1010, .int .i64 (w64 (vt687 - vt1010)), .int .i64 vt687, .pointer (some ⟨b1, 0, none⟩), .int .i64 vt1017, .int .i64 (w64 (vt687 + vt1017)), .agg #[.int .i64 (w64 (vt687 - vt1010)), .int .i64 (w64 (vt687 + vt1017)), .bool false], .int .i64 x989, .int .i64 vt721, .int .i64 (w64 (x989 - vt721)), .int .i64 n7, .int .i64 (w64 ((w64 (x989 - vt721)) + n7)), .int .i64 n7, .int .i64 (Int.tmod (w64 ((w64 (x989 - vt721)) + n7)) n7), .int .i64 vt714, (j1079 0), (j1079 1), (j1079 2), (j1079 3), (j1079 4), (j1079 5), (j1079 6), (j1079 7), (j1079 8), (j1079 9), .slice A47 l985.length c48, .int .i64 x989, .slice A47 l985.length c48, .int .i64 x989, .pointer (some ⟨b1102, of1103 + (x989 : Int).toNat * 3, none⟩), .pointer (some ⟨b1102, of1103 + (x989 : Int).toNat * 3 + 2, none⟩), .slice A1105 ((rd l985 x989).At).length c1105, .slice A1202 vt1106.length c1203, .agg #[.int .i64 x1080, .int .i64 x1081, .bool x1082], .slice (some ⟨b1192, 0, none⟩) ([(⟨x1080, x1081, x1082⟩ : S_Bound)] : List S_Bound).length 1, .slice A1208 (vt1106 ++ ([(⟨x1080, x1081, x1082⟩ : S_Bound)] : List S_Bound)).length c1209, .pointer (some ⟨b1102, of1103 + (x989 : Int).toNat * 3, none⟩), .pointer (some ⟨b1102, of1103 + (x989 : Int).toNat * 3 + 2, none⟩), (j984 44), (j656 65), undef, undef], []⟩) rfl (by kernel_rfl) (by kernel_rfl) (by kernel_rfl) (fun ch_ a_ w_ q_ => (fun ch_ a_ w_ q_ => (fun ch_ a_ w_ q_ => (fun ch_ a_ w_ q_ => hnp ch_ a_ w_ (hp61 ch_ a_ w_ q_)) ch_ a_ w_ (hp682 ch_ a_ w_ q_)) ch_ a_ w_ (hp735 ch_ a_ w_ q_)) ch_ a_ w_ (hp1004 ch_ a_ w_ q_)) (Sg.g1 (Sx.of [s1210, s986] L1199 HS1212) (fun _ => St.only [s1210] HS1212 L1199)) ?_
          obtain ⟨f1214, L1215, HS1216, HR1217⟩ := HO1213.freeze HS1212
          refine takeGE 13 (by kernel_rfl) rfl (by kernel_rfl) (does_putP (e := ty_Cells) (E := 34) (fo := 2) (vs := [.slice A1208 (vt1106 ++ ([(⟨x1080, x1081, x1082⟩ : S_Bound)] : List S_Bound)).length c1209]) (u := (⟨(rd l985 x989).W, (rd l985 x989).H, (vt1106 ++ ([(⟨x1080, x1081, x1082⟩ : S_Bound)] : List S_Bound))⟩ : S_Cells)) (i := x989) rfl (by kernel_rfl) (HO987.mono (L1014.trans (L1021.trans (L1076.trans (L1199.trans L1215))))) HS1216 hA1104 (by kernel_rfl : _ = Value.pointer (some ⟨b1102, of1103 + (x989 : Int).toNat * 3 + 2, none⟩)) (by kernel_rfl : _ = Value.slice A1208 (vt1106 ++ ([(⟨x1080, x1081, x1082⟩ : S_Bound)] : List S_Bound)).length c1209) rfl rfl (by intro u_ hu_; simp only [List.mem_cons, List.not_mem_nil, or_false] at hu_; subst hu_; rfl) (u0 := (rd l985 x989)) ⟨A1105, c1105, rfl, (HR1105.mono (L1199.trans L1215))⟩ rfl ⟨A1208, c1209, rfl, HR1217⟩ (Nat.le_of_ble_eq_true rfl) (hc1101 HS1216) c1097 c1098 ?_)
          intro W1218 s1219 HS1220 HO1221
          refine ⟨(Sg.g1 (Sx.of [s1219] (L1199.trans L1215) HS1220) (fun hl_ => Bool.noConfusion (show true = false from hl_))), ?_⟩
          refine gateRwS 11 (A := A47) (m := l985.length) (n := (l985.set (x989).toNat (⟨(rd l985 x989).W, (rd l985 x989).H, (vt1106 ++ ([(⟨x1080, x1081, x1082⟩ : S_Bound)] : List S_Bound))⟩ : S_Cells)).length) (c := c48) (by kernel_rfl) (List.length_set).symm ?_
          refine gateRwS 77 (A := A47) (m := l985.length) (n := (l985.set (x989).toNat (⟨(rd l985 x989).W, (rd l985 x989).H, (vt1106 ++ ([(⟨x1080, x1081, x1082⟩ : S_Bound)] : List S_Bound))⟩ : S_Cells)).length) (c := c48) (by kernel_rfl) (List.length_set).symm ?_
          refine gateRwS 79 (A := A47) (m := l985.length) (n := (l985.set (x989).toNat (⟨(rd l985 x989).W, (rd l985 x989).H, (vt1106 ++ ([(⟨x1080, x1081, x1082⟩ : S_Bound)] : List S_Bound))⟩ : S_Cells)).length) (c := c48) (by kernel_rfl) (List.length_set).symm ?_
          refine hR1157 _ _ ?_
          exact J1158 f1198 A1202 c1203 s1204 b1192 s1194 A1208 c1209 s1210 f1214 s1219 W1218 _ L1199 HO1205 HO1196 HO1213 L1215 HR1217 HO1221 HS1220 (by kernel_rfl)
      clear h; have h := hv1084; clear hv1084
      have hq_ := ite_some h; clear h; rcases hq_ with ⟨c1036, h⟩ | ⟨c1036, h⟩
      · have c1036 : (Int.tmod (w64 ((w64 (x989 - vt721)) + n7)) n7) < vt714 := c1036
        refine wpRwI 67 (x := (decide ((Int.tmod (w64 ((w64 (x989 - vt721)) + n7)) n7) < vt714))) (v := true) (by kernel_rfl) (decide_eq_true c1036) ?_
        refine condT (by kernel_rfl) ?_
        refine wp_region_lit ?_
        have HS1037 := HS1029.u1
        have hq_ := bind_some h; clear h; obtain ⟨⟨vt1038, vt1039⟩, hc1040, h⟩ := hq_
        refine seqL2 (by kernel_rfl) ?_
        refine seqK rfl (does_call (f := 25) (args := #[.pointer (some ⟨b1, 0, none⟩), .int .i64 (-900), .int .i64 900]) (by kernel_rfl) (spymake_Stream_Range.calls k b1 A4 c5 (⟨s3.L, vt1018⟩ : S_Stream) (-900) 900 HS1037 (HR6.mono (L17.trans (L24.trans (L38.trans (L44.trans (L653.trans (L691.trans (L718.trans (L725.trans (L981.trans (L1014.trans L1021))))))))))) vt1038 vt1039 hc1040) ?_)
        rintro _ W1043 ⟨f1041, rfl, L1042, HS1044⟩
        refine ⟨_, rfl, ?_⟩
        have hq_ := bind_some h; clear h; obtain ⟨vt1045, hc1046, h⟩ := hq_
        refine seqL1 (by kernel_rfl) ?_
        refine seqK rfl (does_call (f := 30) (args := #[.int .i64 (w64 (vt687 + vt1038))]) (by kernel_rfl) (bound_Exact_Quanta.calls k (w64 (vt687 + vt1038)) HS1044 vt1045 hc1046) ?_)
        rintro _ W1049 ⟨f1047, rfl, L1048, HS1050⟩
        refine ⟨_, rfl, ?_⟩
        have HS1051 := HS1050.u1
        refine seqK rfl (does_store (n := 3) (vs := [.int .i64 vt1045.Lo, .int .i64 vt1045.Hi, .bool vt1045.Unknown]) (cs' := #[.int .i64 vt1045.Lo, .int .i64 vt1045.Hi, .bool vt1045.Unknown]) rfl (by kernel_rfl) (by kernel_rfl : _ = Value.pointer (some ⟨b1024, 0, none⟩)) (by kernel_rfl : _ = Value.agg #[.int .i64 vt1045.Lo, .int .i64 vt1045.Hi, .bool vt1045.Unknown]) rfl rfl (by intro u_ hu_; simp only [List.mem_cons, List.not_mem_nil, or_false] at hu_; rcases hu_ with rfl | rfl | rfl <;> rfl) HS1051 (Nat.le_of_ble_eq_true rfl) (by kernel_rfl) ?_)
        intro W1052 HS1053
        refine wpList_nil ?_
        exact J1085 f1047 vt1045.Lo vt1045.Hi vt1045.Unknown vt1039 (fun i_ => [Value.bool true, Value.int .i64 vt687, Value.pointer (some ⟨b1, 0, none⟩), Value.int .i64 vt1038, Value.int .i64 (w64 (vt687 + vt1038)), Value.agg #[.int .i64 vt1045.Lo, .int .i64 vt1045.Hi, .bool vt1045.Unknown], (j984 27), (j984 28), (j984 29), (j984 30)].getD i_ undef) W1052 _ (L1042.trans L1048) h HS1053 (by kernel_rfl)
      · have c1036 : ¬ ((Int.tmod (w64 ((w64 (x989 - vt721)) + n7)) n7) < vt714) := c1036
        refine wpRwI 67 (x := (decide ((Int.tmod (w64 ((w64 (x989 - vt721)) + n7)) n7) < vt714))) (v := false) (by kernel_rfl) (decide_eq_false c1036) ?_
        refine condF (by kernel_rfl) ?_
        refine wp_seq_k (fun K1054 hK1055 => ?_)
        refine wp_region_lit ?_
        have HS1056 := HS1029.u1
        have hq_ := bind_some h; clear h; obtain ⟨⟨vt1057, vt1058⟩, hc1059, h⟩ := hq_
        refine seqL1 (by kernel_rfl) ?_
        refine seqK rfl (does_call (f := 12) (args := #[.pointer (some ⟨b1, 0, none⟩), .int .i64 9]) (by kernel_rfl) (spymake_Stream_Next.calls k b1 A4 c5 (⟨s3.L, vt1018⟩ : S_Stream) 9 HS1056 (HR6.mono (L17.trans (L24.trans (L38.trans (L44.trans (L653.trans (L691.trans (L718.trans (L725.trans (L981.trans (L1014.trans L1021))))))))))) vt1057 vt1058 hc1059) ?_)
        rintro _ W1062 ⟨f1060, rfl, L1061, HS1063⟩
        refine ⟨_, rfl, ?_⟩
        refine seqS1 (a' := ⟨#[.pointer (some ⟨b1, 0, none⟩), .int .i64 n7, .int .i64 vf8, undef, undef, undef, .slice none 0 0, .slice none 0 0, .int .i64 vt13, .int .i64 vt20, .slice A705 (truth657 ++ ([vt687] : List Int)).length c706, .slice A47 l985.length c48, .int .i64 vt687, .int .i64 vt714, .int .i64 vt721, .int .i64 x989, .pointer (some ⟨b1024, 0, none⟩), .pointer (some ⟨b1, 0, none⟩), .int .i64 vt13, .pointer (some ⟨b1, 0, none⟩), .int .i64 vt20, .int .i64 vt13, .int .i64 vt20, .agg #[.int .i64 vt13, .int .i64 vt20, .slice none 0 0], .slice (some ⟨b31, 0, none⟩) ([(⟨vt13, vt20, ([] : List S_Bound)⟩ : S_Cells)] : List S_Cells).length 1, .int .i64 n7, .slice A47 vt41.length c48, .int .i64 vt13, .int .i64 vt20, .int .i64 (w64 (vt13 * vt20)), .int .i64 x667, .bool true, .pointer (some ⟨b1, 0, none⟩), .int .i64 vt687, .slice A658 truth657.length c659, .int .i64 vt687, .slice (some ⟨b696, 0, none⟩) ([vt687] : List Int).length 1, .slice A705 (truth657 ++ ([vt687] : List Int)).length c706, .pointer (some ⟨b1, 0, none⟩), .int .i64 vf8, .int .i64 (w64 (vf8 + 1)), .int .i64 vt714, .pointer (some ⟨b1, 0, none⟩), .int .i64 n7, .int .i64 vt721, .slice A47 l663.length c48, .int .i64 (l663.length : Int), .int .i64 x989, .bool true, .int .i64 x989, .int .i64 vt687, .pointer (some ⟨b1, 0, none⟩), .int .i64 vt1010, .int .i64 (w64 (vt687 - vt1010)), .int .i64 vt687, .pointer (some ⟨b1, 0, none⟩), .int .i64 vt1017, .int .i64 (w64 (vt687 + vt1017)), .agg #[.int .i64 (w64 (vt687 - vt1010)), .int .i64 (w64 (vt687 + vt1017)), .bool false], .int .i64 x989, .int .i64 vt721, .int .i64 (w64 (x989 - vt721)), .int .i64 n7, .int .i64 (w64 ((w64 (x989 - vt721)) + n7)), .int .i64 n7, .int .i64 (Int.tmod (w64 ((w64 (x989 - vt721)) + n7)) n7), .int .i64 vt714, .bool false, (j984 22), (j984 23), (j984 24), (j984 25), (j984 26), .pointer (some ⟨b1, 0, none⟩), .int .i64 vt1057, .bool (vt1057 == 0), (j984 30), (j984 31), (j984 32), (j984 33), (j984 34), (j984 35), (j984 36), (j984 37), (j984 38), (j984 39), (j984 40), (j984 41), (j984 42), (j984 43), (j984 44), (j656 65), undef, undef], []⟩) (by kernel_rfl) ?_
        refine wpList_nil ?_
        refine hK1055 _ _ ?_
        have hq_ := ite_some h; clear h; rcases hq_ with ⟨c1065, h⟩ | ⟨c1065, h⟩
        · have c1065 : vt1057 = 0 := c1065
          refine wpRwI 75 (x := (vt1057 == 0)) (v := true) (by kernel_rfl) (beq_iff_eq.mpr c1065) ?_
          refine condT (by kernel_rfl) ?_
          refine wp_region_lit ?_
          have hq_ := bind_some h; clear h; obtain ⟨vt1066, hc1067, h⟩ := hq_
          refine seqK rfl (does_call (f := 32) (args := #[]) (by kernel_rfl) (bound_None_Quanta.calls k  HS1063 vt1066 hc1067) ?_)
          rintro _ W1070 ⟨f1068, rfl, L1069, HS1071⟩
          refine ⟨_, rfl, ?_⟩
          have HS1072 := HS1071.u1
          refine seqK rfl (does_store (n := 3) (vs := [.int .i64 vt1066.Lo, .int .i64 vt1066.Hi, .bool vt1066.Unknown]) (cs' := #[.int .i64 vt1066.Lo, .int .i64 vt1066.Hi, .bool vt1066.Unknown]) rfl (by kernel_rfl) (by kernel_rfl : _ = Value.pointer (some ⟨b1024, 0, none⟩)) (by kernel_rfl : _ = Value.agg #[.int .i64 vt1066.Lo, .int .i64 vt1066.Hi, .bool vt1066.Unknown]) rfl rfl (by intro u_ hu_; simp only [List.mem_cons, List.not_mem_nil, or_false] at hu_; rcases hu_ with rfl | rfl | rfl <;> rfl) HS1072 (Nat.le_of_ble_eq_true rfl) (by kernel_rfl) ?_)
          intro W1073 HS1074
          refine wpList_nil ?_
          exact J1085 f1068 vt1066.Lo vt1066.Hi vt1066.Unknown vt1058 (fun i_ => [Value.bool false, (j984 22), (j984 23), (j984 24), (j984 25), (j984 26), Value.pointer (some ⟨b1, 0, none⟩), Value.int .i64 vt1057, Value.bool true, Value.agg #[.int .i64 vt1066.Lo, .int .i64 vt1066.Hi, .bool vt1066.Unknown]].getD i_ undef) W1073 _ (L1061.trans L1069) h HS1074 (by kernel_rfl)
        · have c1065 : ¬ (vt1057 = 0) := c1065
          refine wpRwI 75 (x := (vt1057 == 0)) (v := false) (by kernel_rfl) (beq_eq_false_iff_ne.mpr c1065) ?_
          refine condF (by kernel_rfl) ?_
          refine wp_skip ?_
          have HS1087 := HS1063.u3
          have HS1088 := HS1087.u3
          have HS1089 := HS1088.u2
          have HS1090 := HS1089.u3
          exact J1085 f1060 (w64 (vt687 - vt1010)) (w64 (vt687 + vt1017)) false vt1058 (fun i_ => [Value.bool false, (j984 22), (j984 23), (j984 24), (j984 25), (j984 26), Value.pointer (some ⟨b1, 0, none⟩), Value.int .i64 vt1057, Value.bool false, (j984 30)].getD i_ undef) W1062 _ L1061 h HS1090 (by kernel_rfl)
    · have c996 : ¬ (x989 < (l663.length : Int)) := c996
      refine wpRwI 48 (x := (decide (x989 < (l663.length : Int)))) (v := false) (by kernel_rfl) (decide_eq_false c996) ?_
      refine condF (by kernel_rfl) ?_
      refine wp_exit ?_
      refine hx731 _ _ ?_
      exact J1233 f980 s986 l985 x990 (fun i_ => [(j984 0), (j984 1), Value.slice A47 l663.length c48, Value.int .i64 x989, Value.bool false, (j984 3), (j984 4), (j984 5), (j984 6), (j984 7), (j984 8), (j984 9), (j984 10), (j984 11), (j984 12), (j984 13), (j984 14), (j984 15), (j984 16), (j984 17), (j984 18), (j984 19), (j984 20), (j984 21), (j984 22), (j984 23), (j984 24), (j984 25), (j984 26), (j984 27), (j984 28), (j984 29), (j984 30), (j984 31), (j984 32), (j984 33), (j984 34), (j984 35), (j984 36), (j984 37), (j984 38), (j984 39), (j984 40), (j984 41), (j984 42), (j984 43), (j984 44)].getD i_ undef) W982 _ L981 h HS983 HO987 HL988 (by kernel_rfl)
  · have c674 : ¬ (x667 < (w64 (vt13 * vt20))) := c674
    refine wpRwI 31 (x := (decide (x667 < (w64 (vt13 * vt20))))) (v := false) (by kernel_rfl) (decide_eq_false c674) ?_
    refine condF (by kernel_rfl) ?_
    refine wp_exit ?_
    refine hx57 _ _ ?_
    exact J1256 f652 A658 c659 s660 s664 truth657 l663 x668 (fun i_ => [(j656 0), (j656 1), (j656 2), (j656 3), (j656 4), Value.slice A47 vt41.length c48, Value.int .i64 x667, Value.bool false, (j656 6), (j656 7), (j656 8), (j656 9), (j656 10), (j656 11), (j656 12), (j656 13), (j656 14), (j656 15), (j656 16), (j656 17), (j656 18), (j656 19), (j656 20), (j656 21), (j656 22), (j656 23), (j656 24), (j656 25), (j656 26), (j656 27), (j656 28), (j656 29), (j656 30), (j656 31), (j656 32), (j656 33), (j656 34), (j656 35), (j656 36), (j656 37), (j656 38), (j656 39), (j656 40), (j656 41), (j656 42), (j656 43), (j656 44), (j656 45), (j656 46), (j656 47), (j656 48), (j656 49), (j656 50), (j656 51), (j656 52), (j656 53), (j656 54), (j656 55), (j656 56), (j656 57), (j656 58), (j656 59), (j656 60), (j656 61), (j656 62), (j656 63), (j656 64), (j656 65)].getD i_ undef) W654 _ L653 h HS655 HO661 HO665 HL666 (by kernel_rfl)

set_option maxRecDepth 100000 in
set_option maxHeartbeats 4000000 in
theorem clean_Check.calls (k : Nat) (A2 : Option Addr) (c3 : Nat) (c1 : S_Cells) {t w : World} {f : FM} {H : List Seg} (HS : St t w f (H)) (HR4 : SlR ty_Bound f A2 c3 c1.At) (r1 : Int) (h : clean_Check k c1 = some r1) :
    Calls Try.prog 63 #[.agg #[.int .i64 c1.W, .int .i64 c1.H, .slice A2 c1.At.length c3]] w (fun e w' => ∃ (g : FM), e = .returned (Value.int .i64 r1) ∧ FM.le f g ∧ St t w' g (H)) := by
  unfold clean_Check at h
  refine enter Try.func63 rfl (tm := #[.agg #[.int .i64 c1.W, .int .i64 c1.H, .slice A2 c1.At.length c3], undef, undef, undef, undef, undef, undef, undef, undef, undef, undef, undef, undef, undef, undef, undef, undef, undef, undef, undef, undef, undef, undef, undef, undef, undef, undef, undef, undef, undef, undef, undef, undef, undef, undef, undef, undef, undef, undef, undef, undef, undef, undef, undef, undef, undef, undef, undef, undef, undef, undef, undef]) (by kernel_rfl) ?_
  intro B hret hnor hnp
  refine wp_seq_k (fun K5 hK6 => ?_)
  refine wp_region_lit ?_
  refine seqK rfl (does_box (cs := #[.int .i64 c1.W, .int .i64 c1.H, .slice A2 c1.At.length c3]) rfl (by kernel_rfl : _ = Value.agg #[.int .i64 c1.W, .int .i64 c1.H, .slice A2 c1.At.length c3]) rfl HS ?_)
  intro b7 W8 HS9
  refine seqS1 (a' := ⟨#[.agg #[.int .i64 c1.W, .int .i64 c1.H, .slice A2 c1.At.length c3], .pointer (some ⟨b7, 0, none⟩), .int .i64 0, undef, undef, undef, undef, undef, undef, undef, undef, undef, undef, undef, undef, undef, undef, undef, undef, undef, undef, undef, undef, undef, undef, undef, undef, undef, undef, undef, undef, undef, undef, undef, undef, undef, undef, undef, undef, undef, undef, undef, undef, undef, undef, undef, undef, undef, undef, undef, undef, undef], []⟩) (by kernel_rfl) ?_
  refine wpList_nil ?_
  refine hK6 _ _ ?_
  refine wp_seq_k (fun K11 hK12 => ?_)
  refine wp_seq_k (fun K13 hK14 => ?_)
  refine wp_region_lit ?_
  refine seqL1 (by kernel_rfl) ?_
  refine seqK rfl (does_run (run_load rfl Try.underlying3 rfl (by kernel_rfl : _ = Value.pointer (some ⟨b7, 0, none⟩)) (HS9.cell 0)) ?_)
  refine seqL1 (by kernel_rfl) ?_
  refine seqK rfl (does_run (run_load rfl Try.underlying3 rfl (by kernel_rfl : _ = Value.pointer (some ⟨b7, 1, none⟩)) (HS9.cell 1)) ?_)
  refine seqS3 (a' := ⟨#[.agg #[.int .i64 c1.W, .int .i64 c1.H, .slice A2 c1.At.length c3], .pointer (some ⟨b7, 0, none⟩), .int .i64 0, undef, undef, undef, .pointer (some ⟨b7, 0, none⟩), .int .i64 c1.W, .pointer (some ⟨b7, 1, none⟩), .int .i64 c1.H, .int .i64 (mn c1.W c1.H), .bool (decide ((mn c1.W c1.H) < 1)), .bool (decide ((mn c1.W c1.H) < 1)), undef, undef, undef, undef, undef, undef, undef, undef, undef, undef, undef, undef, undef, undef, undef, undef, undef, undef, undef, undef, undef, undef, undef, undef, undef, undef, undef, undef, undef, undef, undef, undef, undef, undef, undef, undef, undef, undef, undef], []⟩) (by kernel_rfl) ?_
  have hq_ := ite_some h; clear h; rcases hq_ with ⟨c15, h⟩ | ⟨c15, h⟩
  · have c15 : (mn c1.W c1.H) < 1 := c15
    refine seqRwI 11 (x := (decide ((mn c1.W c1.H) < 1))) (v := true) (by kernel_rfl) (decide_eq_true c15) ?_
    refine seqRwI 12 (x := (decide ((mn c1.W c1.H) < 1))) (v := true) (by kernel_rfl) (decide_eq_true c15) ?_
    refine seqS18 (a' := ⟨#[.agg #[.int .i64 c1.W, .int .i64 c1.H, .slice A2 c1.At.length c3], .pointer (some ⟨b7, 0, none⟩), .int .i64 0, undef, undef, undef, .pointer (some ⟨b7, 0, none⟩), .int .i64 c1.W, .pointer (some ⟨b7, 1, none⟩), .int .i64 c1.H, .int .i64 (mn c1.W c1.H), .bool true, .bool true, undef, undef, undef, undef, undef, undef, .bool true, .bool true, undef, undef, undef, undef, undef, undef, undef, undef, undef, .bool true, undef, undef, undef, undef, undef, undef, undef, undef, undef, undef, undef, undef, undef, undef, undef, undef, undef, undef, undef, undef, undef], []⟩) (by kernel_rfl) ?_
    refine wpList_nil ?_
    refine hK14 _ _ ?_
    refine condT (by kernel_rfl) ?_
    refine wp_seq_k (fun K16 hK17 => ?_)
    refine wp_region_lit ?_
    refine seqS1 (a' := ⟨#[.agg #[.int .i64 c1.W, .int .i64 c1.H, .slice A2 c1.At.length c3], .pointer (some ⟨b7, 0, none⟩), .int .i64 3, undef, undef, undef, .pointer (some ⟨b7, 0, none⟩), .int .i64 c1.W, .pointer (some ⟨b7, 1, none⟩), .int .i64 c1.H, .int .i64 (mn c1.W c1.H), .bool true, .bool true, undef, undef, undef, undef, undef, undef, .bool true, .bool true, undef, undef, undef, undef, undef, undef, undef, undef, undef, .bool true, undef, undef, undef, undef, undef, undef, undef, undef, undef, undef, undef, undef, undef, undef, undef, undef, undef, undef, undef, undef, undef], []⟩) (by kernel_rfl) ?_
    refine wpList_nil ?_
    refine hK17 _ _ ?_
    refine wp_ret ?_
    refine hret _ _ ?_
    refine ends_still (v := Value.int .i64 3) (by kernel_rfl) (by kernel_rfl) ?_
    have HS114 := HS9.drop
    injection h with h
    subst h
    exact ⟨f, rfl, FM.le.refl _, HS114⟩
  · have c15 : ¬ ((mn c1.W c1.H) < 1) := c15
    refine seqRwI 11 (x := (decide ((mn c1.W c1.H) < 1))) (v := false) (by kernel_rfl) (decide_eq_false c15) ?_
    refine seqRwI 12 (x := (decide ((mn c1.W c1.H) < 1))) (v := false) (by kernel_rfl) (decide_eq_false c15) ?_
    refine seqL1 (by kernel_rfl) ?_
    refine seqG (by kernel_rfl) (does_run (run_load rfl Try.underlying3 rfl (by kernel_rfl : _ = Value.pointer (some ⟨b7, 0, none⟩)) (HS9.cell 0)) ?_)
    refine seqL1 (by kernel_rfl) ?_
    refine seqG (by kernel_rfl) (does_run (run_load rfl Try.underlying3 rfl (by kernel_rfl : _ = Value.pointer (some ⟨b7, 1, none⟩)) (HS9.cell 1)) ?_)
    refine seqS4 (a' := ⟨#[.agg #[.int .i64 c1.W, .int .i64 c1.H, .slice A2 c1.At.length c3], .pointer (some ⟨b7, 0, none⟩), .int .i64 0, undef, undef, undef, .pointer (some ⟨b7, 0, none⟩), .int .i64 c1.W, .pointer (some ⟨b7, 1, none⟩), .int .i64 c1.H, .int .i64 (mn c1.W c1.H), .bool false, .bool false, .pointer (some ⟨b7, 0, none⟩), .int .i64 c1.W, .pointer (some ⟨b7, 1, none⟩), .int .i64 c1.H, .int .i64 (mx c1.W c1.H), .bool (decide ((mx c1.W c1.H) > 32)), .bool (decide ((mx c1.W c1.H) > 32)), .bool (decide ((mx c1.W c1.H) > 32)), undef, undef, undef, undef, undef, undef, undef, undef, undef, undef, undef, undef, undef, undef, undef, undef, undef, undef, undef, undef, undef, undef, undef, undef, undef, undef, undef, undef, undef, undef, undef], []⟩) (by kernel_rfl) ?_
    have hq_ := ite_some h; clear h; rcases hq_ with ⟨c18, h⟩ | ⟨c18, h⟩
    · have c18 : (mx c1.W c1.H) > 32 := c18
      refine seqRwI 18 (x := (decide ((mx c1.W c1.H) > 32))) (v := true) (by kernel_rfl) (decide_eq_true c18) ?_
      refine seqRwI 19 (x := (decide ((mx c1.W c1.H) > 32))) (v := true) (by kernel_rfl) (decide_eq_true c18) ?_
      refine seqRwI 20 (x := (decide ((mx c1.W c1.H) > 32))) (v := true) (by kernel_rfl) (decide_eq_true c18) ?_
      refine seqS10 (a' := ⟨#[.agg #[.int .i64 c1.W, .int .i64 c1.H, .slice A2 c1.At.length c3], .pointer (some ⟨b7, 0, none⟩), .int .i64 0, undef, undef, undef, .pointer (some ⟨b7, 0, none⟩), .int .i64 c1.W, .pointer (some ⟨b7, 1, none⟩), .int .i64 c1.H, .int .i64 (mn c1.W c1.H), .bool false, .bool false, .pointer (some ⟨b7, 0, none⟩), .int .i64 c1.W, .pointer (some ⟨b7, 1, none⟩), .int .i64 c1.H, .int .i64 (mx c1.W c1.H), .bool true, .bool true, .bool true, undef, undef, undef, undef, undef, undef, undef, undef, undef, .bool true, undef, undef, undef, undef, undef, undef, undef, undef, undef, undef, undef, undef, undef, undef, undef, undef, undef, undef, undef, undef, undef], []⟩) (by kernel_rfl) ?_
      refine wpList_nil ?_
      refine hK14 _ _ ?_
      refine condT (by kernel_rfl) ?_
      refine wp_seq_k (fun K19 hK20 => ?_)
      refine wp_region_lit ?_
      refine seqS1 (a' := ⟨#[.agg #[.int .i64 c1.W, .int .i64 c1.H, .slice A2 c1.At.length c3], .pointer (some ⟨b7, 0, none⟩), .int .i64 3, undef, undef, undef, .pointer (some ⟨b7, 0, none⟩), .int .i64 c1.W, .pointer (some ⟨b7, 1, none⟩), .int .i64 c1.H, .int .i64 (mn c1.W c1.H), .bool false, .bool false, .pointer (some ⟨b7, 0, none⟩), .int .i64 c1.W, .pointer (some ⟨b7, 1, none⟩), .int .i64 c1.H, .int .i64 (mx c1.W c1.H), .bool true, .bool true, .bool true, undef, undef, undef, undef, undef, undef, undef, undef, undef, .bool true, undef, undef, undef, undef, undef, undef, undef, undef, undef, undef, undef, undef, undef, undef, undef, undef, undef, undef, undef, undef, undef], []⟩) (by kernel_rfl) ?_
      refine wpList_nil ?_
      refine hK20 _ _ ?_
      refine wp_ret ?_
      refine hret _ _ ?_
      refine ends_still (v := Value.int .i64 3) (by kernel_rfl) (by kernel_rfl) ?_
      have HS115 := HS9.drop
      injection h with h
      subst h
      exact ⟨f, rfl, FM.le.refl _, HS115⟩
    · have c18 : ¬ ((mx c1.W c1.H) > 32) := c18
      refine seqRwI 18 (x := (decide ((mx c1.W c1.H) > 32))) (v := false) (by kernel_rfl) (decide_eq_false c18) ?_
      refine seqRwI 19 (x := (decide ((mx c1.W c1.H) > 32))) (v := false) (by kernel_rfl) (decide_eq_false c18) ?_
      refine seqRwI 20 (x := (decide ((mx c1.W c1.H) > 32))) (v := false) (by kernel_rfl) (decide_eq_false c18) ?_
      refine seqL1 (by kernel_rfl) ?_
      refine seqG (by kernel_rfl) (does_run (run_load rfl Try.underlying32 rfl (by kernel_rfl : _ = Value.pointer (some ⟨b7, 2, none⟩)) (HS9.cell 2)) ?_)
      refine seqL2 (by kernel_rfl) ?_
      refine seqG (by kernel_rfl) (does_run (run_load rfl Try.underlying3 rfl (by kernel_rfl : _ = Value.pointer (some ⟨b7, 0, none⟩)) (HS9.cell 0)) ?_)
      refine seqL1 (by kernel_rfl) ?_
      refine seqG (by kernel_rfl) (does_run (run_load rfl Try.underlying3 rfl (by kernel_rfl : _ = Value.pointer (some ⟨b7, 1, none⟩)) (HS9.cell 1)) ?_)
      refine seqS3 (a' := ⟨#[.agg #[.int .i64 c1.W, .int .i64 c1.H, .slice A2 c1.At.length c3], .pointer (some ⟨b7, 0, none⟩), .int .i64 0, undef, undef, undef, .pointer (some ⟨b7, 0, none⟩), .int .i64 c1.W, .pointer (some ⟨b7, 1, none⟩), .int .i64 c1.H, .int .i64 (mn c1.W c1.H), .bool false, .bool false, .pointer (some ⟨b7, 0, none⟩), .int .i64 c1.W, .pointer (some ⟨b7, 1, none⟩), .int .i64 c1.H, .int .i64 (mx c1.W c1.H), .bool false, .bool false, .bool false, .pointer (some ⟨b7, 2, none⟩), .slice A2 c1.At.length c3, .int .i64 (c1.At.length : Int), .pointer (some ⟨b7, 0, none⟩), .int .i64 c1.W, .pointer (some ⟨b7, 1, none⟩), .int .i64 c1.H, .int .i64 (w64 (c1.W * c1.H)), .bool ((c1.At.length : Int) != (w64 (c1.W * c1.H))), .bool ((c1.At.length : Int) != (w64 (c1.W * c1.H))), undef, undef, undef, undef, undef, undef, undef, undef, undef, undef, undef, undef, undef, undef, undef, undef, undef, undef, undef, undef, undef], []⟩) (by kernel_rfl) ?_
      refine wpList_nil ?_
      refine hK14 _ _ ?_
      have hq_ := ite_some h; clear h; rcases hq_ with ⟨c22, h⟩ | ⟨c22, h⟩
      · have c22 : (c1.At.length : Int) ≠ (w64 (c1.W * c1.H)) := c22
        refine wpRwI 29 (x := ((c1.At.length : Int) != (w64 (c1.W * c1.H)))) (v := true) (by kernel_rfl) (bne_iff_ne.mpr c22) ?_
        refine wpRwI 30 (x := ((c1.At.length : Int) != (w64 (c1.W * c1.H)))) (v := true) (by kernel_rfl) (bne_iff_ne.mpr c22) ?_
        refine condT (by kernel_rfl) ?_
        refine wp_seq_k (fun K23 hK24 => ?_)
        refine wp_region_lit ?_
        refine seqS1 (a' := ⟨#[.agg #[.int .i64 c1.W, .int .i64 c1.H, .slice A2 c1.At.length c3], .pointer (some ⟨b7, 0, none⟩), .int .i64 3, undef, undef, undef, .pointer (some ⟨b7, 0, none⟩), .int .i64 c1.W, .pointer (some ⟨b7, 1, none⟩), .int .i64 c1.H, .int .i64 (mn c1.W c1.H), .bool false, .bool false, .pointer (some ⟨b7, 0, none⟩), .int .i64 c1.W, .pointer (some ⟨b7, 1, none⟩), .int .i64 c1.H, .int .i64 (mx c1.W c1.H), .bool false, .bool false, .bool false, .pointer (some ⟨b7, 2, none⟩), .slice A2 c1.At.length c3, .int .i64 (c1.At.length : Int), .pointer (some ⟨b7, 0, none⟩), .int .i64 c1.W, .pointer (some ⟨b7, 1, none⟩), .int .i64 c1.H, .int .i64 (w64 (c1.W * c1.H)), .bool true, .bool true, undef, undef, undef, undef, undef, undef, undef, undef, undef, undef, undef, undef, undef, undef, undef, undef, undef, undef, undef, undef, undef], []⟩) (by kernel_rfl) ?_
        refine wpList_nil ?_
        refine hK24 _ _ ?_
        refine wp_ret ?_
        refine hret _ _ ?_
        refine ends_still (v := Value.int .i64 3) (by kernel_rfl) (by kernel_rfl) ?_
        have HS116 := HS9.drop
        injection h with h
        subst h
        exact ⟨f, rfl, FM.le.refl _, HS116⟩
      · have c22 : ¬ ((c1.At.length : Int) ≠ (w64 (c1.W * c1.H))) := c22
        refine wpRwI 29 (x := ((c1.At.length : Int) != (w64 (c1.W * c1.H)))) (v := false) (by kernel_rfl) (bne_eq_false_iff_eq.mpr (Decidable.of_not_not c22)) ?_
        refine wpRwI 30 (x := ((c1.At.length : Int) != (w64 (c1.W * c1.H)))) (v := false) (by kernel_rfl) (bne_eq_false_iff_eq.mpr (Decidable.of_not_not c22)) ?_
        refine condF (by kernel_rfl) ?_
        refine wp_skip ?_
        refine hK12 _ _ ?_
        refine wp_seq_k (fun K25 hK26 => ?_)
        refine wp_seq_k (fun K27 hK28 => ?_)
        refine wp_region_lit ?_
        refine seqL1 (by kernel_rfl) ?_
        refine seqK rfl (does_run (run_load rfl Try.underlying32 rfl (by kernel_rfl : _ = Value.pointer (some ⟨b7, 2, none⟩)) (HS9.cell 2)) ?_)
        refine seqS2 (a' := ⟨#[.agg #[.int .i64 c1.W, .int .i64 c1.H, .slice A2 c1.At.length c3], .pointer (some ⟨b7, 0, none⟩), .int .i64 0, undef, undef, undef, .pointer (some ⟨b7, 0, none⟩), .int .i64 c1.W, .pointer (some ⟨b7, 1, none⟩), .int .i64 c1.H, .int .i64 (mn c1.W c1.H), .bool false, .bool false, .pointer (some ⟨b7, 0, none⟩), .int .i64 c1.W, .pointer (some ⟨b7, 1, none⟩), .int .i64 c1.H, .int .i64 (mx c1.W c1.H), .bool false, .bool false, .bool false, .pointer (some ⟨b7, 2, none⟩), .slice A2 c1.At.length c3, .int .i64 (c1.At.length : Int), .pointer (some ⟨b7, 0, none⟩), .int .i64 c1.W, .pointer (some ⟨b7, 1, none⟩), .int .i64 c1.H, .int .i64 (w64 (c1.W * c1.H)), .bool false, .bool false, .pointer (some ⟨b7, 2, none⟩), .slice A2 c1.At.length c3, .int .i64 (c1.At.length : Int), .int .i64 0, undef, undef, undef, undef, undef, undef, undef, undef, undef, undef, undef, undef, undef, undef, undef, undef, undef], []⟩) (by kernel_rfl) ?_
        refine wpList_nil ?_
        refine hK28 _ _ ?_
        refine blockK (fun B29 hx30 hn31 hr32 ho33 hp34 => ?_)
        have hq_ := bind_some h; clear h; obtain ⟨o35, hv105, h⟩ := hq_
        have JR107 : ∀ z_, some (Sum.inl z_) = some o35 → some z_ = some r1 := by
          intro z_ e_; injection e_ with e_; subst e_; exact h
        have J106 : ∀ (f100 : FM) (j104 : Nat → Value) (W102 : World) (a_ : Act), FM.le f f100 → some (Sum.inr ()) = some o35 → St t W102 f100 ([(b7, .cells #[.int .i64 c1.W, .int .i64 c1.H, .slice A2 c1.At.length c3] 34 (0, 0))] :: H) → a_ = ⟨#[.agg #[.int .i64 c1.W, .int .i64 c1.H, .slice A2 c1.At.length c3], .pointer (some ⟨b7, 0, none⟩), (j104 0), undef, (j104 1), (j104 2), .pointer (some ⟨b7, 0, none⟩), .int .i64 c1.W, .pointer (some ⟨b7, 1, none⟩), .int .i64 c1.H, .int .i64 (mn c1.W c1.H), .bool false, .bool false, .pointer (some ⟨b7, 0, none⟩), .int .i64 c1.W, .pointer (some ⟨b7, 1, none⟩), .int .i64 c1.H, .int .i64 (mx c1.W c1.H), .bool false, .bool false, .bool false, .pointer (some ⟨b7, 2, none⟩), .slice A2 c1.At.length c3, .int .i64 (c1.At.length : Int), .pointer (some ⟨b7, 0, none⟩), .int .i64 c1.W, .pointer (some ⟨b7, 1, none⟩), .int .i64 c1.H, .int .i64 (w64 (c1.W * c1.H)), .bool false, .bool false, .pointer (some ⟨b7, 2, none⟩), .slice A2 c1.At.length c3, .int .i64 (c1.At.length : Int), (j104 3), (j104 4), (j104 5), (j104 6), (j104 7), (j104 8), (j104 9), (j104 10), (j104 11), (j104 12), (j104 13), (j104 14), (j104 15), (j104 16), (j104 17), (j104 18), (j104 19), (j104 20)], []⟩ → K25 a_ W102 := by
          intro f100 j104 W102 a_ L101 hj108 HS103  hfr_; subst hfr_
          injection hj108 with hj108; subst hj108; try dsimp only at h
          simp only [Sum.elim_inr] at h
          refine hK26 _ _ ?_
          refine wp_seq_k (fun K112 hK113 => ?_)
          refine wp_region_lit ?_
          refine seqS1 (a' := ⟨#[.agg #[.int .i64 c1.W, .int .i64 c1.H, .slice A2 c1.At.length c3], .pointer (some ⟨b7, 0, none⟩), .int .i64 0, undef, (j104 1), (j104 2), .pointer (some ⟨b7, 0, none⟩), .int .i64 c1.W, .pointer (some ⟨b7, 1, none⟩), .int .i64 c1.H, .int .i64 (mn c1.W c1.H), .bool false, .bool false, .pointer (some ⟨b7, 0, none⟩), .int .i64 c1.W, .pointer (some ⟨b7, 1, none⟩), .int .i64 c1.H, .int .i64 (mx c1.W c1.H), .bool false, .bool false, .bool false, .pointer (some ⟨b7, 2, none⟩), .slice A2 c1.At.length c3, .int .i64 (c1.At.length : Int), .pointer (some ⟨b7, 0, none⟩), .int .i64 c1.W, .pointer (some ⟨b7, 1, none⟩), .int .i64 c1.H, .int .i64 (w64 (c1.W * c1.H)), .bool false, .bool false, .pointer (some ⟨b7, 2, none⟩), .slice A2 c1.At.length c3, .int .i64 (c1.At.length : Int), (j104 3), (j104 4), (j104 5), (j104 6), (j104 7), (j104 8), (j104 9), (j104 10), (j104 11), (j104 12), (j104 13), (j104 14), (j104 15), (j104 16), (j104 17), (j104 18), (j104 19), (j104 20)], []⟩) (by kernel_rfl) ?_
          refine wpList_nil ?_
          refine hK113 _ _ ?_
          refine wp_ret ?_
          refine hret _ _ ?_
          refine ends_still (v := Value.int .i64 0) (by kernel_rfl) (by kernel_rfl) ?_
          have HS123 := HS103.drop
          injection h with h
          subst h
          exact ⟨f100, rfl, L101, HS123⟩
        clear h; have h := hv105; clear hv105
        refine loopK (fun n_ a_ w_ => ∃ (f39 : FM) (x44 : Int) (j43 : Nat → Value), FM.le f f39 ∧ St t w_ f39 ([(b7, .cells #[.int .i64 c1.W, .int .i64 c1.H, .slice A2 c1.At.length c3] 34 (0, 0))] :: H) ∧ clean_Check.l0 k c1 n_ x44 = some o35 ∧ a_ = ⟨#[.agg #[.int .i64 c1.W, .int .i64 c1.H, .slice A2 c1.At.length c3], .pointer (some ⟨b7, 0, none⟩), (j43 0), undef, (j43 1), (j43 2), .pointer (some ⟨b7, 0, none⟩), .int .i64 c1.W, .pointer (some ⟨b7, 1, none⟩), .int .i64 c1.H, .int .i64 (mn c1.W c1.H), .bool false, .bool false, .pointer (some ⟨b7, 0, none⟩), .int .i64 c1.W, .pointer (some ⟨b7, 1, none⟩), .int .i64 c1.H, .int .i64 (mx c1.W c1.H), .bool false, .bool false, .bool false, .pointer (some ⟨b7, 2, none⟩), .slice A2 c1.At.length c3, .int .i64 (c1.At.length : Int), .pointer (some ⟨b7, 0, none⟩), .int .i64 c1.W, .pointer (some ⟨b7, 1, none⟩), .int .i64 c1.H, .int .i64 (w64 (c1.W * c1.H)), .bool false, .bool false, .pointer (some ⟨b7, 2, none⟩), .slice A2 c1.At.length c3, .int .i64 (c1.At.length : Int), .int .i64 x44, (j43 3), (j43 4), (j43 5), (j43 6), (j43 7), (j43 8), (j43 9), (j43 10), (j43 11), (j43 12), (j43 13), (j43 14), (j43 15), (j43 16), (j43 17), (j43 18), (j43 19)], []⟩) k ⟨f, 0, (fun i_ => [Value.int .i64 0, undef, undef, undef, undef, undef, undef, undef, undef, undef, undef, undef, undef, undef, undef, undef, undef, undef, undef, undef].getD i_ undef), (FM.le.refl _), HS9, h, (by kernel_rfl)⟩ ?_
        clear h
        rintro n38 _ W41 ⟨f39, x44, j43, L40, HS42, h, rfl⟩ K36 hK37
        obtain _ | n38 := n38
        · exact nomatch h
        simp only [clean_Check.l0] at h
        refine wp_seq_k (fun K45 hK46 => ?_)
        refine wp_region_lit ?_
        refine seqS1 (a' := ⟨#[.agg #[.int .i64 c1.W, .int .i64 c1.H, .slice A2 c1.At.length c3], .pointer (some ⟨b7, 0, none⟩), (j43 0), undef, (j43 1), (j43 2), .pointer (some ⟨b7, 0, none⟩), .int .i64 c1.W, .pointer (some ⟨b7, 1, none⟩), .int .i64 c1.H, .int .i64 (mn c1.W c1.H), .bool false, .bool false, .pointer (some ⟨b7, 0, none⟩), .int .i64 c1.W, .pointer (some ⟨b7, 1, none⟩), .int .i64 c1.H, .int .i64 (mx c1.W c1.H), .bool false, .bool false, .bool false, .pointer (some ⟨b7, 2, none⟩), .slice A2 c1.At.length c3, .int .i64 (c1.At.length : Int), .pointer (some ⟨b7, 0, none⟩), .int .i64 c1.W, .pointer (some ⟨b7, 1, none⟩), .int .i64 c1.H, .int .i64 (w64 (c1.W * c1.H)), .bool false, .bool false, .pointer (some ⟨b7, 2, none⟩), .slice A2 c1.At.length c3, .int .i64 (c1.At.length : Int), .int .i64 x44, .bool (decide (x44 < (c1.At.length : Int))), (j43 4), (j43 5), (j43 6), (j43 7), (j43 8), (j43 9), (j43 10), (j43 11), (j43 12), (j43 13), (j43 14), (j43 15), (j43 16), (j43 17), (j43 18), (j43 19)], []⟩) (by kernel_rfl) ?_
        refine wpList_nil ?_
        refine hK46 _ _ ?_
        refine wp_seq_k (fun K47 hK48 => ?_)
        have hq_ := ite_some h; clear h; rcases hq_ with ⟨c50, h⟩ | ⟨c50, h⟩
        · have c50 : x44 < (c1.At.length : Int) := c50
          refine wpRwI 35 (x := (decide (x44 < (c1.At.length : Int)))) (v := true) (by kernel_rfl) (decide_eq_true c50) ?_
          refine condT (by kernel_rfl) ?_
          refine wp_skip ?_
          refine hK48 _ _ ?_
          refine wp_seq_k (fun K51 hK52 => ?_)
          refine blockK (fun B53 hx54 hn55 hr56 ho57 hp58 => ?_)
          refine wp_seq_k (fun K60 hK61 => ?_)
          refine wp_region_lit ?_
          have hq_ := guard_some h; clear h; obtain ⟨c62, h⟩ := hq_
          have c62 : 0 ≤ x44 := c62
          obtain ⟨b66, of67, cs63, hA68, hr64, hc65⟩ := (HR4.mono L40).at (i := x44) c62 c50
          obtain rfl := hr64
          refine seqK rfl (does_run (run_indexE hA68 (sz := 3) rfl Try.underlying32 (by kernel_rfl) (by kernel_rfl : _ = Value.slice A2 c1.At.length c3) (by kernel_rfl : _ = Value.int .i64 x44) c62 c50 W41) ?_)
          refine seqK rfl (does_run (run_loadN (n := 3) rfl Try.underlying44 rfl (by kernel_rfl) (by kernel_rfl : _ = Value.pointer (some ⟨b66, of67 + (x44 : Int).toNat * 3, none⟩)) (cs := [.int .i64 ((rd c1.At x44).Lo), .int .i64 ((rd c1.At x44).Hi), .bool ((rd c1.At x44).Unknown)]) rfl (fun j_ hj_ => ((hc65 (FM.le.refl _) HS42) j_ hj_))) ?_)
          refine seqK rfl (does_alloc (z := Value.agg #[.int .i64 0, .int .i64 0, .bool false]) (cs := #[.int .i64 0, .int .i64 0, .bool false]) rfl (by kernel_rfl) rfl HS42 ?_)
          intro b69 W70 HS71
          refine seqK rfl (does_store (n := 3) (vs := [.int .i64 ((rd c1.At x44).Lo), .int .i64 ((rd c1.At x44).Hi), .bool ((rd c1.At x44).Unknown)]) (cs' := #[.int .i64 ((rd c1.At x44).Lo), .int .i64 ((rd c1.At x44).Hi), .bool ((rd c1.At x44).Unknown)]) rfl (by kernel_rfl) (by kernel_rfl : _ = Value.pointer (some ⟨b69, 0, none⟩)) (by kernel_rfl : _ = Value.agg #[.int .i64 ((rd c1.At x44).Lo), .int .i64 ((rd c1.At x44).Hi), .bool ((rd c1.At x44).Unknown)]) rfl rfl (by intro u_ hu_; simp only [List.mem_cons, List.not_mem_nil, or_false] at hu_; rcases hu_ with rfl | rfl | rfl <;> rfl) HS71 (Nat.le_of_ble_eq_true rfl) (by kernel_rfl) ?_)
          intro W73 HS74
          refine wpList_nil ?_
          refine hK61 _ _ ?_
          refine wp_seq_k (fun K75 hK76 => ?_)
          refine wp_seq_k (fun K77 hK78 => ?_)
          refine wp_region_lit ?_
          refine seqK rfl (does_run (run_loadN (n := 3) rfl Try.underlying44 rfl (by kernel_rfl) (by kernel_rfl : _ = Value.pointer (some ⟨b69, 0, none⟩)) (cs := [.int .i64 ((rd c1.At x44).Lo), .int .i64 ((rd c1.At x44).Hi), .bool ((rd c1.At x44).Unknown)]) rfl (HS74.cells 0 3 _ rfl)) ?_)
          have hq_ := bind_some h; clear h; obtain ⟨vt79, hc80, h⟩ := hq_
          refine seqK rfl (does_call (f := 71) (args := #[.agg #[.int .i64 ((rd c1.At x44).Lo), .int .i64 ((rd c1.At x44).Hi), .bool ((rd c1.At x44).Unknown)]]) (by kernel_rfl) (bound_Check_Quanta.calls k (rd c1.At x44) HS74 vt79 hc80) ?_)
          rintro _ W83 ⟨f81, rfl, L82, HS84⟩
          refine ⟨_, rfl, ?_⟩
          refine seqS1 (a' := ⟨#[.agg #[.int .i64 c1.W, .int .i64 c1.H, .slice A2 c1.At.length c3], .pointer (some ⟨b7, 0, none⟩), (j43 0), undef, .pointer (some ⟨b69, 0, none⟩), .int .i64 vt79, .pointer (some ⟨b7, 0, none⟩), .int .i64 c1.W, .pointer (some ⟨b7, 1, none⟩), .int .i64 c1.H, .int .i64 (mn c1.W c1.H), .bool false, .bool false, .pointer (some ⟨b7, 0, none⟩), .int .i64 c1.W, .pointer (some ⟨b7, 1, none⟩), .int .i64 c1.H, .int .i64 (mx c1.W c1.H), .bool false, .bool false, .bool false, .pointer (some ⟨b7, 2, none⟩), .slice A2 c1.At.length c3, .int .i64 (c1.At.length : Int), .pointer (some ⟨b7, 0, none⟩), .int .i64 c1.W, .pointer (some ⟨b7, 1, none⟩), .int .i64 c1.H, .int .i64 (w64 (c1.W * c1.H)), .bool false, .bool false, .pointer (some ⟨b7, 2, none⟩), .slice A2 c1.At.length c3, .int .i64 (c1.At.length : Int), .int .i64 x44, .bool true, .pointer (some ⟨b66, of67 + (x44 : Int).toNat * 3, none⟩), .agg #[.int .i64 ((rd c1.At x44).Lo), .int .i64 ((rd c1.At x44).Hi), .bool ((rd c1.At x44).Unknown)], .agg #[.int .i64 ((rd c1.At x44).Lo), .int .i64 ((rd c1.At x44).Hi), .bool ((rd c1.At x44).Unknown)], .int .i64 vt79, (j43 8), (j43 9), (j43 10), (j43 11), (j43 12), (j43 13), (j43 14), (j43 15), (j43 16), (j43 17), (j43 18), (j43 19)], []⟩) (by kernel_rfl) ?_
          refine wpList_nil ?_
          refine hK78 _ _ ?_
          refine wp_seq_k (fun K85 hK86 => ?_)
          refine wp_region_lit ?_
          refine seqS2 (a' := ⟨#[.agg #[.int .i64 c1.W, .int .i64 c1.H, .slice A2 c1.At.length c3], .pointer (some ⟨b7, 0, none⟩), (j43 0), undef, .pointer (some ⟨b69, 0, none⟩), .int .i64 vt79, .pointer (some ⟨b7, 0, none⟩), .int .i64 c1.W, .pointer (some ⟨b7, 1, none⟩), .int .i64 c1.H, .int .i64 (mn c1.W c1.H), .bool false, .bool false, .pointer (some ⟨b7, 0, none⟩), .int .i64 c1.W, .pointer (some ⟨b7, 1, none⟩), .int .i64 c1.H, .int .i64 (mx c1.W c1.H), .bool false, .bool false, .bool false, .pointer (some ⟨b7, 2, none⟩), .slice A2 c1.At.length c3, .int .i64 (c1.At.length : Int), .pointer (some ⟨b7, 0, none⟩), .int .i64 c1.W, .pointer (some ⟨b7, 1, none⟩), .int .i64 c1.H, .int .i64 (w64 (c1.W * c1.H)), .bool false, .bool false, .pointer (some ⟨b7, 2, none⟩), .slice A2 c1.At.length c3, .int .i64 (c1.At.length : Int), .int .i64 x44, .bool true, .pointer (some ⟨b66, of67 + (x44 : Int).toNat * 3, none⟩), .agg #[.int .i64 ((rd c1.At x44).Lo), .int .i64 ((rd c1.At x44).Hi), .bool ((rd c1.At x44).Unknown)], .agg #[.int .i64 ((rd c1.At x44).Lo), .int .i64 ((rd c1.At x44).Hi), .bool ((rd c1.At x44).Unknown)], .int .i64 vt79, .int .i64 vt79, .bool (vt79 != 0), (j43 10), (j43 11), (j43 12), (j43 13), (j43 14), (j43 15), (j43 16), (j43 17), (j43 18), (j43 19)], []⟩) (by kernel_rfl) ?_
          refine wpList_nil ?_
          refine hK86 _ _ ?_
          have hq_ := ite_some h; clear h; rcases hq_ with ⟨c88, h⟩ | ⟨c88, h⟩
          · have c88 : vt79 ≠ 0 := c88
            refine wpRwI 41 (x := (vt79 != 0)) (v := true) (by kernel_rfl) (bne_iff_ne.mpr c88) ?_
            refine condT (by kernel_rfl) ?_
            refine wp_seq_k (fun K89 hK90 => ?_)
            refine wp_region_lit ?_
            refine seqS2 (a' := ⟨#[.agg #[.int .i64 c1.W, .int .i64 c1.H, .slice A2 c1.At.length c3], .pointer (some ⟨b7, 0, none⟩), .int .i64 vt79, undef, .pointer (some ⟨b69, 0, none⟩), .int .i64 vt79, .pointer (some ⟨b7, 0, none⟩), .int .i64 c1.W, .pointer (some ⟨b7, 1, none⟩), .int .i64 c1.H, .int .i64 (mn c1.W c1.H), .bool false, .bool false, .pointer (some ⟨b7, 0, none⟩), .int .i64 c1.W, .pointer (some ⟨b7, 1, none⟩), .int .i64 c1.H, .int .i64 (mx c1.W c1.H), .bool false, .bool false, .bool false, .pointer (some ⟨b7, 2, none⟩), .slice A2 c1.At.length c3, .int .i64 (c1.At.length : Int), .pointer (some ⟨b7, 0, none⟩), .int .i64 c1.W, .pointer (some ⟨b7, 1, none⟩), .int .i64 c1.H, .int .i64 (w64 (c1.W * c1.H)), .bool false, .bool false, .pointer (some ⟨b7, 2, none⟩), .slice A2 c1.At.length c3, .int .i64 (c1.At.length : Int), .int .i64 x44, .bool true, .pointer (some ⟨b66, of67 + (x44 : Int).toNat * 3, none⟩), .agg #[.int .i64 ((rd c1.At x44).Lo), .int .i64 ((rd c1.At x44).Hi), .bool ((rd c1.At x44).Unknown)], .agg #[.int .i64 ((rd c1.At x44).Lo), .int .i64 ((rd c1.At x44).Hi), .bool ((rd c1.At x44).Unknown)], .int .i64 vt79, .int .i64 vt79, .bool true, .int .i64 vt79, (j43 11), (j43 12), (j43 13), (j43 14), (j43 15), (j43 16), (j43 17), (j43 18), (j43 19)], []⟩) (by kernel_rfl) ?_
            refine wpList_nil ?_
            refine hK90 _ _ ?_
            refine wp_ret ?_
            refine hr56 _ _ ?_
            refine hr32 _ _ ?_
            refine hret _ _ ?_
            refine ends_still (v := Value.int .i64 vt79) (by kernel_rfl) (by kernel_rfl) ?_
            have HS117 := HS84.drop
            have HS118 := HS117.drop
            replace h := JR107 _ h
            injection h with h
            subst h
            exact ⟨f81, rfl, (L40.trans L82), HS118⟩
          · have c88 : ¬ (vt79 ≠ 0) := c88
            refine wpRwI 41 (x := (vt79 != 0)) (v := false) (by kernel_rfl) (bne_eq_false_iff_eq.mpr (Decidable.of_not_not c88)) ?_
            refine condF (by kernel_rfl) ?_
            refine wp_skip ?_
            refine hK76 _ _ ?_
            refine wp_seq_k (fun K91 hK92 => ?_)
            refine wp_region_lit ?_
            refine seqL1 (by kernel_rfl) ?_
            refine seqK rfl (does_run (run_load rfl Try.underlying42 rfl (by kernel_rfl : _ = Value.pointer (some ⟨b69, 0, none⟩)) (HS84.cell 0)) ?_)
            refine seqS2 (a' := ⟨#[.agg #[.int .i64 c1.W, .int .i64 c1.H, .slice A2 c1.At.length c3], .pointer (some ⟨b7, 0, none⟩), (j43 0), undef, .pointer (some ⟨b69, 0, none⟩), .int .i64 vt79, .pointer (some ⟨b7, 0, none⟩), .int .i64 c1.W, .pointer (some ⟨b7, 1, none⟩), .int .i64 c1.H, .int .i64 (mn c1.W c1.H), .bool false, .bool false, .pointer (some ⟨b7, 0, none⟩), .int .i64 c1.W, .pointer (some ⟨b7, 1, none⟩), .int .i64 c1.H, .int .i64 (mx c1.W c1.H), .bool false, .bool false, .bool false, .pointer (some ⟨b7, 2, none⟩), .slice A2 c1.At.length c3, .int .i64 (c1.At.length : Int), .pointer (some ⟨b7, 0, none⟩), .int .i64 c1.W, .pointer (some ⟨b7, 1, none⟩), .int .i64 c1.H, .int .i64 (w64 (c1.W * c1.H)), .bool false, .bool false, .pointer (some ⟨b7, 2, none⟩), .slice A2 c1.At.length c3, .int .i64 (c1.At.length : Int), .int .i64 x44, .bool true, .pointer (some ⟨b66, of67 + (x44 : Int).toNat * 3, none⟩), .agg #[.int .i64 ((rd c1.At x44).Lo), .int .i64 ((rd c1.At x44).Hi), .bool ((rd c1.At x44).Unknown)], .agg #[.int .i64 ((rd c1.At x44).Lo), .int .i64 ((rd c1.At x44).Hi), .bool ((rd c1.At x44).Unknown)], .int .i64 vt79, .int .i64 vt79, .bool false, (j43 10), .pointer (some ⟨b69, 0, none⟩), .int .i64 ((rd c1.At x44).Lo), .bool (decide (((rd c1.At x44).Lo) < (-1099511627776))), .bool (decide (((rd c1.At x44).Lo) < (-1099511627776))), (j43 15), (j43 16), (j43 17), (j43 18), (j43 19)], []⟩) (by kernel_rfl) ?_
            have hq_ := ite_some h; clear h; rcases hq_ with ⟨c93, h⟩ | ⟨c93, h⟩
            · have c93 : ((rd c1.At x44).Lo) < (-1099511627776) := c93
              refine seqRwI 45 (x := (decide (((rd c1.At x44).Lo) < (-1099511627776)))) (v := true) (by kernel_rfl) (decide_eq_true c93) ?_
              refine seqRwI 46 (x := (decide (((rd c1.At x44).Lo) < (-1099511627776)))) (v := true) (by kernel_rfl) (decide_eq_true c93) ?_
              refine seqS4 (a' := ⟨#[.agg #[.int .i64 c1.W, .int .i64 c1.H, .slice A2 c1.At.length c3], .pointer (some ⟨b7, 0, none⟩), (j43 0), undef, .pointer (some ⟨b69, 0, none⟩), .int .i64 vt79, .pointer (some ⟨b7, 0, none⟩), .int .i64 c1.W, .pointer (some ⟨b7, 1, none⟩), .int .i64 c1.H, .int .i64 (mn c1.W c1.H), .bool false, .bool false, .pointer (some ⟨b7, 0, none⟩), .int .i64 c1.W, .pointer (some ⟨b7, 1, none⟩), .int .i64 c1.H, .int .i64 (mx c1.W c1.H), .bool false, .bool false, .bool false, .pointer (some ⟨b7, 2, none⟩), .slice A2 c1.At.length c3, .int .i64 (c1.At.length : Int), .pointer (some ⟨b7, 0, none⟩), .int .i64 c1.W, .pointer (some ⟨b7, 1, none⟩), .int .i64 c1.H, .int .i64 (w64 (c1.W * c1.H)), .bool false, .bool false, .pointer (some ⟨b7, 2, none⟩), .slice A2 c1.At.length c3, .int .i64 (c1.At.length : Int), .int .i64 x44, .bool true, .pointer (some ⟨b66, of67 + (x44 : Int).toNat * 3, none⟩), .agg #[.int .i64 ((rd c1.At x44).Lo), .int .i64 ((rd c1.At x44).Hi), .bool ((rd c1.At x44).Unknown)], .agg #[.int .i64 ((rd c1.At x44).Lo), .int .i64 ((rd c1.At x44).Hi), .bool ((rd c1.At x44).Unknown)], .int .i64 vt79, .int .i64 vt79, .bool false, (j43 10), .pointer (some ⟨b69, 0, none⟩), .int .i64 ((rd c1.At x44).Lo), .bool true, .bool true, undef, undef, undef, .bool true, (j43 19)], []⟩) (by kernel_rfl) ?_
              refine wpList_nil ?_
              refine hK92 _ _ ?_
              refine condT (by kernel_rfl) ?_
              refine wp_seq_k (fun K94 hK95 => ?_)
              refine wp_region_lit ?_
              refine seqS1 (a' := ⟨#[.agg #[.int .i64 c1.W, .int .i64 c1.H, .slice A2 c1.At.length c3], .pointer (some ⟨b7, 0, none⟩), .int .i64 4, undef, .pointer (some ⟨b69, 0, none⟩), .int .i64 vt79, .pointer (some ⟨b7, 0, none⟩), .int .i64 c1.W, .pointer (some ⟨b7, 1, none⟩), .int .i64 c1.H, .int .i64 (mn c1.W c1.H), .bool false, .bool false, .pointer (some ⟨b7, 0, none⟩), .int .i64 c1.W, .pointer (some ⟨b7, 1, none⟩), .int .i64 c1.H, .int .i64 (mx c1.W c1.H), .bool false, .bool false, .bool false, .pointer (some ⟨b7, 2, none⟩), .slice A2 c1.At.length c3, .int .i64 (c1.At.length : Int), .pointer (some ⟨b7, 0, none⟩), .int .i64 c1.W, .pointer (some ⟨b7, 1, none⟩), .int .i64 c1.H, .int .i64 (w64 (c1.W * c1.H)), .bool false, .bool false, .pointer (some ⟨b7, 2, none⟩), .slice A2 c1.At.length c3, .int .i64 (c1.At.length : Int), .int .i64 x44, .bool true, .pointer (some ⟨b66, of67 + (x44 : Int).toNat * 3, none⟩), .agg #[.int .i64 ((rd c1.At x44).Lo), .int .i64 ((rd c1.At x44).Hi), .bool ((rd c1.At x44).Unknown)], .agg #[.int .i64 ((rd c1.At x44).Lo), .int .i64 ((rd c1.At x44).Hi), .bool ((rd c1.At x44).Unknown)], .int .i64 vt79, .int .i64 vt79, .bool false, (j43 10), .pointer (some ⟨b69, 0, none⟩), .int .i64 ((rd c1.At x44).Lo), .bool true, .bool true, undef, undef, undef, .bool true, (j43 19)], []⟩) (by kernel_rfl) ?_
              refine wpList_nil ?_
              refine hK95 _ _ ?_
              refine wp_ret ?_
              refine hr56 _ _ ?_
              refine hr32 _ _ ?_
              refine hret _ _ ?_
              refine ends_still (v := Value.int .i64 4) (by kernel_rfl) (by kernel_rfl) ?_
              have HS119 := HS84.drop
              have HS120 := HS119.drop
              replace h := JR107 _ h
              injection h with h
              subst h
              exact ⟨f81, rfl, (L40.trans L82), HS120⟩
            · have c93 : ¬ (((rd c1.At x44).Lo) < (-1099511627776)) := c93
              refine seqRwI 45 (x := (decide (((rd c1.At x44).Lo) < (-1099511627776)))) (v := false) (by kernel_rfl) (decide_eq_false c93) ?_
              refine seqRwI 46 (x := (decide (((rd c1.At x44).Lo) < (-1099511627776)))) (v := false) (by kernel_rfl) (decide_eq_false c93) ?_
              refine seqL1 (by kernel_rfl) ?_
              refine seqG (by kernel_rfl) (does_run (run_load rfl Try.underlying42 rfl (by kernel_rfl : _ = Value.pointer (some ⟨b69, 1, none⟩)) (HS84.cell 1)) ?_)
              refine seqS2 (a' := ⟨#[.agg #[.int .i64 c1.W, .int .i64 c1.H, .slice A2 c1.At.length c3], .pointer (some ⟨b7, 0, none⟩), (j43 0), undef, .pointer (some ⟨b69, 0, none⟩), .int .i64 vt79, .pointer (some ⟨b7, 0, none⟩), .int .i64 c1.W, .pointer (some ⟨b7, 1, none⟩), .int .i64 c1.H, .int .i64 (mn c1.W c1.H), .bool false, .bool false, .pointer (some ⟨b7, 0, none⟩), .int .i64 c1.W, .pointer (some ⟨b7, 1, none⟩), .int .i64 c1.H, .int .i64 (mx c1.W c1.H), .bool false, .bool false, .bool false, .pointer (some ⟨b7, 2, none⟩), .slice A2 c1.At.length c3, .int .i64 (c1.At.length : Int), .pointer (some ⟨b7, 0, none⟩), .int .i64 c1.W, .pointer (some ⟨b7, 1, none⟩), .int .i64 c1.H, .int .i64 (w64 (c1.W * c1.H)), .bool false, .bool false, .pointer (some ⟨b7, 2, none⟩), .slice A2 c1.At.length c3, .int .i64 (c1.At.length : Int), .int .i64 x44, .bool true, .pointer (some ⟨b66, of67 + (x44 : Int).toNat * 3, none⟩), .agg #[.int .i64 ((rd c1.At x44).Lo), .int .i64 ((rd c1.At x44).Hi), .bool ((rd c1.At x44).Unknown)], .agg #[.int .i64 ((rd c1.At x44).Lo), .int .i64 ((rd c1.At x44).Hi), .bool ((rd c1.At x44).Unknown)], .int .i64 vt79, .int .i64 vt79, .bool false, (j43 10), .pointer (some ⟨b69, 0, none⟩), .int .i64 ((rd c1.At x44).Lo), .bool false, .bool false, .pointer (some ⟨b69, 1, none⟩), .int .i64 ((rd c1.At x44).Hi), .bool (decide (((rd c1.At x44).Hi) > 1099511627776)), .bool (decide (((rd c1.At x44).Hi) > 1099511627776)), (j43 19)], []⟩) (by kernel_rfl) ?_
              refine wpList_nil ?_
              refine hK92 _ _ ?_
              have hq_ := ite_some h; clear h; rcases hq_ with ⟨c97, h⟩ | ⟨c97, h⟩
              · have c97 : ((rd c1.At x44).Hi) > 1099511627776 := c97
                refine wpRwI 49 (x := (decide (((rd c1.At x44).Hi) > 1099511627776))) (v := true) (by kernel_rfl) (decide_eq_true c97) ?_
                refine wpRwI 50 (x := (decide (((rd c1.At x44).Hi) > 1099511627776))) (v := true) (by kernel_rfl) (decide_eq_true c97) ?_
                refine condT (by kernel_rfl) ?_
                refine wp_seq_k (fun K98 hK99 => ?_)
                refine wp_region_lit ?_
                refine seqS1 (a' := ⟨#[.agg #[.int .i64 c1.W, .int .i64 c1.H, .slice A2 c1.At.length c3], .pointer (some ⟨b7, 0, none⟩), .int .i64 4, undef, .pointer (some ⟨b69, 0, none⟩), .int .i64 vt79, .pointer (some ⟨b7, 0, none⟩), .int .i64 c1.W, .pointer (some ⟨b7, 1, none⟩), .int .i64 c1.H, .int .i64 (mn c1.W c1.H), .bool false, .bool false, .pointer (some ⟨b7, 0, none⟩), .int .i64 c1.W, .pointer (some ⟨b7, 1, none⟩), .int .i64 c1.H, .int .i64 (mx c1.W c1.H), .bool false, .bool false, .bool false, .pointer (some ⟨b7, 2, none⟩), .slice A2 c1.At.length c3, .int .i64 (c1.At.length : Int), .pointer (some ⟨b7, 0, none⟩), .int .i64 c1.W, .pointer (some ⟨b7, 1, none⟩), .int .i64 c1.H, .int .i64 (w64 (c1.W * c1.H)), .bool false, .bool false, .pointer (some ⟨b7, 2, none⟩), .slice A2 c1.At.length c3, .int .i64 (c1.At.length : Int), .int .i64 x44, .bool true, .pointer (some ⟨b66, of67 + (x44 : Int).toNat * 3, none⟩), .agg #[.int .i64 ((rd c1.At x44).Lo), .int .i64 ((rd c1.At x44).Hi), .bool ((rd c1.At x44).Unknown)], .agg #[.int .i64 ((rd c1.At x44).Lo), .int .i64 ((rd c1.At x44).Hi), .bool ((rd c1.At x44).Unknown)], .int .i64 vt79, .int .i64 vt79, .bool false, (j43 10), .pointer (some ⟨b69, 0, none⟩), .int .i64 ((rd c1.At x44).Lo), .bool false, .bool false, .pointer (some ⟨b69, 1, none⟩), .int .i64 ((rd c1.At x44).Hi), .bool true, .bool true, (j43 19)], []⟩) (by kernel_rfl) ?_
                refine wpList_nil ?_
                refine hK99 _ _ ?_
                refine wp_ret ?_
                refine hr56 _ _ ?_
                refine hr32 _ _ ?_
                refine hret _ _ ?_
                refine ends_still (v := Value.int .i64 4) (by kernel_rfl) (by kernel_rfl) ?_
                have HS121 := HS84.drop
                have HS122 := HS121.drop
                replace h := JR107 _ h
                injection h with h
                subst h
                exact ⟨f81, rfl, (L40.trans L82), HS122⟩
              · have c97 : ¬ (((rd c1.At x44).Hi) > 1099511627776) := c97
                refine wpRwI 49 (x := (decide (((rd c1.At x44).Hi) > 1099511627776))) (v := false) (by kernel_rfl) (decide_eq_false c97) ?_
                refine wpRwI 50 (x := (decide (((rd c1.At x44).Hi) > 1099511627776))) (v := false) (by kernel_rfl) (decide_eq_false c97) ?_
                refine condF (by kernel_rfl) ?_
                refine wp_skip ?_
                refine hn55 _ _ ?_
                refine hK52 _ _ ?_
                refine wp_region_lit ?_
                refine seqS2 (a' := ⟨#[.agg #[.int .i64 c1.W, .int .i64 c1.H, .slice A2 c1.At.length c3], .pointer (some ⟨b7, 0, none⟩), (j43 0), undef, .pointer (some ⟨b69, 0, none⟩), .int .i64 vt79, .pointer (some ⟨b7, 0, none⟩), .int .i64 c1.W, .pointer (some ⟨b7, 1, none⟩), .int .i64 c1.H, .int .i64 (mn c1.W c1.H), .bool false, .bool false, .pointer (some ⟨b7, 0, none⟩), .int .i64 c1.W, .pointer (some ⟨b7, 1, none⟩), .int .i64 c1.H, .int .i64 (mx c1.W c1.H), .bool false, .bool false, .bool false, .pointer (some ⟨b7, 2, none⟩), .slice A2 c1.At.length c3, .int .i64 (c1.At.length : Int), .pointer (some ⟨b7, 0, none⟩), .int .i64 c1.W, .pointer (some ⟨b7, 1, none⟩), .int .i64 c1.H, .int .i64 (w64 (c1.W * c1.H)), .bool false, .bool false, .pointer (some ⟨b7, 2, none⟩), .slice A2 c1.At.length c3, .int .i64 (c1.At.length : Int), .int .i64 (w64 (x44 + 1)), .bool true, .pointer (some ⟨b66, of67 + (x44 : Int).toNat * 3, none⟩), .agg #[.int .i64 ((rd c1.At x44).Lo), .int .i64 ((rd c1.At x44).Hi), .bool ((rd c1.At x44).Unknown)], .agg #[.int .i64 ((rd c1.At x44).Lo), .int .i64 ((rd c1.At x44).Hi), .bool ((rd c1.At x44).Unknown)], .int .i64 vt79, .int .i64 vt79, .bool false, (j43 10), .pointer (some ⟨b69, 0, none⟩), .int .i64 ((rd c1.At x44).Lo), .bool false, .bool false, .pointer (some ⟨b69, 1, none⟩), .int .i64 ((rd c1.At x44).Hi), .bool false, .bool false, .int .i64 (w64 (x44 + 1))], []⟩) (by kernel_rfl) ?_
                refine wpList_nil ?_
                refine hK37 n38 _ _ (Nat.lt_succ_self _) ?_
                have HS109 := HS84.u1
                have HS110 := HS109.u1
                have HS111 := HS110.drop
                exact ⟨f81, (w64 (x44 + 1)), (fun i_ => [(j43 0), Value.pointer (some ⟨b69, 0, none⟩), Value.int .i64 vt79, Value.bool true, Value.pointer (some ⟨b66, of67 + (x44 : Int).toNat * 3, none⟩), Value.agg #[.int .i64 ((rd c1.At x44).Lo), .int .i64 ((rd c1.At x44).Hi), .bool ((rd c1.At x44).Unknown)], Value.agg #[.int .i64 ((rd c1.At x44).Lo), .int .i64 ((rd c1.At x44).Hi), .bool ((rd c1.At x44).Unknown)], Value.int .i64 vt79, Value.int .i64 vt79, Value.bool false, (j43 10), Value.pointer (some ⟨b69, 0, none⟩), Value.int .i64 ((rd c1.At x44).Lo), Value.bool false, Value.bool false, Value.pointer (some ⟨b69, 1, none⟩), Value.int .i64 ((rd c1.At x44).Hi), Value.bool false, Value.bool false, Value.int .i64 (w64 (x44 + 1))].getD i_ undef), (L40.trans L82), HS111, h, (by kernel_rfl)⟩
        · have c50 : ¬ (x44 < (c1.At.length : Int)) := c50
          refine wpRwI 35 (x := (decide (x44 < (c1.At.length : Int)))) (v := false) (by kernel_rfl) (decide_eq_false c50) ?_
          refine condF (by kernel_rfl) ?_
          refine wp_exit ?_
          refine hx30 _ _ ?_
          exact J106 f39 (fun i_ => [(j43 0), (j43 1), (j43 2), Value.int .i64 x44, Value.bool false, (j43 4), (j43 5), (j43 6), (j43 7), (j43 8), (j43 9), (j43 10), (j43 11), (j43 12), (j43 13), (j43 14), (j43 15), (j43 16), (j43 17), (j43 18), (j43 19)].getD i_ undef) W41 _ L40 h HS42 (by kernel_rfl)

set_option maxRecDepth 100000 in
set_option maxHeartbeats 4000000 in
theorem clean_valid.calls (k : Nat) (A2 : Option Addr) (c3 : Nat) (l1 : List S_Cells) (vf5 : Int) {t w : World} {f : FM} {H : List Seg} (HS : St t w f (H)) (HR4 : SlR ty_Cells f A2 c3 l1) (r1 : Int) (h : clean_valid k l1 vf5 = some r1) :
    Calls Try.prog 40 #[.slice A2 l1.length c3, .int .i64 vf5] w (fun e w' => ∃ (g : FM), e = .returned (Value.int .i64 r1) ∧ FM.le f g ∧ St t w' g (H)) := by
  unfold clean_valid at h
  refine enter Try.func40 rfl (tm := #[.slice A2 l1.length c3, .int .i64 vf5, undef, undef, undef, undef, undef, undef, undef, undef, undef, undef, undef, undef, undef, undef, undef, undef, undef, undef, undef, undef, undef, undef, undef, undef, undef, undef, undef, undef, undef, undef, undef, undef, undef, undef, undef, undef, undef, undef, undef, undef, undef, undef, undef, undef, undef, undef, undef, undef, undef, undef, undef, undef, undef, undef, undef, undef, undef, undef, undef, undef]) (by kernel_rfl) ?_
  intro B hret hnor hnp
  refine wp_seq_k (fun K6 hK7 => ?_)
  refine wp_region_lit ?_
  refine seqS1 (a' := ⟨#[.slice A2 l1.length c3, .int .i64 vf5, undef, undef, .int .i64 0, undef, undef, undef, undef, undef, undef, undef, undef, undef, undef, undef, undef, undef, undef, undef, undef, undef, undef, undef, undef, undef, undef, undef, undef, undef, undef, undef, undef, undef, undef, undef, undef, undef, undef, undef, undef, undef, undef, undef, undef, undef, undef, undef, undef, undef, undef, undef, undef, undef, undef, undef, undef, undef, undef, undef, undef, undef], []⟩) (by kernel_rfl) ?_
  refine wpList_nil ?_
  refine hK7 _ _ ?_
  refine wp_seq_k (fun K8 hK9 => ?_)
  refine wp_seq_k (fun K10 hK11 => ?_)
  refine wp_region_lit ?_
  refine seqS3 (a' := ⟨#[.slice A2 l1.length c3, .int .i64 vf5, undef, undef, .int .i64 0, undef, undef, undef, undef, undef, .slice A2 l1.length c3, .int .i64 (l1.length : Int), .bool (decide ((l1.length : Int) > 8)), undef, undef, undef, undef, undef, undef, undef, undef, undef, undef, undef, undef, undef, undef, undef, undef, undef, undef, undef, undef, undef, undef, undef, undef, undef, undef, undef, undef, undef, undef, undef, undef, undef, undef, undef, undef, undef, undef, undef, undef, undef, undef, undef, undef, undef, undef, undef, undef, undef], []⟩) (by kernel_rfl) ?_
  refine wpList_nil ?_
  refine hK11 _ _ ?_
  have hq_ := ite_some h; clear h; rcases hq_ with ⟨c13, h⟩ | ⟨c13, h⟩
  · have c13 : (l1.length : Int) > 8 := c13
    refine wpRwI 12 (x := (decide ((l1.length : Int) > 8))) (v := true) (by kernel_rfl) (decide_eq_true c13) ?_
    refine condT (by kernel_rfl) ?_
    refine wp_seq_k (fun K14 hK15 => ?_)
    refine wp_region_lit ?_
    refine seqS1 (a' := ⟨#[.slice A2 l1.length c3, .int .i64 vf5, undef, undef, .int .i64 2, undef, undef, undef, undef, undef, .slice A2 l1.length c3, .int .i64 (l1.length : Int), .bool true, undef, undef, undef, undef, undef, undef, undef, undef, undef, undef, undef, undef, undef, undef, undef, undef, undef, undef, undef, undef, undef, undef, undef, undef, undef, undef, undef, undef, undef, undef, undef, undef, undef, undef, undef, undef, undef, undef, undef, undef, undef, undef, undef, undef, undef, undef, undef, undef, undef], []⟩) (by kernel_rfl) ?_
    refine wpList_nil ?_
    refine hK15 _ _ ?_
    refine wp_ret ?_
    refine hret _ _ ?_
    refine ends_still (v := Value.int .i64 2) (by kernel_rfl) (by kernel_rfl) ?_
    injection h with h
    subst h
    exact ⟨f, rfl, FM.le.refl _, HS⟩
  · have c13 : ¬ ((l1.length : Int) > 8) := c13
    refine wpRwI 12 (x := (decide ((l1.length : Int) > 8))) (v := false) (by kernel_rfl) (decide_eq_false c13) ?_
    refine condF (by kernel_rfl) ?_
    refine wp_skip ?_
    refine hK9 _ _ ?_
    refine wp_seq_k (fun K16 hK17 => ?_)
    refine wp_seq_k (fun K18 hK19 => ?_)
    refine wp_region_lit ?_
    refine seqS3 (a' := ⟨#[.slice A2 l1.length c3, .int .i64 vf5, undef, undef, .int .i64 0, undef, undef, undef, undef, undef, .slice A2 l1.length c3, .int .i64 (l1.length : Int), .bool false, .slice A2 l1.length c3, .int .i64 (l1.length : Int), .int .i64 0, undef, undef, undef, undef, undef, undef, undef, undef, undef, undef, undef, undef, undef, undef, undef, undef, undef, undef, undef, undef, undef, undef, undef, undef, undef, undef, undef, undef, undef, undef, undef, undef, undef, undef, undef, undef, undef, undef, undef, undef, undef, undef, undef, undef, undef, undef], []⟩) (by kernel_rfl) ?_
    refine wpList_nil ?_
    refine hK19 _ _ ?_
    refine blockK (fun B20 hx21 hn22 hr23 ho24 hp25 => ?_)
    have hq_ := bind_some h; clear h; obtain ⟨o26, hv86, h⟩ := hq_
    have JR88 : ∀ z_, some (Sum.inl z_) = some o26 → some z_ = some r1 := by
      intro z_ e_; injection e_ with e_; subst e_; exact h
    have J87 : ∀ (f81 : FM) (j85 : Nat → Value) (W83 : World) (a_ : Act), FM.le f f81 → some (Sum.inr ()) = some o26 → St t W83 f81 (H) → a_ = ⟨#[.slice A2 l1.length c3, .int .i64 vf5, undef, undef, (j85 0), undef, (j85 1), (j85 2), undef, undef, .slice A2 l1.length c3, .int .i64 (l1.length : Int), .bool false, .slice A2 l1.length c3, .int .i64 (l1.length : Int), (j85 3), (j85 4), (j85 5), (j85 6), (j85 7), (j85 8), (j85 9), (j85 10), (j85 11), (j85 12), undef, undef, undef, undef, undef, undef, undef, undef, undef, undef, undef, undef, undef, undef, undef, undef, undef, undef, undef, undef, undef, undef, undef, undef, undef, undef, undef, undef, undef, undef, undef, undef, undef, undef, undef, undef, undef], []⟩ → K16 a_ W83 := by
      intro f81 j85 W83 a_ L82 hj89 HS84  hfr_; subst hfr_
      injection hj89 with hj89; subst hj89; try dsimp only at h
      simp only [Sum.elim_inr] at h
      refine hK17 _ _ ?_
      refine wp_seq_k (fun K91 hK92 => ?_)
      refine wp_seq_k (fun K93 hK94 => ?_)
      refine wp_region_lit ?_
      refine seqS3 (a' := ⟨#[.slice A2 l1.length c3, .int .i64 vf5, undef, undef, (j85 0), undef, (j85 1), (j85 2), undef, undef, .slice A2 l1.length c3, .int .i64 (l1.length : Int), .bool false, .slice A2 l1.length c3, .int .i64 (l1.length : Int), (j85 3), (j85 4), (j85 5), (j85 6), (j85 7), (j85 8), (j85 9), (j85 10), (j85 11), (j85 12), .slice A2 l1.length c3, .int .i64 (l1.length : Int), .int .i64 0, undef, undef, undef, undef, undef, undef, undef, undef, undef, undef, undef, undef, undef, undef, undef, undef, undef, undef, undef, undef, undef, undef, undef, undef, undef, undef, undef, undef, undef, undef, undef, undef, undef, undef], []⟩) (by kernel_rfl) ?_
      refine wpList_nil ?_
      refine hK94 _ _ ?_
      refine blockK (fun B95 hx96 hn97 hr98 ho99 hp100 => ?_)
      have hq_ := bind_some h; clear h; obtain ⟨o101, hv166, h⟩ := hq_
      have JR168 : ∀ z_, some (Sum.inl z_) = some o101 → some z_ = some r1 := by
        intro z_ e_; injection e_ with e_; subst e_; exact h
      have J167 : ∀ (f161 : FM) (j165 : Nat → Value) (W163 : World) (a_ : Act), FM.le f81 f161 → some (Sum.inr ()) = some o101 → St t W163 f161 (H) → a_ = ⟨#[.slice A2 l1.length c3, .int .i64 vf5, undef, undef, (j165 0), undef, (j85 1), (j85 2), undef, (j165 1), .slice A2 l1.length c3, .int .i64 (l1.length : Int), .bool false, .slice A2 l1.length c3, .int .i64 (l1.length : Int), (j85 3), (j85 4), (j85 5), (j85 6), (j85 7), (j85 8), (j85 9), (j85 10), (j85 11), (j85 12), .slice A2 l1.length c3, .int .i64 (l1.length : Int), (j165 2), (j165 3), (j165 4), (j165 5), (j165 6), (j165 7), (j165 8), (j165 9), (j165 10), (j165 11), (j165 12), (j165 13), (j165 14), (j165 15), (j165 16), (j165 17), (j165 18), (j165 19), (j165 20), (j165 21), (j165 22), undef, undef, undef, undef, undef, undef, undef, undef, undef, undef, undef, undef, undef, undef], []⟩ → K91 a_ W163 := by
        intro f161 j165 W163 a_ L162 hj169 HS164  hfr_; subst hfr_
        injection hj169 with hj169; subst hj169; try dsimp only at h
        simp only [Sum.elim_inr] at h
        refine hK92 _ _ ?_
        refine wp_seq_k (fun K171 hK172 => ?_)
        refine blockK (fun B173 hx174 hn175 hr176 ho177 hp178 => ?_)
        refine wp_seq_k (fun K180 hK181 => ?_)
        refine wp_region_lit ?_
        refine seqS3 (a' := ⟨#[.slice A2 l1.length c3, .int .i64 vf5, undef, undef, (j165 0), undef, (j85 1), (j85 2), undef, (j165 1), .slice A2 l1.length c3, .int .i64 (l1.length : Int), .bool false, .slice A2 l1.length c3, .int .i64 (l1.length : Int), (j85 3), (j85 4), (j85 5), (j85 6), (j85 7), (j85 8), (j85 9), (j85 10), (j85 11), (j85 12), .slice A2 l1.length c3, .int .i64 (l1.length : Int), (j165 2), (j165 3), (j165 4), (j165 5), (j165 6), (j165 7), (j165 8), (j165 9), (j165 10), (j165 11), (j165 12), (j165 13), (j165 14), (j165 15), (j165 16), (j165 17), (j165 18), (j165 19), (j165 20), (j165 21), (j165 22), .bool (decide (vf5 < 0)), .int .i64 vf5, .bool (decide (vf5 < 0)), undef, undef, undef, undef, undef, undef, undef, undef, undef, undef, undef], []⟩) (by kernel_rfl) ?_
        refine wpList_nil ?_
        refine hK181 _ _ ?_
        have hq_ := ite_some h; clear h; rcases hq_ with ⟨c183, h⟩ | ⟨c183, h⟩
        · have c183 : vf5 < 0 := c183
          refine wpRwI 48 (x := (decide (vf5 < 0))) (v := true) (by kernel_rfl) (decide_eq_true c183) ?_
          refine wpRwI 50 (x := (decide (vf5 < 0))) (v := true) (by kernel_rfl) (decide_eq_true c183) ?_
          refine condT (by kernel_rfl) ?_
          refine wp_seq_k (fun K184 hK185 => ?_)
          refine wp_region_lit ?_
          refine seqS1 (a' := ⟨#[.slice A2 l1.length c3, .int .i64 vf5, undef, undef, .int .i64 1, undef, (j85 1), (j85 2), undef, (j165 1), .slice A2 l1.length c3, .int .i64 (l1.length : Int), .bool false, .slice A2 l1.length c3, .int .i64 (l1.length : Int), (j85 3), (j85 4), (j85 5), (j85 6), (j85 7), (j85 8), (j85 9), (j85 10), (j85 11), (j85 12), .slice A2 l1.length c3, .int .i64 (l1.length : Int), (j165 2), (j165 3), (j165 4), (j165 5), (j165 6), (j165 7), (j165 8), (j165 9), (j165 10), (j165 11), (j165 12), (j165 13), (j165 14), (j165 15), (j165 16), (j165 17), (j165 18), (j165 19), (j165 20), (j165 21), (j165 22), .bool true, .int .i64 vf5, .bool true, undef, undef, undef, undef, undef, undef, undef, undef, undef, undef, undef], []⟩) (by kernel_rfl) ?_
          refine wpList_nil ?_
          refine hK185 _ _ ?_
          refine wp_ret ?_
          refine hr176 _ _ ?_
          refine hret _ _ ?_
          refine ends_still (v := Value.int .i64 1) (by kernel_rfl) (by kernel_rfl) ?_
          injection h with h
          subst h
          exact ⟨f161, rfl, (L82.trans L162), HS164⟩
        · have c183 : ¬ (vf5 < 0) := c183
          refine wpRwI 48 (x := (decide (vf5 < 0))) (v := false) (by kernel_rfl) (decide_eq_false c183) ?_
          refine wpRwI 50 (x := (decide (vf5 < 0))) (v := false) (by kernel_rfl) (decide_eq_false c183) ?_
          refine condF (by kernel_rfl) ?_
          refine wp_seq_k (fun K186 hK187 => ?_)
          refine wp_region_lit ?_
          refine seqS3 (a' := ⟨#[.slice A2 l1.length c3, .int .i64 vf5, undef, undef, (j165 0), undef, (j85 1), (j85 2), undef, (j165 1), .slice A2 l1.length c3, .int .i64 (l1.length : Int), .bool false, .slice A2 l1.length c3, .int .i64 (l1.length : Int), (j85 3), (j85 4), (j85 5), (j85 6), (j85 7), (j85 8), (j85 9), (j85 10), (j85 11), (j85 12), .slice A2 l1.length c3, .int .i64 (l1.length : Int), (j165 2), (j165 3), (j165 4), (j165 5), (j165 6), (j165 7), (j165 8), (j165 9), (j165 10), (j165 11), (j165 12), (j165 13), (j165 14), (j165 15), (j165 16), (j165 17), (j165 18), (j165 19), (j165 20), (j165 21), (j165 22), .bool false, .int .i64 vf5, .bool false, undef, .int .i64 vf5, .bool (decide (vf5 ≥ 8)), .bool (decide (vf5 ≥ 8)), undef, undef, undef, undef, undef, undef, undef], []⟩) (by kernel_rfl) ?_
          have hq_ := ite_some h; clear h; rcases hq_ with ⟨c188, h⟩ | ⟨c188, h⟩
          · have c188 : vf5 ≥ 8 := c188
            refine seqRwI 53 (x := (decide (vf5 ≥ 8))) (v := true) (by kernel_rfl) (decide_eq_true c188) ?_
            refine seqRwI 54 (x := (decide (vf5 ≥ 8))) (v := true) (by kernel_rfl) (decide_eq_true c188) ?_
            refine seqS8 (a' := ⟨#[.slice A2 l1.length c3, .int .i64 vf5, undef, undef, (j165 0), undef, (j85 1), (j85 2), undef, (j165 1), .slice A2 l1.length c3, .int .i64 (l1.length : Int), .bool false, .slice A2 l1.length c3, .int .i64 (l1.length : Int), (j85 3), (j85 4), (j85 5), (j85 6), (j85 7), (j85 8), (j85 9), (j85 10), (j85 11), (j85 12), .slice A2 l1.length c3, .int .i64 (l1.length : Int), (j165 2), (j165 3), (j165 4), (j165 5), (j165 6), (j165 7), (j165 8), (j165 9), (j165 10), (j165 11), (j165 12), (j165 13), (j165 14), (j165 15), (j165 16), (j165 17), (j165 18), (j165 19), (j165 20), (j165 21), (j165 22), .bool false, .int .i64 vf5, .bool false, .bool true, .int .i64 vf5, .bool true, .bool true, undef, undef, undef, undef, undef, undef, .bool true], []⟩) (by kernel_rfl) ?_
            refine wpList_nil ?_
            refine hK187 _ _ ?_
            refine condT (by kernel_rfl) ?_
            refine wp_seq_k (fun K189 hK190 => ?_)
            refine wp_region_lit ?_
            refine seqS1 (a' := ⟨#[.slice A2 l1.length c3, .int .i64 vf5, undef, undef, .int .i64 14, undef, (j85 1), (j85 2), undef, (j165 1), .slice A2 l1.length c3, .int .i64 (l1.length : Int), .bool false, .slice A2 l1.length c3, .int .i64 (l1.length : Int), (j85 3), (j85 4), (j85 5), (j85 6), (j85 7), (j85 8), (j85 9), (j85 10), (j85 11), (j85 12), .slice A2 l1.length c3, .int .i64 (l1.length : Int), (j165 2), (j165 3), (j165 4), (j165 5), (j165 6), (j165 7), (j165 8), (j165 9), (j165 10), (j165 11), (j165 12), (j165 13), (j165 14), (j165 15), (j165 16), (j165 17), (j165 18), (j165 19), (j165 20), (j165 21), (j165 22), .bool false, .int .i64 vf5, .bool false, .bool true, .int .i64 vf5, .bool true, .bool true, undef, undef, undef, undef, undef, undef, .bool true], []⟩) (by kernel_rfl) ?_
            refine wpList_nil ?_
            refine hK190 _ _ ?_
            refine wp_ret ?_
            refine hr176 _ _ ?_
            refine hret _ _ ?_
            refine ends_still (v := Value.int .i64 14) (by kernel_rfl) (by kernel_rfl) ?_
            injection h with h
            subst h
            exact ⟨f161, rfl, (L82.trans L162), HS164⟩
          · have c188 : ¬ (vf5 ≥ 8) := c188
            refine seqRwI 53 (x := (decide (vf5 ≥ 8))) (v := false) (by kernel_rfl) (decide_eq_false c188) ?_
            refine seqRwI 54 (x := (decide (vf5 ≥ 8))) (v := false) (by kernel_rfl) (decide_eq_false c188) ?_
            refine seqS8 (a' := ⟨#[.slice A2 l1.length c3, .int .i64 vf5, undef, undef, (j165 0), undef, (j85 1), (j85 2), undef, (j165 1), .slice A2 l1.length c3, .int .i64 (l1.length : Int), .bool false, .slice A2 l1.length c3, .int .i64 (l1.length : Int), (j85 3), (j85 4), (j85 5), (j85 6), (j85 7), (j85 8), (j85 9), (j85 10), (j85 11), (j85 12), .slice A2 l1.length c3, .int .i64 (l1.length : Int), (j165 2), (j165 3), (j165 4), (j165 5), (j165 6), (j165 7), (j165 8), (j165 9), (j165 10), (j165 11), (j165 12), (j165 13), (j165 14), (j165 15), (j165 16), (j165 17), (j165 18), (j165 19), (j165 20), (j165 21), (j165 22), .bool false, .int .i64 vf5, .bool false, .bool (decide ((l1.length : Int) < (w64 ((w64 (2 * vf5)) + 1)))), .int .i64 vf5, .bool false, .bool false, .slice A2 l1.length c3, .int .i64 (l1.length : Int), .int .i64 vf5, .int .i64 (w64 (2 * vf5)), .int .i64 (w64 ((w64 (2 * vf5)) + 1)), .bool (decide ((l1.length : Int) < (w64 ((w64 (2 * vf5)) + 1)))), .bool (decide ((l1.length : Int) < (w64 ((w64 (2 * vf5)) + 1))))], []⟩) (by kernel_rfl) ?_
            refine wpList_nil ?_
            refine hK187 _ _ ?_
            have hq_ := ite_some h; clear h; rcases hq_ with ⟨c192, h⟩ | ⟨c192, h⟩
            · have c192 : (l1.length : Int) < (w64 ((w64 (2 * vf5)) + 1)) := c192
              refine wpRwI 51 (x := (decide ((l1.length : Int) < (w64 ((w64 (2 * vf5)) + 1))))) (v := true) (by kernel_rfl) (decide_eq_true c192) ?_
              refine wpRwI 60 (x := (decide ((l1.length : Int) < (w64 ((w64 (2 * vf5)) + 1))))) (v := true) (by kernel_rfl) (decide_eq_true c192) ?_
              refine wpRwI 61 (x := (decide ((l1.length : Int) < (w64 ((w64 (2 * vf5)) + 1))))) (v := true) (by kernel_rfl) (decide_eq_true c192) ?_
              refine condT (by kernel_rfl) ?_
              refine wp_seq_k (fun K193 hK194 => ?_)
              refine wp_region_lit ?_
              refine seqS1 (a' := ⟨#[.slice A2 l1.length c3, .int .i64 vf5, undef, undef, .int .i64 14, undef, (j85 1), (j85 2), undef, (j165 1), .slice A2 l1.length c3, .int .i64 (l1.length : Int), .bool false, .slice A2 l1.length c3, .int .i64 (l1.length : Int), (j85 3), (j85 4), (j85 5), (j85 6), (j85 7), (j85 8), (j85 9), (j85 10), (j85 11), (j85 12), .slice A2 l1.length c3, .int .i64 (l1.length : Int), (j165 2), (j165 3), (j165 4), (j165 5), (j165 6), (j165 7), (j165 8), (j165 9), (j165 10), (j165 11), (j165 12), (j165 13), (j165 14), (j165 15), (j165 16), (j165 17), (j165 18), (j165 19), (j165 20), (j165 21), (j165 22), .bool false, .int .i64 vf5, .bool false, .bool true, .int .i64 vf5, .bool false, .bool false, .slice A2 l1.length c3, .int .i64 (l1.length : Int), .int .i64 vf5, .int .i64 (w64 (2 * vf5)), .int .i64 (w64 ((w64 (2 * vf5)) + 1)), .bool true, .bool true], []⟩) (by kernel_rfl) ?_
              refine wpList_nil ?_
              refine hK194 _ _ ?_
              refine wp_ret ?_
              refine hr176 _ _ ?_
              refine hret _ _ ?_
              refine ends_still (v := Value.int .i64 14) (by kernel_rfl) (by kernel_rfl) ?_
              injection h with h
              subst h
              exact ⟨f161, rfl, (L82.trans L162), HS164⟩
            · have c192 : ¬ ((l1.length : Int) < (w64 ((w64 (2 * vf5)) + 1))) := c192
              refine wpRwI 51 (x := (decide ((l1.length : Int) < (w64 ((w64 (2 * vf5)) + 1))))) (v := false) (by kernel_rfl) (decide_eq_false c192) ?_
              refine wpRwI 60 (x := (decide ((l1.length : Int) < (w64 ((w64 (2 * vf5)) + 1))))) (v := false) (by kernel_rfl) (decide_eq_false c192) ?_
              refine wpRwI 61 (x := (decide ((l1.length : Int) < (w64 ((w64 (2 * vf5)) + 1))))) (v := false) (by kernel_rfl) (decide_eq_false c192) ?_
              refine condF (by kernel_rfl) ?_
              refine wp_skip ?_
              refine hn175 _ _ ?_
              refine hK172 _ _ ?_
              refine wp_seq_k (fun K195 hK196 => ?_)
              refine wp_region_lit ?_
              refine seqS1 (a' := ⟨#[.slice A2 l1.length c3, .int .i64 vf5, undef, undef, .int .i64 0, undef, (j85 1), (j85 2), undef, (j165 1), .slice A2 l1.length c3, .int .i64 (l1.length : Int), .bool false, .slice A2 l1.length c3, .int .i64 (l1.length : Int), (j85 3), (j85 4), (j85 5), (j85 6), (j85 7), (j85 8), (j85 9), (j85 10), (j85 11), (j85 12), .slice A2 l1.length c3, .int .i64 (l1.length : Int), (j165 2), (j165 3), (j165 4), (j165 5), (j165 6), (j165 7), (j165 8), (j165 9), (j165 10), (j165 11), (j165 12), (j165 13), (j165 14), (j165 15), (j165 16), (j165 17), (j165 18), (j165 19), (j165 20), (j165 21), (j165 22), .bool false, .int .i64 vf5, .bool false, .bool false, .int .i64 vf5, .bool false, .bool false, .slice A2 l1.length c3, .int .i64 (l1.length : Int), .int .i64 vf5, .int .i64 (w64 (2 * vf5)), .int .i64 (w64 ((w64 (2 * vf5)) + 1)), .bool false, .bool false], []⟩) (by kernel_rfl) ?_
              refine wpList_nil ?_
              refine hK196 _ _ ?_
              refine wp_ret ?_
              refine hret _ _ ?_
              refine ends_still (v := Value.int .i64 0) (by kernel_rfl) (by kernel_rfl) ?_
              injection h with h
              subst h
              exact ⟨f161, rfl, (L82.trans L162), HS164⟩
      clear h; have h := hv166; clear hv166
      refine loopK (fun n_ a_ w_ => ∃ (f105 : FM) (x110 : Int) (j109 : Nat → Value), FM.le f81 f105 ∧ St t w_ f105 (H) ∧ clean_valid.l1 k l1 n_ x110 = some o101 ∧ a_ = ⟨#[.slice A2 l1.length c3, .int .i64 vf5, undef, undef, (j109 0), undef, (j85 1), (j85 2), undef, (j109 1), .slice A2 l1.length c3, .int .i64 (l1.length : Int), .bool false, .slice A2 l1.length c3, .int .i64 (l1.length : Int), (j85 3), (j85 4), (j85 5), (j85 6), (j85 7), (j85 8), (j85 9), (j85 10), (j85 11), (j85 12), .slice A2 l1.length c3, .int .i64 (l1.length : Int), .int .i64 x110, (j109 2), (j109 3), (j109 4), (j109 5), (j109 6), (j109 7), (j109 8), (j109 9), (j109 10), (j109 11), (j109 12), (j109 13), (j109 14), (j109 15), (j109 16), (j109 17), (j109 18), (j109 19), (j109 20), (j109 21), undef, undef, undef, undef, undef, undef, undef, undef, undef, undef, undef, undef, undef, undef], []⟩) k ⟨f81, 0, (fun i_ => [(j85 0), undef, undef, undef, undef, undef, undef, undef, undef, undef, undef, undef, undef, undef, undef, undef, undef, undef, undef, undef, undef, undef].getD i_ undef), (FM.le.refl _), HS84, h, (by kernel_rfl)⟩ ?_
      clear h
      rintro n104 _ W107 ⟨f105, x110, j109, L106, HS108, h, rfl⟩ K102 hK103
      obtain _ | n104 := n104
      · exact nomatch h
      simp only [clean_valid.l1] at h
      refine wp_seq_k (fun K111 hK112 => ?_)
      refine wp_region_lit ?_
      refine seqS1 (a' := ⟨#[.slice A2 l1.length c3, .int .i64 vf5, undef, undef, (j109 0), undef, (j85 1), (j85 2), undef, (j109 1), .slice A2 l1.length c3, .int .i64 (l1.length : Int), .bool false, .slice A2 l1.length c3, .int .i64 (l1.length : Int), (j85 3), (j85 4), (j85 5), (j85 6), (j85 7), (j85 8), (j85 9), (j85 10), (j85 11), (j85 12), .slice A2 l1.length c3, .int .i64 (l1.length : Int), .int .i64 x110, .bool (decide (x110 < (l1.length : Int))), (j109 3), (j109 4), (j109 5), (j109 6), (j109 7), (j109 8), (j109 9), (j109 10), (j109 11), (j109 12), (j109 13), (j109 14), (j109 15), (j109 16), (j109 17), (j109 18), (j109 19), (j109 20), (j109 21), undef, undef, undef, undef, undef, undef, undef, undef, undef, undef, undef, undef, undef, undef], []⟩) (by kernel_rfl) ?_
      refine wpList_nil ?_
      refine hK112 _ _ ?_
      refine wp_seq_k (fun K113 hK114 => ?_)
      have hq_ := ite_some h; clear h; rcases hq_ with ⟨c116, h⟩ | ⟨c116, h⟩
      · have c116 : x110 < (l1.length : Int) := c116
        refine wpRwI 28 (x := (decide (x110 < (l1.length : Int)))) (v := true) (by kernel_rfl) (decide_eq_true c116) ?_
        refine condT (by kernel_rfl) ?_
        refine wp_skip ?_
        refine hK114 _ _ ?_
        refine wp_seq_k (fun K117 hK118 => ?_)
        refine blockK (fun B119 hx120 hn121 hr122 ho123 hp124 => ?_)
        refine wp_seq_k (fun K126 hK127 => ?_)
        refine wp_region_lit ?_
        have hq_ := guard_some h; clear h; obtain ⟨c128, h⟩ := hq_
        have c128 : 0 ≤ x110 := c128
        obtain ⟨b132, of133, cs129, hA134, hr130, hc131⟩ := (HR4.mono (L82.trans L106)).at (i := x110) c128 c116
        obtain ⟨A135, c135, rfl, HR135⟩ := hr130
        refine seqK rfl (does_run (run_indexE hA134 (sz := 3) rfl Try.underlying27 (by kernel_rfl) (by kernel_rfl : _ = Value.slice A2 l1.length c3) (by kernel_rfl : _ = Value.int .i64 x110) c128 c116 W107) ?_)
        refine seqK rfl (does_run (run_loadN (n := 3) rfl Try.underlying34 rfl (by kernel_rfl) (by kernel_rfl : _ = Value.pointer (some ⟨b132, of133 + (x110 : Int).toNat * 3, none⟩)) (cs := [.int .i64 ((rd l1 x110).W), .int .i64 ((rd l1 x110).H), .slice A135 ((rd l1 x110).At).length c135]) rfl (fun j_ hj_ => ((hc131 (FM.le.refl _) HS108) j_ hj_))) ?_)
        refine seqK rfl (does_alloc (z := Value.agg #[.int .i64 0, .int .i64 0, .slice none 0 0]) (cs := #[.int .i64 0, .int .i64 0, .slice none 0 0]) rfl (by kernel_rfl) rfl HS108 ?_)
        intro b136 W137 HS138
        refine seqK rfl (does_store (n := 3) (vs := [.int .i64 ((rd l1 x110).W), .int .i64 ((rd l1 x110).H), .slice A135 ((rd l1 x110).At).length c135]) (cs' := #[.int .i64 ((rd l1 x110).W), .int .i64 ((rd l1 x110).H), .slice A135 ((rd l1 x110).At).length c135]) rfl (by kernel_rfl) (by kernel_rfl : _ = Value.pointer (some ⟨b136, 0, none⟩)) (by kernel_rfl : _ = Value.agg #[.int .i64 ((rd l1 x110).W), .int .i64 ((rd l1 x110).H), .slice A135 ((rd l1 x110).At).length c135]) rfl rfl (by intro u_ hu_; simp only [List.mem_cons, List.not_mem_nil, or_false] at hu_; rcases hu_ with rfl | rfl | rfl <;> rfl) HS138 (Nat.le_of_ble_eq_true rfl) (by kernel_rfl) ?_)
        intro W140 HS141
        refine wpList_nil ?_
        refine hK127 _ _ ?_
        refine wp_seq_k (fun K142 hK143 => ?_)
        refine heldG (S := Sg t f105 ([(b136, .cells #[.int .i64 ((rd l1 x110).W), .int .i64 ((rd l1 x110).H), .slice A135 ((rd l1 x110).At).length c135] 34 (0, 0))] :: H) []) (n := 16) (by kernel_rfl) rfl HS141 ?_
        intro W144 HS145
        refine takeG [0] (n := 16) (fuel := 15) (l' := #[true, false, false, false, false, false, false, false, false, false, false, false, false, false, false, false]) (a' := ⟨#[.slice A2 l1.length c3, .int .i64 vf5, undef, undef, (j109 0), undef, (j85 1), (j85 2), undef, .pointer (some ⟨b136, 0, none⟩), .slice A2 l1.length c3, .int .i64 (l1.length : Int), .bool false, .slice A2 l1.length c3, .int .i64 (l1.length : Int), (j85 3), (j85 4), (j85 5), (j85 6), (j85 7), (j85 8), (j85 9), (j85 10), (j85 11), (j85 12), .slice A2 l1.length c3, .int .i64 (l1.length : Int), .int .i64 x110, .bool true, .pointer (some ⟨b132, of133 + (x110 : Int).toNat * 3, none⟩), .agg #[.int .i64 ((rd l1 x110).W), .int .i64 ((rd l1 x110).H), .slice A135 ((rd l1 x110).At).length c135], .pointer (some ⟨b136, 0, none⟩), (j109 6), (j109 7), (j109 8), (j109 9), (j109 10), (j109 11), (j109 12), (j109 13), (j109 14), (j109 15), (j109 16), (j109 17), (j109 18), (j109 19), (j109 20), (j109 21), undef, undef, undef, undef, undef, undef, undef, undef, undef, undef, undef, undef, undef, undef], []⟩) rfl (by kernel_rfl) (by kernel_rfl) (by kernel_rfl) (fun ch_ a_ w_ q_ => (fun ch_ a_ w_ q_ => hnp ch_ a_ w_ (hp100 ch_ a_ w_ q_)) ch_ a_ w_ (hp124 ch_ a_ w_ q_)) (Sg.g0 (Sx.of [] (FM.le.refl _) HS145)) ?_
        refine takeGQ 1 [] rfl (by kernel_rfl) (by kernel_rfl) (by kernel_rfl) (by kernel_rfl) (by kernel_rfl) (by kernel_rfl) (fun ch_ a_ w_ q_ => (fun ch_ a_ w_ q_ => hnp ch_ a_ w_ (hp100 ch_ a_ w_ q_)) ch_ a_ w_ (hp124 ch_ a_ w_ q_)) (Sg.g0 (Sx.of [] (FM.le.refl _) HS145)) (fun w_ hw_ => by obtain ⟨g_, hl_, hS_⟩ := hw_.st; exact run_load rfl Try.underlying3 rfl (by kernel_rfl : _ = Value.pointer (some ⟨b136, 0, none⟩)) (hS_.cell 0)) ?_
        have hq_ := guard_some h; clear h; obtain ⟨c146, h⟩ := hq_
        have c146 : 0 < (l1.length : Int) := c146
        obtain ⟨b150, of151, cs147, hA152, hr148, hc149⟩ := (HR4.mono (L82.trans L106)).at (i := 0) (by decide) c146
        obtain ⟨A153, c153, rfl, HR153⟩ := hr148
        refine takeG [2] (n := 14) (fuel := 13) (l' := #[true, true, true, false, false, false, false, false, false, false, false, false, false, false, false, false]) (a' := ⟨#[.slice A2 l1.length c3, .int .i64 vf5, undef, undef, (j109 0), undef, (j85 1), (j85 2), undef, .pointer (some ⟨b136, 0, none⟩), .slice A2 l1.length c3, .int .i64 (l1.length : Int), .bool false, .slice A2 l1.length c3, .int .i64 (l1.length : Int), (j85 3), (j85 4), (j85 5), (j85 6), (j85 7), (j85 8), (j85 9), (j85 10), (j85 11), (j85 12), .slice A2 l1.length c3, .int .i64 (l1.length : Int), .int .i64 x110, .bool true, .pointer (some ⟨b132, of133 + (x110 : Int).toNat * 3, none⟩), .agg #[.int .i64 ((rd l1 x110).W), .int .i64 ((rd l1 x110).H), .slice A135 ((rd l1 x110).At).length c135], .pointer (some ⟨b136, 0, none⟩), .int .i64 ((rd l1 x110).W), .slice A2 l1.length c3, (j109 8), (j109 9), (j109 10), (j109 11), (j109 12), (j109 13), (j109 14), (j109 15), (j109 16), (j109 17), (j109 18), (j109 19), (j109 20), (j109 21), undef, undef, undef, undef, undef, undef, undef, undef, undef, undef, undef, undef, undef, undef], []⟩) rfl (by kernel_rfl) (by kernel_rfl) (by kernel_rfl) (fun ch_ a_ w_ q_ => (fun ch_ a_ w_ q_ => hnp ch_ a_ w_ (hp100 ch_ a_ w_ q_)) ch_ a_ w_ (hp124 ch_ a_ w_ q_)) (Sg.g0 (Sx.of [] (FM.le.refl _) HS145)) ?_
        refine takeGQ 3 [] rfl (by kernel_rfl) (by kernel_rfl) (by kernel_rfl) (by kernel_rfl) (by kernel_rfl) (by kernel_rfl) (fun ch_ a_ w_ q_ => (fun ch_ a_ w_ q_ => hnp ch_ a_ w_ (hp100 ch_ a_ w_ q_)) ch_ a_ w_ (hp124 ch_ a_ w_ q_)) (Sg.g0 (Sx.of [] (FM.le.refl _) HS145)) (fun w_ hw_ => by obtain ⟨g_, hl_, hS_⟩ := hw_.st; exact run_indexE hA152 (sz := 3) rfl Try.underlying27 (by kernel_rfl) (by kernel_rfl : _ = Value.slice A2 l1.length c3) (by kernel_rfl : _ = Value.int .i64 0) (by decide) c146 w_) ?_
        refine takeG [4] (n := 12) (fuel := 11) (l' := #[true, true, true, true, true, false, false, false, false, false, false, false, false, false, false, false]) (a' := ⟨#[.slice A2 l1.length c3, .int .i64 vf5, undef, undef, (j109 0), undef, (j85 1), (j85 2), undef, .pointer (some ⟨b136, 0, none⟩), .slice A2 l1.length c3, .int .i64 (l1.length : Int), .bool false, .slice A2 l1.length c3, .int .i64 (l1.length : Int), (j85 3), (j85 4), (j85 5), (j85 6), (j85 7), (j85 8), (j85 9), (j85 10), (j85 11), (j85 12), .slice A2 l1.length c3, .int .i64 (l1.length : Int), .int .i64 x110, .bool true, .pointer (some ⟨b132, of133 + (x110 : Int).toNat * 3, none⟩), .agg #[.int .i64 ((rd l1 x110).W), .int .i64 ((rd l1 x110).H), .slice A135 ((rd l1 x110).At).length c135], .pointer (some ⟨b136, 0, none⟩), .int .i64 ((rd l1 x110).W), .slice A2 l1.length c3, .pointer (some ⟨b150, of151 + (0 : Int).toNat * 3, none⟩), .pointer (some ⟨b150, of151 + (0 : Int).toNat * 3, none⟩), (j109 10), (j109 11), (j109 12), (j109 13), (j109 14), (j109 15), (j109 16), (j109 17), (j109 18), (j109 19), (j109 20), (j109 21), undef, undef, undef, undef, undef, undef, undef, undef, undef, undef, undef, undef, undef, undef], []⟩) rfl (by kernel_rfl) (by kernel_rfl) (by kernel_rfl) (fun ch_ a_ w_ q_ => (fun ch_ a_ w_ q_ => hnp ch_ a_ w_ (hp100 ch_ a_ w_ q_)) ch_ a_ w_ (hp124 ch_ a_ w_ q_)) (Sg.g0 (Sx.of [] (FM.le.refl _) HS145)) ?_
        refine takeGQ 5 [] rfl (by kernel_rfl) (by kernel_rfl) (by kernel_rfl) (by kernel_rfl) (by kernel_rfl) (by kernel_rfl) (fun ch_ a_ w_ q_ => (fun ch_ a_ w_ q_ => hnp ch_ a_ w_ (hp100 ch_ a_ w_ q_)) ch_ a_ w_ (hp124 ch_ a_ w_ q_)) (Sg.g0 (Sx.of [] (FM.le.refl _) HS145)) (fun w_ hw_ => by obtain ⟨g_, hl_, hS_⟩ := hw_.st; exact run_load rfl Try.underlying3 rfl (by kernel_rfl : _ = Value.pointer (some ⟨b150, of151 + (0 : Int).toNat * 3, none⟩)) ((hc149 hl_ hS_) 0 (by decide))) ?_
        refine takeG [6, 7] (n := 10) (fuel := 8) (l' := #[true, true, true, true, true, true, true, true, false, false, false, false, false, false, false, false]) (a' := ⟨#[.slice A2 l1.length c3, .int .i64 vf5, undef, undef, (j109 0), undef, (j85 1), (j85 2), undef, .pointer (some ⟨b136, 0, none⟩), .slice A2 l1.length c3, .int .i64 (l1.length : Int), .bool false, .slice A2 l1.length c3, .int .i64 (l1.length : Int), (j85 3), (j85 4), (j85 5), (j85 6), (j85 7), (j85 8), (j85 9), (j85 10), (j85 11), (j85 12), .slice A2 l1.length c3, .int .i64 (l1.length : Int), .int .i64 x110, .bool true, .pointer (some ⟨b132, of133 + (x110 : Int).toNat * 3, none⟩), .agg #[.int .i64 ((rd l1 x110).W), .int .i64 ((rd l1 x110).H), .slice A135 ((rd l1 x110).At).length c135], .pointer (some ⟨b136, 0, none⟩), .int .i64 ((rd l1 x110).W), .slice A2 l1.length c3, .pointer (some ⟨b150, of151 + (0 : Int).toNat * 3, none⟩), .pointer (some ⟨b150, of151 + (0 : Int).toNat * 3, none⟩), .int .i64 ((rd l1 0).W), .bool (((rd l1 x110).W) != ((rd l1 0).W)), .bool (((rd l1 x110).W) != ((rd l1 0).W)), (j109 13), (j109 14), (j109 15), (j109 16), (j109 17), (j109 18), (j109 19), (j109 20), (j109 21), undef, undef, undef, undef, undef, undef, undef, undef, undef, undef, undef, undef, undef, undef], []⟩) rfl (by kernel_rfl) (by kernel_rfl) (by kernel_rfl) (fun ch_ a_ w_ q_ => (fun ch_ a_ w_ q_ => hnp ch_ a_ w_ (hp100 ch_ a_ w_ q_)) ch_ a_ w_ (hp124 ch_ a_ w_ q_)) (Sg.g0 (Sx.of [] (FM.le.refl _) HS145)) ?_
        have hq_ := ite_some h; clear h; rcases hq_ with ⟨c154, h⟩ | ⟨c154, h⟩
        · have c154 : ((rd l1 x110).W) ≠ ((rd l1 0).W) := c154
          refine gateRwI 37 (x := (((rd l1 x110).W) != ((rd l1 0).W))) (v := true) (by kernel_rfl) (bne_iff_ne.mpr c154) ?_
          refine gateRwI 38 (x := (((rd l1 x110).W) != ((rd l1 0).W))) (v := true) (by kernel_rfl) (bne_iff_ne.mpr c154) ?_
          refine takeG [8, 9, 10, 11, 12, 13, 14, 15] (n := 8) (fuel := 0) (l' := #[true, true, true, true, true, true, true, true, true, true, true, true, true, true, true, true]) (a' := ⟨#[.slice A2 l1.length c3, .int .i64 vf5, undef, undef, (j109 0), undef, (j85 1), (j85 2), undef, .pointer (some ⟨b136, 0, none⟩), .slice A2 l1.length c3, .int .i64 (l1.length : Int), .bool false, .slice A2 l1.length c3, .int .i64 (l1.length : Int), (j85 3), (j85 4), (j85 5), (j85 6), (j85 7), (j85 8), (j85 9), (j85 10), (j85 11), (j85 12), .slice A2 l1.length c3, .int .i64 (l1.length : Int), .int .i64 x110, .bool true, .pointer (some ⟨b132, of133 + (x110 : Int).toNat * 3, none⟩), .agg #[.int .i64 ((rd l1 x110).W), .int .i64 ((rd l1 x110).H), .slice A135 ((rd l1 x110).At).length c135], .pointer (some ⟨b136, 0, none⟩), .int .i64 ((rd l1 x110).W), .slice A2 l1.length c3, .pointer (some ⟨b150, of151 + (0 : Int).toNat * 3, none⟩), .pointer (some ⟨b150, of151 + (0 : Int).toNat * 3, none⟩), .int .i64 ((rd l1 0).W), .bool true, .bool true, undef, undef, undef, undef, undef, undef, undef, .bool true, (j109 21), undef, undef, undef, undef, undef, undef, undef, undef, undef, undef, undef, undef, undef, undef], []⟩) rfl (by kernel_rfl) (by kernel_rfl) (by kernel_rfl) (fun ch_ a_ w_ q_ => (fun ch_ a_ w_ q_ => hnp ch_ a_ w_ (hp100 ch_ a_ w_ q_)) ch_ a_ w_ (hp124 ch_ a_ w_ q_)) (Sg.g0 (Sx.of [] (FM.le.refl _) HS145)) ?_
          refine doneG (by kernel_rfl) ?_ _
          refine hK143 _ _ ?_
          refine condT (by kernel_rfl) ?_
          refine wp_seq_k (fun K155 hK156 => ?_)
          refine wp_region_lit ?_
          refine seqS1 (a' := ⟨#[.slice A2 l1.length c3, .int .i64 vf5, undef, undef, .int .i64 3, undef, (j85 1), (j85 2), undef, .pointer (some ⟨b136, 0, none⟩), .slice A2 l1.length c3, .int .i64 (l1.length : Int), .bool false, .slice A2 l1.length c3, .int .i64 (l1.length : Int), (j85 3), (j85 4), (j85 5), (j85 6), (j85 7), (j85 8), (j85 9), (j85 10), (j85 11), (j85 12), .slice A2 l1.length c3, .int .i64 (l1.length : Int), .int .i64 x110, .bool true, .pointer (some ⟨b132, of133 + (x110 : Int).toNat * 3, none⟩), .agg #[.int .i64 ((rd l1 x110).W), .int .i64 ((rd l1 x110).H), .slice A135 ((rd l1 x110).At).length c135], .pointer (some ⟨b136, 0, none⟩), .int .i64 ((rd l1 x110).W), .slice A2 l1.length c3, .pointer (some ⟨b150, of151 + (0 : Int).toNat * 3, none⟩), .pointer (some ⟨b150, of151 + (0 : Int).toNat * 3, none⟩), .int .i64 ((rd l1 0).W), .bool true, .bool true, undef, undef, undef, undef, undef, undef, undef, .bool true, (j109 21), undef, undef, undef, undef, undef, undef, undef, undef, undef, undef, undef, undef, undef, undef], []⟩) (by kernel_rfl) ?_
          refine wpList_nil ?_
          refine hK156 _ _ ?_
          refine wp_ret ?_
          refine hr122 _ _ ?_
          refine hr98 _ _ ?_
          refine hret _ _ ?_
          refine ends_still (v := Value.int .i64 3) (by kernel_rfl) (by kernel_rfl) ?_
          have HS198 := HS145.drop
          replace h := JR168 _ h
          injection h with h
          subst h
          exact ⟨f105, rfl, (L82.trans L106), HS198⟩
        · have c154 : ¬ (((rd l1 x110).W) ≠ ((rd l1 0).W)) := c154
          refine gateRwI 37 (x := (((rd l1 x110).W) != ((rd l1 0).W))) (v := false) (by kernel_rfl) (bne_eq_false_iff_eq.mpr (Decidable.of_not_not c154)) ?_
          refine gateRwI 38 (x := (((rd l1 x110).W) != ((rd l1 0).W))) (v := false) (by kernel_rfl) (bne_eq_false_iff_eq.mpr (Decidable.of_not_not c154)) ?_
          refine takeG [8] (n := 8) (fuel := 7) (l' := #[true, true, true, true, true, true, true, true, true, false, false, false, false, false, false, false]) (a' := ⟨#[.slice A2 l1.length c3, .int .i64 vf5, undef, undef, (j109 0), undef, (j85 1), (j85 2), undef, .pointer (some ⟨b136, 0, none⟩), .slice A2 l1.length c3, .int .i64 (l1.length : Int), .bool false, .slice A2 l1.length c3, .int .i64 (l1.length : Int), (j85 3), (j85 4), (j85 5), (j85 6), (j85 7), (j85 8), (j85 9), (j85 10), (j85 11), (j85 12), .slice A2 l1.length c3, .int .i64 (l1.length : Int), .int .i64 x110, .bool true, .pointer (some ⟨b132, of133 + (x110 : Int).toNat * 3, none⟩), .agg #[.int .i64 ((rd l1 x110).W), .int .i64 ((rd l1 x110).H), .slice A135 ((rd l1 x110).At).length c135], .pointer (some ⟨b136, 0, none⟩), .int .i64 ((rd l1 x110).W), .slice A2 l1.length c3, .pointer (some ⟨b150, of151 + (0 : Int).toNat * 3, none⟩), .pointer (some ⟨b150, of151 + (0 : Int).toNat * 3, none⟩), .int .i64 ((rd l1 0).W), .bool false, .bool false, .pointer (some ⟨b136, 1, none⟩), (j109 14), (j109 15), (j109 16), (j109 17), (j109 18), (j109 19), (j109 20), (j109 21), undef, undef, undef, undef, undef, undef, undef, undef, undef, undef, undef, undef, undef, undef], []⟩) rfl (by kernel_rfl) (by kernel_rfl) (by kernel_rfl) (fun ch_ a_ w_ q_ => (fun ch_ a_ w_ q_ => hnp ch_ a_ w_ (hp100 ch_ a_ w_ q_)) ch_ a_ w_ (hp124 ch_ a_ w_ q_)) (Sg.g0 (Sx.of [] (FM.le.refl _) HS145)) ?_
          refine takeGQ 9 [] rfl (by kernel_rfl) (by kernel_rfl) (by kernel_rfl) (by kernel_rfl) (by kernel_rfl) (by kernel_rfl) (fun ch_ a_ w_ q_ => (fun ch_ a_ w_ q_ => hnp ch_ a_ w_ (hp100 ch_ a_ w_ q_)) ch_ a_ w_ (hp124 ch_ a_ w_ q_)) (Sg.g0 (Sx.of [] (FM.le.refl _) HS145)) (fun w_ hw_ => by obtain ⟨g_, hl_, hS_⟩ := hw_.st; exact run_load rfl Try.underlying3 rfl (by kernel_rfl : _ = Value.pointer (some ⟨b136, 1, none⟩)) (hS_.cell 1)) ?_
          refine takeG [10] (n := 6) (fuel := 5) (l' := #[true, true, true, true, true, true, true, true, true, true, true, false, false, false, false, false]) (a' := ⟨#[.slice A2 l1.length c3, .int .i64 vf5, undef, undef, (j109 0), undef, (j85 1), (j85 2), undef, .pointer (some ⟨b136, 0, none⟩), .slice A2 l1.length c3, .int .i64 (l1.length : Int), .bool false, .slice A2 l1.length c3, .int .i64 (l1.length : Int), (j85 3), (j85 4), (j85 5), (j85 6), (j85 7), (j85 8), (j85 9), (j85 10), (j85 11), (j85 12), .slice A2 l1.length c3, .int .i64 (l1.length : Int), .int .i64 x110, .bool true, .pointer (some ⟨b132, of133 + (x110 : Int).toNat * 3, none⟩), .agg #[.int .i64 ((rd l1 x110).W), .int .i64 ((rd l1 x110).H), .slice A135 ((rd l1 x110).At).length c135], .pointer (some ⟨b136, 0, none⟩), .int .i64 ((rd l1 x110).W), .slice A2 l1.length c3, .pointer (some ⟨b150, of151 + (0 : Int).toNat * 3, none⟩), .pointer (some ⟨b150, of151 + (0 : Int).toNat * 3, none⟩), .int .i64 ((rd l1 0).W), .bool false, .bool false, .pointer (some ⟨b136, 1, none⟩), .int .i64 ((rd l1 x110).H), .slice A2 l1.length c3, (j109 16), (j109 17), (j109 18), (j109 19), (j109 20), (j109 21), undef, undef, undef, undef, undef, undef, undef, undef, undef, undef, undef, undef, undef, undef], []⟩) rfl (by kernel_rfl) (by kernel_rfl) (by kernel_rfl) (fun ch_ a_ w_ q_ => (fun ch_ a_ w_ q_ => hnp ch_ a_ w_ (hp100 ch_ a_ w_ q_)) ch_ a_ w_ (hp124 ch_ a_ w_ q_)) (Sg.g0 (Sx.of [] (FM.le.refl _) HS145)) ?_
          refine takeGQ 11 [] rfl (by kernel_rfl) (by kernel_rfl) (by kernel_rfl) (by kernel_rfl) (by kernel_rfl) (by kernel_rfl) (fun ch_ a_ w_ q_ => (fun ch_ a_ w_ q_ => hnp ch_ a_ w_ (hp100 ch_ a_ w_ q_)) ch_ a_ w_ (hp124 ch_ a_ w_ q_)) (Sg.g0 (Sx.of [] (FM.le.refl _) HS145)) (fun w_ hw_ => by obtain ⟨g_, hl_, hS_⟩ := hw_.st; exact run_indexE hA152 (sz := 3) rfl Try.underlying27 (by kernel_rfl) (by kernel_rfl : _ = Value.slice A2 l1.length c3) (by kernel_rfl : _ = Value.int .i64 0) (by decide) c146 w_) ?_
          refine takeG [12] (n := 4) (fuel := 3) (l' := #[true, true, true, true, true, true, true, true, true, true, true, true, true, false, false, false]) (a' := ⟨#[.slice A2 l1.length c3, .int .i64 vf5, undef, undef, (j109 0), undef, (j85 1), (j85 2), undef, .pointer (some ⟨b136, 0, none⟩), .slice A2 l1.length c3, .int .i64 (l1.length : Int), .bool false, .slice A2 l1.length c3, .int .i64 (l1.length : Int), (j85 3), (j85 4), (j85 5), (j85 6), (j85 7), (j85 8), (j85 9), (j85 10), (j85 11), (j85 12), .slice A2 l1.length c3, .int .i64 (l1.length : Int), .int .i64 x110, .bool true, .pointer (some ⟨b132, of133 + (x110 : Int).toNat * 3, none⟩), .agg #[.int .i64 ((rd l1 x110).W), .int .i64 ((rd l1 x110).H), .slice A135 ((rd l1 x110).At).length c135], .pointer (some ⟨b136, 0, none⟩), .int .i64 ((rd l1 x110).W), .slice A2 l1.length c3, .pointer (some ⟨b150, of151 + (0 : Int).toNat * 3, none⟩), .pointer (some ⟨b150, of151 + (0 : Int).toNat * 3, none⟩), .int .i64 ((rd l1 0).W), .bool false, .bool false, .pointer (some ⟨b136, 1, none⟩), .int .i64 ((rd l1 x110).H), .slice A2 l1.length c3, .pointer (some ⟨b150, of151 + (0 : Int).toNat * 3, none⟩), .pointer (some ⟨b150, of151 + (0 : Int).toNat * 3 + 1, none⟩), (j109 18), (j109 19), (j109 20), (j109 21), undef, undef, undef, undef, undef, undef, undef, undef, undef, undef, undef, undef, undef, undef], []⟩) rfl (by kernel_rfl) (by kernel_rfl) (by kernel_rfl) (fun ch_ a_ w_ q_ => (fun ch_ a_ w_ q_ => hnp ch_ a_ w_ (hp100 ch_ a_ w_ q_)) ch_ a_ w_ (hp124 ch_ a_ w_ q_)) (Sg.g0 (Sx.of [] (FM.le.refl _) HS145)) ?_
          refine takeGQ 13 [] rfl (by kernel_rfl) (by kernel_rfl) (by kernel_rfl) (by kernel_rfl) (by kernel_rfl) (by kernel_rfl) (fun ch_ a_ w_ q_ => (fun ch_ a_ w_ q_ => hnp ch_ a_ w_ (hp100 ch_ a_ w_ q_)) ch_ a_ w_ (hp124 ch_ a_ w_ q_)) (Sg.g0 (Sx.of [] (FM.le.refl _) HS145)) (fun w_ hw_ => by obtain ⟨g_, hl_, hS_⟩ := hw_.st; exact run_load rfl Try.underlying3 rfl (by kernel_rfl : _ = Value.pointer (some ⟨b150, of151 + (0 : Int).toNat * 3 + 1, none⟩)) ((hc149 hl_ hS_) 1 (by decide))) ?_
          refine takeG [14, 15] (n := 2) (fuel := 0) (l' := #[true, true, true, true, true, true, true, true, true, true, true, true, true, true, true, true]) (a' := ⟨#[.slice A2 l1.length c3, .int .i64 vf5, undef, undef, (j109 0), undef, (j85 1), (j85 2), undef, .pointer (some ⟨b136, 0, none⟩), .slice A2 l1.length c3, .int .i64 (l1.length : Int), .bool false, .slice A2 l1.length c3, .int .i64 (l1.length : Int), (j85 3), (j85 4), (j85 5), (j85 6), (j85 7), (j85 8), (j85 9), (j85 10), (j85 11), (j85 12), .slice A2 l1.length c3, .int .i64 (l1.length : Int), .int .i64 x110, .bool true, .pointer (some ⟨b132, of133 + (x110 : Int).toNat * 3, none⟩), .agg #[.int .i64 ((rd l1 x110).W), .int .i64 ((rd l1 x110).H), .slice A135 ((rd l1 x110).At).length c135], .pointer (some ⟨b136, 0, none⟩), .int .i64 ((rd l1 x110).W), .slice A2 l1.length c3, .pointer (some ⟨b150, of151 + (0 : Int).toNat * 3, none⟩), .pointer (some ⟨b150, of151 + (0 : Int).toNat * 3, none⟩), .int .i64 ((rd l1 0).W), .bool false, .bool false, .pointer (some ⟨b136, 1, none⟩), .int .i64 ((rd l1 x110).H), .slice A2 l1.length c3, .pointer (some ⟨b150, of151 + (0 : Int).toNat * 3, none⟩), .pointer (some ⟨b150, of151 + (0 : Int).toNat * 3 + 1, none⟩), .int .i64 ((rd l1 0).H), .bool (((rd l1 x110).H) != ((rd l1 0).H)), .bool (((rd l1 x110).H) != ((rd l1 0).H)), (j109 21), undef, undef, undef, undef, undef, undef, undef, undef, undef, undef, undef, undef, undef, undef], []⟩) rfl (by kernel_rfl) (by kernel_rfl) (by kernel_rfl) (fun ch_ a_ w_ q_ => (fun ch_ a_ w_ q_ => hnp ch_ a_ w_ (hp100 ch_ a_ w_ q_)) ch_ a_ w_ (hp124 ch_ a_ w_ q_)) (Sg.g0 (Sx.of [] (FM.le.refl _) HS145)) ?_
          refine doneG (by kernel_rfl) ?_ _
          refine hK143 _ _ ?_
          have hq_ := ite_some h; clear h; rcases hq_ with ⟨c158, h⟩ | ⟨c158, h⟩
          · have c158 : ((rd l1 x110).H) ≠ ((rd l1 0).H) := c158
            refine wpRwI 45 (x := (((rd l1 x110).H) != ((rd l1 0).H))) (v := true) (by kernel_rfl) (bne_iff_ne.mpr c158) ?_
            refine wpRwI 46 (x := (((rd l1 x110).H) != ((rd l1 0).H))) (v := true) (by kernel_rfl) (bne_iff_ne.mpr c158) ?_
            refine condT (by kernel_rfl) ?_
            refine wp_seq_k (fun K159 hK160 => ?_)
            refine wp_region_lit ?_
            refine seqS1 (a' := ⟨#[.slice A2 l1.length c3, .int .i64 vf5, undef, undef, .int .i64 3, undef, (j85 1), (j85 2), undef, .pointer (some ⟨b136, 0, none⟩), .slice A2 l1.length c3, .int .i64 (l1.length : Int), .bool false, .slice A2 l1.length c3, .int .i64 (l1.length : Int), (j85 3), (j85 4), (j85 5), (j85 6), (j85 7), (j85 8), (j85 9), (j85 10), (j85 11), (j85 12), .slice A2 l1.length c3, .int .i64 (l1.length : Int), .int .i64 x110, .bool true, .pointer (some ⟨b132, of133 + (x110 : Int).toNat * 3, none⟩), .agg #[.int .i64 ((rd l1 x110).W), .int .i64 ((rd l1 x110).H), .slice A135 ((rd l1 x110).At).length c135], .pointer (some ⟨b136, 0, none⟩), .int .i64 ((rd l1 x110).W), .slice A2 l1.length c3, .pointer (some ⟨b150, of151 + (0 : Int).toNat * 3, none⟩), .pointer (some ⟨b150, of151 + (0 : Int).toNat * 3, none⟩), .int .i64 ((rd l1 0).W), .bool false, .bool false, .pointer (some ⟨b136, 1, none⟩), .int .i64 ((rd l1 x110).H), .slice A2 l1.length c3, .pointer (some ⟨b150, of151 + (0 : Int).toNat * 3, none⟩), .pointer (some ⟨b150, of151 + (0 : Int).toNat * 3 + 1, none⟩), .int .i64 ((rd l1 0).H), .bool true, .bool true, (j109 21), undef, undef, undef, undef, undef, undef, undef, undef, undef, undef, undef, undef, undef, undef], []⟩) (by kernel_rfl) ?_
            refine wpList_nil ?_
            refine hK160 _ _ ?_
            refine wp_ret ?_
            refine hr122 _ _ ?_
            refine hr98 _ _ ?_
            refine hret _ _ ?_
            refine ends_still (v := Value.int .i64 3) (by kernel_rfl) (by kernel_rfl) ?_
            have HS199 := HS145.drop
            replace h := JR168 _ h
            injection h with h
            subst h
            exact ⟨f105, rfl, (L82.trans L106), HS199⟩
          · have c158 : ¬ (((rd l1 x110).H) ≠ ((rd l1 0).H)) := c158
            refine wpRwI 45 (x := (((rd l1 x110).H) != ((rd l1 0).H))) (v := false) (by kernel_rfl) (bne_eq_false_iff_eq.mpr (Decidable.of_not_not c158)) ?_
            refine wpRwI 46 (x := (((rd l1 x110).H) != ((rd l1 0).H))) (v := false) (by kernel_rfl) (bne_eq_false_iff_eq.mpr (Decidable.of_not_not c158)) ?_
            refine condF (by kernel_rfl) ?_
            refine wp_skip ?_
            refine hn121 _ _ ?_
            refine hK118 _ _ ?_
            refine wp_region_lit ?_
            refine seqS2 (a' := ⟨#[.slice A2 l1.length c3, .int .i64 vf5, undef, undef, (j109 0), undef, (j85 1), (j85 2), undef, .pointer (some ⟨b136, 0, none⟩), .slice A2 l1.length c3, .int .i64 (l1.length : Int), .bool false, .slice A2 l1.length c3, .int .i64 (l1.length : Int), (j85 3), (j85 4), (j85 5), (j85 6), (j85 7), (j85 8), (j85 9), (j85 10), (j85 11), (j85 12), .slice A2 l1.length c3, .int .i64 (l1.length : Int), .int .i64 (w64 (x110 + 1)), .bool true, .pointer (some ⟨b132, of133 + (x110 : Int).toNat * 3, none⟩), .agg #[.int .i64 ((rd l1 x110).W), .int .i64 ((rd l1 x110).H), .slice A135 ((rd l1 x110).At).length c135], .pointer (some ⟨b136, 0, none⟩), .int .i64 ((rd l1 x110).W), .slice A2 l1.length c3, .pointer (some ⟨b150, of151 + (0 : Int).toNat * 3, none⟩), .pointer (some ⟨b150, of151 + (0 : Int).toNat * 3, none⟩), .int .i64 ((rd l1 0).W), .bool false, .bool false, .pointer (some ⟨b136, 1, none⟩), .int .i64 ((rd l1 x110).H), .slice A2 l1.length c3, .pointer (some ⟨b150, of151 + (0 : Int).toNat * 3, none⟩), .pointer (some ⟨b150, of151 + (0 : Int).toNat * 3 + 1, none⟩), .int .i64 ((rd l1 0).H), .bool false, .bool false, .int .i64 (w64 (x110 + 1)), undef, undef, undef, undef, undef, undef, undef, undef, undef, undef, undef, undef, undef, undef], []⟩) (by kernel_rfl) ?_
            refine wpList_nil ?_
            refine hK103 n104 _ _ (Nat.lt_succ_self _) ?_
            have HS170 := HS145.drop
            exact ⟨f105, (w64 (x110 + 1)), (fun i_ => [(j109 0), Value.pointer (some ⟨b136, 0, none⟩), Value.bool true, Value.pointer (some ⟨b132, of133 + (x110 : Int).toNat * 3, none⟩), Value.agg #[.int .i64 ((rd l1 x110).W), .int .i64 ((rd l1 x110).H), .slice A135 ((rd l1 x110).At).length c135], Value.pointer (some ⟨b136, 0, none⟩), Value.int .i64 ((rd l1 x110).W), Value.slice A2 l1.length c3, Value.pointer (some ⟨b150, of151 + (0 : Int).toNat * 3, none⟩), Value.pointer (some ⟨b150, of151 + (0 : Int).toNat * 3, none⟩), Value.int .i64 ((rd l1 0).W), Value.bool false, Value.bool false, Value.pointer (some ⟨b136, 1, none⟩), Value.int .i64 ((rd l1 x110).H), Value.slice A2 l1.length c3, Value.pointer (some ⟨b150, of151 + (0 : Int).toNat * 3, none⟩), Value.pointer (some ⟨b150, of151 + (0 : Int).toNat * 3 + 1, none⟩), Value.int .i64 ((rd l1 0).H), Value.bool false, Value.bool false, Value.int .i64 (w64 (x110 + 1))].getD i_ undef), L106, HS170, h, (by kernel_rfl)⟩
      · have c116 : ¬ (x110 < (l1.length : Int)) := c116
        refine wpRwI 28 (x := (decide (x110 < (l1.length : Int)))) (v := false) (by kernel_rfl) (decide_eq_false c116) ?_
        refine condF (by kernel_rfl) ?_
        refine wp_exit ?_
        refine hx96 _ _ ?_
        exact J167 f105 (fun i_ => [(j109 0), (j109 1), Value.int .i64 x110, Value.bool false, (j109 3), (j109 4), (j109 5), (j109 6), (j109 7), (j109 8), (j109 9), (j109 10), (j109 11), (j109 12), (j109 13), (j109 14), (j109 15), (j109 16), (j109 17), (j109 18), (j109 19), (j109 20), (j109 21)].getD i_ undef) W107 _ L106 h HS108 (by kernel_rfl)
    clear h; have h := hv86; clear hv86
    refine loopK (fun n_ a_ w_ => ∃ (f30 : FM) (x35 : Int) (j34 : Nat → Value), FM.le f f30 ∧ St t w_ f30 (H) ∧ clean_valid.l0 k l1 n_ x35 = some o26 ∧ a_ = ⟨#[.slice A2 l1.length c3, .int .i64 vf5, undef, undef, (j34 0), undef, (j34 1), (j34 2), undef, undef, .slice A2 l1.length c3, .int .i64 (l1.length : Int), .bool false, .slice A2 l1.length c3, .int .i64 (l1.length : Int), .int .i64 x35, (j34 3), (j34 4), (j34 5), (j34 6), (j34 7), (j34 8), (j34 9), (j34 10), (j34 11), undef, undef, undef, undef, undef, undef, undef, undef, undef, undef, undef, undef, undef, undef, undef, undef, undef, undef, undef, undef, undef, undef, undef, undef, undef, undef, undef, undef, undef, undef, undef, undef, undef, undef, undef, undef, undef], []⟩) k ⟨f, 0, (fun i_ => [Value.int .i64 0, undef, undef, undef, undef, undef, undef, undef, undef, undef, undef, undef].getD i_ undef), (FM.le.refl _), HS, h, (by kernel_rfl)⟩ ?_
    clear h
    rintro n29 _ W32 ⟨f30, x35, j34, L31, HS33, h, rfl⟩ K27 hK28
    obtain _ | n29 := n29
    · exact nomatch h
    simp only [clean_valid.l0] at h
    refine wp_seq_k (fun K36 hK37 => ?_)
    refine wp_region_lit ?_
    refine seqS1 (a' := ⟨#[.slice A2 l1.length c3, .int .i64 vf5, undef, undef, (j34 0), undef, (j34 1), (j34 2), undef, undef, .slice A2 l1.length c3, .int .i64 (l1.length : Int), .bool false, .slice A2 l1.length c3, .int .i64 (l1.length : Int), .int .i64 x35, .bool (decide (x35 < (l1.length : Int))), (j34 4), (j34 5), (j34 6), (j34 7), (j34 8), (j34 9), (j34 10), (j34 11), undef, undef, undef, undef, undef, undef, undef, undef, undef, undef, undef, undef, undef, undef, undef, undef, undef, undef, undef, undef, undef, undef, undef, undef, undef, undef, undef, undef, undef, undef, undef, undef, undef, undef, undef, undef, undef], []⟩) (by kernel_rfl) ?_
    refine wpList_nil ?_
    refine hK37 _ _ ?_
    refine wp_seq_k (fun K38 hK39 => ?_)
    have hq_ := ite_some h; clear h; rcases hq_ with ⟨c41, h⟩ | ⟨c41, h⟩
    · have c41 : x35 < (l1.length : Int) := c41
      refine wpRwI 16 (x := (decide (x35 < (l1.length : Int)))) (v := true) (by kernel_rfl) (decide_eq_true c41) ?_
      refine condT (by kernel_rfl) ?_
      refine wp_skip ?_
      refine hK39 _ _ ?_
      refine wp_seq_k (fun K42 hK43 => ?_)
      refine blockK (fun B44 hx45 hn46 hr47 ho48 hp49 => ?_)
      refine wp_seq_k (fun K51 hK52 => ?_)
      refine wp_region_lit ?_
      have hq_ := guard_some h; clear h; obtain ⟨c53, h⟩ := hq_
      have c53 : 0 ≤ x35 := c53
      obtain ⟨b57, of58, cs54, hA59, hr55, hc56⟩ := (HR4.mono L31).at (i := x35) c53 c41
      obtain ⟨A60, c60, rfl, HR60⟩ := hr55
      refine seqK rfl (does_run (run_indexE hA59 (sz := 3) rfl Try.underlying27 (by kernel_rfl) (by kernel_rfl : _ = Value.slice A2 l1.length c3) (by kernel_rfl : _ = Value.int .i64 x35) c53 c41 W32) ?_)
      refine seqK rfl (does_run (run_loadN (n := 3) rfl Try.underlying34 rfl (by kernel_rfl) (by kernel_rfl : _ = Value.pointer (some ⟨b57, of58 + (x35 : Int).toNat * 3, none⟩)) (cs := [.int .i64 ((rd l1 x35).W), .int .i64 ((rd l1 x35).H), .slice A60 ((rd l1 x35).At).length c60]) rfl (fun j_ hj_ => ((hc56 (FM.le.refl _) HS33) j_ hj_))) ?_)
      refine seqK rfl (does_alloc (z := Value.agg #[.int .i64 0, .int .i64 0, .slice none 0 0]) (cs := #[.int .i64 0, .int .i64 0, .slice none 0 0]) rfl (by kernel_rfl) rfl HS33 ?_)
      intro b61 W62 HS63
      refine seqK rfl (does_store (n := 3) (vs := [.int .i64 ((rd l1 x35).W), .int .i64 ((rd l1 x35).H), .slice A60 ((rd l1 x35).At).length c60]) (cs' := #[.int .i64 ((rd l1 x35).W), .int .i64 ((rd l1 x35).H), .slice A60 ((rd l1 x35).At).length c60]) rfl (by kernel_rfl) (by kernel_rfl : _ = Value.pointer (some ⟨b61, 0, none⟩)) (by kernel_rfl : _ = Value.agg #[.int .i64 ((rd l1 x35).W), .int .i64 ((rd l1 x35).H), .slice A60 ((rd l1 x35).At).length c60]) rfl rfl (by intro u_ hu_; simp only [List.mem_cons, List.not_mem_nil, or_false] at hu_; rcases hu_ with rfl | rfl | rfl <;> rfl) HS63 (Nat.le_of_ble_eq_true rfl) (by kernel_rfl) ?_)
      intro W65 HS66
      refine wpList_nil ?_
      refine hK52 _ _ ?_
      refine wp_seq_k (fun K67 hK68 => ?_)
      refine wp_region_lit ?_
      refine seqK rfl (does_run (run_loadN (n := 3) rfl Try.underlying34 rfl (by kernel_rfl) (by kernel_rfl : _ = Value.pointer (some ⟨b61, 0, none⟩)) (cs := [.int .i64 ((rd l1 x35).W), .int .i64 ((rd l1 x35).H), .slice A60 ((rd l1 x35).At).length c60]) rfl (HS66.cells 0 3 _ rfl)) ?_)
      have hq_ := bind_some h; clear h; obtain ⟨vt69, hc70, h⟩ := hq_
      refine seqK rfl (does_call (f := 63) (args := #[.agg #[.int .i64 ((rd l1 x35).W), .int .i64 ((rd l1 x35).H), .slice A60 ((rd l1 x35).At).length c60]]) (by kernel_rfl) (clean_Check.calls k A60 c60 (rd l1 x35) HS66 HR60 vt69 hc70) ?_)
      rintro _ W73 ⟨f71, rfl, L72, HS74⟩
      refine ⟨_, rfl, ?_⟩
      refine seqS1 (a' := ⟨#[.slice A2 l1.length c3, .int .i64 vf5, undef, undef, (j34 0), undef, .pointer (some ⟨b61, 0, none⟩), .int .i64 vt69, undef, undef, .slice A2 l1.length c3, .int .i64 (l1.length : Int), .bool false, .slice A2 l1.length c3, .int .i64 (l1.length : Int), .int .i64 x35, .bool true, .pointer (some ⟨b57, of58 + (x35 : Int).toNat * 3, none⟩), .agg #[.int .i64 ((rd l1 x35).W), .int .i64 ((rd l1 x35).H), .slice A60 ((rd l1 x35).At).length c60], .agg #[.int .i64 ((rd l1 x35).W), .int .i64 ((rd l1 x35).H), .slice A60 ((rd l1 x35).At).length c60], .int .i64 vt69, (j34 8), (j34 9), (j34 10), (j34 11), undef, undef, undef, undef, undef, undef, undef, undef, undef, undef, undef, undef, undef, undef, undef, undef, undef, undef, undef, undef, undef, undef, undef, undef, undef, undef, undef, undef, undef, undef, undef, undef, undef, undef, undef, undef, undef], []⟩) (by kernel_rfl) ?_
      refine wpList_nil ?_
      refine hK68 _ _ ?_
      refine wp_seq_k (fun K75 hK76 => ?_)
      refine wp_region_lit ?_
      refine seqS2 (a' := ⟨#[.slice A2 l1.length c3, .int .i64 vf5, undef, undef, (j34 0), undef, .pointer (some ⟨b61, 0, none⟩), .int .i64 vt69, undef, undef, .slice A2 l1.length c3, .int .i64 (l1.length : Int), .bool false, .slice A2 l1.length c3, .int .i64 (l1.length : Int), .int .i64 x35, .bool true, .pointer (some ⟨b57, of58 + (x35 : Int).toNat * 3, none⟩), .agg #[.int .i64 ((rd l1 x35).W), .int .i64 ((rd l1 x35).H), .slice A60 ((rd l1 x35).At).length c60], .agg #[.int .i64 ((rd l1 x35).W), .int .i64 ((rd l1 x35).H), .slice A60 ((rd l1 x35).At).length c60], .int .i64 vt69, .int .i64 vt69, .bool (vt69 != 0), (j34 10), (j34 11), undef, undef, undef, undef, undef, undef, undef, undef, undef, undef, undef, undef, undef, undef, undef, undef, undef, undef, undef, undef, undef, undef, undef, undef, undef, undef, undef, undef, undef, undef, undef, undef, undef, undef, undef, undef, undef], []⟩) (by kernel_rfl) ?_
      refine wpList_nil ?_
      refine hK76 _ _ ?_
      have hq_ := ite_some h; clear h; rcases hq_ with ⟨c78, h⟩ | ⟨c78, h⟩
      · have c78 : vt69 ≠ 0 := c78
        refine wpRwI 22 (x := (vt69 != 0)) (v := true) (by kernel_rfl) (bne_iff_ne.mpr c78) ?_
        refine condT (by kernel_rfl) ?_
        refine wp_seq_k (fun K79 hK80 => ?_)
        refine wp_region_lit ?_
        refine seqS2 (a' := ⟨#[.slice A2 l1.length c3, .int .i64 vf5, undef, undef, .int .i64 vt69, undef, .pointer (some ⟨b61, 0, none⟩), .int .i64 vt69, undef, undef, .slice A2 l1.length c3, .int .i64 (l1.length : Int), .bool false, .slice A2 l1.length c3, .int .i64 (l1.length : Int), .int .i64 x35, .bool true, .pointer (some ⟨b57, of58 + (x35 : Int).toNat * 3, none⟩), .agg #[.int .i64 ((rd l1 x35).W), .int .i64 ((rd l1 x35).H), .slice A60 ((rd l1 x35).At).length c60], .agg #[.int .i64 ((rd l1 x35).W), .int .i64 ((rd l1 x35).H), .slice A60 ((rd l1 x35).At).length c60], .int .i64 vt69, .int .i64 vt69, .bool true, .int .i64 vt69, (j34 11), undef, undef, undef, undef, undef, undef, undef, undef, undef, undef, undef, undef, undef, undef, undef, undef, undef, undef, undef, undef, undef, undef, undef, undef, undef, undef, undef, undef, undef, undef, undef, undef, undef, undef, undef, undef, undef], []⟩) (by kernel_rfl) ?_
        refine wpList_nil ?_
        refine hK80 _ _ ?_
        refine wp_ret ?_
        refine hr47 _ _ ?_
        refine hr23 _ _ ?_
        refine hret _ _ ?_
        refine ends_still (v := Value.int .i64 vt69) (by kernel_rfl) (by kernel_rfl) ?_
        have HS197 := HS74.drop
        replace h := JR88 _ h
        injection h with h
        subst h
        exact ⟨f71, rfl, (L31.trans L72), HS197⟩
      · have c78 : ¬ (vt69 ≠ 0) := c78
        refine wpRwI 22 (x := (vt69 != 0)) (v := false) (by kernel_rfl) (bne_eq_false_iff_eq.mpr (Decidable.of_not_not c78)) ?_
        refine condF (by kernel_rfl) ?_
        refine wp_skip ?_
        refine hn46 _ _ ?_
        refine hK43 _ _ ?_
        refine wp_region_lit ?_
        refine seqS2 (a' := ⟨#[.slice A2 l1.length c3, .int .i64 vf5, undef, undef, (j34 0), undef, .pointer (some ⟨b61, 0, none⟩), .int .i64 vt69, undef, undef, .slice A2 l1.length c3, .int .i64 (l1.length : Int), .bool false, .slice A2 l1.length c3, .int .i64 (l1.length : Int), .int .i64 (w64 (x35 + 1)), .bool true, .pointer (some ⟨b57, of58 + (x35 : Int).toNat * 3, none⟩), .agg #[.int .i64 ((rd l1 x35).W), .int .i64 ((rd l1 x35).H), .slice A60 ((rd l1 x35).At).length c60], .agg #[.int .i64 ((rd l1 x35).W), .int .i64 ((rd l1 x35).H), .slice A60 ((rd l1 x35).At).length c60], .int .i64 vt69, .int .i64 vt69, .bool false, (j34 10), .int .i64 (w64 (x35 + 1)), undef, undef, undef, undef, undef, undef, undef, undef, undef, undef, undef, undef, undef, undef, undef, undef, undef, undef, undef, undef, undef, undef, undef, undef, undef, undef, undef, undef, undef, undef, undef, undef, undef, undef, undef, undef, undef], []⟩) (by kernel_rfl) ?_
        refine wpList_nil ?_
        refine hK28 n29 _ _ (Nat.lt_succ_self _) ?_
        have HS90 := HS74.drop
        exact ⟨f71, (w64 (x35 + 1)), (fun i_ => [(j34 0), Value.pointer (some ⟨b61, 0, none⟩), Value.int .i64 vt69, Value.bool true, Value.pointer (some ⟨b57, of58 + (x35 : Int).toNat * 3, none⟩), Value.agg #[.int .i64 ((rd l1 x35).W), .int .i64 ((rd l1 x35).H), .slice A60 ((rd l1 x35).At).length c60], Value.agg #[.int .i64 ((rd l1 x35).W), .int .i64 ((rd l1 x35).H), .slice A60 ((rd l1 x35).At).length c60], Value.int .i64 vt69, Value.int .i64 vt69, Value.bool false, (j34 10), Value.int .i64 (w64 (x35 + 1))].getD i_ undef), (L31.trans L72), HS90, h, (by kernel_rfl)⟩
    · have c41 : ¬ (x35 < (l1.length : Int)) := c41
      refine wpRwI 16 (x := (decide (x35 < (l1.length : Int)))) (v := false) (by kernel_rfl) (decide_eq_false c41) ?_
      refine condF (by kernel_rfl) ?_
      refine wp_exit ?_
      refine hx21 _ _ ?_
      exact J87 f30 (fun i_ => [(j34 0), (j34 1), (j34 2), Value.int .i64 x35, Value.bool false, (j34 4), (j34 5), (j34 6), (j34 7), (j34 8), (j34 9), (j34 10), (j34 11)].getD i_ undef) W32 _ L31 h HS33 (by kernel_rfl)

set_option maxRecDepth 100000 in
set_option maxHeartbeats 4000000 in
theorem bound_vague_Quanta.calls (k : Nat)  (a1 : S_Bound) (b2 : S_Bound) {t w : World} {f : FM} {H : List Seg} (HS : St t w f (H)) (r1 : Bool) (h : bound_vague_Quanta k a1 b2 = some r1) :
    Calls Try.prog 42 #[.agg #[.int .i64 a1.Lo, .int .i64 a1.Hi, .bool a1.Unknown], .agg #[.int .i64 b2.Lo, .int .i64 b2.Hi, .bool b2.Unknown]] w (fun e w' => ∃ (g : FM), e = .returned (Value.bool r1) ∧ FM.le f g ∧ St t w' g (H)) := by
  unfold bound_vague_Quanta at h
  refine enter Try.func42 rfl (tm := #[.agg #[.int .i64 a1.Lo, .int .i64 a1.Hi, .bool a1.Unknown], .agg #[.int .i64 b2.Lo, .int .i64 b2.Hi, .bool b2.Unknown], undef, undef, undef, undef, undef, undef, undef, undef, undef, undef, undef]) (by kernel_rfl) ?_
  intro B hret hnor hnp
  refine wp_seq_k (fun K3 hK4 => ?_)
  refine wp_region_lit ?_
  refine seqK rfl (does_box (cs := #[.int .i64 a1.Lo, .int .i64 a1.Hi, .bool a1.Unknown]) rfl (by kernel_rfl : _ = Value.agg #[.int .i64 a1.Lo, .int .i64 a1.Hi, .bool a1.Unknown]) rfl HS ?_)
  intro b5 W6 HS7
  refine seqK rfl (does_box (cs := #[.int .i64 b2.Lo, .int .i64 b2.Hi, .bool b2.Unknown]) rfl (by kernel_rfl : _ = Value.agg #[.int .i64 b2.Lo, .int .i64 b2.Hi, .bool b2.Unknown]) rfl HS7 ?_)
  intro b9 W10 HS11
  refine seqS1 (a' := ⟨#[.agg #[.int .i64 a1.Lo, .int .i64 a1.Hi, .bool a1.Unknown], .agg #[.int .i64 b2.Lo, .int .i64 b2.Hi, .bool b2.Unknown], .pointer (some ⟨b5, 0, none⟩), .pointer (some ⟨b9, 0, none⟩), .bool false, undef, undef, undef, undef, undef, undef, undef, undef], []⟩) (by kernel_rfl) ?_
  refine wpList_nil ?_
  refine hK4 _ _ ?_
  refine wp_seq_k (fun K13 hK14 => ?_)
  refine wp_region_lit ?_
  refine seqK rfl (does_run (run_loadN (n := 3) rfl Try.underlying44 rfl (by kernel_rfl) (by kernel_rfl : _ = Value.pointer (some ⟨b5, 0, none⟩)) (cs := [.int .i64 a1.Lo, .int .i64 a1.Hi, .bool a1.Unknown]) rfl (HS11.u1.cells 0 3 _ rfl)) ?_)
  have hq_ := bind_some h; clear h; obtain ⟨vt15, hc16, h⟩ := hq_
  refine seqK rfl (does_call (f := 45) (args := #[.agg #[.int .i64 a1.Lo, .int .i64 a1.Hi, .bool a1.Unknown]]) (by kernel_rfl) (bound_Norm_Quanta.calls k a1 HS11 vt15 hc16) ?_)
  rintro _ W19 ⟨f17, rfl, L18, HS20⟩
  refine ⟨_, rfl, ?_⟩
  refine seqS2 (a' := ⟨#[.agg #[.int .i64 a1.Lo, .int .i64 a1.Hi, .bool a1.Unknown], .agg #[.int .i64 b2.Lo, .int .i64 b2.Hi, .bool b2.Unknown], .pointer (some ⟨b5, 0, none⟩), .pointer (some ⟨b9, 0, none⟩), .bool false, .agg #[.int .i64 a1.Lo, .int .i64 a1.Hi, .bool a1.Unknown], .agg #[.int .i64 vt15.Lo, .int .i64 vt15.Hi, .bool vt15.Unknown], .bool vt15.Unknown, .bool vt15.Unknown, undef, undef, undef, undef], []⟩) (by kernel_rfl) ?_
  have hq_ := ite_some h; clear h; rcases hq_ with ⟨c21, h⟩ | ⟨c21, h⟩
  · have c21 : vt15.Unknown = true := c21
    refine seqRwI 7 (x := vt15.Unknown) (v := true) (by kernel_rfl) c21 ?_
    refine seqRwI 8 (x := vt15.Unknown) (v := true) (by kernel_rfl) c21 ?_
    refine seqS5 (a' := ⟨#[.agg #[.int .i64 a1.Lo, .int .i64 a1.Hi, .bool a1.Unknown], .agg #[.int .i64 b2.Lo, .int .i64 b2.Hi, .bool b2.Unknown], .pointer (some ⟨b5, 0, none⟩), .pointer (some ⟨b9, 0, none⟩), .bool true, .agg #[.int .i64 a1.Lo, .int .i64 a1.Hi, .bool a1.Unknown], .agg #[.int .i64 vt15.Lo, .int .i64 vt15.Hi, .bool vt15.Unknown], .bool true, .bool true, undef, undef, undef, .bool true], []⟩) (by kernel_rfl) ?_
    refine wpList_nil ?_
    refine hK14 _ _ ?_
    refine wp_ret ?_
    refine hret _ _ ?_
    refine ends_still (v := Value.bool true) (by kernel_rfl) (by kernel_rfl) ?_
    have HS28 := HS20.drop
    have HS29 := HS28.drop
    injection h with h
    subst h
    exact ⟨f17, rfl, L18, HS29⟩
  · have c21 : ¬ (vt15.Unknown = true) := c21
    refine seqRwI 7 (x := vt15.Unknown) (v := false) (by kernel_rfl) (Bool.eq_false_iff.mpr c21) ?_
    refine seqRwI 8 (x := vt15.Unknown) (v := false) (by kernel_rfl) (Bool.eq_false_iff.mpr c21) ?_
    refine seqG (by kernel_rfl) (does_run (run_loadN (n := 3) rfl Try.underlying44 rfl (by kernel_rfl) (by kernel_rfl : _ = Value.pointer (some ⟨b9, 0, none⟩)) (cs := [.int .i64 b2.Lo, .int .i64 b2.Hi, .bool b2.Unknown]) rfl (HS20.cells 0 3 _ rfl)) ?_)
    have hq_ := bind_some h; clear h; obtain ⟨vt22, hc23, h⟩ := hq_
    refine seqG (by kernel_rfl) (does_call (f := 45) (args := #[.agg #[.int .i64 b2.Lo, .int .i64 b2.Hi, .bool b2.Unknown]]) (by kernel_rfl) (bound_Norm_Quanta.calls k b2 HS20 vt22 hc23) ?_)
    rintro _ W26 ⟨f24, rfl, L25, HS27⟩
    refine ⟨_, rfl, ?_⟩
    refine seqS3 (a' := ⟨#[.agg #[.int .i64 a1.Lo, .int .i64 a1.Hi, .bool a1.Unknown], .agg #[.int .i64 b2.Lo, .int .i64 b2.Hi, .bool b2.Unknown], .pointer (some ⟨b5, 0, none⟩), .pointer (some ⟨b9, 0, none⟩), .bool vt22.Unknown, .agg #[.int .i64 a1.Lo, .int .i64 a1.Hi, .bool a1.Unknown], .agg #[.int .i64 vt15.Lo, .int .i64 vt15.Hi, .bool vt15.Unknown], .bool false, .bool false, .agg #[.int .i64 b2.Lo, .int .i64 b2.Hi, .bool b2.Unknown], .agg #[.int .i64 vt22.Lo, .int .i64 vt22.Hi, .bool vt22.Unknown], .bool vt22.Unknown, .bool vt22.Unknown], []⟩) (by kernel_rfl) ?_
    refine wpList_nil ?_
    refine hK14 _ _ ?_
    refine wp_ret ?_
    refine hret _ _ ?_
    refine ends_still (v := Value.bool vt22.Unknown) (by kernel_rfl) (by kernel_rfl) ?_
    have HS30 := HS27.drop
    have HS31 := HS30.drop
    injection h with h
    subst h
    exact ⟨f24, rfl, (L18.trans L25), HS31⟩

set_option maxRecDepth 100000 in
set_option maxHeartbeats 4000000 in
theorem bound_Has_Quanta.calls (k : Nat)  (b1 : S_Bound) (v2 : Int) {t w : World} {f : FM} {H : List Seg} (HS : St t w f (H)) (r1 : Bool) (h : bound_Has_Quanta k b1 v2 = some r1) :
    Calls Try.prog 20 #[.agg #[.int .i64 b1.Lo, .int .i64 b1.Hi, .bool b1.Unknown], .int .i64 v2] w (fun e w' => ∃ (g : FM), e = .returned (Value.bool r1) ∧ FM.le f g ∧ St t w' g (H)) := by
  unfold bound_Has_Quanta at h
  refine enter Try.func20 rfl (tm := #[.agg #[.int .i64 b1.Lo, .int .i64 b1.Hi, .bool b1.Unknown], .int .i64 v2, undef, undef, undef, undef, undef, undef, undef, undef, undef, undef, undef, undef, undef, undef, undef, undef, undef, undef]) (by kernel_rfl) ?_
  intro B hret hnor hnp
  refine wp_seq_k (fun K3 hK4 => ?_)
  refine wp_region_lit ?_
  refine seqK rfl (does_box (cs := #[.int .i64 b1.Lo, .int .i64 b1.Hi, .bool b1.Unknown]) rfl (by kernel_rfl : _ = Value.agg #[.int .i64 b1.Lo, .int .i64 b1.Hi, .bool b1.Unknown]) rfl HS ?_)
  intro b5 W6 HS7
  refine seqS1 (a' := ⟨#[.agg #[.int .i64 b1.Lo, .int .i64 b1.Hi, .bool b1.Unknown], .int .i64 v2, .pointer (some ⟨b5, 0, none⟩), undef, .bool false, undef, undef, undef, undef, undef, undef, undef, undef, undef, undef, undef, undef, undef, undef, undef], []⟩) (by kernel_rfl) ?_
  refine wpList_nil ?_
  refine hK4 _ _ ?_
  refine wp_seq_k (fun K9 hK10 => ?_)
  refine wp_region_lit ?_
  refine seqK rfl (does_run (run_loadN (n := 3) rfl Try.underlying44 rfl (by kernel_rfl) (by kernel_rfl : _ = Value.pointer (some ⟨b5, 0, none⟩)) (cs := [.int .i64 b1.Lo, .int .i64 b1.Hi, .bool b1.Unknown]) rfl (HS7.cells 0 3 _ rfl)) ?_)
  refine seqK rfl (does_run (run_loadN (n := 3) rfl Try.underlying44 rfl (by kernel_rfl) (by kernel_rfl : _ = Value.pointer (some ⟨b5, 0, none⟩)) (cs := [.int .i64 b1.Lo, .int .i64 b1.Hi, .bool b1.Unknown]) rfl (HS7.cells 0 3 _ rfl)) ?_)
  have hq_ := bind_some h; clear h; obtain ⟨vt11, hc12, h⟩ := hq_
  refine seqK rfl (does_call (f := 42) (args := #[.agg #[.int .i64 b1.Lo, .int .i64 b1.Hi, .bool b1.Unknown], .agg #[.int .i64 b1.Lo, .int .i64 b1.Hi, .bool b1.Unknown]]) (by kernel_rfl) (bound_vague_Quanta.calls k b1 b1 HS7 vt11 hc12) ?_)
  rintro _ W15 ⟨f13, rfl, L14, HS16⟩
  refine ⟨_, rfl, ?_⟩
  refine seqS1 (a' := ⟨#[.agg #[.int .i64 b1.Lo, .int .i64 b1.Hi, .bool b1.Unknown], .int .i64 v2, .pointer (some ⟨b5, 0, none⟩), undef, .bool false, .agg #[.int .i64 b1.Lo, .int .i64 b1.Hi, .bool b1.Unknown], .agg #[.int .i64 b1.Lo, .int .i64 b1.Hi, .bool b1.Unknown], .bool vt11, .bool vt11, undef, undef, undef, undef, undef, undef, undef, undef, undef, undef, undef], []⟩) (by kernel_rfl) ?_
  have hq_ := ite_some h; clear h; rcases hq_ with ⟨c17, h⟩ | ⟨c17, h⟩
  · have c17 : vt11 = true := c17
    refine seqRwI 7 (x := vt11) (v := true) (by kernel_rfl) c17 ?_
    refine seqRwI 8 (x := vt11) (v := true) (by kernel_rfl) c17 ?_
    refine seqS12 (a' := ⟨#[.agg #[.int .i64 b1.Lo, .int .i64 b1.Hi, .bool b1.Unknown], .int .i64 v2, .pointer (some ⟨b5, 0, none⟩), undef, .bool true, .agg #[.int .i64 b1.Lo, .int .i64 b1.Hi, .bool b1.Unknown], .agg #[.int .i64 b1.Lo, .int .i64 b1.Hi, .bool b1.Unknown], .bool true, .bool true, undef, undef, undef, undef, undef, undef, undef, undef, undef, undef, .bool true], []⟩) (by kernel_rfl) ?_
    refine wpList_nil ?_
    refine hK10 _ _ ?_
    refine wp_ret ?_
    refine hret _ _ ?_
    refine ends_still (v := Value.bool true) (by kernel_rfl) (by kernel_rfl) ?_
    have HS19 := HS16.drop
    injection h with h
    subst h
    exact ⟨f13, rfl, L14, HS19⟩
  · have c17 : ¬ (vt11 = true) := c17
    refine seqRwI 7 (x := vt11) (v := false) (by kernel_rfl) (Bool.eq_false_iff.mpr c17) ?_
    refine seqRwI 8 (x := vt11) (v := false) (by kernel_rfl) (Bool.eq_false_iff.mpr c17) ?_
    refine seqL1 (by kernel_rfl) ?_
    refine seqG (by kernel_rfl) (does_run (run_load rfl Try.underlying42 rfl (by kernel_rfl : _ = Value.pointer (some ⟨b5, 0, none⟩)) (HS16.cell 0)) ?_)
    refine seqS3 (a' := ⟨#[.agg #[.int .i64 b1.Lo, .int .i64 b1.Hi, .bool b1.Unknown], .int .i64 v2, .pointer (some ⟨b5, 0, none⟩), undef, .bool false, .agg #[.int .i64 b1.Lo, .int .i64 b1.Hi, .bool b1.Unknown], .agg #[.int .i64 b1.Lo, .int .i64 b1.Hi, .bool b1.Unknown], .bool false, .bool false, .pointer (some ⟨b5, 0, none⟩), .int .i64 b1.Lo, .int .i64 v2, .bool (decide (b1.Lo ≤ v2)), .bool (decide (b1.Lo ≤ v2)), undef, undef, undef, undef, undef, undef], []⟩) (by kernel_rfl) ?_
    have hq_ := ite_some h; clear h; rcases hq_ with ⟨c18, h⟩ | ⟨c18, h⟩
    · have c18 : b1.Lo ≤ v2 := c18
      refine seqRwI 12 (x := (decide (b1.Lo ≤ v2))) (v := true) (by kernel_rfl) (decide_eq_true c18) ?_
      refine seqRwI 13 (x := (decide (b1.Lo ≤ v2))) (v := true) (by kernel_rfl) (decide_eq_true c18) ?_
      refine seqL2 (by kernel_rfl) ?_
      refine seqG (by kernel_rfl) (does_run (run_load rfl Try.underlying42 rfl (by kernel_rfl : _ = Value.pointer (some ⟨b5, 1, none⟩)) (HS16.cell 1)) ?_)
      refine seqS4 (a' := ⟨#[.agg #[.int .i64 b1.Lo, .int .i64 b1.Hi, .bool b1.Unknown], .int .i64 v2, .pointer (some ⟨b5, 0, none⟩), undef, .bool (decide (v2 ≤ b1.Hi)), .agg #[.int .i64 b1.Lo, .int .i64 b1.Hi, .bool b1.Unknown], .agg #[.int .i64 b1.Lo, .int .i64 b1.Hi, .bool b1.Unknown], .bool false, .bool false, .pointer (some ⟨b5, 0, none⟩), .int .i64 b1.Lo, .int .i64 v2, .bool true, .bool true, .int .i64 v2, .pointer (some ⟨b5, 1, none⟩), .int .i64 b1.Hi, .bool (decide (v2 ≤ b1.Hi)), .bool (decide (v2 ≤ b1.Hi)), .bool (decide (v2 ≤ b1.Hi))], []⟩) (by kernel_rfl) ?_
      refine wpList_nil ?_
      refine hK10 _ _ ?_
      refine wp_ret ?_
      refine hret _ _ ?_
      refine ends_still (v := Value.bool (decide (v2 ≤ b1.Hi))) (by kernel_rfl) (by kernel_rfl) ?_
      have HS20 := HS16.drop
      injection h with h
      subst h
      exact ⟨f13, rfl, L14, HS20⟩
    · have c18 : ¬ (b1.Lo ≤ v2) := c18
      refine seqRwI 12 (x := (decide (b1.Lo ≤ v2))) (v := false) (by kernel_rfl) (decide_eq_false c18) ?_
      refine seqRwI 13 (x := (decide (b1.Lo ≤ v2))) (v := false) (by kernel_rfl) (decide_eq_false c18) ?_
      refine seqS7 (a' := ⟨#[.agg #[.int .i64 b1.Lo, .int .i64 b1.Hi, .bool b1.Unknown], .int .i64 v2, .pointer (some ⟨b5, 0, none⟩), undef, .bool false, .agg #[.int .i64 b1.Lo, .int .i64 b1.Hi, .bool b1.Unknown], .agg #[.int .i64 b1.Lo, .int .i64 b1.Hi, .bool b1.Unknown], .bool false, .bool false, .pointer (some ⟨b5, 0, none⟩), .int .i64 b1.Lo, .int .i64 v2, .bool false, .bool false, undef, undef, undef, undef, .bool false, .bool false], []⟩) (by kernel_rfl) ?_
      refine wpList_nil ?_
      refine hK10 _ _ ?_
      refine wp_ret ?_
      refine hret _ _ ?_
      refine ends_still (v := Value.bool false) (by kernel_rfl) (by kernel_rfl) ?_
      have HS21 := HS16.drop
      injection h with h
      subst h
      exact ⟨f13, rfl, L14, HS21⟩

end Go.Sp.V3
