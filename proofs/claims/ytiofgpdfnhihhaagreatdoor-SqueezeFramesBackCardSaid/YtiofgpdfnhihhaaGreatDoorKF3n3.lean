import Derived.Test.YtiofgpdfnhihhaaGreatDoorProg
import Derived.Test.YtiofgpdfnhihhaaGreatDoorSpCopy
import Derived.Test.YtiofgpdfnhihhaaGreatDoorFF3
import Derived.Test.YtiofgpdfnhihhaaGreatDoorSpStr
import Derived.Test.YtiofgpdfnhihhaaGreatDoorSpLib
import Derived.Test.YtiofgpdfnhihhaaGreatDoorSpBld
import Derived.Test.YtiofgpdfnhihhaaGreatDoorConv
import Derived.Test.YtiofgpdfnhihhaaGreatDoorLibs
import Derived.Test.YtiofgpdfnhihhaaGreatDoorSpGrow
import Derived.Test.YtiofgpdfnhihhaaGreatDoorSpRound
import Derived.Test.YtiofgpdfnhihhaaGreatDoorKF3n0
import Derived.Test.YtiofgpdfnhihhaaGreatDoorKF3n1
import Derived.Test.YtiofgpdfnhihhaaGreatDoorKF3n2
namespace Go.Sp.F3
open Go Go.Sp Go.Proofs
set_option linter.unusedVariables false
attribute [local irreducible] wpList AnyL Code.wp Calls Does Code.wpIn wpListIn CallsIn bodyPostM LeavesInM
set_option maxRecDepth 100000 in
set_option maxHeartbeats 4000000 in
theorem frame_header.calls (k : Nat) (A2 : Option Addr) (c3 : Nat) (A5 : Option Addr) (c6 : Nat) (vf1 : S_Frame) (size8 : Int) {t w : World} {f : FM} {H : List Seg} (HS : St t w f (H)) (HR4 : SlR ty_Card f A2 c3 vf1.Cards) (HR7 : SlR (tInt .i64) f A5 c6 vf1.Counts) (HT : TabF Tryz.prog "internal/strconv.uint64pow10" .u64 Go.Lib.pow10Tab f) (rr1 : ByteArray) (h : frame_header k vf1 size8 = some rr1) :
    Calls Tryz.prog 33 #[.agg #[.int .i64 vf1.W, .int .i64 vf1.H, .slice A2 vf1.Cards.length c3, .slice A5 vf1.Counts.length c6], .int .i64 size8] w (fun e w' => ∃ (g : FM), e = .returned (Value.string rr1) ∧ FM.le f g ∧ St t w' g (H)) := by
 unfold frame_header at h
 refine enter Tryz.func33 rfl (tm := #[(ag_Frame vf1 A2 c3 A5 c6), iV size8, uV, uV, uV, uV, uV, uV, uV, uV, uV, uV, uV, uV, uV, uV, uV, uV, uV, uV, uV, uV, uV, uV, uV, uV, uV, uV, uV, uV, uV, uV, uV, uV, uV, uV, uV, uV, uV, uV, uV, uV, uV, uV, uV]) kr ?_
 intro B hret hnor hnp
 refine wp_seq_k fun K9 hK10 => rl ?_
 refine seqK rfl (does_box (cs := #[.int .i64 vf1.W, .int .i64 vf1.H, .slice A2 vf1.Cards.length c3, .slice A5 vf1.Counts.length c6]) rfl (kv (.agg #[.int .i64 vf1.W, .int .i64 vf1.H, .slice A2 vf1.Cards.length c3, .slice A5 vf1.Counts.length c6])) rfl HS ?_)
 intro b11 W12 HS13
 refine seqL1 kr ?_
 refine nl (hK10 _ _ ?_)
 refine wp_seq_k (fun K15 hK16 => ?_)
 refine heldG (S := Sg t f ([(b11, .cells #[.int .i64 vf1.W, .int .i64 vf1.H, .slice A2 vf1.Cards.length c3, .slice A5 vf1.Counts.length c6] 25 (0, 0))] :: H) []) (n := 13) kr rfl HS13 ?_
 intro W17 HS18
 refine takeGL [0] (n := 13) (fuel := 12) #[true, false, false, false, false, false, false, false, false, false, false, false, false] rfl kr kr kr hnp (Sg.g0 (Sx.of [] fL HS18)) ?_
 refine takeGQ 1 [] rfl kr kr kr kr kr kr hnp (Sg.g0 (Sx.of [] fL HS18)) (fun w_ hw_ => by obtain ⟨g_, hl_, hS_⟩ := hw_.st; exact run_load rfl Tryz.underlying3 rfl (kv (.pointer (some ⟨b11, 0, none⟩))) (hS_.cell 0)) ?_
 refine takeGL [4] (n := 11) (fuel := 10) #[true, true, false, false, true, false, false, false, false, false, false, false, false] rfl kr kr kr hnp (Sg.g0 (Sx.of [] fL HS18)) ?_
 refine takeGQ 5 [] rfl kr kr kr kr kr kr hnp (Sg.g0 (Sx.of [] fL HS18)) (fun w_ hw_ => by obtain ⟨g_, hl_, hS_⟩ := hw_.st; exact run_load rfl Tryz.underlying3 rfl (kv (.pointer (some ⟨b11, 1, none⟩))) (hS_.cell 1)) ?_
 refine takeGL [8] (n := 9) (fuel := 8) #[true, true, false, false, true, true, false, false, true, false, false, false, false] rfl kr kr kr hnp (Sg.g0 (Sx.of [] fL HS18)) ?_
 have hq_ := bind_some h; clear h; obtain ⟨vt19, hc20, h⟩ := hq_
 refine takeGE 2 kr rfl kr (does_call (f := 26) (args := #[.int .i64 vf1.W]) kr (strconv_Itoa.calls k vf1.W HS18 HT vt19 hc20) ?_)
 rintro _ W23 ⟨f21, rfl, L22, HS24⟩
 refine ⟨_, rfl, ?_⟩
 refine ⟨(Sg.g0 (Sx.of [] L22 HS24)), ?_⟩
 refine takeGL [3] (n := 7) (fuel := 6) #[true, true, true, true, true, true, false, false, true, false, false, false, false] rfl kr kr kr hnp (Sg.g0 (Sx.of [] L22 HS24)) ?_
 have hq_ := bind_some h; clear h; obtain ⟨vt25, hc26, h⟩ := hq_
 refine takeGE 6 kr rfl kr (does_call (f := 26) (args := #[.int .i64 vf1.H]) kr (strconv_Itoa.calls k vf1.H HS24 (HT.mono L22) vt25 hc26) ?_)
 rintro _ W29 ⟨f27, rfl, L28, HS30⟩
 refine ⟨_, rfl, ?_⟩
 refine ⟨(Sg.g0 (Sx.of [] (L22.trans L28) HS30)), ?_⟩
 refine takeGL [7] (n := 5) (fuel := 4) #[true, true, true, true, true, true, true, true, true, false, false, false, false] rfl kr kr kr hnp (Sg.g0 (Sx.of [] (L22.trans L28) HS30)) ?_
 have hq_ := bind_some h; clear h; obtain ⟨vt31, hc32, h⟩ := hq_
 refine takeGE 9 kr rfl kr (does_call (f := 26) (args := #[.int .i64 size8]) kr (strconv_Itoa.calls k size8 HS30 (HT.mono (L22.trans L28)) vt31 hc32) ?_)
 rintro _ W35 ⟨f33, rfl, L34, HS36⟩
 refine ⟨_, rfl, ?_⟩
 refine ⟨(Sg.g0 (Sx.of [] (L22.trans (L28.trans L34)) HS36)), ?_⟩
 refine takeGL [10] (n := 3) (fuel := 2) #[true, true, true, true, true, true, true, true, true, true, true, false, false] rfl kr kr kr hnp (Sg.g0 (Sx.of [] (L22.trans (L28.trans L34)) HS36)) ?_
 refine takeGE 11 kr rfl kr (does_lit (e := ty_Card) (E := 70) (vs := #[(0, Value.agg #[.string ⟨#[87, 73, 68, 84, 72]⟩, .string vt19, .string ⟨#[]⟩, .string ⟨#[]⟩]), (1, Value.agg #[.string ⟨#[72, 69, 73, 71, 72, 84]⟩, .string vt25, .string ⟨#[]⟩, .string ⟨#[]⟩]), (2, Value.agg #[.string ⟨#[66, 89, 84, 69, 83]⟩, .string vt31, .string ⟨#[]⟩, .string ⟨#[]⟩])]) (cs := #[.string ⟨#[87, 73, 68, 84, 72]⟩, .string vt19, .string ⟨#[]⟩, .string ⟨#[]⟩, .string ⟨#[72, 69, 73, 71, 72, 84]⟩, .string vt25, .string ⟨#[]⟩, .string ⟨#[]⟩, .string ⟨#[66, 89, 84, 69, 83]⟩, .string vt31, .string ⟨#[]⟩, .string ⟨#[]⟩]) (xs := ([(⟨Z23, vt19, Z32, Z32⟩ : S_Card), (⟨Z20, vt25, Z32, Z32⟩ : S_Card), (⟨Z18, vt31, Z32, Z32⟩ : S_Card)] : List S_Card)) rfl Tryz.underlying23 kr kr ⟨[.string ⟨#[87, 73, 68, 84, 72]⟩, .string vt19, .string ⟨#[]⟩, .string ⟨#[]⟩], _, rfl, rfl, ⟨[.string ⟨#[72, 69, 73, 71, 72, 84]⟩, .string vt25, .string ⟨#[]⟩, .string ⟨#[]⟩], _, rfl, rfl, ⟨[.string ⟨#[66, 89, 84, 69, 83]⟩, .string vt31, .string ⟨#[]⟩, .string ⟨#[]⟩], _, rfl, rfl, rfl⟩⟩⟩ rfl HS36 ?_ (by decide))
 intro b37 W38 s39 HS40 _ HO41
 refine ⟨(Sg.g0 (Sx.of [s39] (L22.trans (L28.trans L34)) HS40)), ?_⟩
 refine takeGL [12] (n := 1) (fuel := 0) #[true, true, true, true, true, true, true, true, true, true, true, true, true] rfl kr kr kr hnp (Sg.g0 (Sx.of [s39] (L22.trans (L28.trans L34)) HS40)) ?_
 refine doneG kr ?_ _
 refine hK16 _ _ ?_
 refine wp_seq_k fun K43 hK44 => rl ?_
 refine seqK rfl (does_bld (E := 5) rfl kr HS40 ?_)
 intro A45 s47 W46 HS48 HO49
 refine nl (hK44 _ _ ?_)
 refine wp_seq_k fun K51 hK52 => rl ?_
 refine seqL2 kr ?_
 refine nl (hK52 _ _ ?_)
 refine wp_seq_k (fun K53 hK54 => ?_)
 refine wp_seq_k fun K55 hK56 => rl ?_
 refine seqL2 kr ?_
 refine seqK rfl (does_run (run_load rfl Tryz.underlying23 rfl (kv (.pointer (some ⟨b11, 2, none⟩))) (HS48.u2.cell 2)) ?_)
 have hq_ := guard_some h; clear h; obtain ⟨c57, h⟩ := hq_
 have c57 : (([(⟨Z23, vt19, Z32, Z32⟩ : S_Card), (⟨Z20, vt25, Z32, Z32⟩ : S_Card), (⟨Z18, vt31, Z32, Z32⟩ : S_Card)] : List S_Card).length + vf1.Cards.length) * 64 ≤ 140737488355328 := c57
 have HS58 := HS48.u1
 refine seqK rfl (does_append (e := ty_Card) (E := 70) (xs := ([(⟨Z23, vt19, Z32, Z32⟩ : S_Card), (⟨Z20, vt25, Z32, Z32⟩ : S_Card), (⟨Z18, vt31, Z32, Z32⟩ : S_Card)] : List S_Card)) (ys := vf1.Cards) rfl (kv (.slice (some ⟨b37, 0, none⟩) ([(⟨Z23, vt19, Z32, Z32⟩ : S_Card), (⟨Z20, vt25, Z32, Z32⟩ : S_Card), (⟨Z18, vt31, Z32, Z32⟩ : S_Card)] : List S_Card).length 3)) (kv (.slice A2 vf1.Cards.length c3)) Tryz.underlying23 inf70 HO41 HS58 ((HR4.mono (L22.trans (L28.trans L34))).rc HS58) c57 (lim63 c57 (by decide)) ?_)
 intro A59 c60 s61 W62 HS63 HO64
 refine seqL2 kr ?_
 refine nl (hK56 _ _ ?_)
 refine blockK (fun B65 hx66 hn67 hr68 ho69 hp70 => ?_)
 have hq_ := bind_some h; clear h; obtain ⟨o127, hv194, h⟩ := hq_
 have J195 : ∀ (f186 : FM) (s192 : Seg) (s191 : List UInt8) (j190 : Nat → Value) (W188 : World) (a_ : Act), FM.le f33 f186 → some (s191) = some o127 → St t W188 f186 (s61 :: s192 :: [(b11, .cells #[.int .i64 vf1.W, .int .i64 vf1.H, .slice A2 vf1.Cards.length c3, .slice A5 vf1.Counts.length c6] 25 (0, 0))] :: H) → OwnB 107 5 f186 A45 0 s192 s191 → a_ = ⟨#[(ag_Frame vf1 A2 c3 A5 c6), iV size8, pV b11 0, uV, .string ⟨#[]⟩, .slice (some ⟨b37, 0, none⟩) ([(⟨Z23, vt19, Z32, Z32⟩ : S_Card), (⟨Z20, vt25, Z32, Z32⟩ : S_Card), (⟨Z18, vt31, Z32, Z32⟩ : S_Card)] : List S_Card).length 3, .pointer A45, .func (.func 59) #[] #[.pointer A45], uV, (j190 0), pV b11 0, iV vf1.W, .string vt19, .agg #[.string ⟨#[87, 73, 68, 84, 72]⟩, .string vt19, .string ⟨#[]⟩, .string ⟨#[]⟩], pV b11 1, iV vf1.H, .string vt25, .agg #[.string ⟨#[72, 69, 73, 71, 72, 84]⟩, .string vt25, .string ⟨#[]⟩, .string ⟨#[]⟩], iV size8, .string vt31, .agg #[.string ⟨#[66, 89, 84, 69, 83]⟩, .string vt31, .string ⟨#[]⟩, .string ⟨#[]⟩], .slice (some ⟨b37, 0, none⟩) ([(⟨Z23, vt19, Z32, Z32⟩ : S_Card), (⟨Z20, vt25, Z32, Z32⟩ : S_Card), (⟨Z18, vt31, Z32, Z32⟩ : S_Card)] : List S_Card).length 3, .func (.func 59) #[] #[.pointer A45], .slice (some ⟨b37, 0, none⟩) ([(⟨Z23, vt19, Z32, Z32⟩ : S_Card), (⟨Z20, vt25, Z32, Z32⟩ : S_Card), (⟨Z18, vt31, Z32, Z32⟩ : S_Card)] : List S_Card).length 3, pV b11 2, .slice A2 vf1.Cards.length c3, .slice A59 (([(⟨Z23, vt19, Z32, Z32⟩ : S_Card), (⟨Z20, vt25, Z32, Z32⟩ : S_Card), (⟨Z18, vt31, Z32, Z32⟩ : S_Card)] : List S_Card) ++ vf1.Cards).length c60, iV ((([(⟨Z23, vt19, Z32, Z32⟩ : S_Card), (⟨Z20, vt25, Z32, Z32⟩ : S_Card), (⟨Z18, vt31, Z32, Z32⟩ : S_Card)] : List S_Card) ++ vf1.Cards).length : Int), (j190 1), (j190 2), (j190 3), (j190 4), (j190 5), (j190 6), (j190 7), (j190 8), (j190 9), uV, uV, uV, uV, uV, uV, uV, uV], []⟩ → K53 a_ W188 := by
  intro f186 s192 s191 j190 W188 a_ L187 hj196 HS189 HO193 hfr_; subst hfr_
  injection hj196 with hj196; subst hj196; try dsimp only at h
  refine hK54 _ _ ?_
  refine wp_seq_k fun K202 hK203 => rl ?_
  have HS204 := HS189.u1
  have hq_ := bind_some h; clear h; obtain ⟨vt205, hc206, h⟩ := hq_
  refine seqL1 kr ?_
  refine seqK rfl (does_call (f := 59) (args := #[.string ⟨#[69, 78, 68]⟩, .pointer A45]) kr (frame_header_1.calls k A45 0 s192 Z19 s191 HS204 HO193 vt205 hc206) ?_)
  rintro _ W209 ⟨f207, s211, rfl, L208, HS210, HO212, HL213⟩
  refine ⟨_, rfl, ?_⟩
  refine nl (hK203 _ _ ?_)
  refine wp_seq_k (fun K214 hK215 => ?_)
  refine blockK (fun B216 hx217 hn218 hr219 ho220 hp221 => ?_)
  have hq_ := bind_some h; clear h; obtain ⟨o263, hv315, h⟩ := hq_
  have J316 : ∀ (f307 : FM) (s313 : Seg) (s312 : List UInt8) (j311 : Nat → Value) (W309 : World) (a_ : Act), FM.le f207 f307 → some (s312) = some o263 → St t W309 f307 (s313 :: s61 :: [(b11, .cells #[.int .i64 vf1.W, .int .i64 vf1.H, .slice A2 vf1.Cards.length c3, .slice A5 vf1.Counts.length c6] 25 (0, 0))] :: H) → OwnB 107 5 f307 A45 0 s313 s312 → a_ = ⟨#[(ag_Frame vf1 A2 c3 A5 c6), iV size8, pV b11 0, uV, .string ⟨#[]⟩, .slice (some ⟨b37, 0, none⟩) ([(⟨Z23, vt19, Z32, Z32⟩ : S_Card), (⟨Z20, vt25, Z32, Z32⟩ : S_Card), (⟨Z18, vt31, Z32, Z32⟩ : S_Card)] : List S_Card).length 3, .pointer A45, .func (.func 59) #[] #[.pointer A45], uV, (j190 0), pV b11 0, iV vf1.W, .string vt19, .agg #[.string ⟨#[87, 73, 68, 84, 72]⟩, .string vt19, .string ⟨#[]⟩, .string ⟨#[]⟩], pV b11 1, iV vf1.H, .string vt25, .agg #[.string ⟨#[72, 69, 73, 71, 72, 84]⟩, .string vt25, .string ⟨#[]⟩, .string ⟨#[]⟩], iV size8, .string vt31, .agg #[.string ⟨#[66, 89, 84, 69, 83]⟩, .string vt31, .string ⟨#[]⟩, .string ⟨#[]⟩], .slice (some ⟨b37, 0, none⟩) ([(⟨Z23, vt19, Z32, Z32⟩ : S_Card), (⟨Z20, vt25, Z32, Z32⟩ : S_Card), (⟨Z18, vt31, Z32, Z32⟩ : S_Card)] : List S_Card).length 3, .func (.func 59) #[] #[.pointer A45], .slice (some ⟨b37, 0, none⟩) ([(⟨Z23, vt19, Z32, Z32⟩ : S_Card), (⟨Z20, vt25, Z32, Z32⟩ : S_Card), (⟨Z18, vt31, Z32, Z32⟩ : S_Card)] : List S_Card).length 3, pV b11 2, .slice A2 vf1.Cards.length c3, .slice A59 (([(⟨Z23, vt19, Z32, Z32⟩ : S_Card), (⟨Z20, vt25, Z32, Z32⟩ : S_Card), (⟨Z18, vt31, Z32, Z32⟩ : S_Card)] : List S_Card) ++ vf1.Cards).length c60, iV ((([(⟨Z23, vt19, Z32, Z32⟩ : S_Card), (⟨Z20, vt25, Z32, Z32⟩ : S_Card), (⟨Z18, vt31, Z32, Z32⟩ : S_Card)] : List S_Card) ++ vf1.Cards).length : Int), (j190 1), (j190 2), (j190 3), (j190 4), (j190 5), (j190 6), (j190 7), (j190 8), (j190 9), .func (.func 59) #[] #[.pointer A45], .tuple #[], (j311 0), (j311 1), (j311 2), (j311 3), (j311 4), uV], []⟩ → K214 a_ W309 := by
   intro f307 s313 s312 j311 W309 a_ L308 hj317 HS310 HO314 hfr_; subst hfr_
   injection hj317 with hj317; subst hj317; try dsimp only at h
   refine hK215 _ _ ?_
   refine wp_seq_k fun K318 hK319 => rl ?_
   have hq_ := bind_some h; clear h; obtain ⟨vt320, hc321, h⟩ := hq_
   refine seqK rfl (does_call (f := 63) (args := #[.pointer A45]) kr (strings_Builder_String.calls k A45 0 s313 s312 HS310 HO314 vt320 hc321) ?_)
   rintro _ W324 ⟨f322, rfl, L323, HS325⟩
   refine ⟨_, rfl, ?_⟩
   refine seqL1 kr ?_
   refine nl (hK319 _ _ ?_)
   refine wp_ret ?_
   refine hret _ _ ?_
   refine ends_still (v := Value.string vt320) kr kr ?_
   have HS326 := HS325.drop
   have HS327 := HS326.drop
   injection h with h
   subst h
   exact ⟨f322, rfl, (L22.trans (L28.trans (L34.trans (L187.trans (L208.trans (L308.trans L323)))))), HS327⟩
  clear h; have h := hv315; clear hv315
  refine loopK (fun n_ a_ w_ => ∃ (f267 : FM) (s273 : Seg) (s272 : List UInt8) (j271 : Nat → Value), FM.le f207 f267 ∧ St t w_ f267 (s273 :: s61 :: [(b11, .cells #[.int .i64 vf1.W, .int .i64 vf1.H, .slice A2 vf1.Cards.length c3, .slice A5 vf1.Counts.length c6] 25 (0, 0))] :: H) ∧ OwnB 107 5 f267 A45 0 s273 s272 ∧ frame_header.l1 k n_ s272 = some o263 ∧ a_ = ⟨#[(ag_Frame vf1 A2 c3 A5 c6), iV size8, pV b11 0, uV, .string ⟨#[]⟩, .slice (some ⟨b37, 0, none⟩) ([(⟨Z23, vt19, Z32, Z32⟩ : S_Card), (⟨Z20, vt25, Z32, Z32⟩ : S_Card), (⟨Z18, vt31, Z32, Z32⟩ : S_Card)] : List S_Card).length 3, .pointer A45, .func (.func 59) #[] #[.pointer A45], uV, (j190 0), pV b11 0, iV vf1.W, .string vt19, .agg #[.string ⟨#[87, 73, 68, 84, 72]⟩, .string vt19, .string ⟨#[]⟩, .string ⟨#[]⟩], pV b11 1, iV vf1.H, .string vt25, .agg #[.string ⟨#[72, 69, 73, 71, 72, 84]⟩, .string vt25, .string ⟨#[]⟩, .string ⟨#[]⟩], iV size8, .string vt31, .agg #[.string ⟨#[66, 89, 84, 69, 83]⟩, .string vt31, .string ⟨#[]⟩, .string ⟨#[]⟩], .slice (some ⟨b37, 0, none⟩) ([(⟨Z23, vt19, Z32, Z32⟩ : S_Card), (⟨Z20, vt25, Z32, Z32⟩ : S_Card), (⟨Z18, vt31, Z32, Z32⟩ : S_Card)] : List S_Card).length 3, .func (.func 59) #[] #[.pointer A45], .slice (some ⟨b37, 0, none⟩) ([(⟨Z23, vt19, Z32, Z32⟩ : S_Card), (⟨Z20, vt25, Z32, Z32⟩ : S_Card), (⟨Z18, vt31, Z32, Z32⟩ : S_Card)] : List S_Card).length 3, pV b11 2, .slice A2 vf1.Cards.length c3, .slice A59 (([(⟨Z23, vt19, Z32, Z32⟩ : S_Card), (⟨Z20, vt25, Z32, Z32⟩ : S_Card), (⟨Z18, vt31, Z32, Z32⟩ : S_Card)] : List S_Card) ++ vf1.Cards).length c60, iV ((([(⟨Z23, vt19, Z32, Z32⟩ : S_Card), (⟨Z20, vt25, Z32, Z32⟩ : S_Card), (⟨Z18, vt31, Z32, Z32⟩ : S_Card)] : List S_Card) ++ vf1.Cards).length : Int), (j190 1), (j190 2), (j190 3), (j190 4), (j190 5), (j190 6), (j190 7), (j190 8), (j190 9), .func (.func 59) #[] #[.pointer A45], .tuple #[], (j271 0), (j271 1), (j271 2), (j271 3), (j271 4), uV], []⟩) k ⟨f207, s211, vt205, (jL []), fL, HS210, HO212, h, kr⟩ ?_
  clear h
  rintro n266 _ W269 ⟨f267, s273, s272, j271, L268, HS270, HO274, h, rfl⟩ K264 hK265
  obtain _ | n266 := n266
  · exact nomatch h
  simp only [frame_header.l1] at h
  refine wp_seq_k (fun K275 hK276 => ?_)
  refine wp_seq_k fun K277 hK278 => rl ?_
  have hq_ := bind_some h; clear h; obtain ⟨⟨vt279, vt280⟩, hc281, h⟩ := hq_
  refine seqK rfl (does_call (f := 62) (args := #[.pointer A45]) kr (strings_Builder_Len.calls k A45 0 s273 s272 HS270 HO274 vt279 vt280 hc281) ?_)
  rintro _ W284 ⟨f282, s286, rfl, L283, HS285, HO287, HL288⟩
  refine ⟨_, rfl, ?_⟩
  refine seqL2 kr ?_
  refine nl (hK278 _ _ ?_)
  have hq_ := ite_some h; clear h; rcases hq_ with ⟨c290, h⟩ | ⟨c290, h⟩
  · have c290 : (Int.tmod vt279 256) ≠ 0 := c290
    refine wpRwI 41 kr (bne_iff_ne.mpr c290) ?_
    refine condT kr ?_
    refine wp_skip ?_
    refine hK276 _ _ ?_
    refine blockK (fun B291 hx292 hn293 hr294 ho295 hp296 => ?_)
    refine rl ?_
    have hq_ := bind_some h; clear h; obtain ⟨vt298, hc299, h⟩ := hq_
    refine seqL1 kr ?_
    refine seqK rfl (does_call (f := 59) (args := #[.string ⟨#[]⟩, .pointer A45]) kr (frame_header_1.calls k A45 0 s286 Z32 vt280 HS285 HO287 vt298 hc299) ?_)
    rintro _ W302 ⟨f300, s304, rfl, L301, HS303, HO305, HL306⟩
    refine ⟨_, rfl, ?_⟩
    refine nl ?_
    refine hn293 _ _ ?_
    refine hK265 n266 _ _ (Nat.lt_succ_self _) ?_
    exact ⟨f300, s304, vt298, (jL [iV vt279, iV (Int.tmod vt279 256), tV, .func (.func 59) #[] #[.pointer A45], .tuple #[]]), (L268.trans (L283.trans L301)), HS303, HO305, h, kr⟩
  · have c290 : ¬ ((Int.tmod vt279 256) ≠ 0) := c290
    refine wpRwI 41 (x := ((Int.tmod vt279 256) != 0)) (v := false) kr (bne_eq_false_iff_eq.mpr (Decidable.of_not_not c290)) ?_
    refine condF kr ?_
    refine wp_exit ?_
    refine hx217 _ _ ?_
    exact J316 f282 s286 vt280 (jL [iV vt279, iV (Int.tmod vt279 256), fV, (j271 3), (j271 4)]) W284 _ (L268.trans L283) h HS285 HO287 kr
 clear h; have h := hv194; clear hv194
 refine loopK (fun n_ a_ w_ => ∃ (f131 : FM) (s137 : Seg) (s136 : List UInt8) (x139 : Int) (j135 : Nat → Value), FM.le f33 f131 ∧ St t w_ f131 (s61 :: s137 :: [(b11, .cells #[.int .i64 vf1.W, .int .i64 vf1.H, .slice A2 vf1.Cards.length c3, .slice A5 vf1.Counts.length c6] 25 (0, 0))] :: H) ∧ OwnB 107 5 f131 A45 0 s137 s136 ∧ frame_header.l0 k vt19 vt25 vt31 vf1 n_ s136 x139 = some o127 ∧ a_ = ⟨#[(ag_Frame vf1 A2 c3 A5 c6), iV size8, pV b11 0, uV, .string ⟨#[]⟩, .slice (some ⟨b37, 0, none⟩) ([(⟨Z23, vt19, Z32, Z32⟩ : S_Card), (⟨Z20, vt25, Z32, Z32⟩ : S_Card), (⟨Z18, vt31, Z32, Z32⟩ : S_Card)] : List S_Card).length 3, .pointer A45, .func (.func 59) #[] #[.pointer A45], uV, (j135 0), pV b11 0, iV vf1.W, .string vt19, .agg #[.string ⟨#[87, 73, 68, 84, 72]⟩, .string vt19, .string ⟨#[]⟩, .string ⟨#[]⟩], pV b11 1, iV vf1.H, .string vt25, .agg #[.string ⟨#[72, 69, 73, 71, 72, 84]⟩, .string vt25, .string ⟨#[]⟩, .string ⟨#[]⟩], iV size8, .string vt31, .agg #[.string ⟨#[66, 89, 84, 69, 83]⟩, .string vt31, .string ⟨#[]⟩, .string ⟨#[]⟩], .slice (some ⟨b37, 0, none⟩) ([(⟨Z23, vt19, Z32, Z32⟩ : S_Card), (⟨Z20, vt25, Z32, Z32⟩ : S_Card), (⟨Z18, vt31, Z32, Z32⟩ : S_Card)] : List S_Card).length 3, .func (.func 59) #[] #[.pointer A45], .slice (some ⟨b37, 0, none⟩) ([(⟨Z23, vt19, Z32, Z32⟩ : S_Card), (⟨Z20, vt25, Z32, Z32⟩ : S_Card), (⟨Z18, vt31, Z32, Z32⟩ : S_Card)] : List S_Card).length 3, pV b11 2, .slice A2 vf1.Cards.length c3, .slice A59 (([(⟨Z23, vt19, Z32, Z32⟩ : S_Card), (⟨Z20, vt25, Z32, Z32⟩ : S_Card), (⟨Z18, vt31, Z32, Z32⟩ : S_Card)] : List S_Card) ++ vf1.Cards).length c60, iV ((([(⟨Z23, vt19, Z32, Z32⟩ : S_Card), (⟨Z20, vt25, Z32, Z32⟩ : S_Card), (⟨Z18, vt31, Z32, Z32⟩ : S_Card)] : List S_Card) ++ vf1.Cards).length : Int), iV x139, (j135 1), (j135 2), (j135 3), (j135 4), (j135 5), (j135 6), (j135 7), (j135 8), uV, uV, uV, uV, uV, uV, uV, uV], []⟩) k ⟨f33, s47, ([] : List UInt8), 0, (jL []), fL, HS63, HO49, h, kr⟩ ?_
 clear h
 rintro n130 _ W133 ⟨f131, s137, s136, x139, j135, L132, HS134, HO138, h, rfl⟩ K128 hK129
 obtain _ | n130 := n130
 · exact nomatch h
 simp only [frame_header.l0] at h
 refine wp_seq_k fun K140 hK141 => rl ?_
 refine seqL1 kr ?_
 refine nl (hK141 _ _ ?_)
 refine wp_seq_k (fun K142 hK143 => ?_)
 have hq_ := ite_some h; clear h; rcases hq_ with ⟨c145, h⟩ | ⟨c145, h⟩
 · have c145 : x139 < ((([(⟨Z23, vt19, Z32, Z32⟩ : S_Card), (⟨Z20, vt25, Z32, Z32⟩ : S_Card), (⟨Z18, vt31, Z32, Z32⟩ : S_Card)] : List S_Card) ++ vf1.Cards).length : Int) := c145
   refine wpRwI 29 kr (decide_eq_true c145) ?_
   refine condT kr ?_
   refine wp_skip ?_
   refine hK143 _ _ ?_
   refine wp_seq_k (fun K146 hK147 => ?_)
   refine blockK (fun B148 hx149 hn150 hr151 ho152 hp153 => ?_)
   refine wp_seq_k fun K155 hK156 => rl ?_
   have hq_ := guard_some h; clear h; obtain ⟨c157, h⟩ := hq_
   have c157 : 0 ≤ x139 := c157
   obtain ⟨b161, of162, cs158, hA163, hr159, hc160⟩ := (HO64.mono L132).at (i := x139) c157 c145
   obtain rfl := hr159
   refine seqK rfl (does_run (run_indexE hA163 (sz := 4) rfl Tryz.underlying23 kr (kv (.slice A59 (([(⟨Z23, vt19, Z32, Z32⟩ : S_Card), (⟨Z20, vt25, Z32, Z32⟩ : S_Card), (⟨Z18, vt31, Z32, Z32⟩ : S_Card)] : List S_Card) ++ vf1.Cards).length c60)) (kv (.int .i64 x139)) c157 c145 W133) ?_)
   refine seqK rfl (does_run (run_loadN (n := 4) rfl Tryz.underlying70 rfl kr (kv (.pointer (some ⟨b161, of162 + (x139 : Int).toNat * 4, none⟩))) (cs := [.string ((rd (([(⟨Z23, vt19, Z32, Z32⟩ : S_Card), (⟨Z20, vt25, Z32, Z32⟩ : S_Card), (⟨Z18, vt31, Z32, Z32⟩ : S_Card)] : List S_Card) ++ vf1.Cards) x139).Key), .string ((rd (([(⟨Z23, vt19, Z32, Z32⟩ : S_Card), (⟨Z20, vt25, Z32, Z32⟩ : S_Card), (⟨Z18, vt31, Z32, Z32⟩ : S_Card)] : List S_Card) ++ vf1.Cards) x139).Value), .string ((rd (([(⟨Z23, vt19, Z32, Z32⟩ : S_Card), (⟨Z20, vt25, Z32, Z32⟩ : S_Card), (⟨Z18, vt31, Z32, Z32⟩ : S_Card)] : List S_Card) ++ vf1.Cards) x139).Unit), .string ((rd (([(⟨Z23, vt19, Z32, Z32⟩ : S_Card), (⟨Z20, vt25, Z32, Z32⟩ : S_Card), (⟨Z18, vt31, Z32, Z32⟩ : S_Card)] : List S_Card) ++ vf1.Cards) x139).Note)]) rfl (fun j_ hj_ => ((hc160 HS134) j_ hj_))) ?_)
   refine seqK rfl (does_alloc (z := Value.agg #[.string ⟨#[]⟩, .string ⟨#[]⟩, .string ⟨#[]⟩, .string ⟨#[]⟩]) (cs := #[.string ⟨#[]⟩, .string ⟨#[]⟩, .string ⟨#[]⟩, .string ⟨#[]⟩]) rfl kr rfl HS134 ?_)
   intro b164 W165 HS166
   refine seqK rfl (does_storeA (vs := [.string ((rd (([(⟨Z23, vt19, Z32, Z32⟩ : S_Card), (⟨Z20, vt25, Z32, Z32⟩ : S_Card), (⟨Z18, vt31, Z32, Z32⟩ : S_Card)] : List S_Card) ++ vf1.Cards) x139).Key), .string ((rd (([(⟨Z23, vt19, Z32, Z32⟩ : S_Card), (⟨Z20, vt25, Z32, Z32⟩ : S_Card), (⟨Z18, vt31, Z32, Z32⟩ : S_Card)] : List S_Card) ++ vf1.Cards) x139).Value), .string ((rd (([(⟨Z23, vt19, Z32, Z32⟩ : S_Card), (⟨Z20, vt25, Z32, Z32⟩ : S_Card), (⟨Z18, vt31, Z32, Z32⟩ : S_Card)] : List S_Card) ++ vf1.Cards) x139).Unit), .string ((rd (([(⟨Z23, vt19, Z32, Z32⟩ : S_Card), (⟨Z20, vt25, Z32, Z32⟩ : S_Card), (⟨Z18, vt31, Z32, Z32⟩ : S_Card)] : List S_Card) ++ vf1.Cards) x139).Note)]) rfl kr kr kr rfl (ones rfl) HS166 kr ?_)
   intro W168 HS169
   refine nl (hK156 _ _ ?_)
   refine rl ?_
   refine seqL1 kr ?_
   refine seqK rfl (does_run (run_loadN (n := 4) rfl Tryz.underlying70 rfl kr (kv (.pointer (some ⟨b164, 0, none⟩))) (cs := [.string ((rd (([(⟨Z23, vt19, Z32, Z32⟩ : S_Card), (⟨Z20, vt25, Z32, Z32⟩ : S_Card), (⟨Z18, vt31, Z32, Z32⟩ : S_Card)] : List S_Card) ++ vf1.Cards) x139).Key), .string ((rd (([(⟨Z23, vt19, Z32, Z32⟩ : S_Card), (⟨Z20, vt25, Z32, Z32⟩ : S_Card), (⟨Z18, vt31, Z32, Z32⟩ : S_Card)] : List S_Card) ++ vf1.Cards) x139).Value), .string ((rd (([(⟨Z23, vt19, Z32, Z32⟩ : S_Card), (⟨Z20, vt25, Z32, Z32⟩ : S_Card), (⟨Z18, vt31, Z32, Z32⟩ : S_Card)] : List S_Card) ++ vf1.Cards) x139).Unit), .string ((rd (([(⟨Z23, vt19, Z32, Z32⟩ : S_Card), (⟨Z20, vt25, Z32, Z32⟩ : S_Card), (⟨Z18, vt31, Z32, Z32⟩ : S_Card)] : List S_Card) ++ vf1.Cards) x139).Note)]) rfl (HS169.cells 0 4 _ rfl)) ?_)
   have hq_ := bind_some h; clear h; obtain ⟨vt170, hc171, h⟩ := hq_
   refine seqK rfl (does_call (f := 56) (args := #[.agg #[.string ((rd (([(⟨Z23, vt19, Z32, Z32⟩ : S_Card), (⟨Z20, vt25, Z32, Z32⟩ : S_Card), (⟨Z18, vt31, Z32, Z32⟩ : S_Card)] : List S_Card) ++ vf1.Cards) x139).Key), .string ((rd (([(⟨Z23, vt19, Z32, Z32⟩ : S_Card), (⟨Z20, vt25, Z32, Z32⟩ : S_Card), (⟨Z18, vt31, Z32, Z32⟩ : S_Card)] : List S_Card) ++ vf1.Cards) x139).Value), .string ((rd (([(⟨Z23, vt19, Z32, Z32⟩ : S_Card), (⟨Z20, vt25, Z32, Z32⟩ : S_Card), (⟨Z18, vt31, Z32, Z32⟩ : S_Card)] : List S_Card) ++ vf1.Cards) x139).Unit), .string ((rd (([(⟨Z23, vt19, Z32, Z32⟩ : S_Card), (⟨Z20, vt25, Z32, Z32⟩ : S_Card), (⟨Z18, vt31, Z32, Z32⟩ : S_Card)] : List S_Card) ++ vf1.Cards) x139).Note)]]) kr (frame_text.calls k (rd (([(⟨Z23, vt19, Z32, Z32⟩ : S_Card), (⟨Z20, vt25, Z32, Z32⟩ : S_Card), (⟨Z18, vt31, Z32, Z32⟩ : S_Card)] : List S_Card) ++ vf1.Cards) x139) HS169 vt170 hc171) ?_)
   rintro _ W174 ⟨f172, rfl, L173, HS175⟩
   refine ⟨_, rfl, ?_⟩
   have HS176 := HS175.u2
   have hq_ := bind_some h; clear h; obtain ⟨vt177, hc178, h⟩ := hq_
   refine seqK rfl (does_call (f := 59) (args := #[.string vt170, .pointer A45]) kr (frame_header_1.calls k A45 0 s137 vt170 s136 HS176 (HO138.mono L173) vt177 hc178) ?_)
   rintro _ W181 ⟨f179, s183, rfl, L180, HS182, HO184, HL185⟩
   refine ⟨_, rfl, ?_⟩
   refine nl ?_
   refine hn150 _ _ ?_
   refine hK147 _ _ ?_
   refine rl ?_
   refine seqL2 kr ?_
   refine nl ?_
   refine hK129 n130 _ _ (Nat.lt_succ_self _) ?_
   have HS200 := HS182.u3.u1.u3.u3
   have HS201 := HS200.drop
   exact ⟨f179, s183, vt177, (w64 (x139 + 1)), (jL [.pointer (some ⟨b164, 0, none⟩), tV, .pointer (some ⟨b161, of162 + (x139 : Int).toNat * 4, none⟩), .agg #[.string ((rd (([(⟨Z23, vt19, Z32, Z32⟩ : S_Card), (⟨Z20, vt25, Z32, Z32⟩ : S_Card), (⟨Z18, vt31, Z32, Z32⟩ : S_Card)] : List S_Card) ++ vf1.Cards) x139).Key), .string ((rd (([(⟨Z23, vt19, Z32, Z32⟩ : S_Card), (⟨Z20, vt25, Z32, Z32⟩ : S_Card), (⟨Z18, vt31, Z32, Z32⟩ : S_Card)] : List S_Card) ++ vf1.Cards) x139).Value), .string ((rd (([(⟨Z23, vt19, Z32, Z32⟩ : S_Card), (⟨Z20, vt25, Z32, Z32⟩ : S_Card), (⟨Z18, vt31, Z32, Z32⟩ : S_Card)] : List S_Card) ++ vf1.Cards) x139).Unit), .string ((rd (([(⟨Z23, vt19, Z32, Z32⟩ : S_Card), (⟨Z20, vt25, Z32, Z32⟩ : S_Card), (⟨Z18, vt31, Z32, Z32⟩ : S_Card)] : List S_Card) ++ vf1.Cards) x139).Note)], .func (.func 59) #[] #[.pointer A45], .agg #[.string ((rd (([(⟨Z23, vt19, Z32, Z32⟩ : S_Card), (⟨Z20, vt25, Z32, Z32⟩ : S_Card), (⟨Z18, vt31, Z32, Z32⟩ : S_Card)] : List S_Card) ++ vf1.Cards) x139).Key), .string ((rd (([(⟨Z23, vt19, Z32, Z32⟩ : S_Card), (⟨Z20, vt25, Z32, Z32⟩ : S_Card), (⟨Z18, vt31, Z32, Z32⟩ : S_Card)] : List S_Card) ++ vf1.Cards) x139).Value), .string ((rd (([(⟨Z23, vt19, Z32, Z32⟩ : S_Card), (⟨Z20, vt25, Z32, Z32⟩ : S_Card), (⟨Z18, vt31, Z32, Z32⟩ : S_Card)] : List S_Card) ++ vf1.Cards) x139).Unit), .string ((rd (([(⟨Z23, vt19, Z32, Z32⟩ : S_Card), (⟨Z20, vt25, Z32, Z32⟩ : S_Card), (⟨Z18, vt31, Z32, Z32⟩ : S_Card)] : List S_Card) ++ vf1.Cards) x139).Note)], .string vt170, .tuple #[], iV (w64 (x139 + 1))]), (L132.trans (L173.trans L180)), HS201, HO184, h, kr⟩
 · have c145 : ¬ (x139 < ((([(⟨Z23, vt19, Z32, Z32⟩ : S_Card), (⟨Z20, vt25, Z32, Z32⟩ : S_Card), (⟨Z18, vt31, Z32, Z32⟩ : S_Card)] : List S_Card) ++ vf1.Cards).length : Int)) := c145
   refine wpRwI 29 kr (decide_eq_false c145) ?_
   refine condF kr ?_
   refine wp_exit ?_
   refine hx66 _ _ ?_
   exact J195 f131 s137 s136 (jL [(j135 0), iV x139, fV, (j135 2), (j135 3), (j135 4), (j135 5), (j135 6), (j135 7), (j135 8)]) W133 _ L132 h HS134 HO138 kr

set_option maxRecDepth 100000 in
set_option maxHeartbeats 4000000 in
theorem frame_four.calls (k : Nat)  (n1 : Int) {t w : World} {f : FM} {H : List Seg} (HS : St t w f (H)) (rr1 : List Int) (h : frame_four k n1 = some rr1) :
    Calls Tryz.prog 64 #[.int .u32 n1] w (fun e w' => ∃ (g : FM) (A12 : Option Addr) (c13 : Nat) (s14 : Seg), e = .returned (Value.slice A12 rr1.length c13) ∧ FM.le f g ∧ St t w' g (s14 :: H) ∧ Own (tInt .u8) 5 g A12 c13 s14 rr1) := by
 unfold frame_four at h
 refine enter Tryz.func64 rfl (tm := #[.int .u32 n1, uV, uV, uV, uV, uV, uV, uV, uV, uV, uV, uV, uV, uV, uV]) kr ?_
 intro B hret hnor hnp
 refine wp_seq_k fun K2 hK3 => rl ?_
 refine seqL1 kr ?_
 refine nl (hK3 _ _ ?_)
 refine wp_seq_k fun K4 hK5 => rl ?_
 refine seqL11 kr ?_
 refine seqK rfl (does_lit (e := (tInt .u8)) (E := 5) (vs := #[(0, Value.int .u8 (u8 (shr n1 24))), (1, Value.int .u8 (u8 (shr n1 16))), (2, Value.int .u8 (u8 (shr n1 8))), (3, Value.int .u8 (u8 (n1)))]) (cs := #[.int .u8 (u8 (shr n1 24)), .int .u8 (u8 (shr n1 16)), .int .u8 (u8 (shr n1 8)), .int .u8 (u8 (n1))]) (xs := ([u8 (shr n1 24), u8 (shr n1 16), u8 (shr n1 8), u8 (n1)] : List Int)) rfl Tryz.underlying30 kr kr ⟨[.int .u8 (u8 (shr n1 24))], _, rfl, rfl, ⟨[.int .u8 (u8 (shr n1 16))], _, rfl, rfl, ⟨[.int .u8 (u8 (shr n1 8))], _, rfl, rfl, ⟨[.int .u8 (u8 (n1))], _, rfl, rfl, rfl⟩⟩⟩⟩ rfl HS ?_ (by decide))
 intro b6 W7 s8 HS9 _ HO10
 refine seqL1 kr ?_
 refine nl (hK5 _ _ ?_)
 refine wp_ret ?_
 refine hret _ _ ?_
 refine ends_still (v := Value.slice (some ⟨b6, 0, none⟩) ([u8 (shr n1 24), u8 (shr n1 16), u8 (shr n1 8), u8 (n1)] : List Int).length 4) kr kr ?_
 injection h with h
 subst h
 exact ⟨f, (some ⟨b6, 0, none⟩), 4, s8, rfl, FM.le.refl _, HS9, HO10⟩

set_option maxRecDepth 100000 in
set_option maxHeartbeats 4000000 in
theorem frame_Sum.calls (k : Nat) (A2 : Option Addr) (c3 : Nat) (b1 : List Int) {t w : World} {f : FM} {H : List Seg} (HS : St t w f (H)) (HR4 : SlR (tInt .u8) f A2 c3 b1) (rr1 : Int) (h : frame_Sum k b1 = some rr1) :
    Calls Tryz.prog 65 #[.slice A2 b1.length c3] w (fun e w' => ∃ (g : FM), e = .returned (Value.int .u32 rr1) ∧ FM.le f g ∧ St t w' g (H)) := by
 unfold frame_Sum at h
 refine enter Tryz.func65 rfl (tm := #[.slice A2 b1.length c3, uV, uV, uV, uV, uV, uV, uV, uV, uV, uV, uV, uV, uV, uV, uV, uV, uV, uV, uV, uV, uV, uV, uV, uV, uV, uV, uV, uV, uV]) kr ?_
 intro B hret hnor hnp
 refine wp_seq_k fun K5 hK6 => rl ?_
 refine seqL1 kr ?_
 refine nl (hK6 _ _ ?_)
 refine wp_seq_k fun K7 hK8 => rl ?_
 refine seqL1 kr ?_
 refine nl (hK8 _ _ ?_)
 refine wp_seq_k (fun K9 hK10 => ?_)
 refine wp_seq_k fun K11 hK12 => rl ?_
 refine seqL3 kr ?_
 refine nl (hK12 _ _ ?_)
 refine blockK (fun B13 hx14 hn15 hr16 ho17 hp18 => ?_)
 have hq_ := bind_some h; clear h; obtain ⟨o19, hv109, h⟩ := hq_
 have J110 : ∀ (f103 : FM) (s108 : Int) (j107 : Nat → Value) (W105 : World) (a_ : Act), FM.le f f103 → some (s108) = some o19 → St t W105 f103 (H) → a_ = ⟨#[.slice A2 b1.length c3, uV, .int .u32 0, .int .u32 s108, uV, (j107 0), .slice A2 b1.length c3, iV (b1.length : Int), (j107 1), (j107 2), (j107 3), (j107 4), (j107 5), (j107 6), (j107 7), (j107 8), (j107 9), (j107 10), (j107 11), (j107 12), (j107 13), (j107 14), (j107 15), (j107 16), (j107 17), (j107 18), (j107 19), (j107 20), uV, uV], []⟩ → K9 a_ W105 := by
  intro f103 s108 j107 W105 a_ L104 hj111 HS106  hfr_; subst hfr_
  injection hj111 with hj111; subst hj111; try dsimp only at h
  refine hK10 _ _ ?_
  refine wp_seq_k fun K112 hK113 => rl ?_
  refine seqL3 kr ?_
  refine nl (hK113 _ _ ?_)
  refine wp_ret ?_
  refine hret _ _ ?_
  refine ends_still (v := Value.int .u32 (Go.bits .xor .u32 IntKind.u32.max s108)) kr kr ?_
  injection h with h
  subst h
  exact ⟨f103, rfl, L104, HS106⟩
 clear h; have h := hv109; clear hv109
 refine loopK (fun n_ a_ w_ => ∃ (f23 : FM) (s28 : Int) (x29 : Int) (j27 : Nat → Value), FM.le f f23 ∧ St t w_ f23 (H) ∧ frame_Sum.l0 k b1 n_ s28 x29 = some o19 ∧ a_ = ⟨#[.slice A2 b1.length c3, uV, .int .u32 0, .int .u32 s28, uV, (j27 0), .slice A2 b1.length c3, iV (b1.length : Int), iV x29, (j27 1), (j27 2), (j27 3), (j27 4), (j27 5), (j27 6), (j27 7), (j27 8), (j27 9), (j27 10), (j27 11), (j27 12), (j27 13), (j27 14), (j27 15), (j27 16), (j27 17), (j27 18), (j27 19), uV, uV], []⟩) k ⟨f, 4294967295, 0, (jL []), fL, HS, h, kr⟩ ?_
 clear h
 rintro n22 _ W25 ⟨f23, s28, x29, j27, L24, HS26, h, rfl⟩ K20 hK21
 obtain _ | n22 := n22
 · exact nomatch h
 simp only [frame_Sum.l0] at h
 refine wp_seq_k fun K30 hK31 => rl ?_
 refine seqL1 kr ?_
 refine nl (hK31 _ _ ?_)
 refine wp_seq_k (fun K32 hK33 => ?_)
 have hq_ := ite_some h; clear h; rcases hq_ with ⟨c35, h⟩ | ⟨c35, h⟩
 · have c35 : x29 < (b1.length : Int) := c35
   refine wpRwI 9 kr (decide_eq_true c35) ?_
   refine condT kr ?_
   refine wp_skip ?_
   refine hK33 _ _ ?_
   refine wp_seq_k (fun K36 hK37 => ?_)
   refine blockK (fun B38 hx39 hn40 hr41 ho42 hp43 => ?_)
   refine wp_seq_k fun K45 hK46 => rl ?_
   have hq_ := guard_some h; clear h; obtain ⟨c47, h⟩ := hq_
   have c47 : 0 ≤ x29 := c47
   obtain ⟨b51, of52, cs48, hA53, hr49, hc50⟩ := (HR4.mono L24).at (i := x29) c47 c35
   obtain rfl := hr49
   refine seqK rfl (does_run (run_indexE hA53 (sz := 1) rfl Tryz.underlying30 kr (kv (.slice A2 b1.length c3)) (kv (.int .i64 x29)) c47 c35 W25) ?_)
   refine seqK rfl (does_run (run_load rfl Tryz.underlying5 rfl (kv (.pointer (some ⟨b51, of52 + (x29 : Int).toNat * 1, none⟩))) ((hc50 fL HS26) 0 (by decide))) ?_)
   refine seqL1 kr ?_
   refine nl (hK46 _ _ ?_)
   refine wp_seq_k fun K54 hK55 => rl ?_
   refine seqL5 kr ?_
   refine nl (hK55 _ _ ?_)
   refine wp_seq_k fun K56 hK57 => rl ?_
   refine seqL1 kr ?_
   refine nl (hK57 _ _ ?_)
   refine blockK (fun B58 hx59 hn60 hr61 ho62 hp63 => ?_)
   have hq_ := bind_some h; clear h; obtain ⟨o64, hv100, h⟩ := hq_
   have J101 : ∀ (f94 : FM) (s99 : Int) (j98 : Nat → Value) (W96 : World) (a_ : Act), FM.le f23 f94 → some (s99) = some o64 → St t W96 f94 (H) → a_ = ⟨#[.slice A2 b1.length c3, uV, .int .u32 0, .int .u32 s99, uV, .int .u8 (rd b1 x29), .slice A2 b1.length c3, iV (b1.length : Int), iV x29, tV, pV b51 (of52 + (x29 : Int).toNat * 1), .int .u8 (rd b1 x29), .int .u32 s28, .int .u8 (rd b1 x29), .int .u32 (u32 ((rd b1 x29))), .int .u32 (Go.bits .xor .u32 s28 (u32 ((rd b1 x29)))), (j98 0), (j98 1), (j98 2), (j98 3), (j98 4), (j98 5), (j98 6), (j98 7), (j98 8), (j98 9), (j98 10), (j27 19), uV, uV], []⟩ → B38 Exit.normal a_ W96 := by
    intro f94 s99 j98 W96 a_ L95 hj102 HS97  hfr_; subst hfr_
    injection hj102 with hj102; subst hj102; try dsimp only at h
    refine hn40 _ _ ?_
    refine hK37 _ _ ?_
    refine rl ?_
    refine seqL2 kr ?_
    refine nl ?_
    refine hK21 n22 _ _ (Nat.lt_succ_self _) ?_
    exact ⟨f94, s99, (w64 (x29 + 1)), (jL [.int .u8 (rd b1 x29), tV, .pointer (some ⟨b51, of52 + (x29 : Int).toNat * 1, none⟩), .int .u8 (rd b1 x29), .int .u32 s28, .int .u8 (rd b1 x29), .int .u32 (u32 ((rd b1 x29))), .int .u32 (Go.bits .xor .u32 s28 (u32 ((rd b1 x29)))), (j98 0), (j98 1), (j98 2), (j98 3), (j98 4), (j98 5), (j98 6), (j98 7), (j98 8), (j98 9), (j98 10), iV (w64 (x29 + 1))]), (L24.trans L95), HS97, h, kr⟩
   clear h; have h := hv100; clear hv100
   refine loopK (fun n_ a_ w_ => ∃ (f68 : FM) (s73 : Int) (x74 : Int) (j72 : Nat → Value), FM.le f23 f68 ∧ St t w_ f68 (H) ∧ frame_Sum.l1 k n_ s73 x74 = some o64 ∧ a_ = ⟨#[.slice A2 b1.length c3, uV, .int .u32 0, .int .u32 s73, uV, .int .u8 (rd b1 x29), .slice A2 b1.length c3, iV (b1.length : Int), iV x29, tV, pV b51 (of52 + (x29 : Int).toNat * 1), .int .u8 (rd b1 x29), .int .u32 s28, .int .u8 (rd b1 x29), .int .u32 (u32 ((rd b1 x29))), .int .u32 (Go.bits .xor .u32 s28 (u32 ((rd b1 x29)))), iV x74, (j72 0), (j72 1), (j72 2), (j72 3), (j72 4), (j72 5), (j72 6), (j72 7), (j72 8), (j72 9), (j27 19), uV, uV], []⟩) k ⟨f23, (Go.bits .xor .u32 s28 (u32 ((rd b1 x29)))), 0, (jL [(j27 9), (j27 10), (j27 11), (j27 12), (j27 13), (j27 14), (j27 15), (j27 16), (j27 17), (j27 18)]), fL, HS26, h, kr⟩ ?_
   clear h
   rintro n67 _ W70 ⟨f68, s73, x74, j72, L69, HS71, h, rfl⟩ K65 hK66
   obtain _ | n67 := n67
   · exact nomatch h
   simp only [frame_Sum.l1] at h
   refine wp_seq_k fun K75 hK76 => rl ?_
   refine seqL1 kr ?_
   refine nl (hK76 _ _ ?_)
   refine wp_seq_k (fun K77 hK78 => ?_)
   have hq_ := ite_some h; clear h; rcases hq_ with ⟨c80, h⟩ | ⟨c80, h⟩
   · have c80 : x74 < 8 := c80
     refine wpRwI 17 kr (decide_eq_true c80) ?_
     refine condT kr ?_
     refine wp_skip ?_
     refine hK78 _ _ ?_
     refine wp_seq_k (fun K81 hK82 => ?_)
     refine blockK (fun B83 hx84 hn85 hr86 ho87 hp88 => ?_)
     refine wp_seq_k fun K90 hK91 => rl ?_
     refine seqL3 kr ?_
     refine nl (hK91 _ _ ?_)
     have hq_ := ite_some h; clear h; rcases hq_ with ⟨c93, h⟩ | ⟨c93, h⟩
     · have c93 : (Go.bits .and .u32 s73 1) = 1 := c93
       refine wpRwI 20 kr (beq_iff_eq.mpr c93) ?_
       refine condT kr ?_
       refine rl ?_
       refine seqL4 kr ?_
       refine nl ?_
       refine hn85 _ _ ?_
       refine hK82 _ _ ?_
       refine rl ?_
       refine seqL2 kr ?_
       refine nl ?_
       refine hK66 n67 _ _ (Nat.lt_succ_self _) ?_
       exact ⟨f68, (Go.bits .xor .u32 (shr s73 1) 3988292384), (w64 (x74 + 1)), (jL [tV, .int .u32 s73, .int .u32 (Go.bits .and .u32 s73 1), tV, .int .u32 s73, .int .u32 (shr s73 1), .int .u32 (Go.bits .xor .u32 (shr s73 1) 3988292384), (j72 7), (j72 8), iV (w64 (x74 + 1))]), L69, HS71, h, kr⟩
     · have c93 : ¬ ((Go.bits .and .u32 s73 1) = 1) := c93
       refine wpRwI 20 kr (beq_eq_false_iff_ne.mpr c93) ?_
       refine condF kr ?_
       refine rl ?_
       refine seqL3 kr ?_
       refine nl ?_
       refine hn85 _ _ ?_
       refine hK82 _ _ ?_
       refine rl ?_
       refine seqL2 kr ?_
       refine nl ?_
       refine hK66 n67 _ _ (Nat.lt_succ_self _) ?_
       exact ⟨f68, (shr s73 1), (w64 (x74 + 1)), (jL [tV, .int .u32 s73, .int .u32 (Go.bits .and .u32 s73 1), fV, (j72 4), (j72 5), (j72 6), .int .u32 s73, .int .u32 (shr s73 1), iV (w64 (x74 + 1))]), L69, HS71, h, kr⟩
   · have c80 : ¬ (x74 < 8) := c80
     refine wpRwI 17 kr (decide_eq_false c80) ?_
     refine condF kr ?_
     refine wp_exit ?_
     refine hx59 _ _ ?_
     exact J101 f68 s73 (jL [iV x74, fV, (j72 1), (j72 2), (j72 3), (j72 4), (j72 5), (j72 6), (j72 7), (j72 8), (j72 9)]) W70 _ L69 h HS71 kr
 · have c35 : ¬ (x29 < (b1.length : Int)) := c35
   refine wpRwI 9 kr (decide_eq_false c35) ?_
   refine condF kr ?_
   refine wp_exit ?_
   refine hx14 _ _ ?_
   exact J110 f23 s28 (jL [(j27 0), iV x29, fV, (j27 2), (j27 3), (j27 4), (j27 5), (j27 6), (j27 7), (j27 8), (j27 9), (j27 10), (j27 11), (j27 12), (j27 13), (j27 14), (j27 15), (j27 16), (j27 17), (j27 18), (j27 19)]) W25 _ L24 h HS26 kr

set_option maxRecDepth 100000 in
set_option maxHeartbeats 4000000 in
theorem frame_seal.calls (k : Nat) (A3 : Option Addr) (c4 : Nat) (i1 : Int) (block2 : List Int) {t w : World} {f : FM} {H : List Seg} (HS : St t w f (H)) (HR5 : SlR (tInt .u8) f A3 c4 block2) (rr1 : List Int) (h : frame_seal k i1 block2 = some rr1) :
    Calls Tryz.prog 34 #[.int .i64 i1, .slice A3 block2.length c4] w (fun e w' => ∃ (g : FM) (A55 : Option Addr) (c56 : Nat) (s57 : Seg), e = .returned (Value.slice A55 rr1.length c56) ∧ FM.le f g ∧ St t w' g (s57 :: H) ∧ Own (tInt .u8) 5 g A55 c56 s57 rr1) := by
 unfold frame_seal at h
 refine enter Tryz.func34 rfl (tm := #[iV i1, .slice A3 block2.length c4, uV, uV, uV, uV, uV, uV, uV, uV, uV, uV]) kr ?_
 intro B hret hnor hnp
 refine wp_seq_k fun K6 hK7 => rl ?_
 refine seqL1 kr ?_
 refine nl (hK7 _ _ ?_)
 refine wp_seq_k fun K8 hK9 => rl ?_
 have hq_ := bind_some h; clear h; obtain ⟨vt10, hc11, h⟩ := hq_
 refine seqL2 kr ?_
 refine seqK rfl (does_call (f := 64) (args := #[.int .u32 (u32 (i1))]) kr (frame_four.calls k (u32 (i1)) HS vt10 hc11) ?_)
 rintro _ W14 ⟨f12, A16, c17, s18, rfl, L13, HS15, HO19⟩
 refine ⟨_, rfl, ?_⟩
 have hq_ := guard_some h; clear h; obtain ⟨c21, h⟩ := hq_
 have c21 : (vt10.length + block2.length) * 1 ≤ 140737488355328 := c21
 refine seqL1 kr ?_
 refine seqK rfl (does_append (e := (tInt .u8)) (E := 5) (xs := vt10) (ys := block2) rfl (kv (.slice A16 vt10.length c17)) (kv (.slice A3 block2.length c4)) Tryz.underlying30 inf5 HO19 HS15 ((HR5.mono L13).rc HS15) c21 (lim63 c21 (by decide)) ?_)
 intro A22 c23 s24 W25 HS26 HO27
 obtain ⟨f28, L29, HS30, HR31, th32⟩ := HO27.lend HS26
 have hq_ := bind_some h; clear h; obtain ⟨vt33, hc34, h⟩ := hq_
 refine seqK rfl (does_call (f := 65) (args := #[.slice A22 (vt10 ++ block2).length c23]) kr (frame_Sum.calls k A22 c23 (vt10 ++ block2) HS30 HR31 vt33 hc34) ?_)
 rintro _ W37 ⟨f35, rfl, L36, HS38⟩
 refine ⟨_, rfl, ?_⟩
 obtain ⟨f39, L40, HS41⟩ := th32 L36 HS38
 have hq_ := bind_some h; clear h; obtain ⟨vt42, hc43, h⟩ := hq_
 refine seqK rfl (does_call (f := 64) (args := #[.int .u32 vt33]) kr (frame_four.calls k vt33 HS41 vt42 hc43) ?_)
 rintro _ W46 ⟨f44, A48, c49, s50, rfl, L45, HS47, HO51⟩
 refine ⟨_, rfl, ?_⟩
 refine seqL1 kr ?_
 refine nl (hK9 _ _ ?_)
 refine wp_ret ?_
 refine hret _ _ ?_
 refine ends_still (v := Value.slice A48 vt42.length c49) kr kr ?_
 have HS53 := HS47.u1
 have HS54 := HS53.drop
 injection h with h
 subst h
 exact ⟨f44, A48, c49, s50, rfl, (L13.trans (L40.trans L45)), HS54, HO51⟩

set_option maxRecDepth 100000 in
set_option maxHeartbeats 4000000 in
theorem frame_Encode.calls (k : Nat) (A2 : Option Addr) (c3 : Nat) (A5 : Option Addr) (c6 : Nat) (vf1 : S_Frame) {t w : World} {f : FM} {H : List Seg} (HS : St t w f (H)) (HR4 : SlR ty_Card f A2 c3 vf1.Cards) (HR7 : SlR (tInt .i64) f A5 c6 vf1.Counts) (HA : TabF Tryz.prog "strings.asciiSpace" .u8 Go.Lib.asciiSpaceTab f) (HT : TabF Tryz.prog "internal/strconv.uint64pow10" .u64 Go.Lib.pow10Tab f) (rr1 : List Int) (rr2 : Int) (h : frame_Encode k vf1 = some (rr1, rr2)) :
    Calls Tryz.prog 16 #[.agg #[.int .i64 vf1.W, .int .i64 vf1.H, .slice A2 vf1.Cards.length c3, .slice A5 vf1.Counts.length c6]] w (fun e w' => ∃ (g : FM) (A589 : Option Addr) (c590 : Nat) (s591 : Seg), e = .returned (Value.tuple #[.slice A589 rr1.length c590, .int .i64 rr2]) ∧ FM.le f g ∧ St t w' g (s591 :: H) ∧ Own (tInt .u8) 5 g A589 c590 s591 rr1) := by
 unfold frame_Encode at h
 refine enter Tryz.func16 rfl (tm := #[(ag_Frame vf1 A2 c3 A5 c6), uV, uV, uV, uV, uV, uV, uV, uV, uV, uV, uV, uV, uV, uV, uV, uV, uV, uV, uV, uV, uV, uV, uV, uV, uV, uV, uV, uV, uV, uV, uV, uV, uV, uV, uV, uV, uV, uV, uV, uV, uV, uV, uV, uV, uV, uV, uV, uV, uV, uV, uV, uV, uV, uV, uV, uV, uV, uV, uV, uV, uV, uV, uV, uV, uV, uV, uV, uV, uV, uV, uV, uV, uV, uV, uV, uV, uV, uV, uV, uV, uV, uV]) kr ?_
 intro B hret hnor hnp
 refine wp_seq_k fun K8 hK9 => rl ?_
 refine seqK rfl (does_box (cs := #[.int .i64 vf1.W, .int .i64 vf1.H, .slice A2 vf1.Cards.length c3, .slice A5 vf1.Counts.length c6]) rfl (kv (.agg #[.int .i64 vf1.W, .int .i64 vf1.H, .slice A2 vf1.Cards.length c3, .slice A5 vf1.Counts.length c6])) rfl HS ?_)
 intro b10 W11 HS12
 refine seqL2 kr ?_
 refine nl (hK9 _ _ ?_)
 refine wp_seq_k (fun K14 hK15 => ?_)
 refine wp_seq_k fun K16 hK17 => rl ?_
 refine seqK rfl (does_run (run_loadN (n := 4) rfl Tryz.underlying25 rfl kr (kv (.pointer (some ⟨b10, 0, none⟩))) (cs := [.int .i64 vf1.W, .int .i64 vf1.H, .slice A2 vf1.Cards.length c3, .slice A5 vf1.Counts.length c6]) rfl (HS12.cells 0 4 _ rfl)) ?_)
 have hq_ := bind_some h; clear h; obtain ⟨vt18, hc19, h⟩ := hq_
 refine seqK rfl (does_call (f := 15) (args := #[.agg #[.int .i64 vf1.W, .int .i64 vf1.H, .slice A2 vf1.Cards.length c3, .slice A5 vf1.Counts.length c6]]) kr (frame_Check.calls k A2 c3 A5 c6 vf1 HS12 HR4 HR7 HA vt18 hc19) ?_)
 rintro _ W22 ⟨f20, rfl, L21, HS23⟩
 refine ⟨_, rfl, ?_⟩
 refine seqL1 kr ?_
 refine nl (hK17 _ _ ?_)
 refine wp_seq_k fun K24 hK25 => rl ?_
 refine seqL2 kr ?_
 refine nl (hK25 _ _ ?_)
 have hq_ := ite_some h; clear h; rcases hq_ with ⟨c27, h⟩ | ⟨c27, h⟩
 · have c27 : vt18 ≠ 0 := c27
   refine wpRwI 17 kr (bne_iff_ne.mpr c27) ?_
   refine condT kr ?_
   refine wp_seq_k fun K28 hK29 => rl ?_
   refine seqL3 kr ?_
   refine nl (hK29 _ _ ?_)
   refine wp_ret ?_
   refine hret _ _ ?_
   have HS583 := HS23.cons_nil
   refine ends_still (v := Value.tuple #[.slice none 0 0, .int .i64 vt18]) kr kr ?_
   have HS585 := HS583.u1
   have HS586 := HS585.drop
   injection h with h
   injection h with h0_ h
   subst h0_ h
   exact ⟨f20, none, 0, [], rfl, L21, HS586, (Own.nil _)⟩
 · have c27 : ¬ (vt18 ≠ 0) := c27
   refine wpRwI 17 (x := (vt18 != 0)) (v := false) kr (bne_eq_false_iff_eq.mpr (Decidable.of_not_not c27)) ?_
   refine condF kr ?_
   refine wp_skip ?_
   refine hK15 _ _ ?_
   refine wp_seq_k fun K30 hK31 => rl ?_
   refine seqL1 kr ?_
   refine nl (hK31 _ _ ?_)
   refine wp_seq_k (fun K32 hK33 => ?_)
   refine wp_seq_k fun K34 hK35 => rl ?_
   refine seqL1 kr ?_
   refine seqK rfl (does_run (run_load rfl Tryz.underlying22 rfl (kv (.pointer (some ⟨b10, 3, none⟩))) (HS23.cell 3)) ?_)
   refine seqL2 kr ?_
   refine nl (hK35 _ _ ?_)
   refine blockK (fun B36 hx37 hn38 hr39 ho40 hp41 => ?_)
   have hq_ := bind_some h; clear h; obtain ⟨o42, hv87, h⟩ := hq_
   have J88 : ∀ (f81 : FM) (size86 : Int) (j85 : Nat → Value) (W83 : World) (a_ : Act), FM.le f20 f81 → some (size86) = some o42 → St t W83 f81 ([(b10, .cells #[.int .i64 vf1.W, .int .i64 vf1.H, .slice A2 vf1.Cards.length c3, .slice A5 vf1.Counts.length c6] 25 (0, 0))] :: H) → a_ = ⟨#[(ag_Frame vf1 A2 c3 A5 c6), pV b10 0, .slice none 0 0, iV 0, iV vt18, iV size86, uV, (j85 0), uV, uV, uV, uV, uV, uV, (ag_Frame vf1 A2 c3 A5 c6), iV vt18, iV vt18, fV, uV, pV b10 3, .slice A5 vf1.Counts.length c6, iV (vf1.Counts.length : Int), (j85 1), (j85 2), (j85 3), (j85 4), (j85 5), (j85 6), (j85 7), uV, uV, uV, uV, uV, uV, uV, uV, uV, uV, uV, uV, uV, uV, uV, uV, uV, uV, uV, uV, uV, uV, uV, uV, uV, uV, uV, uV, uV, uV, uV, uV, uV, uV, uV, uV, uV, uV, uV, uV, uV, uV, uV, uV, uV, uV, uV, uV, uV, uV, uV, uV, uV, uV], []⟩ → K32 a_ W83 := by
    intro f81 size86 j85 W83 a_ L82 hj89 HS84  hfr_; subst hfr_
    injection hj89 with hj89; subst hj89; try dsimp only at h
    refine hK33 _ _ ?_
    refine wp_seq_k fun K90 hK91 => rl ?_
    refine seqK rfl (does_run (run_loadN (n := 4) rfl Tryz.underlying25 rfl kr (kv (.pointer (some ⟨b10, 0, none⟩))) (cs := [.int .i64 vf1.W, .int .i64 vf1.H, .slice A2 vf1.Cards.length c3, .slice A5 vf1.Counts.length c6]) rfl (HS84.cells 0 4 _ rfl)) ?_)
    have hq_ := bind_some h; clear h; obtain ⟨vt92, hc93, h⟩ := hq_
    refine seqL1 kr ?_
    refine seqK rfl (does_call (f := 33) (args := #[.agg #[.int .i64 vf1.W, .int .i64 vf1.H, .slice A2 vf1.Cards.length c3, .slice A5 vf1.Counts.length c6], .int .i64 size86]) kr (frame_header.calls k A2 c3 A5 c6 vf1 size86 HS84 (HR4.mono (L21.trans L82)) (HR7.mono (L21.trans L82)) (HT.mono (L21.trans L82)) vt92 hc93) ?_)
    rintro _ W96 ⟨f94, rfl, L95, HS97⟩
    refine ⟨_, rfl, ?_⟩
    have hq_ := guard_some h; clear h; obtain ⟨c98, h⟩ := hq_
    have c98 : vt92.size ≤ 140737488355328 := c98
    refine seqK rfl (does_bytes rfl Tryz.underlying9 Tryz.underlying30 Tryz.underlying5 (kv (.string vt92)) c98 HS97 ?_)
    intro b99 c100 s101 W102 HS103 HO104
    refine seqL1 kr ?_
    refine nl (hK91 _ _ ?_)
    refine wp_seq_k (fun K106 hK107 => ?_)
    refine wp_seq_k fun K108 hK109 => rl ?_
    refine seqL1 kr ?_
    refine seqK rfl (does_run (run_load rfl Tryz.underlying22 rfl (kv (.pointer (some ⟨b10, 3, none⟩))) (HS103.u1.cell 3)) ?_)
    refine seqL2 kr ?_
    refine nl (hK109 _ _ ?_)
    refine blockK (fun B110 hx111 hn112 hr113 ho114 hp115 => ?_)
    have hq_ := bind_some h; clear h; obtain ⟨o205, hv305, h⟩ := hq_
    have J306 : ∀ (f295 : FM) (A301 : Option Addr) (c302 : Nat) (s303 : Seg) (body300 : List Int) (j299 : Nat → Value) (W297 : World) (a_ : Act), FM.le f94 f295 → some (body300) = some o205 → St t W297 f295 (s303 :: [(b10, .cells #[.int .i64 vf1.W, .int .i64 vf1.H, .slice A2 vf1.Cards.length c3, .slice A5 vf1.Counts.length c6] 25 (0, 0))] :: H) → Own (tInt .u8) 5 f295 A301 c302 s303 body300 → a_ = ⟨#[(ag_Frame vf1 A2 c3 A5 c6), pV b10 0, .slice none 0 0, iV 0, iV vt18, iV size86, uV, (j85 0), .slice A301 body300.length c302, uV, (j299 0), uV, uV, uV, (ag_Frame vf1 A2 c3 A5 c6), iV vt18, iV vt18, fV, uV, pV b10 3, .slice A5 vf1.Counts.length c6, iV (vf1.Counts.length : Int), (j85 1), (j85 2), (j85 3), (j85 4), (j85 5), (j85 6), (j85 7), (ag_Frame vf1 A2 c3 A5 c6), iV size86, .string vt92, (j299 1), pV b10 3, .slice A5 vf1.Counts.length c6, iV (vf1.Counts.length : Int), (j299 2), (j299 3), (j299 4), (j299 5), (j299 6), (j299 7), (j299 8), (j299 9), (j299 10), (j299 11), (j299 12), (j299 13), (j299 14), (j299 15), (j299 16), (j299 17), (j299 18), (j299 19), uV, uV, uV, uV, uV, uV, uV, uV, uV, uV, uV, uV, uV, uV, uV, uV, uV, uV, uV, uV, uV, uV, uV, uV, uV, uV, uV, uV, uV], []⟩ → K106 a_ W297 := by
     intro f295 A301 c302 s303 body300 j299 W297 a_ L296 hj307 HS298 HO304 hfr_; subst hfr_
     injection hj307 with hj307; subst hj307; try dsimp only at h
     refine hK107 _ _ ?_
     refine wp_seq_k (fun K308 hK309 => ?_)
     refine blockK (fun B310 hx311 hn312 hr313 ho314 hp315 => ?_)
     have hq_ := bind_some h; clear h; obtain ⟨o357, hv409, h⟩ := hq_
     have J410 : ∀ (f399 : FM) (A405 : Option Addr) (c406 : Nat) (s407 : Seg) (body404 : List Int) (j403 : Nat → Value) (W401 : World) (a_ : Act), FM.le f295 f399 → some (body404) = some o357 → St t W401 f399 (s407 :: [(b10, .cells #[.int .i64 vf1.W, .int .i64 vf1.H, .slice A2 vf1.Cards.length c3, .slice A5 vf1.Counts.length c6] 25 (0, 0))] :: H) → Own (tInt .u8) 5 f399 A405 c406 s407 body404 → a_ = ⟨#[(ag_Frame vf1 A2 c3 A5 c6), pV b10 0, .slice none 0 0, iV 0, iV vt18, iV size86, uV, (j85 0), .slice A405 body404.length c406, uV, (j299 0), uV, uV, uV, (ag_Frame vf1 A2 c3 A5 c6), iV vt18, iV vt18, fV, uV, pV b10 3, .slice A5 vf1.Counts.length c6, iV (vf1.Counts.length : Int), (j85 1), (j85 2), (j85 3), (j85 4), (j85 5), (j85 6), (j85 7), (ag_Frame vf1 A2 c3 A5 c6), iV size86, .string vt92, (j299 1), pV b10 3, .slice A5 vf1.Counts.length c6, iV (vf1.Counts.length : Int), (j299 2), (j299 3), (j299 4), (j299 5), (j299 6), (j299 7), (j299 8), (j299 9), (j299 10), (j299 11), (j299 12), (j299 13), (j299 14), (j299 15), (j299 16), (j299 17), (j299 18), (j299 19), (j403 0), (j403 1), (j403 2), (j403 3), (j403 4), (j403 5), (j403 6), uV, uV, uV, uV, uV, uV, uV, uV, uV, uV, uV, uV, uV, uV, uV, uV, uV, uV, uV, uV, uV, uV], []⟩ → K308 a_ W401 := by
      intro f399 A405 c406 s407 body404 j403 W401 a_ L400 hj411 HS402 HO408 hfr_; subst hfr_
      injection hj411 with hj411; subst hj411; try dsimp only at h
      refine hK309 _ _ ?_
      refine wp_seq_k fun K412 hK413 => rl ?_
      refine seqL1 kr ?_
      refine nl (hK413 _ _ ?_)
      refine wp_seq_k (fun K414 hK415 => ?_)
      refine wp_seq_k fun K416 hK417 => rl ?_
      refine seqL1 kr ?_
      refine nl (hK417 _ _ ?_)
      refine blockK (fun B418 hx419 hn420 hr421 ho422 hp423 => ?_)
      obtain ⟨f495, L496, HS497, HR498⟩ := HO408.freeze HS402
      have hq_ := bind_some h; clear h; obtain ⟨o499, hv576, h⟩ := hq_
      have J577 : ∀ (f565 : FM) (A571 : Option Addr) (c572 : Nat) (s573 : Seg) (out570 : List Int) (j569 : Nat → Value) (W567 : World) (a_ : Act), FM.le f495 f565 → some (out570) = some o499 → St t W567 f565 (s573 :: [(b10, .cells #[.int .i64 vf1.W, .int .i64 vf1.H, .slice A2 vf1.Cards.length c3, .slice A5 vf1.Counts.length c6] 25 (0, 0))] :: H) → Own (tInt .u8) 5 f565 A571 c572 s573 out570 → a_ = ⟨#[(ag_Frame vf1 A2 c3 A5 c6), pV b10 0, .slice none 0 0, iV 0, iV vt18, iV size86, uV, (j85 0), .slice A405 body404.length c406, uV, (j299 0), .slice A571 out570.length c572, (j569 0), (j569 1), (ag_Frame vf1 A2 c3 A5 c6), iV vt18, iV vt18, fV, uV, pV b10 3, .slice A5 vf1.Counts.length c6, iV (vf1.Counts.length : Int), (j85 1), (j85 2), (j85 3), (j85 4), (j85 5), (j85 6), (j85 7), (ag_Frame vf1 A2 c3 A5 c6), iV size86, .string vt92, (j299 1), pV b10 3, .slice A5 vf1.Counts.length c6, iV (vf1.Counts.length : Int), (j299 2), (j299 3), (j299 4), (j299 5), (j299 6), (j299 7), (j299 8), (j299 9), (j299 10), (j299 11), (j299 12), (j299 13), (j299 14), (j299 15), (j299 16), (j299 17), (j299 18), (j299 19), (j403 0), (j403 1), (j403 2), (j403 3), (j403 4), (j403 5), (j403 6), (j569 2), (j569 3), (j569 4), (j569 5), (j569 6), (j569 7), (j569 8), (j569 9), (j569 10), (j569 11), (j569 12), (j569 13), (j569 14), (j569 15), (j569 16), (j569 17), (j569 18), (j569 19), (j569 20), (j569 21), (j569 22), uV], []⟩ → K414 a_ W567 := by
       intro f565 A571 c572 s573 out570 j569 W567 a_ L566 hj578 HS568 HO574 hfr_; subst hfr_
       injection hj578 with hj578; subst hj578; try dsimp only at h
       refine hK415 _ _ ?_
       refine wp_seq_k fun K581 hK582 => rl ?_
       refine seqL3 kr ?_
       refine nl (hK582 _ _ ?_)
       refine wp_ret ?_
       refine hret _ _ ?_
       refine ends_still (v := Value.tuple #[.slice A571 out570.length c572, .int .i64 0]) kr kr ?_
       have HS587 := HS568.u1
       have HS588 := HS587.drop
       injection h with h
       injection h with h0_ h
       subst h0_ h
       exact ⟨f565, A571, c572, s573, rfl, (L21.trans (L82.trans (L95.trans (L296.trans (L400.trans (L496.trans L566)))))), HS588, HO574⟩
      clear h; have h := hv576; clear hv576
      have HS579 := HS497.cons_nil
      refine loopK (fun n_ a_ w_ => ∃ (f503 : FM) (A509 : Option Addr) (c510 : Nat) (s511 : Seg) (out508 : List Int) (i514 : Int) (j507 : Nat → Value), FM.le f495 f503 ∧ St t w_ f503 (s511 :: [(b10, .cells #[.int .i64 vf1.W, .int .i64 vf1.H, .slice A2 vf1.Cards.length c3, .slice A5 vf1.Counts.length c6] 25 (0, 0))] :: H) ∧ Own (tInt .u8) 5 f503 A509 c510 s511 out508 ∧ frame_Encode.l3 k body404 n_ out508 i514 = some o499 ∧ a_ = ⟨#[(ag_Frame vf1 A2 c3 A5 c6), pV b10 0, .slice none 0 0, iV 0, iV vt18, iV size86, uV, (j85 0), .slice A405 body404.length c406, uV, (j299 0), .slice A509 out508.length c510, iV i514, (j507 0), (ag_Frame vf1 A2 c3 A5 c6), iV vt18, iV vt18, fV, uV, pV b10 3, .slice A5 vf1.Counts.length c6, iV (vf1.Counts.length : Int), (j85 1), (j85 2), (j85 3), (j85 4), (j85 5), (j85 6), (j85 7), (ag_Frame vf1 A2 c3 A5 c6), iV size86, .string vt92, (j299 1), pV b10 3, .slice A5 vf1.Counts.length c6, iV (vf1.Counts.length : Int), (j299 2), (j299 3), (j299 4), (j299 5), (j299 6), (j299 7), (j299 8), (j299 9), (j299 10), (j299 11), (j299 12), (j299 13), (j299 14), (j299 15), (j299 16), (j299 17), (j299 18), (j299 19), (j403 0), (j403 1), (j403 2), (j403 3), (j403 4), (j403 5), (j403 6), (j507 1), (j507 2), (j507 3), (j507 4), (j507 5), (j507 6), (j507 7), (j507 8), (j507 9), (j507 10), (j507 11), (j507 12), (j507 13), (j507 14), (j507 15), (j507 16), (j507 17), (j507 18), (j507 19), (j507 20), (j507 21), uV], []⟩) k ⟨f495, none, 0, [], ([] : List Int), 0, (jL []), fL, HS579, (Own.nil _), h, kr⟩ ?_
      clear h
      rintro n502 _ W505 ⟨f503, A509, c510, s511, out508, i514, j507, L504, HS506, HO512, h, rfl⟩ K500 hK501
      obtain _ | n502 := n502
      · exact nomatch h
      simp only [frame_Encode.l3] at h
      refine wp_seq_k (fun K515 hK516 => ?_)
      refine wp_seq_k fun K517 hK518 => rl ?_
      refine seqL5 kr ?_
      refine nl (hK518 _ _ ?_)
      have hq_ := ite_some h; clear h; rcases hq_ with ⟨c520, h⟩ | ⟨c520, h⟩
      · have c520 : (w64 (i514 * 256)) < (body404.length : Int) := c520
        refine wpRwI 65 kr (decide_eq_true c520) ?_
        refine condT kr ?_
        refine wp_skip ?_
        refine hK516 _ _ ?_
        refine wp_seq_k (fun K521 hK522 => ?_)
        refine blockK (fun B523 hx524 hn525 hr526 ho527 hp528 => ?_)
        refine wp_seq_k fun K530 hK531 => rl ?_
        have hq_ := guard_some h; clear h; obtain ⟨c532, h⟩ := hq_
        have c532 : 0 ≤ (w64 (i514 * 256)) := c532
        have hq_ := guard_some h; clear h; obtain ⟨c533, h⟩ := hq_
        have c533 : (w64 (i514 * 256)) ≤ (w64 ((w64 (i514 + 1)) * 256)) := c533
        have hq_ := guard_some h; clear h; obtain ⟨c534, h⟩ := hq_
        have c534 : (w64 ((w64 (i514 + 1)) * 256)) ≤ (body404.length : Int) := c534
        refine seqL6 kr ?_
        refine seqK rfl (does_cutLH (e := (tInt .u8)) (xs := body404) rfl Tryz.underlying30 kr (kv (.slice A405 body404.length c406)) (kv (.int .i64 (w64 (i514 * 256)))) (kv (.int .i64 (w64 ((w64 (i514 + 1)) * 256))))  c532 c533 c534 HR498 ?_)
        intro A535 c536 HR537
        refine seqL1 kr ?_
        refine nl (hK531 _ _ ?_)
        refine rl ?_
        have hq_ := guard_some h; clear h; obtain ⟨c538, h⟩ := hq_
        have c538 : (out508.length + ((body404.take (w64 ((w64 (i514 + 1)) * 256)).toNat).drop (w64 (i514 * 256)).toNat).length) * 1 ≤ 140737488355328 := c538
        refine seqL2 kr ?_
        refine seqK rfl (does_append (e := (tInt .u8)) (E := 5) (xs := out508) (ys := ((body404.take (w64 ((w64 (i514 + 1)) * 256)).toNat).drop (w64 (i514 * 256)).toNat)) rfl (kv (.slice A509 out508.length c510)) (kv (.slice A535 ((body404.take (w64 ((w64 (i514 + 1)) * 256)).toNat).drop (w64 (i514 * 256)).toNat).length c536)) Tryz.underlying30 inf5 HO512 HS506 ((HR537.mono L504).rc HS506) c538 (lim63 c538 (by decide)) ?_)
        intro A539 c540 s541 W542 HS543 HO544
        have hq_ := bind_some h; clear h; obtain ⟨vt545, hc546, h⟩ := hq_
        refine seqL2 kr ?_
        refine seqK rfl (does_call (f := 34) (args := #[.int .i64 i514, .slice A535 ((body404.take (w64 ((w64 (i514 + 1)) * 256)).toNat).drop (w64 (i514 * 256)).toNat).length c536]) kr (frame_seal.calls k A535 c536 i514 ((body404.take (w64 ((w64 (i514 + 1)) * 256)).toNat).drop (w64 (i514 * 256)).toNat) HS543 (HR537.mono L504) vt545 hc546) ?_)
        rintro _ W549 ⟨f547, A551, c552, s553, rfl, L548, HS550, HO554⟩
        refine ⟨_, rfl, ?_⟩
        have hq_ := guard_some h; clear h; obtain ⟨c556, h⟩ := hq_
        have c556 : ((out508 ++ ((body404.take (w64 ((w64 (i514 + 1)) * 256)).toNat).drop (w64 (i514 * 256)).toNat)).length + vt545.length) * 1 ≤ 140737488355328 := c556
        have HS558 := HS550.u1.u1
        refine seqK rfl (does_append1 (e := (tInt .u8)) (E := 5) (xs := (out508 ++ ((body404.take (w64 ((w64 (i514 + 1)) * 256)).toNat).drop (w64 (i514 * 256)).toNat))) (ys := vt545) rfl (kv (.slice A539 (out508 ++ ((body404.take (w64 ((w64 (i514 + 1)) * 256)).toNat).drop (w64 (i514 * 256)).toNat)).length c540)) (kv (.slice A551 vt545.length c552)) Tryz.underlying30 inf5 (HO544.mono L548) HO554 HS558 c556 (lim63 c556 (by decide)) ?_)
        intro A559 c560 s561 W562 HS563 HO564
        refine seqL1 kr ?_
        refine nl ?_
        refine hn525 _ _ ?_
        refine hK522 _ _ ?_
        refine rl ?_
        refine seqL3 kr ?_
        refine nl ?_
        refine hK501 n502 _ _ (Nat.lt_succ_self _) ?_
        exact ⟨f547, A559, c560, s561, ((out508 ++ ((body404.take (w64 ((w64 (i514 + 1)) * 256)).toNat).drop (w64 (i514 * 256)).toNat)) ++ vt545), (w64 (i514 + 1)), (jL [.slice A535 ((body404.take (w64 ((w64 (i514 + 1)) * 256)).toNat).drop (w64 (i514 * 256)).toNat).length c536, iV i514, iV (w64 (i514 * 256)), .slice A405 body404.length c406, iV (body404.length : Int), tV, iV i514, iV (w64 (i514 + 1)), .slice A405 body404.length c406, iV i514, iV (w64 (i514 * 256)), iV i514, iV (w64 (i514 + 1)), iV (w64 ((w64 (i514 + 1)) * 256)), .slice A535 ((body404.take (w64 ((w64 (i514 + 1)) * 256)).toNat).drop (w64 (i514 * 256)).toNat).length c536, .slice A509 out508.length c510, .slice A535 ((body404.take (w64 ((w64 (i514 + 1)) * 256)).toNat).drop (w64 (i514 * 256)).toNat).length c536, .slice A539 (out508 ++ ((body404.take (w64 ((w64 (i514 + 1)) * 256)).toNat).drop (w64 (i514 * 256)).toNat)).length c540, iV i514, .slice A535 ((body404.take (w64 ((w64 (i514 + 1)) * 256)).toNat).drop (w64 (i514 * 256)).toNat).length c536, .slice A551 vt545.length c552, .slice A559 ((out508 ++ ((body404.take (w64 ((w64 (i514 + 1)) * 256)).toNat).drop (w64 (i514 * 256)).toNat)) ++ vt545).length c560]), (L504.trans L548), HS563, HO564, h, kr⟩
      · have c520 : ¬ ((w64 (i514 * 256)) < (body404.length : Int)) := c520
        refine wpRwI 65 kr (decide_eq_false c520) ?_
        refine condF kr ?_
        refine wp_exit ?_
        refine hx419 _ _ ?_
        exact J577 f503 A509 c510 s511 out508 (jL [iV i514, (j507 0), iV i514, iV (w64 (i514 * 256)), .slice A405 body404.length c406, iV (body404.length : Int), fV, (j507 6), (j507 7), (j507 8), (j507 9), (j507 10), (j507 11), (j507 12), (j507 13), (j507 14), (j507 15), (j507 16), (j507 17), (j507 18), (j507 19), (j507 20), (j507 21)]) W505 _ L504 h HS506 HO512 kr
     clear h; have h := hv409; clear hv409
     refine loopK (fun n_ a_ w_ => ∃ (f361 : FM) (A367 : Option Addr) (c368 : Nat) (s369 : Seg) (body366 : List Int) (j365 : Nat → Value), FM.le f295 f361 ∧ St t w_ f361 (s369 :: [(b10, .cells #[.int .i64 vf1.W, .int .i64 vf1.H, .slice A2 vf1.Cards.length c3, .slice A5 vf1.Counts.length c6] 25 (0, 0))] :: H) ∧ Own (tInt .u8) 5 f361 A367 c368 s369 body366 ∧ frame_Encode.l2 k n_ body366 = some o357 ∧ a_ = ⟨#[(ag_Frame vf1 A2 c3 A5 c6), pV b10 0, .slice none 0 0, iV 0, iV vt18, iV size86, uV, (j85 0), .slice A367 body366.length c368, uV, (j299 0), uV, uV, uV, (ag_Frame vf1 A2 c3 A5 c6), iV vt18, iV vt18, fV, uV, pV b10 3, .slice A5 vf1.Counts.length c6, iV (vf1.Counts.length : Int), (j85 1), (j85 2), (j85 3), (j85 4), (j85 5), (j85 6), (j85 7), (ag_Frame vf1 A2 c3 A5 c6), iV size86, .string vt92, (j299 1), pV b10 3, .slice A5 vf1.Counts.length c6, iV (vf1.Counts.length : Int), (j299 2), (j299 3), (j299 4), (j299 5), (j299 6), (j299 7), (j299 8), (j299 9), (j299 10), (j299 11), (j299 12), (j299 13), (j299 14), (j299 15), (j299 16), (j299 17), (j299 18), (j299 19), (j365 0), (j365 1), (j365 2), (j365 3), (j365 4), (j365 5), (j365 6), uV, uV, uV, uV, uV, uV, uV, uV, uV, uV, uV, uV, uV, uV, uV, uV, uV, uV, uV, uV, uV, uV], []⟩) k ⟨f295, A301, c302, s303, body300, (jL []), fL, HS298, HO304, h, kr⟩ ?_
     clear h
     rintro n360 _ W363 ⟨f361, A367, c368, s369, body366, j365, L362, HS364, HO370, h, rfl⟩ K358 hK359
     obtain _ | n360 := n360
     · exact nomatch h
     simp only [frame_Encode.l2] at h
     refine wp_seq_k (fun K371 hK372 => ?_)
     refine wp_seq_k fun K373 hK374 => rl ?_
     refine seqL4 kr ?_
     refine nl (hK374 _ _ ?_)
     have hq_ := ite_some h; clear h; rcases hq_ with ⟨c376, h⟩ | ⟨c376, h⟩
     · have c376 : (Int.tmod (body366.length : Int) 256) ≠ 0 := c376
       refine wpRwI 57 kr (bne_iff_ne.mpr c376) ?_
       refine condT kr ?_
       refine wp_skip ?_
       refine hK372 _ _ ?_
       refine blockK (fun B377 hx378 hn379 hr380 ho381 hp382 => ?_)
       refine rl ?_
       refine seqL1 kr ?_
       refine seqK rfl (does_lit (e := (tInt .u8)) (E := 5) (vs := #[(0, Value.int .u8 0)]) (cs := #[.int .u8 0]) (xs := ([0] : List Int)) rfl Tryz.underlying30 kr kr ⟨[.int .u8 0], _, rfl, rfl, rfl⟩ rfl HS364 ?_ (by decide))
       intro b384 W385 s386 HS387 _ HO388
       have hq_ := guard_some h; clear h; obtain ⟨c390, h⟩ := hq_
       have c390 : (body366.length + 1) * 1 ≤ 140737488355328 := c390
       have HS392 := HS387.u1.u1
       refine seqK rfl (does_append1 (e := (tInt .u8)) (E := 5) (xs := body366) (ys := ([0] : List Int)) rfl (kv (.slice A367 body366.length c368)) (kv (.slice (some ⟨b384, 0, none⟩) ([0] : List Int).length 1)) Tryz.underlying30 inf5 HO370 HO388 HS392 c390 (lim63 c390 (by decide)) ?_)
       intro A393 c394 s395 W396 HS397 HO398
       refine seqL1 kr ?_
       refine nl ?_
       refine hn379 _ _ ?_
       refine hK359 n360 _ _ (Nat.lt_succ_self _) ?_
       exact ⟨f361, A393, c394, s395, (body366 ++ ([0] : List Int)), (jL [.slice A367 body366.length c368, iV (body366.length : Int), iV (Int.tmod (body366.length : Int) 256), tV, .slice A367 body366.length c368, .slice (some ⟨b384, 0, none⟩) ([0] : List Int).length 1, .slice A393 (body366 ++ ([0] : List Int)).length c394]), L362, HS397, HO398, h, kr⟩
     · have c376 : ¬ ((Int.tmod (body366.length : Int) 256) ≠ 0) := c376
       refine wpRwI 57 (x := ((Int.tmod (body366.length : Int) 256) != 0)) (v := false) kr (bne_eq_false_iff_eq.mpr (Decidable.of_not_not c376)) ?_
       refine condF kr ?_
       refine wp_exit ?_
       refine hx311 _ _ ?_
       exact J410 f361 A367 c368 s369 body366 (jL [.slice A367 body366.length c368, iV (body366.length : Int), iV (Int.tmod (body366.length : Int) 256), fV, (j365 4), (j365 5), (j365 6)]) W363 _ L362 h HS364 HO370 kr
    clear h; have h := hv305; clear hv305
    refine loopK (fun n_ a_ w_ => ∃ (f209 : FM) (A215 : Option Addr) (c216 : Nat) (s217 : Seg) (body214 : List Int) (x219 : Int) (j213 : Nat → Value), FM.le f94 f209 ∧ St t w_ f209 (s217 :: [(b10, .cells #[.int .i64 vf1.W, .int .i64 vf1.H, .slice A2 vf1.Cards.length c3, .slice A5 vf1.Counts.length c6] 25 (0, 0))] :: H) ∧ Own (tInt .u8) 5 f209 A215 c216 s217 body214 ∧ frame_Encode.l1 k vf1 size86 n_ body214 x219 = some o205 ∧ a_ = ⟨#[(ag_Frame vf1 A2 c3 A5 c6), pV b10 0, .slice none 0 0, iV 0, iV vt18, iV size86, uV, (j85 0), .slice A215 body214.length c216, uV, (j213 0), uV, uV, uV, (ag_Frame vf1 A2 c3 A5 c6), iV vt18, iV vt18, fV, uV, pV b10 3, .slice A5 vf1.Counts.length c6, iV (vf1.Counts.length : Int), (j85 1), (j85 2), (j85 3), (j85 4), (j85 5), (j85 6), (j85 7), (ag_Frame vf1 A2 c3 A5 c6), iV size86, .string vt92, .slice (some ⟨b99, 0, none⟩) (sby vt92).length c100, pV b10 3, .slice A5 vf1.Counts.length c6, iV (vf1.Counts.length : Int), iV x219, (j213 1), (j213 2), (j213 3), (j213 4), (j213 5), (j213 6), (j213 7), (j213 8), (j213 9), (j213 10), (j213 11), (j213 12), (j213 13), (j213 14), (j213 15), (j213 16), (j213 17), uV, uV, uV, uV, uV, uV, uV, uV, uV, uV, uV, uV, uV, uV, uV, uV, uV, uV, uV, uV, uV, uV, uV, uV, uV, uV, uV, uV, uV], []⟩) k ⟨f94, (some ⟨b99, 0, none⟩), c100, s101, (sby vt92), 0, (jL []), fL, HS103, HO104, h, kr⟩ ?_
    clear h
    rintro n208 _ W211 ⟨f209, A215, c216, s217, body214, x219, j213, L210, HS212, HO218, h, rfl⟩ K206 hK207
    obtain _ | n208 := n208
    · exact nomatch h
    simp only [frame_Encode.l1] at h
    refine wp_seq_k fun K220 hK221 => rl ?_
    refine seqL1 kr ?_
    refine nl (hK221 _ _ ?_)
    refine wp_seq_k (fun K222 hK223 => ?_)
    have hq_ := ite_some h; clear h; rcases hq_ with ⟨c225, h⟩ | ⟨c225, h⟩
    · have c225 : x219 < (vf1.Counts.length : Int) := c225
      refine wpRwI 37 kr (decide_eq_true c225) ?_
      refine condT kr ?_
      refine wp_skip ?_
      refine hK223 _ _ ?_
      refine wp_seq_k (fun K226 hK227 => ?_)
      refine blockK (fun B228 hx229 hn230 hr231 ho232 hp233 => ?_)
      refine wp_seq_k fun K235 hK236 => rl ?_
      have hq_ := guard_some h; clear h; obtain ⟨c237, h⟩ := hq_
      have c237 : 0 ≤ x219 := c237
      obtain ⟨b241, of242, cs238, hA243, hr239, hc240⟩ := (HR7.mono (L21.trans (L82.trans (L95.trans L210)))).at (i := x219) c237 c225
      obtain rfl := hr239
      refine seqK rfl (does_run (run_indexE hA243 (sz := 1) rfl Tryz.underlying22 kr (kv (.slice A5 vf1.Counts.length c6)) (kv (.int .i64 x219)) c237 c225 W211) ?_)
      refine seqK rfl (does_run (run_load rfl Tryz.underlying3 rfl (kv (.pointer (some ⟨b241, of242 + (x219 : Int).toNat * 1, none⟩))) ((hc240 fL HS212) 0 (by decide))) ?_)
      refine seqL1 kr ?_
      refine nl (hK236 _ _ ?_)
      refine wp_seq_k (fun K244 hK245 => ?_)
      refine wp_seq_k fun K246 hK247 => rl ?_
      refine seqL2 kr ?_
      refine nl (hK247 _ _ ?_)
      have hq_ := ite_some h; clear h; rcases hq_ with ⟨c249, h⟩ | ⟨c249, h⟩
      · have c249 : size86 = 2 := c249
        refine wpRwI 41 kr (beq_iff_eq.mpr c249) ?_
        refine condT kr ?_
        refine rl ?_
        refine seqL4 kr ?_
        refine seqK rfl (does_lit (e := (tInt .u8)) (E := 5) (vs := #[(0, Value.int .u8 (u8 (shr (rd vf1.Counts x219) 8)))]) (cs := #[.int .u8 (u8 (shr (rd vf1.Counts x219) 8))]) (xs := ([u8 (shr (rd vf1.Counts x219) 8)] : List Int)) rfl Tryz.underlying30 kr kr ⟨[.int .u8 (u8 (shr (rd vf1.Counts x219) 8))], _, rfl, rfl, rfl⟩ rfl HS212 ?_ (by decide))
        intro b250 W251 s252 HS253 _ HO254
        have hq_ := guard_some h; clear h; obtain ⟨c256, h⟩ := hq_
        have c256 : (body214.length + 1) * 1 ≤ 140737488355328 := c256
        have HS258 := HS253.u1.u1
        refine seqK rfl (does_append1 (e := (tInt .u8)) (E := 5) (xs := body214) (ys := ([u8 (shr (rd vf1.Counts x219) 8)] : List Int)) rfl (kv (.slice A215 body214.length c216)) (kv (.slice (some ⟨b250, 0, none⟩) ([u8 (shr (rd vf1.Counts x219) 8)] : List Int).length 1)) Tryz.underlying30 inf5 HO218 HO254 HS258 c256 (lim63 c256 (by decide)) ?_)
        intro A259 c260 s261 W262 HS263 HO264
        refine seqL1 kr ?_
        refine nl (hK245 _ _ ?_)
        refine rl ?_
        refine seqL3 kr ?_
        refine seqK rfl (does_lit (e := (tInt .u8)) (E := 5) (vs := #[(0, Value.int .u8 (u8 ((rd vf1.Counts x219))))]) (cs := #[.int .u8 (u8 ((rd vf1.Counts x219)))]) (xs := ([u8 ((rd vf1.Counts x219))] : List Int)) rfl Tryz.underlying30 kr kr ⟨[.int .u8 (u8 ((rd vf1.Counts x219)))], _, rfl, rfl, rfl⟩ rfl HS263 ?_ (by decide))
        intro b265 W266 s267 HS268 _ HO269
        have hq_ := guard_some h; clear h; obtain ⟨c271, h⟩ := hq_
        have c271 : ((body214 ++ ([u8 (shr (rd vf1.Counts x219) 8)] : List Int)).length + 1) * 1 ≤ 140737488355328 := c271
        have HS273 := HS268.u1.u1
        refine seqK rfl (does_append1 (e := (tInt .u8)) (E := 5) (xs := (body214 ++ ([u8 (shr (rd vf1.Counts x219) 8)] : List Int))) (ys := ([u8 ((rd vf1.Counts x219))] : List Int)) rfl (kv (.slice A259 (body214 ++ ([u8 (shr (rd vf1.Counts x219) 8)] : List Int)).length c260)) (kv (.slice (some ⟨b265, 0, none⟩) ([u8 ((rd vf1.Counts x219))] : List Int).length 1)) Tryz.underlying30 inf5 HO264 HO269 HS273 c271 (lim63 c271 (by decide)) ?_)
        intro A274 c275 s276 W277 HS278 HO279
        refine seqL1 kr ?_
        refine nl ?_
        refine hn230 _ _ ?_
        refine hK227 _ _ ?_
        refine rl ?_
        refine seqL2 kr ?_
        refine nl ?_
        refine hK207 n208 _ _ (Nat.lt_succ_self _) ?_
        exact ⟨f209, A274, c275, s276, ((body214 ++ ([u8 (shr (rd vf1.Counts x219) 8)] : List Int)) ++ ([u8 ((rd vf1.Counts x219))] : List Int)), (w64 (x219 + 1)), (jL [iV (rd vf1.Counts x219), tV, .pointer (some ⟨b241, of242 + (x219 : Int).toNat * 1, none⟩), iV (rd vf1.Counts x219), iV size86, tV, .slice A215 body214.length c216, iV (rd vf1.Counts x219), iV (shr (rd vf1.Counts x219) 8), .int .u8 (u8 (shr (rd vf1.Counts x219) 8)), .slice (some ⟨b250, 0, none⟩) ([u8 (shr (rd vf1.Counts x219) 8)] : List Int).length 1, .slice A259 (body214 ++ ([u8 (shr (rd vf1.Counts x219) 8)] : List Int)).length c260, .slice A259 (body214 ++ ([u8 (shr (rd vf1.Counts x219) 8)] : List Int)).length c260, iV (rd vf1.Counts x219), .int .u8 (u8 ((rd vf1.Counts x219))), .slice (some ⟨b265, 0, none⟩) ([u8 ((rd vf1.Counts x219))] : List Int).length 1, .slice A274 ((body214 ++ ([u8 (shr (rd vf1.Counts x219) 8)] : List Int)) ++ ([u8 ((rd vf1.Counts x219))] : List Int)).length c275, iV (w64 (x219 + 1))]), L210, HS278, HO279, h, kr⟩
      · have c249 : ¬ (size86 = 2) := c249
        refine wpRwI 41 kr (beq_eq_false_iff_ne.mpr c249) ?_
        refine condF kr ?_
        refine wp_skip ?_
        refine hK245 _ _ ?_
        refine rl ?_
        refine seqL3 kr ?_
        refine seqK rfl (does_lit (e := (tInt .u8)) (E := 5) (vs := #[(0, Value.int .u8 (u8 ((rd vf1.Counts x219))))]) (cs := #[.int .u8 (u8 ((rd vf1.Counts x219)))]) (xs := ([u8 ((rd vf1.Counts x219))] : List Int)) rfl Tryz.underlying30 kr kr ⟨[.int .u8 (u8 ((rd vf1.Counts x219)))], _, rfl, rfl, rfl⟩ rfl HS212 ?_ (by decide))
        intro b280 W281 s282 HS283 _ HO284
        have hq_ := guard_some h; clear h; obtain ⟨c286, h⟩ := hq_
        have c286 : (body214.length + 1) * 1 ≤ 140737488355328 := c286
        have HS288 := HS283.u1.u1
        refine seqK rfl (does_append1 (e := (tInt .u8)) (E := 5) (xs := body214) (ys := ([u8 ((rd vf1.Counts x219))] : List Int)) rfl (kv (.slice A215 body214.length c216)) (kv (.slice (some ⟨b280, 0, none⟩) ([u8 ((rd vf1.Counts x219))] : List Int).length 1)) Tryz.underlying30 inf5 HO218 HO284 HS288 c286 (lim63 c286 (by decide)) ?_)
        intro A289 c290 s291 W292 HS293 HO294
        refine seqL1 kr ?_
        refine nl ?_
        refine hn230 _ _ ?_
        refine hK227 _ _ ?_
        refine rl ?_
        refine seqL2 kr ?_
        refine nl ?_
        refine hK207 n208 _ _ (Nat.lt_succ_self _) ?_
        exact ⟨f209, A289, c290, s291, (body214 ++ ([u8 ((rd vf1.Counts x219))] : List Int)), (w64 (x219 + 1)), (jL [iV (rd vf1.Counts x219), tV, .pointer (some ⟨b241, of242 + (x219 : Int).toNat * 1, none⟩), iV (rd vf1.Counts x219), iV size86, fV, (j213 6), (j213 7), (j213 8), (j213 9), (j213 10), (j213 11), .slice A215 body214.length c216, iV (rd vf1.Counts x219), .int .u8 (u8 ((rd vf1.Counts x219))), .slice (some ⟨b280, 0, none⟩) ([u8 ((rd vf1.Counts x219))] : List Int).length 1, .slice A289 (body214 ++ ([u8 ((rd vf1.Counts x219))] : List Int)).length c290, iV (w64 (x219 + 1))]), L210, HS293, HO294, h, kr⟩
    · have c225 : ¬ (x219 < (vf1.Counts.length : Int)) := c225
      refine wpRwI 37 kr (decide_eq_false c225) ?_
      refine condF kr ?_
      refine wp_exit ?_
      refine hx111 _ _ ?_
      exact J306 f209 A215 c216 s217 body214 (jL [(j213 0), .slice (some ⟨b99, 0, none⟩) (sby vt92).length c100, iV x219, fV, (j213 2), (j213 3), (j213 4), (j213 5), (j213 6), (j213 7), (j213 8), (j213 9), (j213 10), (j213 11), (j213 12), (j213 13), (j213 14), (j213 15), (j213 16), (j213 17)]) W211 _ L210 h HS212 HO218 kr
   clear h; have h := hv87; clear hv87
   refine loopK (fun n_ a_ w_ => ∃ (f46 : FM) (size51 : Int) (x52 : Int) (j50 : Nat → Value), FM.le f20 f46 ∧ St t w_ f46 ([(b10, .cells #[.int .i64 vf1.W, .int .i64 vf1.H, .slice A2 vf1.Cards.length c3, .slice A5 vf1.Counts.length c6] 25 (0, 0))] :: H) ∧ frame_Encode.l0 k vf1 n_ size51 x52 = some o42 ∧ a_ = ⟨#[(ag_Frame vf1 A2 c3 A5 c6), pV b10 0, .slice none 0 0, iV 0, iV vt18, iV size51, uV, (j50 0), uV, uV, uV, uV, uV, uV, (ag_Frame vf1 A2 c3 A5 c6), iV vt18, iV vt18, fV, uV, pV b10 3, .slice A5 vf1.Counts.length c6, iV (vf1.Counts.length : Int), iV x52, (j50 1), (j50 2), (j50 3), (j50 4), (j50 5), (j50 6), uV, uV, uV, uV, uV, uV, uV, uV, uV, uV, uV, uV, uV, uV, uV, uV, uV, uV, uV, uV, uV, uV, uV, uV, uV, uV, uV, uV, uV, uV, uV, uV, uV, uV, uV, uV, uV, uV, uV, uV, uV, uV, uV, uV, uV, uV, uV, uV, uV, uV, uV, uV, uV, uV], []⟩) k ⟨f20, 1, 0, (jL []), fL, HS23, h, kr⟩ ?_
   clear h
   rintro n45 _ W48 ⟨f46, size51, x52, j50, L47, HS49, h, rfl⟩ K43 hK44
   obtain _ | n45 := n45
   · exact nomatch h
   simp only [frame_Encode.l0] at h
   refine wp_seq_k fun K53 hK54 => rl ?_
   refine seqL1 kr ?_
   refine nl (hK54 _ _ ?_)
   refine wp_seq_k (fun K55 hK56 => ?_)
   have hq_ := ite_some h; clear h; rcases hq_ with ⟨c58, h⟩ | ⟨c58, h⟩
   · have c58 : x52 < (vf1.Counts.length : Int) := c58
     refine wpRwI 23 kr (decide_eq_true c58) ?_
     refine condT kr ?_
     refine wp_skip ?_
     refine hK56 _ _ ?_
     refine wp_seq_k (fun K59 hK60 => ?_)
     refine blockK (fun B61 hx62 hn63 hr64 ho65 hp66 => ?_)
     refine wp_seq_k fun K68 hK69 => rl ?_
     have hq_ := guard_some h; clear h; obtain ⟨c70, h⟩ := hq_
     have c70 : 0 ≤ x52 := c70
     obtain ⟨b74, of75, cs71, hA76, hr72, hc73⟩ := (HR7.mono (L21.trans L47)).at (i := x52) c70 c58
     obtain rfl := hr72
     refine seqK rfl (does_run (run_indexE hA76 (sz := 1) rfl Tryz.underlying22 kr (kv (.slice A5 vf1.Counts.length c6)) (kv (.int .i64 x52)) c70 c58 W48) ?_)
     refine seqK rfl (does_run (run_load rfl Tryz.underlying3 rfl (kv (.pointer (some ⟨b74, of75 + (x52 : Int).toNat * 1, none⟩))) ((hc73 fL HS49) 0 (by decide))) ?_)
     refine seqL1 kr ?_
     refine nl (hK69 _ _ ?_)
     refine wp_seq_k fun K77 hK78 => rl ?_
     refine seqL2 kr ?_
     refine nl (hK78 _ _ ?_)
     have hq_ := ite_some h; clear h; rcases hq_ with ⟨c80, h⟩ | ⟨c80, h⟩
     · have c80 : (rd vf1.Counts x52) > 255 := c80
       refine wpRwI 27 kr (decide_eq_true c80) ?_
       refine condT kr ?_
       refine rl ?_
       refine seqL1 kr ?_
       refine nl ?_
       refine hn63 _ _ ?_
       refine hK60 _ _ ?_
       refine rl ?_
       refine seqL2 kr ?_
       refine nl ?_
       refine hK44 n45 _ _ (Nat.lt_succ_self _) ?_
       exact ⟨f46, 2, (w64 (x52 + 1)), (jL [iV (rd vf1.Counts x52), tV, .pointer (some ⟨b74, of75 + (x52 : Int).toNat * 1, none⟩), iV (rd vf1.Counts x52), iV (rd vf1.Counts x52), tV, iV (w64 (x52 + 1))]), L47, HS49, h, kr⟩
     · have c80 : ¬ ((rd vf1.Counts x52) > 255) := c80
       refine wpRwI 27 kr (decide_eq_false c80) ?_
       refine condF kr ?_
       refine wp_skip ?_
       refine hn63 _ _ ?_
       refine hK60 _ _ ?_
       refine rl ?_
       refine seqL2 kr ?_
       refine nl ?_
       refine hK44 n45 _ _ (Nat.lt_succ_self _) ?_
       exact ⟨f46, size51, (w64 (x52 + 1)), (jL [iV (rd vf1.Counts x52), tV, .pointer (some ⟨b74, of75 + (x52 : Int).toNat * 1, none⟩), iV (rd vf1.Counts x52), iV (rd vf1.Counts x52), fV, iV (w64 (x52 + 1))]), L47, HS49, h, kr⟩
   · have c58 : ¬ (x52 < (vf1.Counts.length : Int)) := c58
     refine wpRwI 23 kr (decide_eq_false c58) ?_
     refine condF kr ?_
     refine wp_exit ?_
     refine hx37 _ _ ?_
     exact J88 f46 size51 (jL [(j50 0), iV x52, fV, (j50 2), (j50 3), (j50 4), (j50 5), (j50 6)]) W48 _ L47 h HS49 kr

set_option maxRecDepth 100000 in
set_option maxHeartbeats 4000000 in
theorem frame_Check_2.calls (k : Nat) (A2 : Option Addr) (c3 : Nat) (vf1 : S_Frame) {t w : World} {f : FM} {H : List Seg} (HS : St t w f (H)) (HR4 : SlR (tInt .i64) f A2 c3 vf1.Counts) (rr1 : Int) (h : frame_Check_2 k vf1 = some rr1) :
    Calls Tryz.prog 15 #[.agg #[.int .i64 vf1.W, .int .i64 vf1.H, .slice none 0 0, .slice A2 vf1.Counts.length c3]] w (fun e w' => ∃ (g : FM), e = .returned (Value.int .i64 rr1) ∧ FM.le f g ∧ St t w' g (H)) := by
 unfold frame_Check_2 at h
 refine enter Tryz.func15 rfl (tm := #[.agg #[iV vf1.W, iV vf1.H, .slice none 0 0, .slice A2 vf1.Counts.length c3], uV, uV, uV, uV, uV, uV, uV, uV, uV, uV, uV, uV, uV, uV, uV, uV, uV, uV, uV, uV, uV, uV, uV, uV, uV, uV, uV, uV, uV, uV, uV, uV, uV, uV, uV, uV, uV, uV, uV, uV, uV, uV, uV, uV, uV, uV, uV, uV, uV, uV, uV, uV, uV, uV, uV, uV, uV, uV, uV, uV, uV]) kr ?_
 intro B hret hnor hnp
 refine wp_seq_k fun K5 hK6 => rl ?_
 refine seqK rfl (does_box (cs := #[.int .i64 vf1.W, .int .i64 vf1.H, .slice none 0 0, .slice A2 vf1.Counts.length c3]) rfl (kv (.agg #[.int .i64 vf1.W, .int .i64 vf1.H, .slice none 0 0, .slice A2 vf1.Counts.length c3])) rfl HS ?_)
 intro b7 W8 HS9
 refine seqL1 kr ?_
 refine nl (hK6 _ _ ?_)
 refine wp_seq_k (fun K11 hK12 => ?_)
 refine blockK (fun B13 hx14 hn15 hr16 ho17 hp18 => ?_)
 refine wp_seq_k fun K20 hK21 => rl ?_
 refine seqL1 kr ?_
 refine seqK rfl (does_run (run_load rfl Tryz.underlying3 rfl (kv (.pointer (some ⟨b7, 0, none⟩))) (HS9.cell 0)) ?_)
 refine seqL1 kr ?_
 refine seqK rfl (does_run (run_load rfl Tryz.underlying3 rfl (kv (.pointer (some ⟨b7, 1, none⟩))) (HS9.cell 1)) ?_)
 refine seqL3 kr ?_
 have hq_ := ite_some h; clear h; rcases hq_ with ⟨c22, h⟩ | ⟨c22, h⟩
 · have c22 : (mn vf1.W vf1.H) < 1 := c22
   refine seqRwI 12 kr (decide_eq_true c22) ?_
   refine seqRwI 13 kr (decide_eq_true c22) ?_
   refine seqL8 kr ?_
   refine nl (hK21 _ _ ?_)
   refine condT kr ?_
   refine wp_seq_k fun K23 hK24 => rl ?_
   refine seqL1 kr ?_
   refine nl (hK24 _ _ ?_)
   refine wp_ret ?_
   refine hr16 _ _ ?_
   refine hret _ _ ?_
   refine ends_still (v := Value.int .i64 4) kr kr ?_
   have HS66 := HS9.drop
   injection h with h
   subst h
   exact ⟨f, rfl, FM.le.refl _, HS66⟩
 · have c22 : ¬ ((mn vf1.W vf1.H) < 1) := c22
   refine seqRwI 12 kr (decide_eq_false c22) ?_
   refine seqRwI 13 kr (decide_eq_false c22) ?_
   refine seqL1 kr ?_
   refine seqG kr (does_run (run_load rfl Tryz.underlying3 rfl (kv (.pointer (some ⟨b7, 0, none⟩))) (HS9.cell 0)) ?_)
   refine seqL1 kr ?_
   refine seqG kr (does_run (run_load rfl Tryz.underlying3 rfl (kv (.pointer (some ⟨b7, 1, none⟩))) (HS9.cell 1)) ?_)
   refine seqL4 kr ?_
   refine nl (hK21 _ _ ?_)
   have hq_ := ite_some h; clear h; rcases hq_ with ⟨c26, h⟩ | ⟨c26, h⟩
   · have c26 : (mx vf1.W vf1.H) > 32 := c26
     refine wpRwI 6 kr (decide_eq_true c26) ?_
     refine wpRwI 19 kr (decide_eq_true c26) ?_
     refine wpRwI 20 kr (decide_eq_true c26) ?_
     refine condT kr ?_
     refine wp_seq_k fun K27 hK28 => rl ?_
     refine seqL1 kr ?_
     refine nl (hK28 _ _ ?_)
     refine wp_ret ?_
     refine hr16 _ _ ?_
     refine hret _ _ ?_
     refine ends_still (v := Value.int .i64 4) kr kr ?_
     have HS67 := HS9.drop
     injection h with h
     subst h
     exact ⟨f, rfl, FM.le.refl _, HS67⟩
   · have c26 : ¬ ((mx vf1.W vf1.H) > 32) := c26
     refine wpRwI 6 kr (decide_eq_false c26) ?_
     refine wpRwI 19 kr (decide_eq_false c26) ?_
     refine wpRwI 20 kr (decide_eq_false c26) ?_
     refine condF kr ?_
     refine wp_seq_k fun K29 hK30 => rl ?_
     refine seqL1 kr ?_
     refine seqK rfl (does_run (run_load rfl Tryz.underlying22 rfl (kv (.pointer (some ⟨b7, 3, none⟩))) (HS9.cell 3)) ?_)
     refine seqL2 kr ?_
     refine seqK rfl (does_run (run_load rfl Tryz.underlying3 rfl (kv (.pointer (some ⟨b7, 0, none⟩))) (HS9.cell 0)) ?_)
     refine seqL1 kr ?_
     refine seqK rfl (does_run (run_load rfl Tryz.underlying3 rfl (kv (.pointer (some ⟨b7, 1, none⟩))) (HS9.cell 1)) ?_)
     refine seqL3 kr ?_
     refine nl (hK30 _ _ ?_)
     have hq_ := ite_some h; clear h; rcases hq_ with ⟨c32, h⟩ | ⟨c32, h⟩
     · have c32 : (vf1.Counts.length : Int) ≠ (w64 (vf1.W * vf1.H)) := c32
       refine wpRwI 21 kr (bne_iff_ne.mpr c32) ?_
       refine wpRwI 30 kr (bne_iff_ne.mpr c32) ?_
       refine condT kr ?_
       refine wp_seq_k fun K33 hK34 => rl ?_
       refine seqL1 kr ?_
       refine nl (hK34 _ _ ?_)
       refine wp_ret ?_
       refine hr16 _ _ ?_
       refine hret _ _ ?_
       refine ends_still (v := Value.int .i64 3) kr kr ?_
       have HS68 := HS9.drop
       injection h with h
       subst h
       exact ⟨f, rfl, FM.le.refl _, HS68⟩
     · have c32 : ¬ ((vf1.Counts.length : Int) ≠ (w64 (vf1.W * vf1.H))) := c32
       refine wpRwI 21 (x := ((vf1.Counts.length : Int) != (w64 (vf1.W * vf1.H)))) (v := false) kr (bne_eq_false_iff_eq.mpr (Decidable.of_not_not c32)) ?_
       refine wpRwI 30 (x := ((vf1.Counts.length : Int) != (w64 (vf1.W * vf1.H)))) (v := false) kr (bne_eq_false_iff_eq.mpr (Decidable.of_not_not c32)) ?_
       refine condF kr ?_
       refine wp_seq_k fun K35 hK36 => rl ?_
       refine seqL1 kr ?_
       refine seqK rfl (does_run (run_load rfl Tryz.underlying22 rfl (kv (.pointer (some ⟨b7, 3, none⟩))) (HS9.cell 3)) ?_)
       have hq_ := bind_some h; clear h; obtain ⟨vt37, hc38, h⟩ := hq_
       refine seqK rfl (does_call (f := 21) (args := #[.slice A2 vf1.Counts.length c3, .func (.func 30) #[] #[]]) kr (slices_ContainsFunc_int__frame_Check_1.calls k A2 c3 vf1.Counts HS9 HR4 vt37 hc38) ?_)
       rintro _ W41 ⟨f39, rfl, L40, HS42⟩
       refine ⟨_, rfl, ?_⟩
       refine seqL1 kr ?_
       refine nl (hK36 _ _ ?_)
       have hq_ := ite_some h; clear h; rcases hq_ with ⟨c44, h⟩ | ⟨c44, h⟩
       · have c44 : vt37 = true := c44
         refine wpRwI 31 kr c44 ?_
         refine wpRwI 34 kr c44 ?_
         refine condT kr ?_
         refine wp_seq_k fun K45 hK46 => rl ?_
         refine seqL1 kr ?_
         refine nl (hK46 _ _ ?_)
         refine wp_ret ?_
         refine hr16 _ _ ?_
         refine hret _ _ ?_
         refine ends_still (v := Value.int .i64 4) kr kr ?_
         have HS69 := HS42.drop
         injection h with h
         subst h
         exact ⟨f39, rfl, L40, HS69⟩
       · have c44 : ¬ (vt37 = true) := c44
         refine wpRwI 31 kr (Bool.eq_false_iff.mpr c44) ?_
         refine wpRwI 34 kr (Bool.eq_false_iff.mpr c44) ?_
         refine condF kr ?_
         refine wp_seq_k fun K47 hK48 => rl ?_
         refine seqL1 kr ?_
         refine seqK rfl (does_run (run_load rfl Tryz.underlying23 rfl (kv (.pointer (some ⟨b7, 2, none⟩))) (HS42.cell 2)) ?_)
         refine seqL3 kr ?_
         refine nl (hK48 _ _ ?_)
         refine condF kr ?_
         refine wp_skip ?_
         refine hn15 _ _ ?_
         refine hK12 _ _ ?_
         refine wp_seq_k (fun K49 hK50 => ?_)
         refine wp_seq_k fun K51 hK52 => rl ?_
         refine seqL1 kr ?_
         refine seqK rfl (does_run (run_load rfl Tryz.underlying23 rfl (kv (.pointer (some ⟨b7, 2, none⟩))) (HS42.cell 2)) ?_)
         refine seqL2 kr ?_
         refine nl (hK52 _ _ ?_)
         refine blockK (fun B53 hx54 hn55 hr56 ho57 hp58 => ?_)
         refine onceK ?_
         refine wp_seq_k fun K60 hK61 => rl ?_
         refine seqL1 kr ?_
         refine nl (hK61 _ _ ?_)
         refine wp_seq_k (fun K62 hK63 => ?_)
         refine condF kr ?_
         refine wp_exit ?_
         refine hx54 _ _ ?_
         refine hK50 _ _ ?_
         refine wp_seq_k fun K64 hK65 => rl ?_
         refine seqL1 kr ?_
         refine nl (hK65 _ _ ?_)
         refine wp_ret ?_
         refine hret _ _ ?_
         refine ends_still (v := Value.int .i64 0) kr kr ?_
         have HS70 := HS42.drop
         injection h with h
         subst h
         exact ⟨f39, rfl, L40, HS70⟩

set_option maxRecDepth 100000 in
set_option maxHeartbeats 4000000 in
theorem slices_Chunk_int.calls (k : Nat) (A2 : Option Addr) (c3 : Nat) (s1 : List Int) (n5 : Int) {t w : World} {f : FM} {H : List Seg} (HS : St t w f (H)) (HR4 : SlR (tInt .i64) f A2 c3 s1) (rr1 : List Int) (rr2 : Int) (h : slices_Chunk_int k s1 n5 = some (rr1, rr2)) :
    Calls Tryz.prog 35 #[.slice A2 s1.length c3, .int .i64 n5] w (fun e w' => ∃ (g : FM) (b33 : Nat) (A34 : Option Addr) (c35 : Nat) (b36 : Nat), e = .returned (Value.func (.func 66) #[] #[.pointer (some ⟨b33, 0, none⟩), .pointer (some ⟨b36, 0, none⟩)]) ∧ FM.le f g ∧ St t w' g (H) ∧ g b33 = some (.cells #[.slice A34 rr1.length c35] 22 (0, 0)) ∧ SlR (tInt .i64) g A34 c35 rr1 ∧ g b36 = some (.cells #[.int .i64 rr2] 3 (0, 0))) := by
 unfold slices_Chunk_int at h
 refine enter Tryz.func35 rfl (tm := #[.slice A2 s1.length c3, iV n5, uV, uV, uV, uV, uV, uV, uV]) kr ?_
 intro B hret hnor hnp
 refine wp_seq_k fun K6 hK7 => rl ?_
 refine seqK rfl (does_box (cs := #[.slice A2 s1.length c3]) rfl (kv (.slice A2 s1.length c3)) rfl HS ?_)
 intro b8 W9 HS10
 refine seqK rfl (does_box (cs := #[.int .i64 n5]) rfl (kv (.int .i64 n5)) rfl HS10 ?_)
 intro b12 W13 HS14
 refine seqL1 kr ?_
 refine nl (hK7 _ _ ?_)
 refine wp_seq_k (fun K16 hK17 => ?_)
 refine wp_seq_k fun K18 hK19 => rl ?_
 refine seqK rfl (does_run (run_load rfl Tryz.underlying3 rfl (kv (.pointer (some ⟨b12, 0, none⟩))) (HS14.cell 0)) ?_)
 refine seqL1 kr ?_
 refine nl (hK19 _ _ ?_)
 have hq_ := ite_some h; clear h; rcases hq_ with ⟨c21, h⟩ | ⟨c21, h⟩
 · have c21 : n5 < 1 := c21
   refine wpRwI 6 kr (decide_eq_true c21) ?_
   refine condT kr ?_
   exact nomatch h
 · have c21 : ¬ (n5 < 1) := c21
   refine wpRwI 6 kr (decide_eq_false c21) ?_
   refine condF kr ?_
   refine wp_skip ?_
   refine hK17 _ _ ?_
   refine wp_seq_k fun K22 hK23 => rl ?_
   refine seqL2 kr ?_
   refine nl (hK23 _ _ ?_)
   refine wp_ret ?_
   refine hret _ _ ?_
   have HS24 := HS14.u1
   obtain ⟨f25, L26, HS27, HF28⟩ := HS24.freezeB
   obtain ⟨f29, L30, HS31, HF32⟩ := HS27.freezeB
   refine ends_still (v := Value.func (.func 66) #[] #[.pointer (some ⟨b8, 0, none⟩), .pointer (some ⟨b12, 0, none⟩)]) kr kr ?_
   injection h with h
   injection h with h0_ h
   subst h0_ h
   exact ⟨f29, b8, A2, c3, b12, rfl, (L26.trans L30), HS31, (L30 _ _ HF28), (HR4.mono (L26.trans L30)), HF32⟩

set_option maxRecDepth 100000 in
set_option maxHeartbeats 4000000 in
theorem slices_Chunk_int_1.iter (k : Nat) (b1 : Nat) (A3 : Option Addr) (c4 : Nat) (b7 : Nat) (x2 : List Int) (x8 : Int) {f : FM} (HR5 : SlR (tInt .i64) f A3 c4 x2) (HF6 : f b1 = some (.cells #[.slice A3 x2.length c4] 22 (0, 0))) (HF9 : f b7 = some (.cells #[.int .i64 x8] 3 (0, 0))) (xs : List (List Int)) (h : slices_Chunk_int_1 k x2 x8 = some xs) :
    Iter Tryz.prog 66 #[Value.pointer (some ⟨b1, 0, none⟩), Value.pointer (some ⟨b7, 0, none⟩)] (fun (g_ : FM) (x_ : (List Int)) vs_ => ∃ (A_0 : Option Addr) (c_0 : Nat), vs_ = #[Value.slice A_0 x_.length c_0] ∧ SlR (tInt .i64) g_ A_0 c_0 x_) xs f := by
 unfold slices_Chunk_int_1 at h
 obtain ⟨v_, hX, hv_⟩ : ∃ v_, xs = [] ++ v_ ∧ xs = v_ := ⟨xs, rfl, rfl⟩
 rw [hv_] at h
 intro l t w g0 H KJ KX hl0 hKJ HS hmJ hmX hY
 refine enterI Tryz.func66 rfl (tm := #[.func (.yield l) #[] #[], pV b1 0, pV b7 0, uV, uV, uV, uV, uV, uV, uV, uV, uV, uV, uV, uV, uV, uV, uV, uV, uV, uV, uV, uV, uV, uV, uV, uV, uV, uV, uV, uV]) kr ?_
 intro B hret hnor hnp
 refine Rwp_seq_k (fun K10 hK11 => ?_)
 refine Rwp_region_lit kr ?_
 refine seqL1 kr ?_
 refine RwpList_nil ?_
 refine hK11 _ _ ?_
 refine RblockK (fun B12 hx13 hn14 hr15 ho16 hp17 => ?_)
 refine RloopK (fun n_ a_ w_ => ∃ (f22 : FM) (i27 : Int) (j26 : Nat → Value) (H : List Seg) (pre_ v_ : List _), FM.le g0 f22 ∧ St t w_ f22 (H) ∧ slices_Chunk_int_1.l0 k x2 x8 n_ i27 = some v_ ∧ xs = pre_ ++ v_ ∧ KJ pre_ f22 H ∧ a_ = ⟨#[.func (.yield l) #[] #[], pV b1 0, pV b7 0, uV, iV i27, (j26 0), (j26 1), (j26 2), (j26 3), (j26 4), (j26 5), (j26 6), (j26 7), (j26 8), (j26 9), (j26 10), (j26 11), (j26 12), (j26 13), (j26 14), (j26 15), (j26 16), (j26 17), (j26 18), (j26 19), (j26 20), (j26 21), (j26 22), (j26 23), (j26 24), (j26 25)], []⟩) k ⟨g0, 0, (jL []), H, [], v_, fL, HS, h, hX, hKJ, kr⟩ ?_
 clear h
 rintro n21 _ W24 ⟨f22, i27, j26, H, pre28, v29, L23, HS25, h, hX30, hK31, rfl⟩ K19 hK20
 obtain _ | n21 := n21
 · exact nomatch h
 simp only [slices_Chunk_int_1.l0] at h
 refine Rwp_seq_k (fun K32 hK33 => ?_)
 refine Rwp_seq_k (fun K34 hK35 => ?_)
 refine Rwp_region_lit kr ?_
 refine seqL1 kr ?_
 refine seqK rfl (does_run (run_load rfl Tryz.underlying22 rfl (kv (.pointer (some ⟨b1, 0, none⟩))) (HS25.fcell HF6 (hl0.trans L23) 0)) ?_)
 refine seqL2 kr ?_
 refine RwpList_nil ?_
 refine hK35 _ _ ?_
 have hq_ := ite_some h; clear h; rcases hq_ with ⟨c37, h⟩ | ⟨c37, h⟩
 · have c37 : i27 < (x2.length : Int) := c37
   refine RwpRwI 9 kr (decide_eq_true c37) ?_
   refine RcondT kr ?_
   refine Rwp_skip ?_
   refine hK33 _ _ ?_
   refine Rwp_seq_k (fun K38 hK39 => ?_)
   refine RblockK (fun B40 hx41 hn42 hr43 ho44 hp45 => ?_)
   refine Rwp_seq_k (fun K47 hK48 => ?_)
   refine RheldG kr (S := Sg t f22 (H) []) (n := 7) kr rfl HS25 ?_
   intro W49 HS50
   refine takeGQ 0 [] rfl kr kr kr kr kr kr (fun ch_ a_ w_ q_ => (fun ch_ a_ w_ q_ => hnp ch_ a_ w_ (hp17 ch_ a_ w_ q_)) ch_ a_ w_ (hp45 ch_ a_ w_ q_)) (Sg.g0 (Sx.of [] fL HS50)) (fun w_ hw_ => by obtain ⟨g_, hl_, hS_⟩ := hw_.st; exact run_load rfl Tryz.underlying3 rfl (kv (.pointer (some ⟨b7, 0, none⟩))) (hS_.fcell HF9 ((hl0.trans L23).trans hl_) 0)) ?_
   refine takeGQ 1 [] rfl kr kr kr kr kr kr (fun ch_ a_ w_ q_ => (fun ch_ a_ w_ q_ => hnp ch_ a_ w_ (hp17 ch_ a_ w_ q_)) ch_ a_ w_ (hp45 ch_ a_ w_ q_)) (Sg.g0 (Sx.of [] fL HS50)) (fun w_ hw_ => by obtain ⟨g_, hl_, hS_⟩ := hw_.st; exact run_load rfl Tryz.underlying22 rfl (kv (.pointer (some ⟨b1, 0, none⟩))) (hS_.fcell HF6 ((hl0.trans L23).trans hl_) 0)) ?_
   have hq_ := guard_some h; clear h; obtain ⟨c51, h⟩ := hq_
   have c51 : 0 ≤ i27 := c51
   have hq_ := guard_some h; clear h; obtain ⟨c52, h⟩ := hq_
   have c52 : i27 ≤ (x2.length : Int) := c52
   refine takeGL [2] (n := 5) (fuel := 4) #[true, true, true, false, false, false, false] rfl kr kr kr (fun ch_ a_ w_ q_ => (fun ch_ a_ w_ q_ => hnp ch_ a_ w_ (hp17 ch_ a_ w_ q_)) ch_ a_ w_ (hp45 ch_ a_ w_ q_)) (Sg.g0 (Sx.of [] fL HS50)) ?_
   refine takeGE 3 kr rfl kr (does_cutL (e := (tInt .i64)) (xs := x2) rfl Tryz.underlying22 kr (kv (.slice A3 x2.length c4)) (kv (.int .i64 i27)) c51 c52 HR5 ?_)
   intro A53 c54 HR55
   refine ⟨(Sg.g0 (Sx.of [] fL HS50)), ?_⟩
   refine takeGL [4, 5, 6] (n := 3) (fuel := 0) #[true, true, true, true, true, true, true] rfl kr kr kr (fun ch_ a_ w_ q_ => (fun ch_ a_ w_ q_ => hnp ch_ a_ w_ (hp17 ch_ a_ w_ q_)) ch_ a_ w_ (hp45 ch_ a_ w_ q_)) (Sg.g0 (Sx.of [] fL HS50)) ?_
   refine RdoneG kr ?_ _
   refine hK48 _ _ ?_
   refine Rwp_seq_k (fun K56 hK57 => ?_)
   refine RregionY 10 kr ?_
   refine seqL1 kr ?_
   refine seqK rfl (does_run (run_load rfl Tryz.underlying22 rfl (kv (.pointer (some ⟨b1, 0, none⟩))) (HS50.fcell HF6 (hl0.trans L23) 0)) ?_)
   have hq_ := guard_some h; clear h; obtain ⟨c58, h⟩ := hq_
   have c58 : i27 ≤ (w64 (i27 + (mn x8 ((x2.drop (i27).toNat).length : Int)))) := c58
   have hq_ := guard_some h; clear h; obtain ⟨c59, h⟩ := hq_
   have c59 : (w64 (i27 + (mn x8 ((x2.drop (i27).toNat).length : Int)))) ≤ (x2.length : Int) := c59
   refine seqL7 kr ?_
   refine seqK rfl (does_cutLHM (e := (tInt .i64)) (xs := x2) rfl Tryz.underlying22 kr (kv (.slice A3 x2.length c4)) (kv (.int .i64 i27)) (kv (.int .i64 (w64 (i27 + (mn x8 ((x2.drop (i27).toNat).length : Int)))))) (kv (.int .i64 (w64 (i27 + (mn x8 ((x2.drop (i27).toNat).length : Int)))))) c51 c58 c59 HR5 ?_)
   intro A60 c61 HR62
   have hq_ := bind_some h; clear h; obtain ⟨z63, h, hz_⟩ := hq_; injection hz_ with hz_; have hX64 := hX30.trans (congrArg (fun y_ => pre28 ++ y_) hz_.symm)
   have hy65 := hY pre28 ((x2.take (w64 (i27 + (mn x8 ((x2.drop (i27).toNat).length : Int)))).toNat).drop (i27).toNat) z63 #[Value.slice A60 ((x2.take (w64 (i27 + (mn x8 ((x2.drop (i27).toNat).length : Int)))).toNat).drop (i27).toNat).length c61] W49 f22 [] H hX64 ⟨A60, c61, rfl, (HR62.mono (hl0.trans L23))⟩ hK31 HS50
   refine listN ?_
   refine yieldK (l := l) (vs := #[Value.slice A60 ((x2.take (w64 (i27 + (mn x8 ((x2.drop (i27).toNat).length : Int)))).toNat).drop (i27).toNat).length c61]) kr kr kr hy65 ?_
   rintro _ W66 ⟨f67, H, L68, HS69, (⟨rfl, hK70⟩ | ⟨rfl, hK70⟩)⟩
   · refine ⟨_, rfl, ?_⟩
     refine listR kr ?_
     have hX71 := hX64.trans (List.append_cons pre28 ((x2.take (w64 (i27 + (mn x8 ((x2.drop (i27).toNat).length : Int)))).toNat).drop (i27).toNat) z63)
     refine seqL1 kr ?_
     refine RwpList_nil ?_
     refine hK57 _ _ ?_
     refine RcondF kr ?_
     refine Rwp_skip ?_
     refine hn42 _ _ ?_
     refine hK39 _ _ ?_
     refine Rwp_region_lit kr ?_
     refine seqL1 kr ?_
     refine seqK rfl (does_run (run_load rfl Tryz.underlying3 rfl (kv (.pointer (some ⟨b7, 0, none⟩))) (HS69.fcell HF9 (hl0.trans (L23.trans L68)) 0)) ?_)
     refine seqL2 kr ?_
     refine RwpList_nil ?_
     refine hK20 n21 _ _ (Nat.lt_succ_self _) ?_
     exact ⟨f67, (w64 (i27 + x8)), (jL [iV (mn x8 ((x2.drop (i27).toNat).length : Int)), iV i27, .slice A3 x2.length c4, iV (x2.length : Int), tV, iV i27, iV x8, iV (w64 (i27 + x8)), iV x8, .slice A3 x2.length c4, iV i27, .slice A53 (x2.drop (i27).toNat).length c54, iV ((x2.drop (i27).toNat).length : Int), iV (mn x8 ((x2.drop (i27).toNat).length : Int)), .func (.yield l) #[] #[], .slice A3 x2.length c4, iV i27, iV i27, iV (mn x8 ((x2.drop (i27).toNat).length : Int)), iV (w64 (i27 + (mn x8 ((x2.drop (i27).toNat).length : Int)))), iV i27, iV (mn x8 ((x2.drop (i27).toNat).length : Int)), iV (w64 (i27 + (mn x8 ((x2.drop (i27).toNat).length : Int)))), .slice A60 ((x2.take (w64 (i27 + (mn x8 ((x2.drop (i27).toNat).length : Int)))).toNat).drop (i27).toNat).length c61, tV, fV]), H, (pre28 ++ [((x2.take (w64 (i27 + (mn x8 ((x2.drop (i27).toNat).length : Int)))).toNat).drop (i27).toNat)]), z63, (L23.trans L68), HS69, h, hX71, hK70, kr⟩
   · refine ⟨_, rfl, ?_⟩
     refine listR kr ?_
     refine seqL1 kr ?_
     refine RwpList_nil ?_
     refine hK57 _ _ ?_
     refine RcondT kr ?_
     refine Rwp_ret ?_
     refine hr43 _ _ ?_
     refine hr15 _ _ ?_
     refine hret _ _ ?_
     refine ends_still (v := Value.tuple #[]) kr kr ?_
     exact ⟨_, f67, H, rfl, (L23.trans L68), HS69, .inr ⟨pre28, ((x2.take (w64 (i27 + (mn x8 ((x2.drop (i27).toNat).length : Int)))).toNat).drop (i27).toNat), z63, hX64, hK70⟩⟩
 · have c37 : ¬ (i27 < (x2.length : Int)) := c37
   refine RwpRwI 9 kr (decide_eq_false c37) ?_
   refine RcondF kr ?_
   refine Rwp_exit ?_
   refine hx13 _ _ ?_
   refine hnor _ _ ?_
   refine ends_still (v := Value.tuple #[]) kr kr ?_
   injection h with h
   have hx9_ := hX30
   rw [← h, List.append_nil] at hx9_
   exact ⟨_, f22, H, rfl, L23, HS25, .inl (by rw [hx9_]; exact hK31)⟩

end Go.Sp.F3
