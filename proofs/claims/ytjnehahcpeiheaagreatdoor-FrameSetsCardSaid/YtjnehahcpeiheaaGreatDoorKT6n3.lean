import Derived.Test.YtjnehahcpeiheaaGreatDoorProg
import Derived.Test.YtjnehahcpeiheaaGreatDoorSpCopy
import Derived.Test.YtjnehahcpeiheaaGreatDoorFT6
import Derived.Test.YtjnehahcpeiheaaGreatDoorSpStr
import Derived.Test.YtjnehahcpeiheaaGreatDoorSpLib
import Derived.Test.YtjnehahcpeiheaaGreatDoorSpBld
import Derived.Test.YtjnehahcpeiheaaGreatDoorConv
import Derived.Test.YtjnehahcpeiheaaGreatDoorLibs
import Derived.Test.YtjnehahcpeiheaaGreatDoorSpWays
import Derived.Test.YtjnehahcpeiheaaGreatDoorSpRound
import Derived.Test.YtjnehahcpeiheaaGreatDoorKT6n0
import Derived.Test.YtjnehahcpeiheaaGreatDoorKT6n1
import Derived.Test.YtjnehahcpeiheaaGreatDoorKT6n2
namespace Go.Sp.T6
open Go Go.Sp Go.Proofs
set_option linter.unusedVariables false
attribute [local irreducible] wpList AnyL Code.wp Calls Does Code.wpIn wpListIn CallsIn bodyPostM LeavesInM
theorem strings_Builder_String.calls (k : Nat) (A : Option Addr) (c : Nat) (s : Seg) (l : List UInt8) {t w : World} {f : FM} {H : List Seg} (HS : St t w f (s :: H)) (HO : OwnB 102 5 f A c s l) (r1 : ByteArray) (h : strings_Builder_String k l = some r1) :
    Calls Tryz.prog 50 #[.pointer A] w (fun e w' => ∃ (g : FM), e = .returned (Value.string r1) ∧ FM.le f g ∧ St t w' g H) := by
  unfold strings_Builder_String at h
  have hq_ := guard_some h; clear h; obtain ⟨h1, h⟩ := hq_
  injection h with h; subst h
  have hc := string_calls Tryz.lays169 Tryz.Builder_Extra_169 HS HO h1
  exact hc.mono fun e w' ⟨he, hs⟩ => ⟨f, he, FM.le.refl _, hs⟩

set_option maxRecDepth 100000 in
set_option maxHeartbeats 4000000 in
theorem frame_header.calls (k : Nat) (A2 : Option Addr) (c3 : Nat) (A5 : Option Addr) (c6 : Nat) (vf1 : S_Frame) (size8 : Int) {t w : World} {f : FM} {H : List Seg} (HS : St t w f (H)) (HR4 : SlR ty_Card f A2 c3 vf1.Cards) (HR7 : SlR (tInt .i64) f A5 c6 vf1.Counts) (HT : TabF Tryz.prog "internal/strconv.uint64pow10" .u64 Go.Lib.pow10Tab f) (rr1 : ByteArray) (h : frame_header k vf1 size8 = some rr1) :
    Calls Tryz.prog 22 #[.agg #[.int .i64 vf1.W, .int .i64 vf1.H, .slice A2 vf1.Cards.length c3, .slice A5 vf1.Counts.length c6], .int .i64 size8] w (fun e w' => ∃ (g : FM), e = .returned (Value.string rr1) ∧ FM.le f g ∧ St t w' g (H)) := by
 unfold frame_header at h
 refine enter Tryz.func22 rfl (tm := #[(ag_Frame vf1 A2 c3 A5 c6), iV size8, uV, uV, uV, uV, uV, uV, uV, uV, uV, uV, uV, uV, uV, uV, uV, uV, uV, uV, uV, uV, uV, uV, uV, uV, uV, uV, uV, uV, uV, uV, uV, uV, uV, uV, uV, uV, uV, uV, uV, uV, uV, uV, uV]) kr ?_
 intro B hret hnor hnp
 refine wp_seq_k fun K9 hK10 => rl ?_
 refine seqK rfl (does_box (cs := #[.int .i64 vf1.W, .int .i64 vf1.H, .slice A2 vf1.Cards.length c3, .slice A5 vf1.Counts.length c6]) rfl (kv (.agg #[.int .i64 vf1.W, .int .i64 vf1.H, .slice A2 vf1.Cards.length c3, .slice A5 vf1.Counts.length c6])) rfl HS ?_)
 intro b11 W12 HS13
 refine seqL1 kr ?_
 refine nl (hK10 _ _ ?_)
 refine wp_seq_k (fun K15 hK16 => ?_)
 refine heldG (S := Sg t f ([(b11, .cells #[.int .i64 vf1.W, .int .i64 vf1.H, .slice A2 vf1.Cards.length c3, .slice A5 vf1.Counts.length c6] 29 (0, 0))] :: H) []) (n := 13) kr rfl HS13 ?_
 intro W17 HS18
 refine takeGL [0] (n := 13) (fuel := 12) #[true, false, false, false, false, false, false, false, false, false, false, false, false] rfl kr kr kr hnp (Sg.g0 (Sx.of [] fL HS18)) ?_
 refine takeGQ 1 [] rfl kr kr kr kr kr kr hnp (Sg.g0 (Sx.of [] fL HS18)) (fun w_ hw_ => by obtain ⟨g_, hl_, hS_⟩ := hw_.st; exact run_load rfl Tryz.underlying3 rfl (kv (.pointer (some ⟨b11, 0, none⟩))) (hS_.cell 0)) ?_
 refine takeGL [4] (n := 11) (fuel := 10) #[true, true, false, false, true, false, false, false, false, false, false, false, false] rfl kr kr kr hnp (Sg.g0 (Sx.of [] fL HS18)) ?_
 refine takeGQ 5 [] rfl kr kr kr kr kr kr hnp (Sg.g0 (Sx.of [] fL HS18)) (fun w_ hw_ => by obtain ⟨g_, hl_, hS_⟩ := hw_.st; exact run_load rfl Tryz.underlying3 rfl (kv (.pointer (some ⟨b11, 1, none⟩))) (hS_.cell 1)) ?_
 refine takeGL [8] (n := 9) (fuel := 8) #[true, true, false, false, true, true, false, false, true, false, false, false, false] rfl kr kr kr hnp (Sg.g0 (Sx.of [] fL HS18)) ?_
 have hq_ := bind_some h; clear h; obtain ⟨vt19, hc20, h⟩ := hq_
 refine takeGE 2 kr rfl kr (does_call (f := 44) (args := #[.int .i64 vf1.W]) kr (strconv_Itoa.calls k vf1.W HS18 HT vt19 hc20) ?_)
 rintro _ W23 ⟨f21, rfl, L22, HS24⟩
 refine ⟨_, rfl, ?_⟩
 refine ⟨(Sg.g0 (Sx.of [] L22 HS24)), ?_⟩
 refine takeGL [3] (n := 7) (fuel := 6) #[true, true, true, true, true, true, false, false, true, false, false, false, false] rfl kr kr kr hnp (Sg.g0 (Sx.of [] L22 HS24)) ?_
 have hq_ := bind_some h; clear h; obtain ⟨vt25, hc26, h⟩ := hq_
 refine takeGE 6 kr rfl kr (does_call (f := 44) (args := #[.int .i64 vf1.H]) kr (strconv_Itoa.calls k vf1.H HS24 (HT.mono L22) vt25 hc26) ?_)
 rintro _ W29 ⟨f27, rfl, L28, HS30⟩
 refine ⟨_, rfl, ?_⟩
 refine ⟨(Sg.g0 (Sx.of [] (L22.trans L28) HS30)), ?_⟩
 refine takeGL [7] (n := 5) (fuel := 4) #[true, true, true, true, true, true, true, true, true, false, false, false, false] rfl kr kr kr hnp (Sg.g0 (Sx.of [] (L22.trans L28) HS30)) ?_
 have hq_ := bind_some h; clear h; obtain ⟨vt31, hc32, h⟩ := hq_
 refine takeGE 9 kr rfl kr (does_call (f := 44) (args := #[.int .i64 size8]) kr (strconv_Itoa.calls k size8 HS30 (HT.mono (L22.trans L28)) vt31 hc32) ?_)
 rintro _ W35 ⟨f33, rfl, L34, HS36⟩
 refine ⟨_, rfl, ?_⟩
 refine ⟨(Sg.g0 (Sx.of [] (L22.trans (L28.trans L34)) HS36)), ?_⟩
 refine takeGL [10] (n := 3) (fuel := 2) #[true, true, true, true, true, true, true, true, true, true, true, false, false] rfl kr kr kr hnp (Sg.g0 (Sx.of [] (L22.trans (L28.trans L34)) HS36)) ?_
 refine takeGE 11 kr rfl kr (does_lit (e := ty_Card) (E := 51) (vs := #[(0, Value.agg #[.string ⟨#[87, 73, 68, 84, 72]⟩, .string vt19, .string ⟨#[]⟩, .string ⟨#[]⟩]), (1, Value.agg #[.string ⟨#[72, 69, 73, 71, 72, 84]⟩, .string vt25, .string ⟨#[]⟩, .string ⟨#[]⟩]), (2, Value.agg #[.string ⟨#[66, 89, 84, 69, 83]⟩, .string vt31, .string ⟨#[]⟩, .string ⟨#[]⟩])]) (cs := #[.string ⟨#[87, 73, 68, 84, 72]⟩, .string vt19, .string ⟨#[]⟩, .string ⟨#[]⟩, .string ⟨#[72, 69, 73, 71, 72, 84]⟩, .string vt25, .string ⟨#[]⟩, .string ⟨#[]⟩, .string ⟨#[66, 89, 84, 69, 83]⟩, .string vt31, .string ⟨#[]⟩, .string ⟨#[]⟩]) (xs := ([(⟨Z31, vt19, Z44, Z44⟩ : S_Card), (⟨Z26, vt25, Z44, Z44⟩ : S_Card), (⟨Z24, vt31, Z44, Z44⟩ : S_Card)] : List S_Card)) rfl Tryz.underlying27 kr kr ⟨[.string ⟨#[87, 73, 68, 84, 72]⟩, .string vt19, .string ⟨#[]⟩, .string ⟨#[]⟩], _, rfl, rfl, ⟨[.string ⟨#[72, 69, 73, 71, 72, 84]⟩, .string vt25, .string ⟨#[]⟩, .string ⟨#[]⟩], _, rfl, rfl, ⟨[.string ⟨#[66, 89, 84, 69, 83]⟩, .string vt31, .string ⟨#[]⟩, .string ⟨#[]⟩], _, rfl, rfl, rfl⟩⟩⟩ rfl HS36 ?_ (by decide))
 intro b37 W38 s39 HS40 _ HO41
 refine ⟨(Sg.g0 (Sx.of [s39] (L22.trans (L28.trans L34)) HS40)), ?_⟩
 refine takeGL [12] (n := 1) (fuel := 0) #[true, true, true, true, true, true, true, true, true, true, true, true, true] rfl kr kr kr hnp (Sg.g0 (Sx.of [s39] (L22.trans (L28.trans L34)) HS40)) ?_
 refine doneG kr ?_ _
 refine hK16 _ _ ?_
 refine wp_seq_k fun K43 hK44 => rl ?_
 refine seqK rfl (does_bld (E := 5) rfl kr HS40 ?_)
 intro A45 s47 W46 HS48 HO49
 refine nl (hK44 _ _ ?_)
 refine wp_seq_k fun K51 hK52 => rl ?_
 refine seqL2 kr ?_
 refine nl (hK52 _ _ ?_)
 refine wp_seq_k (fun K53 hK54 => ?_)
 refine wp_seq_k fun K55 hK56 => rl ?_
 refine seqL2 kr ?_
 refine seqK rfl (does_run (run_load rfl Tryz.underlying27 rfl (kv (.pointer (some ⟨b11, 2, none⟩))) (HS48.u2.cell 2)) ?_)
 have hq_ := guard_some h; clear h; obtain ⟨c57, h⟩ := hq_
 have c57 : (([(⟨Z31, vt19, Z44, Z44⟩ : S_Card), (⟨Z26, vt25, Z44, Z44⟩ : S_Card), (⟨Z24, vt31, Z44, Z44⟩ : S_Card)] : List S_Card).length + vf1.Cards.length) * 64 ≤ 140737488355328 := c57
 have HS58 := HS48.u1
 refine seqK rfl (does_append (e := ty_Card) (E := 51) (xs := ([(⟨Z31, vt19, Z44, Z44⟩ : S_Card), (⟨Z26, vt25, Z44, Z44⟩ : S_Card), (⟨Z24, vt31, Z44, Z44⟩ : S_Card)] : List S_Card)) (ys := vf1.Cards) rfl (kv (.slice (some ⟨b37, 0, none⟩) ([(⟨Z31, vt19, Z44, Z44⟩ : S_Card), (⟨Z26, vt25, Z44, Z44⟩ : S_Card), (⟨Z24, vt31, Z44, Z44⟩ : S_Card)] : List S_Card).length 3)) (kv (.slice A2 vf1.Cards.length c3)) Tryz.underlying27 inf51 HO41 HS58 ((HR4.mono (L22.trans (L28.trans L34))).rc HS58) c57 (lim63 c57 (by decide)) ?_)
 intro A59 c60 s61 W62 HS63 HO64
 refine seqL2 kr ?_
 refine nl (hK56 _ _ ?_)
 refine blockK (fun B65 hx66 hn67 hr68 ho69 hp70 => ?_)
 have hq_ := bind_some h; clear h; obtain ⟨o127, hv194, h⟩ := hq_
 have J195 : ∀ (f186 : FM) (s192 : Seg) (s191 : List UInt8) (j190 : Nat → Value) (W188 : World) (a_ : Act), FM.le f33 f186 → some (s191) = some o127 → St t W188 f186 (s61 :: s192 :: [(b11, .cells #[.int .i64 vf1.W, .int .i64 vf1.H, .slice A2 vf1.Cards.length c3, .slice A5 vf1.Counts.length c6] 29 (0, 0))] :: H) → OwnB 102 5 f186 A45 0 s192 s191 → a_ = ⟨#[(ag_Frame vf1 A2 c3 A5 c6), iV size8, pV b11 0, uV, .string ⟨#[]⟩, .slice (some ⟨b37, 0, none⟩) ([(⟨Z31, vt19, Z44, Z44⟩ : S_Card), (⟨Z26, vt25, Z44, Z44⟩ : S_Card), (⟨Z24, vt31, Z44, Z44⟩ : S_Card)] : List S_Card).length 3, .pointer A45, .func (.func 45) #[] #[.pointer A45], uV, (j190 0), pV b11 0, iV vf1.W, .string vt19, .agg #[.string ⟨#[87, 73, 68, 84, 72]⟩, .string vt19, .string ⟨#[]⟩, .string ⟨#[]⟩], pV b11 1, iV vf1.H, .string vt25, .agg #[.string ⟨#[72, 69, 73, 71, 72, 84]⟩, .string vt25, .string ⟨#[]⟩, .string ⟨#[]⟩], iV size8, .string vt31, .agg #[.string ⟨#[66, 89, 84, 69, 83]⟩, .string vt31, .string ⟨#[]⟩, .string ⟨#[]⟩], .slice (some ⟨b37, 0, none⟩) ([(⟨Z31, vt19, Z44, Z44⟩ : S_Card), (⟨Z26, vt25, Z44, Z44⟩ : S_Card), (⟨Z24, vt31, Z44, Z44⟩ : S_Card)] : List S_Card).length 3, .func (.func 45) #[] #[.pointer A45], .slice (some ⟨b37, 0, none⟩) ([(⟨Z31, vt19, Z44, Z44⟩ : S_Card), (⟨Z26, vt25, Z44, Z44⟩ : S_Card), (⟨Z24, vt31, Z44, Z44⟩ : S_Card)] : List S_Card).length 3, pV b11 2, .slice A2 vf1.Cards.length c3, .slice A59 (([(⟨Z31, vt19, Z44, Z44⟩ : S_Card), (⟨Z26, vt25, Z44, Z44⟩ : S_Card), (⟨Z24, vt31, Z44, Z44⟩ : S_Card)] : List S_Card) ++ vf1.Cards).length c60, iV ((([(⟨Z31, vt19, Z44, Z44⟩ : S_Card), (⟨Z26, vt25, Z44, Z44⟩ : S_Card), (⟨Z24, vt31, Z44, Z44⟩ : S_Card)] : List S_Card) ++ vf1.Cards).length : Int), (j190 1), (j190 2), (j190 3), (j190 4), (j190 5), (j190 6), (j190 7), (j190 8), (j190 9), uV, uV, uV, uV, uV, uV, uV, uV], []⟩ → K53 a_ W188 := by
  intro f186 s192 s191 j190 W188 a_ L187 hj196 HS189 HO193 hfr_; subst hfr_
  injection hj196 with hj196; subst hj196; try dsimp only at h
  refine hK54 _ _ ?_
  refine wp_seq_k fun K202 hK203 => rl ?_
  have HS204 := HS189.u1
  have hq_ := bind_some h; clear h; obtain ⟨vt205, hc206, h⟩ := hq_
  refine seqL1 kr ?_
  refine seqK rfl (does_call (f := 45) (args := #[.string ⟨#[69, 78, 68]⟩, .pointer A45]) kr (frame_header_1.calls k A45 0 s192 Z25 s191 HS204 HO193 vt205 hc206) ?_)
  rintro _ W209 ⟨f207, s211, rfl, L208, HS210, HO212, HL213⟩
  refine ⟨_, rfl, ?_⟩
  refine nl (hK203 _ _ ?_)
  refine wp_seq_k (fun K214 hK215 => ?_)
  refine blockK (fun B216 hx217 hn218 hr219 ho220 hp221 => ?_)
  have hq_ := bind_some h; clear h; obtain ⟨o263, hv315, h⟩ := hq_
  have J316 : ∀ (f307 : FM) (s313 : Seg) (s312 : List UInt8) (j311 : Nat → Value) (W309 : World) (a_ : Act), FM.le f207 f307 → some (s312) = some o263 → St t W309 f307 (s313 :: s61 :: [(b11, .cells #[.int .i64 vf1.W, .int .i64 vf1.H, .slice A2 vf1.Cards.length c3, .slice A5 vf1.Counts.length c6] 29 (0, 0))] :: H) → OwnB 102 5 f307 A45 0 s313 s312 → a_ = ⟨#[(ag_Frame vf1 A2 c3 A5 c6), iV size8, pV b11 0, uV, .string ⟨#[]⟩, .slice (some ⟨b37, 0, none⟩) ([(⟨Z31, vt19, Z44, Z44⟩ : S_Card), (⟨Z26, vt25, Z44, Z44⟩ : S_Card), (⟨Z24, vt31, Z44, Z44⟩ : S_Card)] : List S_Card).length 3, .pointer A45, .func (.func 45) #[] #[.pointer A45], uV, (j190 0), pV b11 0, iV vf1.W, .string vt19, .agg #[.string ⟨#[87, 73, 68, 84, 72]⟩, .string vt19, .string ⟨#[]⟩, .string ⟨#[]⟩], pV b11 1, iV vf1.H, .string vt25, .agg #[.string ⟨#[72, 69, 73, 71, 72, 84]⟩, .string vt25, .string ⟨#[]⟩, .string ⟨#[]⟩], iV size8, .string vt31, .agg #[.string ⟨#[66, 89, 84, 69, 83]⟩, .string vt31, .string ⟨#[]⟩, .string ⟨#[]⟩], .slice (some ⟨b37, 0, none⟩) ([(⟨Z31, vt19, Z44, Z44⟩ : S_Card), (⟨Z26, vt25, Z44, Z44⟩ : S_Card), (⟨Z24, vt31, Z44, Z44⟩ : S_Card)] : List S_Card).length 3, .func (.func 45) #[] #[.pointer A45], .slice (some ⟨b37, 0, none⟩) ([(⟨Z31, vt19, Z44, Z44⟩ : S_Card), (⟨Z26, vt25, Z44, Z44⟩ : S_Card), (⟨Z24, vt31, Z44, Z44⟩ : S_Card)] : List S_Card).length 3, pV b11 2, .slice A2 vf1.Cards.length c3, .slice A59 (([(⟨Z31, vt19, Z44, Z44⟩ : S_Card), (⟨Z26, vt25, Z44, Z44⟩ : S_Card), (⟨Z24, vt31, Z44, Z44⟩ : S_Card)] : List S_Card) ++ vf1.Cards).length c60, iV ((([(⟨Z31, vt19, Z44, Z44⟩ : S_Card), (⟨Z26, vt25, Z44, Z44⟩ : S_Card), (⟨Z24, vt31, Z44, Z44⟩ : S_Card)] : List S_Card) ++ vf1.Cards).length : Int), (j190 1), (j190 2), (j190 3), (j190 4), (j190 5), (j190 6), (j190 7), (j190 8), (j190 9), .func (.func 45) #[] #[.pointer A45], .tuple #[], (j311 0), (j311 1), (j311 2), (j311 3), (j311 4), uV], []⟩ → K214 a_ W309 := by
   intro f307 s313 s312 j311 W309 a_ L308 hj317 HS310 HO314 hfr_; subst hfr_
   injection hj317 with hj317; subst hj317; try dsimp only at h
   refine hK215 _ _ ?_
   refine wp_seq_k fun K318 hK319 => rl ?_
   have hq_ := bind_some h; clear h; obtain ⟨vt320, hc321, h⟩ := hq_
   refine seqK rfl (does_call (f := 50) (args := #[.pointer A45]) kr (strings_Builder_String.calls k A45 0 s313 s312 HS310 HO314 vt320 hc321) ?_)
   rintro _ W324 ⟨f322, rfl, L323, HS325⟩
   refine ⟨_, rfl, ?_⟩
   refine seqL1 kr ?_
   refine nl (hK319 _ _ ?_)
   refine wp_ret ?_
   refine hret _ _ ?_
   refine ends_still (v := Value.string vt320) kr kr ?_
   have HS326 := HS325.drop
   have HS327 := HS326.drop
   injection h with h
   subst h
   exact ⟨f322, rfl, (L22.trans (L28.trans (L34.trans (L187.trans (L208.trans (L308.trans L323)))))), HS327⟩
  clear h; have h := hv315; clear hv315
  refine loopK (fun n_ a_ w_ => ∃ (f267 : FM) (s273 : Seg) (s272 : List UInt8) (j271 : Nat → Value), FM.le f207 f267 ∧ St t w_ f267 (s273 :: s61 :: [(b11, .cells #[.int .i64 vf1.W, .int .i64 vf1.H, .slice A2 vf1.Cards.length c3, .slice A5 vf1.Counts.length c6] 29 (0, 0))] :: H) ∧ OwnB 102 5 f267 A45 0 s273 s272 ∧ frame_header.l1 k n_ s272 = some o263 ∧ a_ = ⟨#[(ag_Frame vf1 A2 c3 A5 c6), iV size8, pV b11 0, uV, .string ⟨#[]⟩, .slice (some ⟨b37, 0, none⟩) ([(⟨Z31, vt19, Z44, Z44⟩ : S_Card), (⟨Z26, vt25, Z44, Z44⟩ : S_Card), (⟨Z24, vt31, Z44, Z44⟩ : S_Card)] : List S_Card).length 3, .pointer A45, .func (.func 45) #[] #[.pointer A45], uV, (j190 0), pV b11 0, iV vf1.W, .string vt19, .agg #[.string ⟨#[87, 73, 68, 84, 72]⟩, .string vt19, .string ⟨#[]⟩, .string ⟨#[]⟩], pV b11 1, iV vf1.H, .string vt25, .agg #[.string ⟨#[72, 69, 73, 71, 72, 84]⟩, .string vt25, .string ⟨#[]⟩, .string ⟨#[]⟩], iV size8, .string vt31, .agg #[.string ⟨#[66, 89, 84, 69, 83]⟩, .string vt31, .string ⟨#[]⟩, .string ⟨#[]⟩], .slice (some ⟨b37, 0, none⟩) ([(⟨Z31, vt19, Z44, Z44⟩ : S_Card), (⟨Z26, vt25, Z44, Z44⟩ : S_Card), (⟨Z24, vt31, Z44, Z44⟩ : S_Card)] : List S_Card).length 3, .func (.func 45) #[] #[.pointer A45], .slice (some ⟨b37, 0, none⟩) ([(⟨Z31, vt19, Z44, Z44⟩ : S_Card), (⟨Z26, vt25, Z44, Z44⟩ : S_Card), (⟨Z24, vt31, Z44, Z44⟩ : S_Card)] : List S_Card).length 3, pV b11 2, .slice A2 vf1.Cards.length c3, .slice A59 (([(⟨Z31, vt19, Z44, Z44⟩ : S_Card), (⟨Z26, vt25, Z44, Z44⟩ : S_Card), (⟨Z24, vt31, Z44, Z44⟩ : S_Card)] : List S_Card) ++ vf1.Cards).length c60, iV ((([(⟨Z31, vt19, Z44, Z44⟩ : S_Card), (⟨Z26, vt25, Z44, Z44⟩ : S_Card), (⟨Z24, vt31, Z44, Z44⟩ : S_Card)] : List S_Card) ++ vf1.Cards).length : Int), (j190 1), (j190 2), (j190 3), (j190 4), (j190 5), (j190 6), (j190 7), (j190 8), (j190 9), .func (.func 45) #[] #[.pointer A45], .tuple #[], (j271 0), (j271 1), (j271 2), (j271 3), (j271 4), uV], []⟩) k ⟨f207, s211, vt205, (jL []), fL, HS210, HO212, h, kr⟩ ?_
  clear h
  rintro n266 _ W269 ⟨f267, s273, s272, j271, L268, HS270, HO274, h, rfl⟩ K264 hK265
  obtain _ | n266 := n266
  · exact nomatch h
  simp only [frame_header.l1] at h
  refine wp_seq_k (fun K275 hK276 => ?_)
  refine wp_seq_k fun K277 hK278 => rl ?_
  have hq_ := bind_some h; clear h; obtain ⟨⟨vt279, vt280⟩, hc281, h⟩ := hq_
  refine seqK rfl (does_call (f := 49) (args := #[.pointer A45]) kr (strings_Builder_Len.calls k A45 0 s273 s272 HS270 HO274 vt279 vt280 hc281) ?_)
  rintro _ W284 ⟨f282, s286, rfl, L283, HS285, HO287, HL288⟩
  refine ⟨_, rfl, ?_⟩
  refine seqL2 kr ?_
  refine nl (hK278 _ _ ?_)
  have hq_ := ite_some h; clear h; rcases hq_ with ⟨c290, h⟩ | ⟨c290, h⟩
  · have c290 : (Int.tmod vt279 256) ≠ 0 := c290
    refine wpRwI 41 kr (bne_iff_ne.mpr c290) ?_
    refine condT kr ?_
    refine wp_skip ?_
    refine hK276 _ _ ?_
    refine blockK (fun B291 hx292 hn293 hr294 ho295 hp296 => ?_)
    refine rl ?_
    have hq_ := bind_some h; clear h; obtain ⟨vt298, hc299, h⟩ := hq_
    refine seqL1 kr ?_
    refine seqK rfl (does_call (f := 45) (args := #[.string ⟨#[]⟩, .pointer A45]) kr (frame_header_1.calls k A45 0 s286 Z44 vt280 HS285 HO287 vt298 hc299) ?_)
    rintro _ W302 ⟨f300, s304, rfl, L301, HS303, HO305, HL306⟩
    refine ⟨_, rfl, ?_⟩
    refine nl ?_
    refine hn293 _ _ ?_
    refine hK265 n266 _ _ (Nat.lt_succ_self _) ?_
    exact ⟨f300, s304, vt298, (jL [iV vt279, iV (Int.tmod vt279 256), tV, .func (.func 45) #[] #[.pointer A45], .tuple #[]]), (L268.trans (L283.trans L301)), HS303, HO305, h, kr⟩
  · have c290 : ¬ ((Int.tmod vt279 256) ≠ 0) := c290
    refine wpRwI 41 (x := ((Int.tmod vt279 256) != 0)) (v := false) kr (bne_eq_false_iff_eq.mpr (Decidable.of_not_not c290)) ?_
    refine condF kr ?_
    refine wp_exit ?_
    refine hx217 _ _ ?_
    exact J316 f282 s286 vt280 (jL [iV vt279, iV (Int.tmod vt279 256), fV, (j271 3), (j271 4)]) W284 _ (L268.trans L283) h HS285 HO287 kr
 clear h; have h := hv194; clear hv194
 refine loopK (fun n_ a_ w_ => ∃ (f131 : FM) (s137 : Seg) (s136 : List UInt8) (x139 : Int) (j135 : Nat → Value), FM.le f33 f131 ∧ St t w_ f131 (s61 :: s137 :: [(b11, .cells #[.int .i64 vf1.W, .int .i64 vf1.H, .slice A2 vf1.Cards.length c3, .slice A5 vf1.Counts.length c6] 29 (0, 0))] :: H) ∧ OwnB 102 5 f131 A45 0 s137 s136 ∧ frame_header.l0 k vt19 vt25 vt31 vf1 n_ s136 x139 = some o127 ∧ a_ = ⟨#[(ag_Frame vf1 A2 c3 A5 c6), iV size8, pV b11 0, uV, .string ⟨#[]⟩, .slice (some ⟨b37, 0, none⟩) ([(⟨Z31, vt19, Z44, Z44⟩ : S_Card), (⟨Z26, vt25, Z44, Z44⟩ : S_Card), (⟨Z24, vt31, Z44, Z44⟩ : S_Card)] : List S_Card).length 3, .pointer A45, .func (.func 45) #[] #[.pointer A45], uV, (j135 0), pV b11 0, iV vf1.W, .string vt19, .agg #[.string ⟨#[87, 73, 68, 84, 72]⟩, .string vt19, .string ⟨#[]⟩, .string ⟨#[]⟩], pV b11 1, iV vf1.H, .string vt25, .agg #[.string ⟨#[72, 69, 73, 71, 72, 84]⟩, .string vt25, .string ⟨#[]⟩, .string ⟨#[]⟩], iV size8, .string vt31, .agg #[.string ⟨#[66, 89, 84, 69, 83]⟩, .string vt31, .string ⟨#[]⟩, .string ⟨#[]⟩], .slice (some ⟨b37, 0, none⟩) ([(⟨Z31, vt19, Z44, Z44⟩ : S_Card), (⟨Z26, vt25, Z44, Z44⟩ : S_Card), (⟨Z24, vt31, Z44, Z44⟩ : S_Card)] : List S_Card).length 3, .func (.func 45) #[] #[.pointer A45], .slice (some ⟨b37, 0, none⟩) ([(⟨Z31, vt19, Z44, Z44⟩ : S_Card), (⟨Z26, vt25, Z44, Z44⟩ : S_Card), (⟨Z24, vt31, Z44, Z44⟩ : S_Card)] : List S_Card).length 3, pV b11 2, .slice A2 vf1.Cards.length c3, .slice A59 (([(⟨Z31, vt19, Z44, Z44⟩ : S_Card), (⟨Z26, vt25, Z44, Z44⟩ : S_Card), (⟨Z24, vt31, Z44, Z44⟩ : S_Card)] : List S_Card) ++ vf1.Cards).length c60, iV ((([(⟨Z31, vt19, Z44, Z44⟩ : S_Card), (⟨Z26, vt25, Z44, Z44⟩ : S_Card), (⟨Z24, vt31, Z44, Z44⟩ : S_Card)] : List S_Card) ++ vf1.Cards).length : Int), iV x139, (j135 1), (j135 2), (j135 3), (j135 4), (j135 5), (j135 6), (j135 7), (j135 8), uV, uV, uV, uV, uV, uV, uV, uV], []⟩) k ⟨f33, s47, ([] : List UInt8), 0, (jL []), fL, HS63, HO49, h, kr⟩ ?_
 clear h
 rintro n130 _ W133 ⟨f131, s137, s136, x139, j135, L132, HS134, HO138, h, rfl⟩ K128 hK129
 obtain _ | n130 := n130
 · exact nomatch h
 simp only [frame_header.l0] at h
 refine wp_seq_k fun K140 hK141 => rl ?_
 refine seqL1 kr ?_
 refine nl (hK141 _ _ ?_)
 refine wp_seq_k (fun K142 hK143 => ?_)
 have hq_ := ite_some h; clear h; rcases hq_ with ⟨c145, h⟩ | ⟨c145, h⟩
 · have c145 : x139 < ((([(⟨Z31, vt19, Z44, Z44⟩ : S_Card), (⟨Z26, vt25, Z44, Z44⟩ : S_Card), (⟨Z24, vt31, Z44, Z44⟩ : S_Card)] : List S_Card) ++ vf1.Cards).length : Int) := c145
   refine wpRwI 29 kr (decide_eq_true c145) ?_
   refine condT kr ?_
   refine wp_skip ?_
   refine hK143 _ _ ?_
   refine wp_seq_k (fun K146 hK147 => ?_)
   refine blockK (fun B148 hx149 hn150 hr151 ho152 hp153 => ?_)
   refine wp_seq_k fun K155 hK156 => rl ?_
   have hq_ := guard_some h; clear h; obtain ⟨c157, h⟩ := hq_
   have c157 : 0 ≤ x139 := c157
   obtain ⟨b161, of162, cs158, hA163, hr159, hc160⟩ := (HO64.mono L132).at (i := x139) c157 c145
   obtain rfl := hr159
   refine seqK rfl (does_run (run_indexE hA163 (sz := 4) rfl Tryz.underlying27 kr (kv (.slice A59 (([(⟨Z31, vt19, Z44, Z44⟩ : S_Card), (⟨Z26, vt25, Z44, Z44⟩ : S_Card), (⟨Z24, vt31, Z44, Z44⟩ : S_Card)] : List S_Card) ++ vf1.Cards).length c60)) (kv (.int .i64 x139)) c157 c145 W133) ?_)
   refine seqK rfl (does_run (run_loadN (n := 4) rfl Tryz.underlying51 rfl kr (kv (.pointer (some ⟨b161, of162 + (x139 : Int).toNat * 4, none⟩))) (cs := [.string ((rd (([(⟨Z31, vt19, Z44, Z44⟩ : S_Card), (⟨Z26, vt25, Z44, Z44⟩ : S_Card), (⟨Z24, vt31, Z44, Z44⟩ : S_Card)] : List S_Card) ++ vf1.Cards) x139).Key), .string ((rd (([(⟨Z31, vt19, Z44, Z44⟩ : S_Card), (⟨Z26, vt25, Z44, Z44⟩ : S_Card), (⟨Z24, vt31, Z44, Z44⟩ : S_Card)] : List S_Card) ++ vf1.Cards) x139).Value), .string ((rd (([(⟨Z31, vt19, Z44, Z44⟩ : S_Card), (⟨Z26, vt25, Z44, Z44⟩ : S_Card), (⟨Z24, vt31, Z44, Z44⟩ : S_Card)] : List S_Card) ++ vf1.Cards) x139).Unit), .string ((rd (([(⟨Z31, vt19, Z44, Z44⟩ : S_Card), (⟨Z26, vt25, Z44, Z44⟩ : S_Card), (⟨Z24, vt31, Z44, Z44⟩ : S_Card)] : List S_Card) ++ vf1.Cards) x139).Note)]) rfl (fun j_ hj_ => ((hc160 HS134) j_ hj_))) ?_)
   refine seqK rfl (does_alloc (z := Value.agg #[.string ⟨#[]⟩, .string ⟨#[]⟩, .string ⟨#[]⟩, .string ⟨#[]⟩]) (cs := #[.string ⟨#[]⟩, .string ⟨#[]⟩, .string ⟨#[]⟩, .string ⟨#[]⟩]) rfl kr rfl HS134 ?_)
   intro b164 W165 HS166
   refine seqK rfl (does_storeA (vs := [.string ((rd (([(⟨Z31, vt19, Z44, Z44⟩ : S_Card), (⟨Z26, vt25, Z44, Z44⟩ : S_Card), (⟨Z24, vt31, Z44, Z44⟩ : S_Card)] : List S_Card) ++ vf1.Cards) x139).Key), .string ((rd (([(⟨Z31, vt19, Z44, Z44⟩ : S_Card), (⟨Z26, vt25, Z44, Z44⟩ : S_Card), (⟨Z24, vt31, Z44, Z44⟩ : S_Card)] : List S_Card) ++ vf1.Cards) x139).Value), .string ((rd (([(⟨Z31, vt19, Z44, Z44⟩ : S_Card), (⟨Z26, vt25, Z44, Z44⟩ : S_Card), (⟨Z24, vt31, Z44, Z44⟩ : S_Card)] : List S_Card) ++ vf1.Cards) x139).Unit), .string ((rd (([(⟨Z31, vt19, Z44, Z44⟩ : S_Card), (⟨Z26, vt25, Z44, Z44⟩ : S_Card), (⟨Z24, vt31, Z44, Z44⟩ : S_Card)] : List S_Card) ++ vf1.Cards) x139).Note)]) rfl kr kr kr rfl (ones rfl) HS166 kr ?_)
   intro W168 HS169
   refine nl (hK156 _ _ ?_)
   refine rl ?_
   refine seqL1 kr ?_
   refine seqK rfl (does_run (run_loadN (n := 4) rfl Tryz.underlying51 rfl kr (kv (.pointer (some ⟨b164, 0, none⟩))) (cs := [.string ((rd (([(⟨Z31, vt19, Z44, Z44⟩ : S_Card), (⟨Z26, vt25, Z44, Z44⟩ : S_Card), (⟨Z24, vt31, Z44, Z44⟩ : S_Card)] : List S_Card) ++ vf1.Cards) x139).Key), .string ((rd (([(⟨Z31, vt19, Z44, Z44⟩ : S_Card), (⟨Z26, vt25, Z44, Z44⟩ : S_Card), (⟨Z24, vt31, Z44, Z44⟩ : S_Card)] : List S_Card) ++ vf1.Cards) x139).Value), .string ((rd (([(⟨Z31, vt19, Z44, Z44⟩ : S_Card), (⟨Z26, vt25, Z44, Z44⟩ : S_Card), (⟨Z24, vt31, Z44, Z44⟩ : S_Card)] : List S_Card) ++ vf1.Cards) x139).Unit), .string ((rd (([(⟨Z31, vt19, Z44, Z44⟩ : S_Card), (⟨Z26, vt25, Z44, Z44⟩ : S_Card), (⟨Z24, vt31, Z44, Z44⟩ : S_Card)] : List S_Card) ++ vf1.Cards) x139).Note)]) rfl (HS169.cells 0 4 _ rfl)) ?_)
   have hq_ := bind_some h; clear h; obtain ⟨vt170, hc171, h⟩ := hq_
   refine seqK rfl (does_call (f := 48) (args := #[.agg #[.string ((rd (([(⟨Z31, vt19, Z44, Z44⟩ : S_Card), (⟨Z26, vt25, Z44, Z44⟩ : S_Card), (⟨Z24, vt31, Z44, Z44⟩ : S_Card)] : List S_Card) ++ vf1.Cards) x139).Key), .string ((rd (([(⟨Z31, vt19, Z44, Z44⟩ : S_Card), (⟨Z26, vt25, Z44, Z44⟩ : S_Card), (⟨Z24, vt31, Z44, Z44⟩ : S_Card)] : List S_Card) ++ vf1.Cards) x139).Value), .string ((rd (([(⟨Z31, vt19, Z44, Z44⟩ : S_Card), (⟨Z26, vt25, Z44, Z44⟩ : S_Card), (⟨Z24, vt31, Z44, Z44⟩ : S_Card)] : List S_Card) ++ vf1.Cards) x139).Unit), .string ((rd (([(⟨Z31, vt19, Z44, Z44⟩ : S_Card), (⟨Z26, vt25, Z44, Z44⟩ : S_Card), (⟨Z24, vt31, Z44, Z44⟩ : S_Card)] : List S_Card) ++ vf1.Cards) x139).Note)]]) kr (frame_text.calls k (rd (([(⟨Z31, vt19, Z44, Z44⟩ : S_Card), (⟨Z26, vt25, Z44, Z44⟩ : S_Card), (⟨Z24, vt31, Z44, Z44⟩ : S_Card)] : List S_Card) ++ vf1.Cards) x139) HS169 vt170 hc171) ?_)
   rintro _ W174 ⟨f172, rfl, L173, HS175⟩
   refine ⟨_, rfl, ?_⟩
   have HS176 := HS175.u2
   have hq_ := bind_some h; clear h; obtain ⟨vt177, hc178, h⟩ := hq_
   refine seqK rfl (does_call (f := 45) (args := #[.string vt170, .pointer A45]) kr (frame_header_1.calls k A45 0 s137 vt170 s136 HS176 (HO138.mono L173) vt177 hc178) ?_)
   rintro _ W181 ⟨f179, s183, rfl, L180, HS182, HO184, HL185⟩
   refine ⟨_, rfl, ?_⟩
   refine nl ?_
   refine hn150 _ _ ?_
   refine hK147 _ _ ?_
   refine rl ?_
   refine seqL2 kr ?_
   refine nl ?_
   refine hK129 n130 _ _ (Nat.lt_succ_self _) ?_
   have HS200 := HS182.u3.u1.u3.u3
   have HS201 := HS200.drop
   exact ⟨f179, s183, vt177, (w64 (x139 + 1)), (jL [.pointer (some ⟨b164, 0, none⟩), tV, .pointer (some ⟨b161, of162 + (x139 : Int).toNat * 4, none⟩), .agg #[.string ((rd (([(⟨Z31, vt19, Z44, Z44⟩ : S_Card), (⟨Z26, vt25, Z44, Z44⟩ : S_Card), (⟨Z24, vt31, Z44, Z44⟩ : S_Card)] : List S_Card) ++ vf1.Cards) x139).Key), .string ((rd (([(⟨Z31, vt19, Z44, Z44⟩ : S_Card), (⟨Z26, vt25, Z44, Z44⟩ : S_Card), (⟨Z24, vt31, Z44, Z44⟩ : S_Card)] : List S_Card) ++ vf1.Cards) x139).Value), .string ((rd (([(⟨Z31, vt19, Z44, Z44⟩ : S_Card), (⟨Z26, vt25, Z44, Z44⟩ : S_Card), (⟨Z24, vt31, Z44, Z44⟩ : S_Card)] : List S_Card) ++ vf1.Cards) x139).Unit), .string ((rd (([(⟨Z31, vt19, Z44, Z44⟩ : S_Card), (⟨Z26, vt25, Z44, Z44⟩ : S_Card), (⟨Z24, vt31, Z44, Z44⟩ : S_Card)] : List S_Card) ++ vf1.Cards) x139).Note)], .func (.func 45) #[] #[.pointer A45], .agg #[.string ((rd (([(⟨Z31, vt19, Z44, Z44⟩ : S_Card), (⟨Z26, vt25, Z44, Z44⟩ : S_Card), (⟨Z24, vt31, Z44, Z44⟩ : S_Card)] : List S_Card) ++ vf1.Cards) x139).Key), .string ((rd (([(⟨Z31, vt19, Z44, Z44⟩ : S_Card), (⟨Z26, vt25, Z44, Z44⟩ : S_Card), (⟨Z24, vt31, Z44, Z44⟩ : S_Card)] : List S_Card) ++ vf1.Cards) x139).Value), .string ((rd (([(⟨Z31, vt19, Z44, Z44⟩ : S_Card), (⟨Z26, vt25, Z44, Z44⟩ : S_Card), (⟨Z24, vt31, Z44, Z44⟩ : S_Card)] : List S_Card) ++ vf1.Cards) x139).Unit), .string ((rd (([(⟨Z31, vt19, Z44, Z44⟩ : S_Card), (⟨Z26, vt25, Z44, Z44⟩ : S_Card), (⟨Z24, vt31, Z44, Z44⟩ : S_Card)] : List S_Card) ++ vf1.Cards) x139).Note)], .string vt170, .tuple #[], iV (w64 (x139 + 1))]), (L132.trans (L173.trans L180)), HS201, HO184, h, kr⟩
 · have c145 : ¬ (x139 < ((([(⟨Z31, vt19, Z44, Z44⟩ : S_Card), (⟨Z26, vt25, Z44, Z44⟩ : S_Card), (⟨Z24, vt31, Z44, Z44⟩ : S_Card)] : List S_Card) ++ vf1.Cards).length : Int)) := c145
   refine wpRwI 29 kr (decide_eq_false c145) ?_
   refine condF kr ?_
   refine wp_exit ?_
   refine hx66 _ _ ?_
   exact J195 f131 s137 s136 (jL [(j135 0), iV x139, fV, (j135 2), (j135 3), (j135 4), (j135 5), (j135 6), (j135 7), (j135 8)]) W133 _ L132 h HS134 HO138 kr

set_option maxRecDepth 100000 in
set_option maxHeartbeats 4000000 in
theorem frame_four.calls (k : Nat)  (n1 : Int) {t w : World} {f : FM} {H : List Seg} (HS : St t w f (H)) (rr1 : List Int) (h : frame_four k n1 = some rr1) :
    Calls Tryz.prog 51 #[.int .u32 n1] w (fun e w' => ∃ (g : FM) (A12 : Option Addr) (c13 : Nat) (s14 : Seg), e = .returned (Value.slice A12 rr1.length c13) ∧ FM.le f g ∧ St t w' g (s14 :: H) ∧ Own (tInt .u8) 5 g A12 c13 s14 rr1) := by
 unfold frame_four at h
 refine enter Tryz.func51 rfl (tm := #[.int .u32 n1, uV, uV, uV, uV, uV, uV, uV, uV, uV, uV, uV, uV, uV, uV]) kr ?_
 intro B hret hnor hnp
 refine wp_seq_k fun K2 hK3 => rl ?_
 refine seqL1 kr ?_
 refine nl (hK3 _ _ ?_)
 refine wp_seq_k fun K4 hK5 => rl ?_
 refine seqL11 kr ?_
 refine seqK rfl (does_lit (e := (tInt .u8)) (E := 5) (vs := #[(0, Value.int .u8 (u8 (shr n1 24))), (1, Value.int .u8 (u8 (shr n1 16))), (2, Value.int .u8 (u8 (shr n1 8))), (3, Value.int .u8 (u8 (n1)))]) (cs := #[.int .u8 (u8 (shr n1 24)), .int .u8 (u8 (shr n1 16)), .int .u8 (u8 (shr n1 8)), .int .u8 (u8 (n1))]) (xs := ([u8 (shr n1 24), u8 (shr n1 16), u8 (shr n1 8), u8 (n1)] : List Int)) rfl Tryz.underlying23 kr kr ⟨[.int .u8 (u8 (shr n1 24))], _, rfl, rfl, ⟨[.int .u8 (u8 (shr n1 16))], _, rfl, rfl, ⟨[.int .u8 (u8 (shr n1 8))], _, rfl, rfl, ⟨[.int .u8 (u8 (n1))], _, rfl, rfl, rfl⟩⟩⟩⟩ rfl HS ?_ (by decide))
 intro b6 W7 s8 HS9 _ HO10
 refine seqL1 kr ?_
 refine nl (hK5 _ _ ?_)
 refine wp_ret ?_
 refine hret _ _ ?_
 refine ends_still (v := Value.slice (some ⟨b6, 0, none⟩) ([u8 (shr n1 24), u8 (shr n1 16), u8 (shr n1 8), u8 (n1)] : List Int).length 4) kr kr ?_
 injection h with h
 subst h
 exact ⟨f, (some ⟨b6, 0, none⟩), 4, s8, rfl, FM.le.refl _, HS9, HO10⟩

set_option maxRecDepth 100000 in
set_option maxHeartbeats 4000000 in
theorem frame_Sum.calls (k : Nat) (A2 : Option Addr) (c3 : Nat) (b1 : List Int) {t w : World} {f : FM} {H : List Seg} (HS : St t w f (H)) (HR4 : SlR (tInt .u8) f A2 c3 b1) (rr1 : Int) (h : frame_Sum k b1 = some rr1) :
    Calls Tryz.prog 52 #[.slice A2 b1.length c3] w (fun e w' => ∃ (g : FM), e = .returned (Value.int .u32 rr1) ∧ FM.le f g ∧ St t w' g (H)) := by
 unfold frame_Sum at h
 refine enter Tryz.func52 rfl (tm := #[.slice A2 b1.length c3, uV, uV, uV, uV, uV, uV, uV, uV, uV, uV, uV, uV, uV, uV, uV, uV, uV, uV, uV, uV, uV, uV, uV, uV, uV, uV, uV, uV, uV]) kr ?_
 intro B hret hnor hnp
 refine wp_seq_k fun K5 hK6 => rl ?_
 refine seqL1 kr ?_
 refine nl (hK6 _ _ ?_)
 refine wp_seq_k fun K7 hK8 => rl ?_
 refine seqL1 kr ?_
 refine nl (hK8 _ _ ?_)
 refine wp_seq_k (fun K9 hK10 => ?_)
 refine wp_seq_k fun K11 hK12 => rl ?_
 refine seqL3 kr ?_
 refine nl (hK12 _ _ ?_)
 refine blockK (fun B13 hx14 hn15 hr16 ho17 hp18 => ?_)
 have hq_ := bind_some h; clear h; obtain ⟨o19, hv109, h⟩ := hq_
 have J110 : ∀ (f103 : FM) (s108 : Int) (j107 : Nat → Value) (W105 : World) (a_ : Act), FM.le f f103 → some (s108) = some o19 → St t W105 f103 (H) → a_ = ⟨#[.slice A2 b1.length c3, uV, .int .u32 0, .int .u32 s108, uV, (j107 0), .slice A2 b1.length c3, iV (b1.length : Int), (j107 1), (j107 2), (j107 3), (j107 4), (j107 5), (j107 6), (j107 7), (j107 8), (j107 9), (j107 10), (j107 11), (j107 12), (j107 13), (j107 14), (j107 15), (j107 16), (j107 17), (j107 18), (j107 19), (j107 20), uV, uV], []⟩ → K9 a_ W105 := by
  intro f103 s108 j107 W105 a_ L104 hj111 HS106  hfr_; subst hfr_
  injection hj111 with hj111; subst hj111; try dsimp only at h
  refine hK10 _ _ ?_
  refine wp_seq_k fun K112 hK113 => rl ?_
  refine seqL3 kr ?_
  refine nl (hK113 _ _ ?_)
  refine wp_ret ?_
  refine hret _ _ ?_
  refine ends_still (v := Value.int .u32 (Go.bits .xor .u32 IntKind.u32.max s108)) kr kr ?_
  injection h with h
  subst h
  exact ⟨f103, rfl, L104, HS106⟩
 clear h; have h := hv109; clear hv109
 refine loopK (fun n_ a_ w_ => ∃ (f23 : FM) (s28 : Int) (x29 : Int) (j27 : Nat → Value), FM.le f f23 ∧ St t w_ f23 (H) ∧ frame_Sum.l0 k b1 n_ s28 x29 = some o19 ∧ a_ = ⟨#[.slice A2 b1.length c3, uV, .int .u32 0, .int .u32 s28, uV, (j27 0), .slice A2 b1.length c3, iV (b1.length : Int), iV x29, (j27 1), (j27 2), (j27 3), (j27 4), (j27 5), (j27 6), (j27 7), (j27 8), (j27 9), (j27 10), (j27 11), (j27 12), (j27 13), (j27 14), (j27 15), (j27 16), (j27 17), (j27 18), (j27 19), uV, uV], []⟩) k ⟨f, 4294967295, 0, (jL []), fL, HS, h, kr⟩ ?_
 clear h
 rintro n22 _ W25 ⟨f23, s28, x29, j27, L24, HS26, h, rfl⟩ K20 hK21
 obtain _ | n22 := n22
 · exact nomatch h
 simp only [frame_Sum.l0] at h
 refine wp_seq_k fun K30 hK31 => rl ?_
 refine seqL1 kr ?_
 refine nl (hK31 _ _ ?_)
 refine wp_seq_k (fun K32 hK33 => ?_)
 have hq_ := ite_some h; clear h; rcases hq_ with ⟨c35, h⟩ | ⟨c35, h⟩
 · have c35 : x29 < (b1.length : Int) := c35
   refine wpRwI 9 kr (decide_eq_true c35) ?_
   refine condT kr ?_
   refine wp_skip ?_
   refine hK33 _ _ ?_
   refine wp_seq_k (fun K36 hK37 => ?_)
   refine blockK (fun B38 hx39 hn40 hr41 ho42 hp43 => ?_)
   refine wp_seq_k fun K45 hK46 => rl ?_
   have hq_ := guard_some h; clear h; obtain ⟨c47, h⟩ := hq_
   have c47 : 0 ≤ x29 := c47
   obtain ⟨b51, of52, cs48, hA53, hr49, hc50⟩ := (HR4.mono L24).at (i := x29) c47 c35
   obtain rfl := hr49
   refine seqK rfl (does_run (run_indexE hA53 (sz := 1) rfl Tryz.underlying23 kr (kv (.slice A2 b1.length c3)) (kv (.int .i64 x29)) c47 c35 W25) ?_)
   refine seqK rfl (does_run (run_load rfl Tryz.underlying5 rfl (kv (.pointer (some ⟨b51, of52 + (x29 : Int).toNat * 1, none⟩))) ((hc50 fL HS26) 0 (by decide))) ?_)
   refine seqL1 kr ?_
   refine nl (hK46 _ _ ?_)
   refine wp_seq_k fun K54 hK55 => rl ?_
   refine seqL5 kr ?_
   refine nl (hK55 _ _ ?_)
   refine wp_seq_k fun K56 hK57 => rl ?_
   refine seqL1 kr ?_
   refine nl (hK57 _ _ ?_)
   refine blockK (fun B58 hx59 hn60 hr61 ho62 hp63 => ?_)
   have hq_ := bind_some h; clear h; obtain ⟨o64, hv100, h⟩ := hq_
   have J101 : ∀ (f94 : FM) (s99 : Int) (j98 : Nat → Value) (W96 : World) (a_ : Act), FM.le f23 f94 → some (s99) = some o64 → St t W96 f94 (H) → a_ = ⟨#[.slice A2 b1.length c3, uV, .int .u32 0, .int .u32 s99, uV, .int .u8 (rd b1 x29), .slice A2 b1.length c3, iV (b1.length : Int), iV x29, tV, pV b51 (of52 + (x29 : Int).toNat * 1), .int .u8 (rd b1 x29), .int .u32 s28, .int .u8 (rd b1 x29), .int .u32 (u32 ((rd b1 x29))), .int .u32 (Go.bits .xor .u32 s28 (u32 ((rd b1 x29)))), (j98 0), (j98 1), (j98 2), (j98 3), (j98 4), (j98 5), (j98 6), (j98 7), (j98 8), (j98 9), (j98 10), (j27 19), uV, uV], []⟩ → B38 Exit.normal a_ W96 := by
    intro f94 s99 j98 W96 a_ L95 hj102 HS97  hfr_; subst hfr_
    injection hj102 with hj102; subst hj102; try dsimp only at h
    refine hn40 _ _ ?_
    refine hK37 _ _ ?_
    refine rl ?_
    refine seqL2 kr ?_
    refine nl ?_
    refine hK21 n22 _ _ (Nat.lt_succ_self _) ?_
    exact ⟨f94, s99, (w64 (x29 + 1)), (jL [.int .u8 (rd b1 x29), tV, .pointer (some ⟨b51, of52 + (x29 : Int).toNat * 1, none⟩), .int .u8 (rd b1 x29), .int .u32 s28, .int .u8 (rd b1 x29), .int .u32 (u32 ((rd b1 x29))), .int .u32 (Go.bits .xor .u32 s28 (u32 ((rd b1 x29)))), (j98 0), (j98 1), (j98 2), (j98 3), (j98 4), (j98 5), (j98 6), (j98 7), (j98 8), (j98 9), (j98 10), iV (w64 (x29 + 1))]), (L24.trans L95), HS97, h, kr⟩
   clear h; have h := hv100; clear hv100
   refine loopK (fun n_ a_ w_ => ∃ (f68 : FM) (s73 : Int) (x74 : Int) (j72 : Nat → Value), FM.le f23 f68 ∧ St t w_ f68 (H) ∧ frame_Sum.l1 k n_ s73 x74 = some o64 ∧ a_ = ⟨#[.slice A2 b1.length c3, uV, .int .u32 0, .int .u32 s73, uV, .int .u8 (rd b1 x29), .slice A2 b1.length c3, iV (b1.length : Int), iV x29, tV, pV b51 (of52 + (x29 : Int).toNat * 1), .int .u8 (rd b1 x29), .int .u32 s28, .int .u8 (rd b1 x29), .int .u32 (u32 ((rd b1 x29))), .int .u32 (Go.bits .xor .u32 s28 (u32 ((rd b1 x29)))), iV x74, (j72 0), (j72 1), (j72 2), (j72 3), (j72 4), (j72 5), (j72 6), (j72 7), (j72 8), (j72 9), (j27 19), uV, uV], []⟩) k ⟨f23, (Go.bits .xor .u32 s28 (u32 ((rd b1 x29)))), 0, (jL [(j27 9), (j27 10), (j27 11), (j27 12), (j27 13), (j27 14), (j27 15), (j27 16), (j27 17), (j27 18)]), fL, HS26, h, kr⟩ ?_
   clear h
   rintro n67 _ W70 ⟨f68, s73, x74, j72, L69, HS71, h, rfl⟩ K65 hK66
   obtain _ | n67 := n67
   · exact nomatch h
   simp only [frame_Sum.l1] at h
   refine wp_seq_k fun K75 hK76 => rl ?_
   refine seqL1 kr ?_
   refine nl (hK76 _ _ ?_)
   refine wp_seq_k (fun K77 hK78 => ?_)
   have hq_ := ite_some h; clear h; rcases hq_ with ⟨c80, h⟩ | ⟨c80, h⟩
   · have c80 : x74 < 8 := c80
     refine wpRwI 17 kr (decide_eq_true c80) ?_
     refine condT kr ?_
     refine wp_skip ?_
     refine hK78 _ _ ?_
     refine wp_seq_k (fun K81 hK82 => ?_)
     refine blockK (fun B83 hx84 hn85 hr86 ho87 hp88 => ?_)
     refine wp_seq_k fun K90 hK91 => rl ?_
     refine seqL3 kr ?_
     refine nl (hK91 _ _ ?_)
     have hq_ := ite_some h; clear h; rcases hq_ with ⟨c93, h⟩ | ⟨c93, h⟩
     · have c93 : (Go.bits .and .u32 s73 1) = 1 := c93
       refine wpRwI 20 kr (beq_iff_eq.mpr c93) ?_
       refine condT kr ?_
       refine rl ?_
       refine seqL4 kr ?_
       refine nl ?_
       refine hn85 _ _ ?_
       refine hK82 _ _ ?_
       refine rl ?_
       refine seqL2 kr ?_
       refine nl ?_
       refine hK66 n67 _ _ (Nat.lt_succ_self _) ?_
       exact ⟨f68, (Go.bits .xor .u32 (shr s73 1) 3988292384), (w64 (x74 + 1)), (jL [tV, .int .u32 s73, .int .u32 (Go.bits .and .u32 s73 1), tV, .int .u32 s73, .int .u32 (shr s73 1), .int .u32 (Go.bits .xor .u32 (shr s73 1) 3988292384), (j72 7), (j72 8), iV (w64 (x74 + 1))]), L69, HS71, h, kr⟩
     · have c93 : ¬ ((Go.bits .and .u32 s73 1) = 1) := c93
       refine wpRwI 20 kr (beq_eq_false_iff_ne.mpr c93) ?_
       refine condF kr ?_
       refine rl ?_
       refine seqL3 kr ?_
       refine nl ?_
       refine hn85 _ _ ?_
       refine hK82 _ _ ?_
       refine rl ?_
       refine seqL2 kr ?_
       refine nl ?_
       refine hK66 n67 _ _ (Nat.lt_succ_self _) ?_
       exact ⟨f68, (shr s73 1), (w64 (x74 + 1)), (jL [tV, .int .u32 s73, .int .u32 (Go.bits .and .u32 s73 1), fV, (j72 4), (j72 5), (j72 6), .int .u32 s73, .int .u32 (shr s73 1), iV (w64 (x74 + 1))]), L69, HS71, h, kr⟩
   · have c80 : ¬ (x74 < 8) := c80
     refine wpRwI 17 kr (decide_eq_false c80) ?_
     refine condF kr ?_
     refine wp_exit ?_
     refine hx59 _ _ ?_
     exact J101 f68 s73 (jL [iV x74, fV, (j72 1), (j72 2), (j72 3), (j72 4), (j72 5), (j72 6), (j72 7), (j72 8), (j72 9)]) W70 _ L69 h HS71 kr
 · have c35 : ¬ (x29 < (b1.length : Int)) := c35
   refine wpRwI 9 kr (decide_eq_false c35) ?_
   refine condF kr ?_
   refine wp_exit ?_
   refine hx14 _ _ ?_
   exact J110 f23 s28 (jL [(j27 0), iV x29, fV, (j27 2), (j27 3), (j27 4), (j27 5), (j27 6), (j27 7), (j27 8), (j27 9), (j27 10), (j27 11), (j27 12), (j27 13), (j27 14), (j27 15), (j27 16), (j27 17), (j27 18), (j27 19)]) W25 _ L24 h HS26 kr

set_option maxRecDepth 100000 in
set_option maxHeartbeats 4000000 in
theorem frame_seal.calls (k : Nat) (A3 : Option Addr) (c4 : Nat) (i1 : Int) (block2 : List Int) {t w : World} {f : FM} {H : List Seg} (HS : St t w f (H)) (HR5 : SlR (tInt .u8) f A3 c4 block2) (rr1 : List Int) (h : frame_seal k i1 block2 = some rr1) :
    Calls Tryz.prog 23 #[.int .i64 i1, .slice A3 block2.length c4] w (fun e w' => ∃ (g : FM) (A55 : Option Addr) (c56 : Nat) (s57 : Seg), e = .returned (Value.slice A55 rr1.length c56) ∧ FM.le f g ∧ St t w' g (s57 :: H) ∧ Own (tInt .u8) 5 g A55 c56 s57 rr1) := by
 unfold frame_seal at h
 refine enter Tryz.func23 rfl (tm := #[iV i1, .slice A3 block2.length c4, uV, uV, uV, uV, uV, uV, uV, uV, uV, uV]) kr ?_
 intro B hret hnor hnp
 refine wp_seq_k fun K6 hK7 => rl ?_
 refine seqL1 kr ?_
 refine nl (hK7 _ _ ?_)
 refine wp_seq_k fun K8 hK9 => rl ?_
 have hq_ := bind_some h; clear h; obtain ⟨vt10, hc11, h⟩ := hq_
 refine seqL2 kr ?_
 refine seqK rfl (does_call (f := 51) (args := #[.int .u32 (u32 (i1))]) kr (frame_four.calls k (u32 (i1)) HS vt10 hc11) ?_)
 rintro _ W14 ⟨f12, A16, c17, s18, rfl, L13, HS15, HO19⟩
 refine ⟨_, rfl, ?_⟩
 have hq_ := guard_some h; clear h; obtain ⟨c21, h⟩ := hq_
 have c21 : (vt10.length + block2.length) * 1 ≤ 140737488355328 := c21
 refine seqL1 kr ?_
 refine seqK rfl (does_append (e := (tInt .u8)) (E := 5) (xs := vt10) (ys := block2) rfl (kv (.slice A16 vt10.length c17)) (kv (.slice A3 block2.length c4)) Tryz.underlying23 inf5 HO19 HS15 ((HR5.mono L13).rc HS15) c21 (lim63 c21 (by decide)) ?_)
 intro A22 c23 s24 W25 HS26 HO27
 obtain ⟨f28, L29, HS30, HR31, th32⟩ := HO27.lend HS26
 have hq_ := bind_some h; clear h; obtain ⟨vt33, hc34, h⟩ := hq_
 refine seqK rfl (does_call (f := 52) (args := #[.slice A22 (vt10 ++ block2).length c23]) kr (frame_Sum.calls k A22 c23 (vt10 ++ block2) HS30 HR31 vt33 hc34) ?_)
 rintro _ W37 ⟨f35, rfl, L36, HS38⟩
 refine ⟨_, rfl, ?_⟩
 obtain ⟨f39, L40, HS41⟩ := th32 L36 HS38
 have hq_ := bind_some h; clear h; obtain ⟨vt42, hc43, h⟩ := hq_
 refine seqK rfl (does_call (f := 51) (args := #[.int .u32 vt33]) kr (frame_four.calls k vt33 HS41 vt42 hc43) ?_)
 rintro _ W46 ⟨f44, A48, c49, s50, rfl, L45, HS47, HO51⟩
 refine ⟨_, rfl, ?_⟩
 refine seqL1 kr ?_
 refine nl (hK9 _ _ ?_)
 refine wp_ret ?_
 refine hret _ _ ?_
 refine ends_still (v := Value.slice A48 vt42.length c49) kr kr ?_
 have HS53 := HS47.u1
 have HS54 := HS53.drop
 injection h with h
 subst h
 exact ⟨f44, A48, c49, s50, rfl, (L13.trans (L40.trans L45)), HS54, HO51⟩

set_option maxRecDepth 100000 in
set_option maxHeartbeats 4000000 in
theorem frame_Encode.calls (k : Nat) (A2 : Option Addr) (c3 : Nat) (A5 : Option Addr) (c6 : Nat) (vf1 : S_Frame) {t w : World} {f : FM} {H : List Seg} (HS : St t w f (H)) (HR4 : SlR ty_Card f A2 c3 vf1.Cards) (HR7 : SlR (tInt .i64) f A5 c6 vf1.Counts) (HA : TabF Tryz.prog "strings.asciiSpace" .u8 Go.Lib.asciiSpaceTab f) (HT : TabF Tryz.prog "internal/strconv.uint64pow10" .u64 Go.Lib.pow10Tab f) (rr1 : List Int) (rr2 : Int) (h : frame_Encode k vf1 = some (rr1, rr2)) :
    Calls Tryz.prog 7 #[.agg #[.int .i64 vf1.W, .int .i64 vf1.H, .slice A2 vf1.Cards.length c3, .slice A5 vf1.Counts.length c6]] w (fun e w' => ∃ (g : FM) (A589 : Option Addr) (c590 : Nat) (s591 : Seg), e = .returned (Value.tuple #[.slice A589 rr1.length c590, .int .i64 rr2]) ∧ FM.le f g ∧ St t w' g (s591 :: H) ∧ Own (tInt .u8) 5 g A589 c590 s591 rr1) := by
 unfold frame_Encode at h
 refine enter Tryz.func7 rfl (tm := #[(ag_Frame vf1 A2 c3 A5 c6), uV, uV, uV, uV, uV, uV, uV, uV, uV, uV, uV, uV, uV, uV, uV, uV, uV, uV, uV, uV, uV, uV, uV, uV, uV, uV, uV, uV, uV, uV, uV, uV, uV, uV, uV, uV, uV, uV, uV, uV, uV, uV, uV, uV, uV, uV, uV, uV, uV, uV, uV, uV, uV, uV, uV, uV, uV, uV, uV, uV, uV, uV, uV, uV, uV, uV, uV, uV, uV, uV, uV, uV, uV, uV, uV, uV, uV, uV, uV, uV, uV, uV]) kr ?_
 intro B hret hnor hnp
 refine wp_seq_k fun K8 hK9 => rl ?_
 refine seqK rfl (does_box (cs := #[.int .i64 vf1.W, .int .i64 vf1.H, .slice A2 vf1.Cards.length c3, .slice A5 vf1.Counts.length c6]) rfl (kv (.agg #[.int .i64 vf1.W, .int .i64 vf1.H, .slice A2 vf1.Cards.length c3, .slice A5 vf1.Counts.length c6])) rfl HS ?_)
 intro b10 W11 HS12
 refine seqL2 kr ?_
 refine nl (hK9 _ _ ?_)
 refine wp_seq_k (fun K14 hK15 => ?_)
 refine wp_seq_k fun K16 hK17 => rl ?_
 refine seqK rfl (does_run (run_loadN (n := 4) rfl Tryz.underlying29 rfl kr (kv (.pointer (some ⟨b10, 0, none⟩))) (cs := [.int .i64 vf1.W, .int .i64 vf1.H, .slice A2 vf1.Cards.length c3, .slice A5 vf1.Counts.length c6]) rfl (HS12.cells 0 4 _ rfl)) ?_)
 have hq_ := bind_some h; clear h; obtain ⟨vt18, hc19, h⟩ := hq_
 refine seqK rfl (does_call (f := 21) (args := #[.agg #[.int .i64 vf1.W, .int .i64 vf1.H, .slice A2 vf1.Cards.length c3, .slice A5 vf1.Counts.length c6]]) kr (frame_Check.calls k A2 c3 A5 c6 vf1 HS12 HR4 HR7 HA vt18 hc19) ?_)
 rintro _ W22 ⟨f20, rfl, L21, HS23⟩
 refine ⟨_, rfl, ?_⟩
 refine seqL1 kr ?_
 refine nl (hK17 _ _ ?_)
 refine wp_seq_k fun K24 hK25 => rl ?_
 refine seqL2 kr ?_
 refine nl (hK25 _ _ ?_)
 have hq_ := ite_some h; clear h; rcases hq_ with ⟨c27, h⟩ | ⟨c27, h⟩
 · have c27 : vt18 ≠ 0 := c27
   refine wpRwI 17 kr (bne_iff_ne.mpr c27) ?_
   refine condT kr ?_
   refine wp_seq_k fun K28 hK29 => rl ?_
   refine seqL3 kr ?_
   refine nl (hK29 _ _ ?_)
   refine wp_ret ?_
   refine hret _ _ ?_
   have HS583 := HS23.cons_nil
   refine ends_still (v := Value.tuple #[.slice none 0 0, .int .i64 vt18]) kr kr ?_
   have HS585 := HS583.u1
   have HS586 := HS585.drop
   injection h with h
   injection h with h0_ h
   subst h0_ h
   exact ⟨f20, none, 0, [], rfl, L21, HS586, (Own.nil _)⟩
 · have c27 : ¬ (vt18 ≠ 0) := c27
   refine wpRwI 17 (x := (vt18 != 0)) (v := false) kr (bne_eq_false_iff_eq.mpr (Decidable.of_not_not c27)) ?_
   refine condF kr ?_
   refine wp_skip ?_
   refine hK15 _ _ ?_
   refine wp_seq_k fun K30 hK31 => rl ?_
   refine seqL1 kr ?_
   refine nl (hK31 _ _ ?_)
   refine wp_seq_k (fun K32 hK33 => ?_)
   refine wp_seq_k fun K34 hK35 => rl ?_
   refine seqL1 kr ?_
   refine seqK rfl (does_run (run_load rfl Tryz.underlying22 rfl (kv (.pointer (some ⟨b10, 3, none⟩))) (HS23.cell 3)) ?_)
   refine seqL2 kr ?_
   refine nl (hK35 _ _ ?_)
   refine blockK (fun B36 hx37 hn38 hr39 ho40 hp41 => ?_)
   have hq_ := bind_some h; clear h; obtain ⟨o42, hv87, h⟩ := hq_
   have J88 : ∀ (f81 : FM) (size86 : Int) (j85 : Nat → Value) (W83 : World) (a_ : Act), FM.le f20 f81 → some (size86) = some o42 → St t W83 f81 ([(b10, .cells #[.int .i64 vf1.W, .int .i64 vf1.H, .slice A2 vf1.Cards.length c3, .slice A5 vf1.Counts.length c6] 29 (0, 0))] :: H) → a_ = ⟨#[(ag_Frame vf1 A2 c3 A5 c6), pV b10 0, .slice none 0 0, iV 0, iV vt18, iV size86, uV, (j85 0), uV, uV, uV, uV, uV, uV, (ag_Frame vf1 A2 c3 A5 c6), iV vt18, iV vt18, fV, uV, pV b10 3, .slice A5 vf1.Counts.length c6, iV (vf1.Counts.length : Int), (j85 1), (j85 2), (j85 3), (j85 4), (j85 5), (j85 6), (j85 7), uV, uV, uV, uV, uV, uV, uV, uV, uV, uV, uV, uV, uV, uV, uV, uV, uV, uV, uV, uV, uV, uV, uV, uV, uV, uV, uV, uV, uV, uV, uV, uV, uV, uV, uV, uV, uV, uV, uV, uV, uV, uV, uV, uV, uV, uV, uV, uV, uV, uV, uV, uV, uV, uV], []⟩ → K32 a_ W83 := by
    intro f81 size86 j85 W83 a_ L82 hj89 HS84  hfr_; subst hfr_
    injection hj89 with hj89; subst hj89; try dsimp only at h
    refine hK33 _ _ ?_
    refine wp_seq_k fun K90 hK91 => rl ?_
    refine seqK rfl (does_run (run_loadN (n := 4) rfl Tryz.underlying29 rfl kr (kv (.pointer (some ⟨b10, 0, none⟩))) (cs := [.int .i64 vf1.W, .int .i64 vf1.H, .slice A2 vf1.Cards.length c3, .slice A5 vf1.Counts.length c6]) rfl (HS84.cells 0 4 _ rfl)) ?_)
    have hq_ := bind_some h; clear h; obtain ⟨vt92, hc93, h⟩ := hq_
    refine seqL1 kr ?_
    refine seqK rfl (does_call (f := 22) (args := #[.agg #[.int .i64 vf1.W, .int .i64 vf1.H, .slice A2 vf1.Cards.length c3, .slice A5 vf1.Counts.length c6], .int .i64 size86]) kr (frame_header.calls k A2 c3 A5 c6 vf1 size86 HS84 (HR4.mono (L21.trans L82)) (HR7.mono (L21.trans L82)) (HT.mono (L21.trans L82)) vt92 hc93) ?_)
    rintro _ W96 ⟨f94, rfl, L95, HS97⟩
    refine ⟨_, rfl, ?_⟩
    have hq_ := guard_some h; clear h; obtain ⟨c98, h⟩ := hq_
    have c98 : vt92.size ≤ 140737488355328 := c98
    refine seqK rfl (does_bytes rfl Tryz.underlying9 Tryz.underlying23 Tryz.underlying5 (kv (.string vt92)) c98 HS97 ?_)
    intro b99 c100 s101 W102 HS103 HO104
    refine seqL1 kr ?_
    refine nl (hK91 _ _ ?_)
    refine wp_seq_k (fun K106 hK107 => ?_)
    refine wp_seq_k fun K108 hK109 => rl ?_
    refine seqL1 kr ?_
    refine seqK rfl (does_run (run_load rfl Tryz.underlying22 rfl (kv (.pointer (some ⟨b10, 3, none⟩))) (HS103.u1.cell 3)) ?_)
    refine seqL2 kr ?_
    refine nl (hK109 _ _ ?_)
    refine blockK (fun B110 hx111 hn112 hr113 ho114 hp115 => ?_)
    have hq_ := bind_some h; clear h; obtain ⟨o205, hv305, h⟩ := hq_
    have J306 : ∀ (f295 : FM) (A301 : Option Addr) (c302 : Nat) (s303 : Seg) (body300 : List Int) (j299 : Nat → Value) (W297 : World) (a_ : Act), FM.le f94 f295 → some (body300) = some o205 → St t W297 f295 (s303 :: [(b10, .cells #[.int .i64 vf1.W, .int .i64 vf1.H, .slice A2 vf1.Cards.length c3, .slice A5 vf1.Counts.length c6] 29 (0, 0))] :: H) → Own (tInt .u8) 5 f295 A301 c302 s303 body300 → a_ = ⟨#[(ag_Frame vf1 A2 c3 A5 c6), pV b10 0, .slice none 0 0, iV 0, iV vt18, iV size86, uV, (j85 0), .slice A301 body300.length c302, uV, (j299 0), uV, uV, uV, (ag_Frame vf1 A2 c3 A5 c6), iV vt18, iV vt18, fV, uV, pV b10 3, .slice A5 vf1.Counts.length c6, iV (vf1.Counts.length : Int), (j85 1), (j85 2), (j85 3), (j85 4), (j85 5), (j85 6), (j85 7), (ag_Frame vf1 A2 c3 A5 c6), iV size86, .string vt92, (j299 1), pV b10 3, .slice A5 vf1.Counts.length c6, iV (vf1.Counts.length : Int), (j299 2), (j299 3), (j299 4), (j299 5), (j299 6), (j299 7), (j299 8), (j299 9), (j299 10), (j299 11), (j299 12), (j299 13), (j299 14), (j299 15), (j299 16), (j299 17), (j299 18), (j299 19), uV, uV, uV, uV, uV, uV, uV, uV, uV, uV, uV, uV, uV, uV, uV, uV, uV, uV, uV, uV, uV, uV, uV, uV, uV, uV, uV, uV, uV], []⟩ → K106 a_ W297 := by
     intro f295 A301 c302 s303 body300 j299 W297 a_ L296 hj307 HS298 HO304 hfr_; subst hfr_
     injection hj307 with hj307; subst hj307; try dsimp only at h
     refine hK107 _ _ ?_
     refine wp_seq_k (fun K308 hK309 => ?_)
     refine blockK (fun B310 hx311 hn312 hr313 ho314 hp315 => ?_)
     have hq_ := bind_some h; clear h; obtain ⟨o357, hv409, h⟩ := hq_
     have J410 : ∀ (f399 : FM) (A405 : Option Addr) (c406 : Nat) (s407 : Seg) (body404 : List Int) (j403 : Nat → Value) (W401 : World) (a_ : Act), FM.le f295 f399 → some (body404) = some o357 → St t W401 f399 (s407 :: [(b10, .cells #[.int .i64 vf1.W, .int .i64 vf1.H, .slice A2 vf1.Cards.length c3, .slice A5 vf1.Counts.length c6] 29 (0, 0))] :: H) → Own (tInt .u8) 5 f399 A405 c406 s407 body404 → a_ = ⟨#[(ag_Frame vf1 A2 c3 A5 c6), pV b10 0, .slice none 0 0, iV 0, iV vt18, iV size86, uV, (j85 0), .slice A405 body404.length c406, uV, (j299 0), uV, uV, uV, (ag_Frame vf1 A2 c3 A5 c6), iV vt18, iV vt18, fV, uV, pV b10 3, .slice A5 vf1.Counts.length c6, iV (vf1.Counts.length : Int), (j85 1), (j85 2), (j85 3), (j85 4), (j85 5), (j85 6), (j85 7), (ag_Frame vf1 A2 c3 A5 c6), iV size86, .string vt92, (j299 1), pV b10 3, .slice A5 vf1.Counts.length c6, iV (vf1.Counts.length : Int), (j299 2), (j299 3), (j299 4), (j299 5), (j299 6), (j299 7), (j299 8), (j299 9), (j299 10), (j299 11), (j299 12), (j299 13), (j299 14), (j299 15), (j299 16), (j299 17), (j299 18), (j299 19), (j403 0), (j403 1), (j403 2), (j403 3), (j403 4), (j403 5), (j403 6), uV, uV, uV, uV, uV, uV, uV, uV, uV, uV, uV, uV, uV, uV, uV, uV, uV, uV, uV, uV, uV, uV], []⟩ → K308 a_ W401 := by
      intro f399 A405 c406 s407 body404 j403 W401 a_ L400 hj411 HS402 HO408 hfr_; subst hfr_
      injection hj411 with hj411; subst hj411; try dsimp only at h
      refine hK309 _ _ ?_
      refine wp_seq_k fun K412 hK413 => rl ?_
      refine seqL1 kr ?_
      refine nl (hK413 _ _ ?_)
      refine wp_seq_k (fun K414 hK415 => ?_)
      refine wp_seq_k fun K416 hK417 => rl ?_
      refine seqL1 kr ?_
      refine nl (hK417 _ _ ?_)
      refine blockK (fun B418 hx419 hn420 hr421 ho422 hp423 => ?_)
      obtain ⟨f495, L496, HS497, HR498⟩ := HO408.freeze HS402
      have hq_ := bind_some h; clear h; obtain ⟨o499, hv576, h⟩ := hq_
      have J577 : ∀ (f565 : FM) (A571 : Option Addr) (c572 : Nat) (s573 : Seg) (out570 : List Int) (j569 : Nat → Value) (W567 : World) (a_ : Act), FM.le f495 f565 → some (out570) = some o499 → St t W567 f565 (s573 :: [(b10, .cells #[.int .i64 vf1.W, .int .i64 vf1.H, .slice A2 vf1.Cards.length c3, .slice A5 vf1.Counts.length c6] 29 (0, 0))] :: H) → Own (tInt .u8) 5 f565 A571 c572 s573 out570 → a_ = ⟨#[(ag_Frame vf1 A2 c3 A5 c6), pV b10 0, .slice none 0 0, iV 0, iV vt18, iV size86, uV, (j85 0), .slice A405 body404.length c406, uV, (j299 0), .slice A571 out570.length c572, (j569 0), (j569 1), (ag_Frame vf1 A2 c3 A5 c6), iV vt18, iV vt18, fV, uV, pV b10 3, .slice A5 vf1.Counts.length c6, iV (vf1.Counts.length : Int), (j85 1), (j85 2), (j85 3), (j85 4), (j85 5), (j85 6), (j85 7), (ag_Frame vf1 A2 c3 A5 c6), iV size86, .string vt92, (j299 1), pV b10 3, .slice A5 vf1.Counts.length c6, iV (vf1.Counts.length : Int), (j299 2), (j299 3), (j299 4), (j299 5), (j299 6), (j299 7), (j299 8), (j299 9), (j299 10), (j299 11), (j299 12), (j299 13), (j299 14), (j299 15), (j299 16), (j299 17), (j299 18), (j299 19), (j403 0), (j403 1), (j403 2), (j403 3), (j403 4), (j403 5), (j403 6), (j569 2), (j569 3), (j569 4), (j569 5), (j569 6), (j569 7), (j569 8), (j569 9), (j569 10), (j569 11), (j569 12), (j569 13), (j569 14), (j569 15), (j569 16), (j569 17), (j569 18), (j569 19), (j569 20), (j569 21), (j569 22), uV], []⟩ → K414 a_ W567 := by
       intro f565 A571 c572 s573 out570 j569 W567 a_ L566 hj578 HS568 HO574 hfr_; subst hfr_
       injection hj578 with hj578; subst hj578; try dsimp only at h
       refine hK415 _ _ ?_
       refine wp_seq_k fun K581 hK582 => rl ?_
       refine seqL3 kr ?_
       refine nl (hK582 _ _ ?_)
       refine wp_ret ?_
       refine hret _ _ ?_
       refine ends_still (v := Value.tuple #[.slice A571 out570.length c572, .int .i64 0]) kr kr ?_
       have HS587 := HS568.u1
       have HS588 := HS587.drop
       injection h with h
       injection h with h0_ h
       subst h0_ h
       exact ⟨f565, A571, c572, s573, rfl, (L21.trans (L82.trans (L95.trans (L296.trans (L400.trans (L496.trans L566)))))), HS588, HO574⟩
      clear h; have h := hv576; clear hv576
      have HS579 := HS497.cons_nil
      refine loopK (fun n_ a_ w_ => ∃ (f503 : FM) (A509 : Option Addr) (c510 : Nat) (s511 : Seg) (out508 : List Int) (i514 : Int) (j507 : Nat → Value), FM.le f495 f503 ∧ St t w_ f503 (s511 :: [(b10, .cells #[.int .i64 vf1.W, .int .i64 vf1.H, .slice A2 vf1.Cards.length c3, .slice A5 vf1.Counts.length c6] 29 (0, 0))] :: H) ∧ Own (tInt .u8) 5 f503 A509 c510 s511 out508 ∧ frame_Encode.l3 k body404 n_ out508 i514 = some o499 ∧ a_ = ⟨#[(ag_Frame vf1 A2 c3 A5 c6), pV b10 0, .slice none 0 0, iV 0, iV vt18, iV size86, uV, (j85 0), .slice A405 body404.length c406, uV, (j299 0), .slice A509 out508.length c510, iV i514, (j507 0), (ag_Frame vf1 A2 c3 A5 c6), iV vt18, iV vt18, fV, uV, pV b10 3, .slice A5 vf1.Counts.length c6, iV (vf1.Counts.length : Int), (j85 1), (j85 2), (j85 3), (j85 4), (j85 5), (j85 6), (j85 7), (ag_Frame vf1 A2 c3 A5 c6), iV size86, .string vt92, (j299 1), pV b10 3, .slice A5 vf1.Counts.length c6, iV (vf1.Counts.length : Int), (j299 2), (j299 3), (j299 4), (j299 5), (j299 6), (j299 7), (j299 8), (j299 9), (j299 10), (j299 11), (j299 12), (j299 13), (j299 14), (j299 15), (j299 16), (j299 17), (j299 18), (j299 19), (j403 0), (j403 1), (j403 2), (j403 3), (j403 4), (j403 5), (j403 6), (j507 1), (j507 2), (j507 3), (j507 4), (j507 5), (j507 6), (j507 7), (j507 8), (j507 9), (j507 10), (j507 11), (j507 12), (j507 13), (j507 14), (j507 15), (j507 16), (j507 17), (j507 18), (j507 19), (j507 20), (j507 21), uV], []⟩) k ⟨f495, none, 0, [], ([] : List Int), 0, (jL []), fL, HS579, (Own.nil _), h, kr⟩ ?_
      clear h
      rintro n502 _ W505 ⟨f503, A509, c510, s511, out508, i514, j507, L504, HS506, HO512, h, rfl⟩ K500 hK501
      obtain _ | n502 := n502
      · exact nomatch h
      simp only [frame_Encode.l3] at h
      refine wp_seq_k (fun K515 hK516 => ?_)
      refine wp_seq_k fun K517 hK518 => rl ?_
      refine seqL5 kr ?_
      refine nl (hK518 _ _ ?_)
      have hq_ := ite_some h; clear h; rcases hq_ with ⟨c520, h⟩ | ⟨c520, h⟩
      · have c520 : (w64 (i514 * 256)) < (body404.length : Int) := c520
        refine wpRwI 65 kr (decide_eq_true c520) ?_
        refine condT kr ?_
        refine wp_skip ?_
        refine hK516 _ _ ?_
        refine wp_seq_k (fun K521 hK522 => ?_)
        refine blockK (fun B523 hx524 hn525 hr526 ho527 hp528 => ?_)
        refine wp_seq_k fun K530 hK531 => rl ?_
        have hq_ := guard_some h; clear h; obtain ⟨c532, h⟩ := hq_
        have c532 : 0 ≤ (w64 (i514 * 256)) := c532
        have hq_ := guard_some h; clear h; obtain ⟨c533, h⟩ := hq_
        have c533 : (w64 (i514 * 256)) ≤ (w64 ((w64 (i514 + 1)) * 256)) := c533
        have hq_ := guard_some h; clear h; obtain ⟨c534, h⟩ := hq_
        have c534 : (w64 ((w64 (i514 + 1)) * 256)) ≤ (body404.length : Int) := c534
        refine seqL6 kr ?_
        refine seqK rfl (does_cutLH (e := (tInt .u8)) (xs := body404) rfl Tryz.underlying23 kr (kv (.slice A405 body404.length c406)) (kv (.int .i64 (w64 (i514 * 256)))) (kv (.int .i64 (w64 ((w64 (i514 + 1)) * 256))))  c532 c533 c534 HR498 ?_)
        intro A535 c536 HR537
        refine seqL1 kr ?_
        refine nl (hK531 _ _ ?_)
        refine rl ?_
        have hq_ := guard_some h; clear h; obtain ⟨c538, h⟩ := hq_
        have c538 : (out508.length + ((body404.take (w64 ((w64 (i514 + 1)) * 256)).toNat).drop (w64 (i514 * 256)).toNat).length) * 1 ≤ 140737488355328 := c538
        refine seqL2 kr ?_
        refine seqK rfl (does_append (e := (tInt .u8)) (E := 5) (xs := out508) (ys := ((body404.take (w64 ((w64 (i514 + 1)) * 256)).toNat).drop (w64 (i514 * 256)).toNat)) rfl (kv (.slice A509 out508.length c510)) (kv (.slice A535 ((body404.take (w64 ((w64 (i514 + 1)) * 256)).toNat).drop (w64 (i514 * 256)).toNat).length c536)) Tryz.underlying23 inf5 HO512 HS506 ((HR537.mono L504).rc HS506) c538 (lim63 c538 (by decide)) ?_)
        intro A539 c540 s541 W542 HS543 HO544
        have hq_ := bind_some h; clear h; obtain ⟨vt545, hc546, h⟩ := hq_
        refine seqL2 kr ?_
        refine seqK rfl (does_call (f := 23) (args := #[.int .i64 i514, .slice A535 ((body404.take (w64 ((w64 (i514 + 1)) * 256)).toNat).drop (w64 (i514 * 256)).toNat).length c536]) kr (frame_seal.calls k A535 c536 i514 ((body404.take (w64 ((w64 (i514 + 1)) * 256)).toNat).drop (w64 (i514 * 256)).toNat) HS543 (HR537.mono L504) vt545 hc546) ?_)
        rintro _ W549 ⟨f547, A551, c552, s553, rfl, L548, HS550, HO554⟩
        refine ⟨_, rfl, ?_⟩
        have hq_ := guard_some h; clear h; obtain ⟨c556, h⟩ := hq_
        have c556 : ((out508 ++ ((body404.take (w64 ((w64 (i514 + 1)) * 256)).toNat).drop (w64 (i514 * 256)).toNat)).length + vt545.length) * 1 ≤ 140737488355328 := c556
        have HS558 := HS550.u1.u1
        refine seqK rfl (does_append1 (e := (tInt .u8)) (E := 5) (xs := (out508 ++ ((body404.take (w64 ((w64 (i514 + 1)) * 256)).toNat).drop (w64 (i514 * 256)).toNat))) (ys := vt545) rfl (kv (.slice A539 (out508 ++ ((body404.take (w64 ((w64 (i514 + 1)) * 256)).toNat).drop (w64 (i514 * 256)).toNat)).length c540)) (kv (.slice A551 vt545.length c552)) Tryz.underlying23 inf5 (HO544.mono L548) HO554 HS558 c556 (lim63 c556 (by decide)) ?_)
        intro A559 c560 s561 W562 HS563 HO564
        refine seqL1 kr ?_
        refine nl ?_
        refine hn525 _ _ ?_
        refine hK522 _ _ ?_
        refine rl ?_
        refine seqL3 kr ?_
        refine nl ?_
        refine hK501 n502 _ _ (Nat.lt_succ_self _) ?_
        exact ⟨f547, A559, c560, s561, ((out508 ++ ((body404.take (w64 ((w64 (i514 + 1)) * 256)).toNat).drop (w64 (i514 * 256)).toNat)) ++ vt545), (w64 (i514 + 1)), (jL [.slice A535 ((body404.take (w64 ((w64 (i514 + 1)) * 256)).toNat).drop (w64 (i514 * 256)).toNat).length c536, iV i514, iV (w64 (i514 * 256)), .slice A405 body404.length c406, iV (body404.length : Int), tV, iV i514, iV (w64 (i514 + 1)), .slice A405 body404.length c406, iV i514, iV (w64 (i514 * 256)), iV i514, iV (w64 (i514 + 1)), iV (w64 ((w64 (i514 + 1)) * 256)), .slice A535 ((body404.take (w64 ((w64 (i514 + 1)) * 256)).toNat).drop (w64 (i514 * 256)).toNat).length c536, .slice A509 out508.length c510, .slice A535 ((body404.take (w64 ((w64 (i514 + 1)) * 256)).toNat).drop (w64 (i514 * 256)).toNat).length c536, .slice A539 (out508 ++ ((body404.take (w64 ((w64 (i514 + 1)) * 256)).toNat).drop (w64 (i514 * 256)).toNat)).length c540, iV i514, .slice A535 ((body404.take (w64 ((w64 (i514 + 1)) * 256)).toNat).drop (w64 (i514 * 256)).toNat).length c536, .slice A551 vt545.length c552, .slice A559 ((out508 ++ ((body404.take (w64 ((w64 (i514 + 1)) * 256)).toNat).drop (w64 (i514 * 256)).toNat)) ++ vt545).length c560]), (L504.trans L548), HS563, HO564, h, kr⟩
      · have c520 : ¬ ((w64 (i514 * 256)) < (body404.length : Int)) := c520
        refine wpRwI 65 kr (decide_eq_false c520) ?_
        refine condF kr ?_
        refine wp_exit ?_
        refine hx419 _ _ ?_
        exact J577 f503 A509 c510 s511 out508 (jL [iV i514, (j507 0), iV i514, iV (w64 (i514 * 256)), .slice A405 body404.length c406, iV (body404.length : Int), fV, (j507 6), (j507 7), (j507 8), (j507 9), (j507 10), (j507 11), (j507 12), (j507 13), (j507 14), (j507 15), (j507 16), (j507 17), (j507 18), (j507 19), (j507 20), (j507 21)]) W505 _ L504 h HS506 HO512 kr
     clear h; have h := hv409; clear hv409
     refine loopK (fun n_ a_ w_ => ∃ (f361 : FM) (A367 : Option Addr) (c368 : Nat) (s369 : Seg) (body366 : List Int) (j365 : Nat → Value), FM.le f295 f361 ∧ St t w_ f361 (s369 :: [(b10, .cells #[.int .i64 vf1.W, .int .i64 vf1.H, .slice A2 vf1.Cards.length c3, .slice A5 vf1.Counts.length c6] 29 (0, 0))] :: H) ∧ Own (tInt .u8) 5 f361 A367 c368 s369 body366 ∧ frame_Encode.l2 k n_ body366 = some o357 ∧ a_ = ⟨#[(ag_Frame vf1 A2 c3 A5 c6), pV b10 0, .slice none 0 0, iV 0, iV vt18, iV size86, uV, (j85 0), .slice A367 body366.length c368, uV, (j299 0), uV, uV, uV, (ag_Frame vf1 A2 c3 A5 c6), iV vt18, iV vt18, fV, uV, pV b10 3, .slice A5 vf1.Counts.length c6, iV (vf1.Counts.length : Int), (j85 1), (j85 2), (j85 3), (j85 4), (j85 5), (j85 6), (j85 7), (ag_Frame vf1 A2 c3 A5 c6), iV size86, .string vt92, (j299 1), pV b10 3, .slice A5 vf1.Counts.length c6, iV (vf1.Counts.length : Int), (j299 2), (j299 3), (j299 4), (j299 5), (j299 6), (j299 7), (j299 8), (j299 9), (j299 10), (j299 11), (j299 12), (j299 13), (j299 14), (j299 15), (j299 16), (j299 17), (j299 18), (j299 19), (j365 0), (j365 1), (j365 2), (j365 3), (j365 4), (j365 5), (j365 6), uV, uV, uV, uV, uV, uV, uV, uV, uV, uV, uV, uV, uV, uV, uV, uV, uV, uV, uV, uV, uV, uV], []⟩) k ⟨f295, A301, c302, s303, body300, (jL []), fL, HS298, HO304, h, kr⟩ ?_
     clear h
     rintro n360 _ W363 ⟨f361, A367, c368, s369, body366, j365, L362, HS364, HO370, h, rfl⟩ K358 hK359
     obtain _ | n360 := n360
     · exact nomatch h
     simp only [frame_Encode.l2] at h
     refine wp_seq_k (fun K371 hK372 => ?_)
     refine wp_seq_k fun K373 hK374 => rl ?_
     refine seqL4 kr ?_
     refine nl (hK374 _ _ ?_)
     have hq_ := ite_some h; clear h; rcases hq_ with ⟨c376, h⟩ | ⟨c376, h⟩
     · have c376 : (Int.tmod (body366.length : Int) 256) ≠ 0 := c376
       refine wpRwI 57 kr (bne_iff_ne.mpr c376) ?_
       refine condT kr ?_
       refine wp_skip ?_
       refine hK372 _ _ ?_
       refine blockK (fun B377 hx378 hn379 hr380 ho381 hp382 => ?_)
       refine rl ?_
       refine seqL1 kr ?_
       refine seqK rfl (does_lit (e := (tInt .u8)) (E := 5) (vs := #[(0, Value.int .u8 0)]) (cs := #[.int .u8 0]) (xs := ([0] : List Int)) rfl Tryz.underlying23 kr kr ⟨[.int .u8 0], _, rfl, rfl, rfl⟩ rfl HS364 ?_ (by decide))
       intro b384 W385 s386 HS387 _ HO388
       have hq_ := guard_some h; clear h; obtain ⟨c390, h⟩ := hq_
       have c390 : (body366.length + 1) * 1 ≤ 140737488355328 := c390
       have HS392 := HS387.u1.u1
       refine seqK rfl (does_append1 (e := (tInt .u8)) (E := 5) (xs := body366) (ys := ([0] : List Int)) rfl (kv (.slice A367 body366.length c368)) (kv (.slice (some ⟨b384, 0, none⟩) ([0] : List Int).length 1)) Tryz.underlying23 inf5 HO370 HO388 HS392 c390 (lim63 c390 (by decide)) ?_)
       intro A393 c394 s395 W396 HS397 HO398
       refine seqL1 kr ?_
       refine nl ?_
       refine hn379 _ _ ?_
       refine hK359 n360 _ _ (Nat.lt_succ_self _) ?_
       exact ⟨f361, A393, c394, s395, (body366 ++ ([0] : List Int)), (jL [.slice A367 body366.length c368, iV (body366.length : Int), iV (Int.tmod (body366.length : Int) 256), tV, .slice A367 body366.length c368, .slice (some ⟨b384, 0, none⟩) ([0] : List Int).length 1, .slice A393 (body366 ++ ([0] : List Int)).length c394]), L362, HS397, HO398, h, kr⟩
     · have c376 : ¬ ((Int.tmod (body366.length : Int) 256) ≠ 0) := c376
       refine wpRwI 57 (x := ((Int.tmod (body366.length : Int) 256) != 0)) (v := false) kr (bne_eq_false_iff_eq.mpr (Decidable.of_not_not c376)) ?_
       refine condF kr ?_
       refine wp_exit ?_
       refine hx311 _ _ ?_
       exact J410 f361 A367 c368 s369 body366 (jL [.slice A367 body366.length c368, iV (body366.length : Int), iV (Int.tmod (body366.length : Int) 256), fV, (j365 4), (j365 5), (j365 6)]) W363 _ L362 h HS364 HO370 kr
    clear h; have h := hv305; clear hv305
    refine loopK (fun n_ a_ w_ => ∃ (f209 : FM) (A215 : Option Addr) (c216 : Nat) (s217 : Seg) (body214 : List Int) (x219 : Int) (j213 : Nat → Value), FM.le f94 f209 ∧ St t w_ f209 (s217 :: [(b10, .cells #[.int .i64 vf1.W, .int .i64 vf1.H, .slice A2 vf1.Cards.length c3, .slice A5 vf1.Counts.length c6] 29 (0, 0))] :: H) ∧ Own (tInt .u8) 5 f209 A215 c216 s217 body214 ∧ frame_Encode.l1 k vf1 size86 n_ body214 x219 = some o205 ∧ a_ = ⟨#[(ag_Frame vf1 A2 c3 A5 c6), pV b10 0, .slice none 0 0, iV 0, iV vt18, iV size86, uV, (j85 0), .slice A215 body214.length c216, uV, (j213 0), uV, uV, uV, (ag_Frame vf1 A2 c3 A5 c6), iV vt18, iV vt18, fV, uV, pV b10 3, .slice A5 vf1.Counts.length c6, iV (vf1.Counts.length : Int), (j85 1), (j85 2), (j85 3), (j85 4), (j85 5), (j85 6), (j85 7), (ag_Frame vf1 A2 c3 A5 c6), iV size86, .string vt92, .slice (some ⟨b99, 0, none⟩) (sby vt92).length c100, pV b10 3, .slice A5 vf1.Counts.length c6, iV (vf1.Counts.length : Int), iV x219, (j213 1), (j213 2), (j213 3), (j213 4), (j213 5), (j213 6), (j213 7), (j213 8), (j213 9), (j213 10), (j213 11), (j213 12), (j213 13), (j213 14), (j213 15), (j213 16), (j213 17), uV, uV, uV, uV, uV, uV, uV, uV, uV, uV, uV, uV, uV, uV, uV, uV, uV, uV, uV, uV, uV, uV, uV, uV, uV, uV, uV, uV, uV], []⟩) k ⟨f94, (some ⟨b99, 0, none⟩), c100, s101, (sby vt92), 0, (jL []), fL, HS103, HO104, h, kr⟩ ?_
    clear h
    rintro n208 _ W211 ⟨f209, A215, c216, s217, body214, x219, j213, L210, HS212, HO218, h, rfl⟩ K206 hK207
    obtain _ | n208 := n208
    · exact nomatch h
    simp only [frame_Encode.l1] at h
    refine wp_seq_k fun K220 hK221 => rl ?_
    refine seqL1 kr ?_
    refine nl (hK221 _ _ ?_)
    refine wp_seq_k (fun K222 hK223 => ?_)
    have hq_ := ite_some h; clear h; rcases hq_ with ⟨c225, h⟩ | ⟨c225, h⟩
    · have c225 : x219 < (vf1.Counts.length : Int) := c225
      refine wpRwI 37 kr (decide_eq_true c225) ?_
      refine condT kr ?_
      refine wp_skip ?_
      refine hK223 _ _ ?_
      refine wp_seq_k (fun K226 hK227 => ?_)
      refine blockK (fun B228 hx229 hn230 hr231 ho232 hp233 => ?_)
      refine wp_seq_k fun K235 hK236 => rl ?_
      have hq_ := guard_some h; clear h; obtain ⟨c237, h⟩ := hq_
      have c237 : 0 ≤ x219 := c237
      obtain ⟨b241, of242, cs238, hA243, hr239, hc240⟩ := (HR7.mono (L21.trans (L82.trans (L95.trans L210)))).at (i := x219) c237 c225
      obtain rfl := hr239
      refine seqK rfl (does_run (run_indexE hA243 (sz := 1) rfl Tryz.underlying22 kr (kv (.slice A5 vf1.Counts.length c6)) (kv (.int .i64 x219)) c237 c225 W211) ?_)
      refine seqK rfl (does_run (run_load rfl Tryz.underlying3 rfl (kv (.pointer (some ⟨b241, of242 + (x219 : Int).toNat * 1, none⟩))) ((hc240 fL HS212) 0 (by decide))) ?_)
      refine seqL1 kr ?_
      refine nl (hK236 _ _ ?_)
      refine wp_seq_k (fun K244 hK245 => ?_)
      refine wp_seq_k fun K246 hK247 => rl ?_
      refine seqL2 kr ?_
      refine nl (hK247 _ _ ?_)
      have hq_ := ite_some h; clear h; rcases hq_ with ⟨c249, h⟩ | ⟨c249, h⟩
      · have c249 : size86 = 2 := c249
        refine wpRwI 41 kr (beq_iff_eq.mpr c249) ?_
        refine condT kr ?_
        refine rl ?_
        refine seqL4 kr ?_
        refine seqK rfl (does_lit (e := (tInt .u8)) (E := 5) (vs := #[(0, Value.int .u8 (u8 (shr (rd vf1.Counts x219) 8)))]) (cs := #[.int .u8 (u8 (shr (rd vf1.Counts x219) 8))]) (xs := ([u8 (shr (rd vf1.Counts x219) 8)] : List Int)) rfl Tryz.underlying23 kr kr ⟨[.int .u8 (u8 (shr (rd vf1.Counts x219) 8))], _, rfl, rfl, rfl⟩ rfl HS212 ?_ (by decide))
        intro b250 W251 s252 HS253 _ HO254
        have hq_ := guard_some h; clear h; obtain ⟨c256, h⟩ := hq_
        have c256 : (body214.length + 1) * 1 ≤ 140737488355328 := c256
        have HS258 := HS253.u1.u1
        refine seqK rfl (does_append1 (e := (tInt .u8)) (E := 5) (xs := body214) (ys := ([u8 (shr (rd vf1.Counts x219) 8)] : List Int)) rfl (kv (.slice A215 body214.length c216)) (kv (.slice (some ⟨b250, 0, none⟩) ([u8 (shr (rd vf1.Counts x219) 8)] : List Int).length 1)) Tryz.underlying23 inf5 HO218 HO254 HS258 c256 (lim63 c256 (by decide)) ?_)
        intro A259 c260 s261 W262 HS263 HO264
        refine seqL1 kr ?_
        refine nl (hK245 _ _ ?_)
        refine rl ?_
        refine seqL3 kr ?_
        refine seqK rfl (does_lit (e := (tInt .u8)) (E := 5) (vs := #[(0, Value.int .u8 (u8 ((rd vf1.Counts x219))))]) (cs := #[.int .u8 (u8 ((rd vf1.Counts x219)))]) (xs := ([u8 ((rd vf1.Counts x219))] : List Int)) rfl Tryz.underlying23 kr kr ⟨[.int .u8 (u8 ((rd vf1.Counts x219)))], _, rfl, rfl, rfl⟩ rfl HS263 ?_ (by decide))
        intro b265 W266 s267 HS268 _ HO269
        have hq_ := guard_some h; clear h; obtain ⟨c271, h⟩ := hq_
        have c271 : ((body214 ++ ([u8 (shr (rd vf1.Counts x219) 8)] : List Int)).length + 1) * 1 ≤ 140737488355328 := c271
        have HS273 := HS268.u1.u1
        refine seqK rfl (does_append1 (e := (tInt .u8)) (E := 5) (xs := (body214 ++ ([u8 (shr (rd vf1.Counts x219) 8)] : List Int))) (ys := ([u8 ((rd vf1.Counts x219))] : List Int)) rfl (kv (.slice A259 (body214 ++ ([u8 (shr (rd vf1.Counts x219) 8)] : List Int)).length c260)) (kv (.slice (some ⟨b265, 0, none⟩) ([u8 ((rd vf1.Counts x219))] : List Int).length 1)) Tryz.underlying23 inf5 HO264 HO269 HS273 c271 (lim63 c271 (by decide)) ?_)
        intro A274 c275 s276 W277 HS278 HO279
        refine seqL1 kr ?_
        refine nl ?_
        refine hn230 _ _ ?_
        refine hK227 _ _ ?_
        refine rl ?_
        refine seqL2 kr ?_
        refine nl ?_
        refine hK207 n208 _ _ (Nat.lt_succ_self _) ?_
        exact ⟨f209, A274, c275, s276, ((body214 ++ ([u8 (shr (rd vf1.Counts x219) 8)] : List Int)) ++ ([u8 ((rd vf1.Counts x219))] : List Int)), (w64 (x219 + 1)), (jL [iV (rd vf1.Counts x219), tV, .pointer (some ⟨b241, of242 + (x219 : Int).toNat * 1, none⟩), iV (rd vf1.Counts x219), iV size86, tV, .slice A215 body214.length c216, iV (rd vf1.Counts x219), iV (shr (rd vf1.Counts x219) 8), .int .u8 (u8 (shr (rd vf1.Counts x219) 8)), .slice (some ⟨b250, 0, none⟩) ([u8 (shr (rd vf1.Counts x219) 8)] : List Int).length 1, .slice A259 (body214 ++ ([u8 (shr (rd vf1.Counts x219) 8)] : List Int)).length c260, .slice A259 (body214 ++ ([u8 (shr (rd vf1.Counts x219) 8)] : List Int)).length c260, iV (rd vf1.Counts x219), .int .u8 (u8 ((rd vf1.Counts x219))), .slice (some ⟨b265, 0, none⟩) ([u8 ((rd vf1.Counts x219))] : List Int).length 1, .slice A274 ((body214 ++ ([u8 (shr (rd vf1.Counts x219) 8)] : List Int)) ++ ([u8 ((rd vf1.Counts x219))] : List Int)).length c275, iV (w64 (x219 + 1))]), L210, HS278, HO279, h, kr⟩
      · have c249 : ¬ (size86 = 2) := c249
        refine wpRwI 41 kr (beq_eq_false_iff_ne.mpr c249) ?_
        refine condF kr ?_
        refine wp_skip ?_
        refine hK245 _ _ ?_
        refine rl ?_
        refine seqL3 kr ?_
        refine seqK rfl (does_lit (e := (tInt .u8)) (E := 5) (vs := #[(0, Value.int .u8 (u8 ((rd vf1.Counts x219))))]) (cs := #[.int .u8 (u8 ((rd vf1.Counts x219)))]) (xs := ([u8 ((rd vf1.Counts x219))] : List Int)) rfl Tryz.underlying23 kr kr ⟨[.int .u8 (u8 ((rd vf1.Counts x219)))], _, rfl, rfl, rfl⟩ rfl HS212 ?_ (by decide))
        intro b280 W281 s282 HS283 _ HO284
        have hq_ := guard_some h; clear h; obtain ⟨c286, h⟩ := hq_
        have c286 : (body214.length + 1) * 1 ≤ 140737488355328 := c286
        have HS288 := HS283.u1.u1
        refine seqK rfl (does_append1 (e := (tInt .u8)) (E := 5) (xs := body214) (ys := ([u8 ((rd vf1.Counts x219))] : List Int)) rfl (kv (.slice A215 body214.length c216)) (kv (.slice (some ⟨b280, 0, none⟩) ([u8 ((rd vf1.Counts x219))] : List Int).length 1)) Tryz.underlying23 inf5 HO218 HO284 HS288 c286 (lim63 c286 (by decide)) ?_)
        intro A289 c290 s291 W292 HS293 HO294
        refine seqL1 kr ?_
        refine nl ?_
        refine hn230 _ _ ?_
        refine hK227 _ _ ?_
        refine rl ?_
        refine seqL2 kr ?_
        refine nl ?_
        refine hK207 n208 _ _ (Nat.lt_succ_self _) ?_
        exact ⟨f209, A289, c290, s291, (body214 ++ ([u8 ((rd vf1.Counts x219))] : List Int)), (w64 (x219 + 1)), (jL [iV (rd vf1.Counts x219), tV, .pointer (some ⟨b241, of242 + (x219 : Int).toNat * 1, none⟩), iV (rd vf1.Counts x219), iV size86, fV, (j213 6), (j213 7), (j213 8), (j213 9), (j213 10), (j213 11), .slice A215 body214.length c216, iV (rd vf1.Counts x219), .int .u8 (u8 ((rd vf1.Counts x219))), .slice (some ⟨b280, 0, none⟩) ([u8 ((rd vf1.Counts x219))] : List Int).length 1, .slice A289 (body214 ++ ([u8 ((rd vf1.Counts x219))] : List Int)).length c290, iV (w64 (x219 + 1))]), L210, HS293, HO294, h, kr⟩
    · have c225 : ¬ (x219 < (vf1.Counts.length : Int)) := c225
      refine wpRwI 37 kr (decide_eq_false c225) ?_
      refine condF kr ?_
      refine wp_exit ?_
      refine hx111 _ _ ?_
      exact J306 f209 A215 c216 s217 body214 (jL [(j213 0), .slice (some ⟨b99, 0, none⟩) (sby vt92).length c100, iV x219, fV, (j213 2), (j213 3), (j213 4), (j213 5), (j213 6), (j213 7), (j213 8), (j213 9), (j213 10), (j213 11), (j213 12), (j213 13), (j213 14), (j213 15), (j213 16), (j213 17)]) W211 _ L210 h HS212 HO218 kr
   clear h; have h := hv87; clear hv87
   refine loopK (fun n_ a_ w_ => ∃ (f46 : FM) (size51 : Int) (x52 : Int) (j50 : Nat → Value), FM.le f20 f46 ∧ St t w_ f46 ([(b10, .cells #[.int .i64 vf1.W, .int .i64 vf1.H, .slice A2 vf1.Cards.length c3, .slice A5 vf1.Counts.length c6] 29 (0, 0))] :: H) ∧ frame_Encode.l0 k vf1 n_ size51 x52 = some o42 ∧ a_ = ⟨#[(ag_Frame vf1 A2 c3 A5 c6), pV b10 0, .slice none 0 0, iV 0, iV vt18, iV size51, uV, (j50 0), uV, uV, uV, uV, uV, uV, (ag_Frame vf1 A2 c3 A5 c6), iV vt18, iV vt18, fV, uV, pV b10 3, .slice A5 vf1.Counts.length c6, iV (vf1.Counts.length : Int), iV x52, (j50 1), (j50 2), (j50 3), (j50 4), (j50 5), (j50 6), uV, uV, uV, uV, uV, uV, uV, uV, uV, uV, uV, uV, uV, uV, uV, uV, uV, uV, uV, uV, uV, uV, uV, uV, uV, uV, uV, uV, uV, uV, uV, uV, uV, uV, uV, uV, uV, uV, uV, uV, uV, uV, uV, uV, uV, uV, uV, uV, uV, uV, uV, uV, uV, uV], []⟩) k ⟨f20, 1, 0, (jL []), fL, HS23, h, kr⟩ ?_
   clear h
   rintro n45 _ W48 ⟨f46, size51, x52, j50, L47, HS49, h, rfl⟩ K43 hK44
   obtain _ | n45 := n45
   · exact nomatch h
   simp only [frame_Encode.l0] at h
   refine wp_seq_k fun K53 hK54 => rl ?_
   refine seqL1 kr ?_
   refine nl (hK54 _ _ ?_)
   refine wp_seq_k (fun K55 hK56 => ?_)
   have hq_ := ite_some h; clear h; rcases hq_ with ⟨c58, h⟩ | ⟨c58, h⟩
   · have c58 : x52 < (vf1.Counts.length : Int) := c58
     refine wpRwI 23 kr (decide_eq_true c58) ?_
     refine condT kr ?_
     refine wp_skip ?_
     refine hK56 _ _ ?_
     refine wp_seq_k (fun K59 hK60 => ?_)
     refine blockK (fun B61 hx62 hn63 hr64 ho65 hp66 => ?_)
     refine wp_seq_k fun K68 hK69 => rl ?_
     have hq_ := guard_some h; clear h; obtain ⟨c70, h⟩ := hq_
     have c70 : 0 ≤ x52 := c70
     obtain ⟨b74, of75, cs71, hA76, hr72, hc73⟩ := (HR7.mono (L21.trans L47)).at (i := x52) c70 c58
     obtain rfl := hr72
     refine seqK rfl (does_run (run_indexE hA76 (sz := 1) rfl Tryz.underlying22 kr (kv (.slice A5 vf1.Counts.length c6)) (kv (.int .i64 x52)) c70 c58 W48) ?_)
     refine seqK rfl (does_run (run_load rfl Tryz.underlying3 rfl (kv (.pointer (some ⟨b74, of75 + (x52 : Int).toNat * 1, none⟩))) ((hc73 fL HS49) 0 (by decide))) ?_)
     refine seqL1 kr ?_
     refine nl (hK69 _ _ ?_)
     refine wp_seq_k fun K77 hK78 => rl ?_
     refine seqL2 kr ?_
     refine nl (hK78 _ _ ?_)
     have hq_ := ite_some h; clear h; rcases hq_ with ⟨c80, h⟩ | ⟨c80, h⟩
     · have c80 : (rd vf1.Counts x52) > 255 := c80
       refine wpRwI 27 kr (decide_eq_true c80) ?_
       refine condT kr ?_
       refine rl ?_
       refine seqL1 kr ?_
       refine nl ?_
       refine hn63 _ _ ?_
       refine hK60 _ _ ?_
       refine rl ?_
       refine seqL2 kr ?_
       refine nl ?_
       refine hK44 n45 _ _ (Nat.lt_succ_self _) ?_
       exact ⟨f46, 2, (w64 (x52 + 1)), (jL [iV (rd vf1.Counts x52), tV, .pointer (some ⟨b74, of75 + (x52 : Int).toNat * 1, none⟩), iV (rd vf1.Counts x52), iV (rd vf1.Counts x52), tV, iV (w64 (x52 + 1))]), L47, HS49, h, kr⟩
     · have c80 : ¬ ((rd vf1.Counts x52) > 255) := c80
       refine wpRwI 27 kr (decide_eq_false c80) ?_
       refine condF kr ?_
       refine wp_skip ?_
       refine hn63 _ _ ?_
       refine hK60 _ _ ?_
       refine rl ?_
       refine seqL2 kr ?_
       refine nl ?_
       refine hK44 n45 _ _ (Nat.lt_succ_self _) ?_
       exact ⟨f46, size51, (w64 (x52 + 1)), (jL [iV (rd vf1.Counts x52), tV, .pointer (some ⟨b74, of75 + (x52 : Int).toNat * 1, none⟩), iV (rd vf1.Counts x52), iV (rd vf1.Counts x52), fV, iV (w64 (x52 + 1))]), L47, HS49, h, kr⟩
   · have c58 : ¬ (x52 < (vf1.Counts.length : Int)) := c58
     refine wpRwI 23 kr (decide_eq_false c58) ?_
     refine condF kr ?_
     refine wp_exit ?_
     refine hx37 _ _ ?_
     exact J88 f46 size51 (jL [(j50 0), iV x52, fV, (j50 2), (j50 3), (j50 4), (j50 5), (j50 6)]) W48 _ L47 h HS49 kr

set_option maxRecDepth 100000 in
set_option maxHeartbeats 4000000 in
theorem frame_Verify.calls (k : Nat) (A2 : Option Addr) (c3 : Nat) (b1 : List Int) {t w : World} {f : FM} {H : List Seg} (HS : St t w f (H)) (HR4 : SlR (tInt .u8) f A2 c3 b1) (rr1 : List Int) (rr2 : Int) (h : frame_Verify k b1 = some (rr1, rr2)) :
    Calls Tryz.prog 11 #[.slice A2 b1.length c3] w (fun e w' => ∃ (g : FM) (A165 : Option Addr) (c166 : Nat) (s167 : Seg), e = .returned (Value.tuple #[.slice A165 rr1.length c166, .int .i64 rr2]) ∧ FM.le f g ∧ St t w' g (s167 :: H) ∧ Own (tInt .i64) 3 g A165 c166 s167 rr1) := by
 unfold frame_Verify at h
 refine enter Tryz.func11 rfl (tm := #[.slice A2 b1.length c3, uV, uV, uV, uV, uV, uV, uV, uV, uV, uV, uV, uV, uV, uV, uV, uV, uV, uV, uV, uV, uV, uV, uV, uV, uV, uV, uV, uV, uV, uV, uV, uV, uV, uV, uV, uV, uV, uV, uV, uV, uV, uV, uV]) kr ?_
 intro B hret hnor hnp
 refine wp_seq_k fun K5 hK6 => rl ?_
 refine seqL2 kr ?_
 refine nl (hK6 _ _ ?_)
 refine wp_seq_k (fun K7 hK8 => ?_)
 refine wp_seq_k fun K9 hK10 => rl ?_
 refine seqL4 kr ?_
 have hq_ := ite_some h; clear h; rcases hq_ with ⟨c11, h⟩ | ⟨c11, h⟩
 · have c11 : (b1.length : Int) = 0 := c11
   refine seqRwI 9 kr (beq_iff_eq.mpr c11) ?_
   refine seqRwI 10 kr (beq_iff_eq.mpr c11) ?_
   refine seqL5 kr ?_
   refine nl (hK10 _ _ ?_)
   refine condT kr ?_
   refine wp_seq_k fun K12 hK13 => rl ?_
   refine seqL2 kr ?_
   refine nl (hK13 _ _ ?_)
   refine wp_ret ?_
   refine hret _ _ ?_
   have HS161 := HS.cons_nil
   refine ends_still (v := Value.tuple #[.slice none 0 0, .int .i64 14]) kr kr ?_
   injection h with h
   injection h with h0_ h
   subst h0_ h
   exact ⟨f, none, 0, [], rfl, FM.le.refl _, HS161, (Own.nil _)⟩
 · have c11 : ¬ ((b1.length : Int) = 0) := c11
   refine seqRwI 9 kr (beq_eq_false_iff_ne.mpr c11) ?_
   refine seqRwI 10 kr (beq_eq_false_iff_ne.mpr c11) ?_
   refine seqL5 kr ?_
   refine nl (hK10 _ _ ?_)
   have hq_ := ite_some h; clear h; rcases hq_ with ⟨c15, h⟩ | ⟨c15, h⟩
   · have c15 : (Int.tmod (b1.length : Int) 260) ≠ 0 := c15
     refine wpRwI 14 kr (bne_iff_ne.mpr c15) ?_
     refine wpRwI 15 kr (bne_iff_ne.mpr c15) ?_
     refine condT kr ?_
     refine wp_seq_k fun K16 hK17 => rl ?_
     refine seqL2 kr ?_
     refine nl (hK17 _ _ ?_)
     refine wp_ret ?_
     refine hret _ _ ?_
     have HS163 := HS.cons_nil
     refine ends_still (v := Value.tuple #[.slice none 0 0, .int .i64 14]) kr kr ?_
     injection h with h
     injection h with h0_ h
     subst h0_ h
     exact ⟨f, none, 0, [], rfl, FM.le.refl _, HS163, (Own.nil _)⟩
   · have c15 : ¬ ((Int.tmod (b1.length : Int) 260) ≠ 0) := c15
     refine wpRwI 14 (x := ((Int.tmod (b1.length : Int) 260) != 0)) (v := false) kr (bne_eq_false_iff_eq.mpr (Decidable.of_not_not c15)) ?_
     refine wpRwI 15 (x := ((Int.tmod (b1.length : Int) 260) != 0)) (v := false) kr (bne_eq_false_iff_eq.mpr (Decidable.of_not_not c15)) ?_
     refine condF kr ?_
     refine wp_skip ?_
     refine hK8 _ _ ?_
     refine wp_seq_k fun K18 hK19 => rl ?_
     refine seqL1 kr ?_
     refine nl (hK19 _ _ ?_)
     refine wp_seq_k (fun K20 hK21 => ?_)
     refine wp_seq_k fun K22 hK23 => rl ?_
     refine seqL1 kr ?_
     refine nl (hK23 _ _ ?_)
     refine blockK (fun B24 hx25 hn26 hr27 ho28 hp29 => ?_)
     have hq_ := bind_some h; clear h; obtain ⟨o30, hv149, h⟩ := hq_
     have J150 : ∀ (f138 : FM) (A144 : Option Addr) (c145 : Nat) (s146 : Seg) (out143 : List Int) (j142 : Nat → Value) (W140 : World) (a_ : Act), FM.le f f138 → some (out143) = some o30 → St t W140 f138 (s146 :: H) → Own (tInt .i64) 3 f138 A144 c145 s146 out143 → a_ = ⟨#[.slice A2 b1.length c3, uV, .slice none 0 0, iV 0, .slice A144 out143.length c145, (j142 0), (j142 1), .slice A2 b1.length c3, iV (b1.length : Int), fV, fV, .slice A2 b1.length c3, iV (b1.length : Int), iV (Int.tmod (b1.length : Int) 260), fV, fV, (j142 2), (j142 3), (j142 4), (j142 5), (j142 6), (j142 7), (j142 8), (j142 9), (j142 10), (j142 11), (j142 12), (j142 13), (j142 14), (j142 15), (j142 16), (j142 17), (j142 18), (j142 19), (j142 20), (j142 21), (j142 22), (j142 23), (j142 24), (j142 25), (j142 26), (j142 27), (j142 28), uV], []⟩ → K20 a_ W140 := by
      intro f138 A144 c145 s146 out143 j142 W140 a_ L139 hj151 HS141 HO147 hfr_; subst hfr_
      injection hj151 with hj151; subst hj151; try dsimp only at h
      refine hK21 _ _ ?_
      refine wp_seq_k fun K159 hK160 => rl ?_
      refine seqL3 kr ?_
      refine nl (hK160 _ _ ?_)
      refine wp_ret ?_
      refine hret _ _ ?_
      refine ends_still (v := Value.tuple #[.slice A144 out143.length c145, .int .i64 0]) kr kr ?_
      injection h with h
      injection h with h0_ h
      subst h0_ h
      exact ⟨f138, A144, c145, s146, rfl, L139, HS141, HO147⟩
     clear h; have h := hv149; clear hv149
     have HS152 := HS.cons_nil
     refine loopK (fun n_ a_ w_ => ∃ (f34 : FM) (A40 : Option Addr) (c41 : Nat) (s42 : Seg) (out39 : List Int) (i45 : Int) (j38 : Nat → Value), FM.le f f34 ∧ St t w_ f34 (s42 :: H) ∧ Own (tInt .i64) 3 f34 A40 c41 s42 out39 ∧ frame_Verify.l0 k b1 n_ out39 i45 = some o30 ∧ a_ = ⟨#[.slice A2 b1.length c3, uV, .slice none 0 0, iV 0, .slice A40 out39.length c41, iV i45, (j38 0), .slice A2 b1.length c3, iV (b1.length : Int), fV, fV, .slice A2 b1.length c3, iV (b1.length : Int), iV (Int.tmod (b1.length : Int) 260), fV, fV, (j38 1), (j38 2), (j38 3), (j38 4), (j38 5), (j38 6), (j38 7), (j38 8), (j38 9), (j38 10), (j38 11), (j38 12), (j38 13), (j38 14), (j38 15), (j38 16), (j38 17), (j38 18), (j38 19), (j38 20), (j38 21), (j38 22), (j38 23), (j38 24), (j38 25), (j38 26), (j38 27), uV], []⟩) k ⟨f, none, 0, [], ([] : List Int), 0, (jL []), fL, HS152, (Own.nil _), h, kr⟩ ?_
     clear h
     rintro n33 _ W36 ⟨f34, A40, c41, s42, out39, i45, j38, L35, HS37, HO43, h, rfl⟩ K31 hK32
     obtain _ | n33 := n33
     · exact nomatch h
     simp only [frame_Verify.l0] at h
     refine wp_seq_k (fun K46 hK47 => ?_)
     refine wp_seq_k fun K48 hK49 => rl ?_
     refine seqL5 kr ?_
     refine nl (hK49 _ _ ?_)
     have hq_ := ite_some h; clear h; rcases hq_ with ⟨c51, h⟩ | ⟨c51, h⟩
     · have c51 : (w64 (i45 * 260)) < (b1.length : Int) := c51
       refine wpRwI 20 kr (decide_eq_true c51) ?_
       refine condT kr ?_
       refine wp_skip ?_
       refine hK47 _ _ ?_
       refine wp_seq_k (fun K52 hK53 => ?_)
       refine blockK (fun B54 hx55 hn56 hr57 ho58 hp59 => ?_)
       refine wp_seq_k fun K61 hK62 => rl ?_
       have hq_ := guard_some h; clear h; obtain ⟨c63, h⟩ := hq_
       have c63 : 0 ≤ (w64 (i45 * 260)) := c63
       have hq_ := guard_some h; clear h; obtain ⟨c64, h⟩ := hq_
       have c64 : (w64 (i45 * 260)) ≤ (w64 ((w64 (i45 + 1)) * 260)) := c64
       have hq_ := guard_some h; clear h; obtain ⟨c65, h⟩ := hq_
       have c65 : (w64 ((w64 (i45 + 1)) * 260)) ≤ (b1.length : Int) := c65
       refine seqL6 kr ?_
       refine seqK rfl (does_cutLH (e := (tInt .u8)) (xs := b1) rfl Tryz.underlying23 kr (kv (.slice A2 b1.length c3)) (kv (.int .i64 (w64 (i45 * 260)))) (kv (.int .i64 (w64 ((w64 (i45 + 1)) * 260))))  c63 c64 c65 HR4 ?_)
       intro A66 c67 HR68
       refine seqL1 kr ?_
       refine nl (hK62 _ _ ?_)
       refine wp_seq_k (fun K69 hK70 => ?_)
       refine heldG (S := Sg t f34 (s42 :: H) []) (n := 9) kr rfl HS37 ?_
       intro W71 HS72
       have hq_ := guard_some h; clear h; obtain ⟨c73, h⟩ := hq_
       have c73 : 256 ≤ (((b1.take (w64 ((w64 (i45 + 1)) * 260)).toNat).drop (w64 (i45 * 260)).toNat).length : Int) := c73
       refine takeGL [0, 1] (n := 9) (fuel := 7) #[true, true, false, false, false, false, false, false, false] rfl kr kr kr (fun ch_ a_ w_ q_ => (fun ch_ a_ w_ q_ => hnp ch_ a_ w_ (hp29 ch_ a_ w_ q_)) ch_ a_ w_ (hp59 ch_ a_ w_ q_)) (Sg.g0 (Sx.of [] fL HS72)) ?_
       refine takeGQ 2 [] rfl kr kr kr kr kr kr (fun ch_ a_ w_ q_ => (fun ch_ a_ w_ q_ => hnp ch_ a_ w_ (hp29 ch_ a_ w_ q_)) ch_ a_ w_ (hp59 ch_ a_ w_ q_)) (Sg.g0 (Sx.of [] fL HS72)) (fun w_ hw_ => by obtain ⟨g_, hl_, hS_⟩ := hw_.st; exact run_cutH (e := (tInt .u8)) (xs := ((b1.take (w64 ((w64 (i45 + 1)) * 260)).toNat).drop (w64 (i45 * 260)).toNat)) rfl Tryz.underlying23 kr (kv (.slice A66 ((b1.take (w64 ((w64 (i45 + 1)) * 260)).toNat).drop (w64 (i45 * 260)).toNat).length c67)) (kv (.int .i64 256)) (by decide) c73 HR68.le w_) ?_
       have hq_ := bind_some h; clear h; obtain ⟨vt77, hc78, h⟩ := hq_
       refine takeGL [5] (n := 6) (fuel := 5) #[true, true, true, false, false, true, false, false, false] rfl kr kr kr (fun ch_ a_ w_ q_ => (fun ch_ a_ w_ q_ => hnp ch_ a_ w_ (hp29 ch_ a_ w_ q_)) ch_ a_ w_ (hp59 ch_ a_ w_ q_)) (Sg.g0 (Sx.of [] fL HS72)) ?_
       refine withR #[true, true, true, true, true, true, true, true, true] ?_
       intro R88 hR89 hR90
       have J91 : ∀ (f79 : FM) (A83 : Option Addr) (c84 : Nat) (s85 : Seg) (A74 : Option Addr) (c75 : Nat) (W92 : World) (a_ : Act), FM.le f34 f79 → Own (tInt .u8) 5 f79 A83 c84 s85 vt77 → SlR (tInt .u8) f A74 c75 (((b1.take (w64 ((w64 (i45 + 1)) * 260)).toNat).drop (w64 (i45 * 260)).toNat).drop (256 : Int).toNat) → St t W92 f79 (s85 :: s42 :: H) → a_ = ⟨#[.slice A2 b1.length c3, uV, .slice none 0 0, iV 0, .slice A40 out39.length c41, iV i45, .slice A66 ((b1.take (w64 ((w64 (i45 + 1)) * 260)).toNat).drop (w64 (i45 * 260)).toNat).length c67, .slice A2 b1.length c3, iV (b1.length : Int), fV, fV, .slice A2 b1.length c3, iV (b1.length : Int), iV (Int.tmod (b1.length : Int) 260), fV, fV, iV i45, iV (w64 (i45 * 260)), .slice A2 b1.length c3, iV (b1.length : Int), tV, (j38 6), (j38 7), .slice A2 b1.length c3, iV i45, iV (w64 (i45 * 260)), iV i45, iV (w64 (i45 + 1)), iV (w64 ((w64 (i45 + 1)) * 260)), .slice A66 ((b1.take (w64 ((w64 (i45 + 1)) * 260)).toNat).drop (w64 (i45 * 260)).toNat).length c67, iV i45, .slice A66 ((b1.take (w64 ((w64 (i45 + 1)) * 260)).toNat).drop (w64 (i45 * 260)).toNat).length c67, .slice A66 (((b1.take (w64 ((w64 (i45 + 1)) * 260)).toNat).drop (w64 (i45 * 260)).toNat).take (256 : Int).toNat).length c67, .slice A83 vt77.length c84, .string (bstr vt77), .slice A66 ((b1.take (w64 ((w64 (i45 + 1)) * 260)).toNat).drop (w64 (i45 * 260)).toNat).length c67, .slice A74 (((b1.take (w64 ((w64 (i45 + 1)) * 260)).toNat).drop (w64 (i45 * 260)).toNat).drop (256 : Int).toNat).length c75, .string (bstr (((b1.take (w64 ((w64 (i45 + 1)) * 260)).toNat).drop (w64 (i45 * 260)).toNat).drop (256 : Int).toNat)), .bool (!((bstr vt77).toList == (bstr (((b1.take (w64 ((w64 (i45 + 1)) * 260)).toNat).drop (w64 (i45 * 260)).toNat).drop (256 : Int).toNat)).toList)), (j38 24), (j38 25), (j38 26), (j38 27), uV], []⟩ → R88 a_ W92 := by
        intro f79 A83 c84 s85 A74 c75 W92 a_ L80 HO86 HR76 HS93 hfr_; subst hfr_
        refine hR89 _ _ ?_
        refine doneG kr ?_ _
        refine hK70 _ _ ?_
        have hq_ := ite_some h; clear h; rcases hq_ with ⟨c122, h⟩ | ⟨c122, h⟩
        · have c122 : (!((bstr vt77).toList == (bstr (((b1.take (w64 ((w64 (i45 + 1)) * 260)).toNat).drop (w64 (i45 * 260)).toNat).drop (256 : Int).toNat)).toList)) = true := c122
          refine wpRwI 38 kr c122 ?_
          refine condT kr ?_
          refine rl ?_
          refine seqL2 kr ?_
          refine seqK rfl (does_lit (e := (tInt .i64)) (E := 3) (vs := #[(0, Value.int .i64 i45)]) (cs := #[.int .i64 i45]) (xs := ([i45] : List Int)) rfl Tryz.underlying22 kr kr ⟨[.int .i64 i45], _, rfl, rfl, rfl⟩ rfl HS93 ?_ (by decide))
          intro b123 W124 s125 HS126 _ HO127
          have hq_ := guard_some h; clear h; obtain ⟨c129, h⟩ := hq_
          have c129 : (out39.length + 1) * 8 ≤ 140737488355328 := c129
          have HS131 := HS126.u2.u1
          refine seqK rfl (does_append1 (e := (tInt .i64)) (E := 3) (xs := out39) (ys := ([i45] : List Int)) rfl (kv (.slice A40 out39.length c41)) (kv (.slice (some ⟨b123, 0, none⟩) ([i45] : List Int).length 1)) Tryz.underlying22 inf3 (HO43.mono L80) HO127 HS131 c129 (lim63 c129 (by decide)) ?_)
          intro A132 c133 s134 W135 HS136 HO137
          refine seqL1 kr ?_
          refine nl ?_
          refine hn56 _ _ ?_
          refine hK53 _ _ ?_
          refine rl ?_
          refine seqL3 kr ?_
          refine nl ?_
          refine hK32 n33 _ _ (Nat.lt_succ_self _) ?_
          have HS154 := HS136.u1
          have HS155 := HS154.drop
          exact ⟨f79, A132, c133, s134, (out39 ++ ([i45] : List Int)), (w64 (i45 + 1)), (jL [.slice A66 ((b1.take (w64 ((w64 (i45 + 1)) * 260)).toNat).drop (w64 (i45 * 260)).toNat).length c67, iV i45, iV (w64 (i45 * 260)), .slice A2 b1.length c3, iV (b1.length : Int), tV, iV i45, iV (w64 (i45 + 1)), .slice A2 b1.length c3, iV i45, iV (w64 (i45 * 260)), iV i45, iV (w64 (i45 + 1)), iV (w64 ((w64 (i45 + 1)) * 260)), .slice A66 ((b1.take (w64 ((w64 (i45 + 1)) * 260)).toNat).drop (w64 (i45 * 260)).toNat).length c67, iV i45, .slice A66 ((b1.take (w64 ((w64 (i45 + 1)) * 260)).toNat).drop (w64 (i45 * 260)).toNat).length c67, .slice A66 (((b1.take (w64 ((w64 (i45 + 1)) * 260)).toNat).drop (w64 (i45 * 260)).toNat).take (256 : Int).toNat).length c67, .slice A83 vt77.length c84, .string (bstr vt77), .slice A66 ((b1.take (w64 ((w64 (i45 + 1)) * 260)).toNat).drop (w64 (i45 * 260)).toNat).length c67, .slice A74 (((b1.take (w64 ((w64 (i45 + 1)) * 260)).toNat).drop (w64 (i45 * 260)).toNat).drop (256 : Int).toNat).length c75, .string (bstr (((b1.take (w64 ((w64 (i45 + 1)) * 260)).toNat).drop (w64 (i45 * 260)).toNat).drop (256 : Int).toNat)), tV, .slice A40 out39.length c41, iV i45, .slice (some ⟨b123, 0, none⟩) ([i45] : List Int).length 1, .slice A132 (out39 ++ ([i45] : List Int)).length c133]), (L35.trans L80), HS155, HO137, h, kr⟩
        · have c122 : ¬ ((!((bstr vt77).toList == (bstr (((b1.take (w64 ((w64 (i45 + 1)) * 260)).toNat).drop (w64 (i45 * 260)).toNat).drop (256 : Int).toNat)).toList)) = true) := c122
          refine wpRwI 38 kr (Bool.eq_false_iff.mpr c122) ?_
          refine condF kr ?_
          refine wp_skip ?_
          refine hn56 _ _ ?_
          refine hK53 _ _ ?_
          refine rl ?_
          refine seqL3 kr ?_
          refine nl ?_
          refine hK32 n33 _ _ (Nat.lt_succ_self _) ?_
          have HS157 := HS93.u1.u1
          have HS158 := HS157.drop
          exact ⟨f79, A40, c41, s42, out39, (w64 (i45 + 1)), (jL [.slice A66 ((b1.take (w64 ((w64 (i45 + 1)) * 260)).toNat).drop (w64 (i45 * 260)).toNat).length c67, iV i45, iV (w64 (i45 * 260)), .slice A2 b1.length c3, iV (b1.length : Int), tV, iV i45, iV (w64 (i45 + 1)), .slice A2 b1.length c3, iV i45, iV (w64 (i45 * 260)), iV i45, iV (w64 (i45 + 1)), iV (w64 ((w64 (i45 + 1)) * 260)), .slice A66 ((b1.take (w64 ((w64 (i45 + 1)) * 260)).toNat).drop (w64 (i45 * 260)).toNat).length c67, iV i45, .slice A66 ((b1.take (w64 ((w64 (i45 + 1)) * 260)).toNat).drop (w64 (i45 * 260)).toNat).length c67, .slice A66 (((b1.take (w64 ((w64 (i45 + 1)) * 260)).toNat).drop (w64 (i45 * 260)).toNat).take (256 : Int).toNat).length c67, .slice A83 vt77.length c84, .string (bstr vt77), .slice A66 ((b1.take (w64 ((w64 (i45 + 1)) * 260)).toNat).drop (w64 (i45 * 260)).toNat).length c67, .slice A74 (((b1.take (w64 ((w64 (i45 + 1)) * 260)).toNat).drop (w64 (i45 * 260)).toNat).drop (256 : Int).toNat).length c75, .string (bstr (((b1.take (w64 ((w64 (i45 + 1)) * 260)).toNat).drop (w64 (i45 * 260)).toNat).drop (256 : Int).toNat)), fV, (j38 24), (j38 25), (j38 26), (j38 27)]), (L35.trans L80), HS158, (HO43.mono L80), h, kr⟩
       refine takeEither 3 6 kr rfl rfl rfl rfl ?_ ?_
       · refine does_call (f := 23) (args := #[.int .i64 i45, .slice A66 (((b1.take (w64 ((w64 (i45 + 1)) * 260)).toNat).drop (w64 (i45 * 260)).toNat).take (256 : Int).toNat).length c67]) kr (frame_seal.calls k A66 c67 i45 (((b1.take (w64 ((w64 (i45 + 1)) * 260)).toNat).drop (w64 (i45 * 260)).toNat).take (256 : Int).toNat) HS72 ((HR68.take (256 : Int).toNat).mono L35) vt77 hc78) ?_
         rintro _ W96 ⟨f94, A98, c99, s100, rfl, L95, HS97, HO101⟩
         refine ⟨_, rfl, ?_⟩
         refine ⟨(Sg.g0 (Sx.of [s100] L95 HS97)), ?_⟩
         refine takeEither 4 6 kr rfl rfl rfl rfl ?_ ?_
         · refine does_run (run_bstr (f := _) rfl Tryz.underlying23 Tryz.underlying5 Tryz.underlying9 (kv (.slice A98 vt77.length c99)) ((HO101.mono fL).rc HS97)) ?_
           refine ⟨(Sg.g0 (Sx.of [s100] L95 HS97)), ?_⟩
           refine takeGE 6 kr rfl kr (does_cutL (e := (tInt .u8)) (xs := ((b1.take (w64 ((w64 (i45 + 1)) * 260)).toNat).drop (w64 (i45 * 260)).toNat)) rfl Tryz.underlying23 kr (kv (.slice A66 ((b1.take (w64 ((w64 (i45 + 1)) * 260)).toNat).drop (w64 (i45 * 260)).toNat).length c67)) (kv (.int .i64 256)) (by decide) c73 HR68 ?_)
           intro A103 c104 HR105
           refine ⟨(Sg.g0 (Sx.of [s100] L95 HS97)), ?_⟩
           refine takeGQ 7 [] rfl kr kr kr kr kr kr (fun ch_ a_ w_ q_ => (fun ch_ a_ w_ q_ => hnp ch_ a_ w_ (hp29 ch_ a_ w_ q_)) ch_ a_ w_ (hp59 ch_ a_ w_ q_)) (Sg.g0 (Sx.of [s100] L95 HS97)) (fun w_ hw_ => by obtain ⟨g_, hl_, hS_⟩ := hw_.st; exact run_bstr (f := _) rfl Tryz.underlying23 Tryz.underlying5 Tryz.underlying9 (kv (.slice A103 (((b1.take (w64 ((w64 (i45 + 1)) * 260)).toNat).drop (w64 (i45 * 260)).toNat).drop (256 : Int).toNat).length c104)) ((HR105.mono (L35.trans hl_)).rc hS_)) ?_
           refine takeGL [8] (n := 1) (fuel := 0) #[true, true, true, true, true, true, true, true, true] rfl kr kr kr (fun ch_ a_ w_ q_ => (fun ch_ a_ w_ q_ => hnp ch_ a_ w_ (hp29 ch_ a_ w_ q_)) ch_ a_ w_ (hp59 ch_ a_ w_ q_)) (Sg.g0 (Sx.of [s100] L95 HS97)) ?_
           refine hR90 _ _ ?_
           exact J91 f94 A98 c99 s100 A103 c104 W96 _ L95 HO101 HR105 HS97 kr
         · refine does_cutL (e := (tInt .u8)) (xs := ((b1.take (w64 ((w64 (i45 + 1)) * 260)).toNat).drop (w64 (i45 * 260)).toNat)) rfl Tryz.underlying23 kr (kv (.slice A66 ((b1.take (w64 ((w64 (i45 + 1)) * 260)).toNat).drop (w64 (i45 * 260)).toNat).length c67)) (kv (.int .i64 256)) (by decide) c73 HR68 ?_
           intro A106 c107 HR108
           refine ⟨(Sg.g0 (Sx.of [s100] L95 HS97)), ?_⟩
           refine takeGQ 7 [] rfl kr kr kr kr kr kr (fun ch_ a_ w_ q_ => (fun ch_ a_ w_ q_ => hnp ch_ a_ w_ (hp29 ch_ a_ w_ q_)) ch_ a_ w_ (hp59 ch_ a_ w_ q_)) (Sg.g0 (Sx.of [s100] L95 HS97)) (fun w_ hw_ => by obtain ⟨g_, hl_, hS_⟩ := hw_.st; exact run_bstr (f := _) rfl Tryz.underlying23 Tryz.underlying5 Tryz.underlying9 (kv (.slice A106 (((b1.take (w64 ((w64 (i45 + 1)) * 260)).toNat).drop (w64 (i45 * 260)).toNat).drop (256 : Int).toNat).length c107)) ((HR108.mono (L35.trans hl_)).rc hS_)) ?_
           refine takeGE 4 kr rfl kr (does_run (run_bstr (f := _) rfl Tryz.underlying23 Tryz.underlying5 Tryz.underlying9 (kv (.slice A98 vt77.length c99)) ((HO101.mono fL).rc HS97)) ?_)
           refine ⟨(Sg.g0 (Sx.of [s100] L95 HS97)), ?_⟩
           refine takeGL [8] (n := 1) (fuel := 0) #[true, true, true, true, true, true, true, true, true] rfl kr kr kr (fun ch_ a_ w_ q_ => (fun ch_ a_ w_ q_ => hnp ch_ a_ w_ (hp29 ch_ a_ w_ q_)) ch_ a_ w_ (hp59 ch_ a_ w_ q_)) (Sg.g0 (Sx.of [s100] L95 HS97)) ?_
           refine hR90 _ _ ?_
           exact J91 f94 A98 c99 s100 A106 c107 W96 _ L95 HO101 HR108 HS97 kr
       · refine does_cutL (e := (tInt .u8)) (xs := ((b1.take (w64 ((w64 (i45 + 1)) * 260)).toNat).drop (w64 (i45 * 260)).toNat)) rfl Tryz.underlying23 kr (kv (.slice A66 ((b1.take (w64 ((w64 (i45 + 1)) * 260)).toNat).drop (w64 (i45 * 260)).toNat).length c67)) (kv (.int .i64 256)) (by decide) c73 HR68 ?_
         intro A109 c110 HR111
         refine ⟨(Sg.g0 (Sx.of [] fL HS72)), ?_⟩
         refine takeGQ 7 [] rfl kr kr kr kr kr kr (fun ch_ a_ w_ q_ => (fun ch_ a_ w_ q_ => hnp ch_ a_ w_ (hp29 ch_ a_ w_ q_)) ch_ a_ w_ (hp59 ch_ a_ w_ q_)) (Sg.g0 (Sx.of [] fL HS72)) (fun w_ hw_ => by obtain ⟨g_, hl_, hS_⟩ := hw_.st; exact run_bstr (f := _) rfl Tryz.underlying23 Tryz.underlying5 Tryz.underlying9 (kv (.slice A109 (((b1.take (w64 ((w64 (i45 + 1)) * 260)).toNat).drop (w64 (i45 * 260)).toNat).drop (256 : Int).toNat).length c110)) ((HR111.mono (L35.trans hl_)).rc hS_)) ?_
         refine takeGE 3 kr rfl kr (does_call (f := 23) (args := #[.int .i64 i45, .slice A66 (((b1.take (w64 ((w64 (i45 + 1)) * 260)).toNat).drop (w64 (i45 * 260)).toNat).take (256 : Int).toNat).length c67]) kr (frame_seal.calls k A66 c67 i45 (((b1.take (w64 ((w64 (i45 + 1)) * 260)).toNat).drop (w64 (i45 * 260)).toNat).take (256 : Int).toNat) HS72 ((HR68.take (256 : Int).toNat).mono L35) vt77 hc78) ?_)
         rintro _ W114 ⟨f112, A116, c117, s118, rfl, L113, HS115, HO119⟩
         refine ⟨_, rfl, ?_⟩
         refine ⟨(Sg.g0 (Sx.of [s118] L113 HS115)), ?_⟩
         refine takeGE 4 kr rfl kr (does_run (run_bstr (f := _) rfl Tryz.underlying23 Tryz.underlying5 Tryz.underlying9 (kv (.slice A116 vt77.length c117)) ((HO119.mono fL).rc HS115)) ?_)
         refine ⟨(Sg.g0 (Sx.of [s118] L113 HS115)), ?_⟩
         refine takeGL [8] (n := 1) (fuel := 0) #[true, true, true, true, true, true, true, true, true] rfl kr kr kr (fun ch_ a_ w_ q_ => (fun ch_ a_ w_ q_ => hnp ch_ a_ w_ (hp29 ch_ a_ w_ q_)) ch_ a_ w_ (hp59 ch_ a_ w_ q_)) (Sg.g0 (Sx.of [s118] L113 HS115)) ?_
         refine hR90 _ _ ?_
         exact J91 f112 A116 c117 s118 A109 c110 W114 _ L113 HO119 HR111 HS115 kr
     · have c51 : ¬ ((w64 (i45 * 260)) < (b1.length : Int)) := c51
       refine wpRwI 20 kr (decide_eq_false c51) ?_
       refine condF kr ?_
       refine wp_exit ?_
       refine hx25 _ _ ?_
       exact J150 f34 A40 c41 s42 out39 (jL [iV i45, (j38 0), iV i45, iV (w64 (i45 * 260)), .slice A2 b1.length c3, iV (b1.length : Int), fV, (j38 6), (j38 7), (j38 8), (j38 9), (j38 10), (j38 11), (j38 12), (j38 13), (j38 14), (j38 15), (j38 16), (j38 17), (j38 18), (j38 19), (j38 20), (j38 21), (j38 22), (j38 23), (j38 24), (j38 25), (j38 26), (j38 27)]) W36 _ L35 h HS37 HO43 kr

theorem strings_TrimRight.calls (k : Nat) (s : ByteArray) (p : ByteArray) {t w : World} {f : FM} {H : List Seg} (HS : St t w f H) (r1 : ByteArray) (h : strings_TrimRight k s p = some r1) :
    Calls Tryz.prog 30 #[.string s, .string p] w (fun e w' => ∃ (g : FM), e = .returned (Value.string r1) ∧ FM.le f g ∧ St t w' g H) := by
  unfold strings_TrimRight at h
  have hq_ := guard_some h; clear h; obtain ⟨h1, h⟩ := hq_
  have hq_ := guard_some h; clear h; obtain ⟨h2, h⟩ := hq_
  injection h with h; subst h
  have hp_ : p = ⟨#[32]⟩ := by cases p; congr 1; exact Array.toList_inj.mp h2
  subst hp_
  exact lib_calls (Tryz.strings_TrimRight_one s 32 (by decide) w h1) q_same HS

theorem strings_Cut.calls (k : Nat) (s : ByteArray) (p : ByteArray) {t w : World} {f : FM} {H : List Seg} (HS : St t w f H) (HM : VarI 5 f) (r1 : ByteArray) (r2 : ByteArray) (r3 : Bool) (h : strings_Cut k s p = some (r1, r2, r3)) :
    Calls Tryz.prog 59 #[.string s, .string p] w (fun e w' => ∃ (g : FM), e = .returned (Value.tuple #[Value.string r1, Value.string r2, Value.bool r3]) ∧ FM.le f g ∧ St t w' g H) := by
  unfold strings_Cut at h
  have hq_ := guard_some h; clear h; obtain ⟨h1, h⟩ := hq_
  injection h with h; injection h with h1_ h2_; injection h2_ with h2_ h3_; subst h1_ h2_ h3_
  obtain ⟨m_, hm_⟩ := HM.cell HS
  exact lib_calls (Any.strings_Cut (P := Tryz.prog) (ρ := Tryz.laysM145_ren) { Tryz.laysM145 with } s p m_ w h1 hm_) q_drew HS

theorem strings_CutPrefix.calls (k : Nat) (s : ByteArray) (p : ByteArray) {t w : World} {f : FM} {H : List Seg} (HS : St t w f H) (r1 : ByteArray) (r2 : Bool) (h : strings_CutPrefix k s p = some (r1, r2)) :
    Calls Tryz.prog 60 #[.string s, .string p] w (fun e w' => ∃ (g : FM), e = .returned (Value.tuple #[Value.string r1, Value.bool r2]) ∧ FM.le f g ∧ St t w' g H) := by
  unfold strings_CutPrefix at h
  injection h with h; injection h with h1_ h2_; subst h1_ h2_
  exact lib_calls (Tryz.strings_CutPrefix s p w) q_same HS

theorem strings_TrimPrefix.calls (k : Nat) (s : ByteArray) (p : ByteArray) {t w : World} {f : FM} {H : List Seg} (HS : St t w f H) (r1 : ByteArray) (h : strings_TrimPrefix k s p = some r1) :
    Calls Tryz.prog 61 #[.string s, .string p] w (fun e w' => ∃ (g : FM), e = .returned (Value.string r1) ∧ FM.le f g ∧ St t w' g H) := by
  unfold strings_TrimPrefix at h
  injection h with h; subst h
  exact lib_calls (Tryz.strings_TrimPrefix s p w) q_same HS

set_option maxRecDepth 100000 in
set_option maxHeartbeats 4000000 in
theorem frame_card.calls (k : Nat)  (s1 : ByteArray) {t w : World} {f : FM} {H : List Seg} (HS : St t w f (H)) (HM : VarI 5 f) (rr1 : S_Card) (rr2 : Bool) (h : frame_card k s1 = some (rr1, rr2)) :
    Calls Tryz.prog 31 #[.string s1] w (fun e w' => ∃ (g : FM), e = .returned (Value.tuple #[.agg #[.string rr1.Key, .string rr1.Value, .string rr1.Unit, .string rr1.Note], .bool rr2]) ∧ FM.le f g ∧ St t w' g (H)) := by
 unfold frame_card at h
 refine enter Tryz.func31 rfl (tm := #[.string s1, uV, uV, uV, uV, uV, uV, uV, uV, uV, uV, uV, uV, uV, uV, uV, uV, uV, uV, uV, uV, uV, uV, uV, uV, uV, uV, uV, uV, uV, uV, uV, uV, uV, uV, uV, uV, uV, uV, uV, uV, uV, uV, uV, uV, uV, uV, uV, uV, uV, uV, uV, uV]) kr ?_
 intro B hret hnor hnp
 refine wp_seq_k fun K2 hK3 => rl ?_
 refine seqK rfl (does_alloc (z := Value.agg #[.string ⟨#[]⟩, .string ⟨#[]⟩, .string ⟨#[]⟩, .string ⟨#[]⟩]) (cs := #[.string ⟨#[]⟩, .string ⟨#[]⟩, .string ⟨#[]⟩, .string ⟨#[]⟩]) rfl kr rfl HS ?_)
 intro b4 W5 HS6
 refine seqL1 kr ?_
 refine nl (hK3 _ _ ?_)
 refine wp_seq_k (fun K8 hK9 => ?_)
 refine wp_seq_k fun K10 hK11 => rl ?_
 refine seqL4 kr ?_
 have hq_ := ite_some h; clear h; rcases hq_ with ⟨c12, h⟩ | ⟨c12, h⟩
 · have c12 : (s1.size : Int) < 11 := c12
   refine seqRwI 10 kr (decide_eq_true c12) ?_
   refine seqRwI 11 kr (decide_eq_true c12) ?_
   refine seqL4 kr ?_
   refine nl (hK11 _ _ ?_)
   refine condT kr ?_
   refine wp_seq_k fun K13 hK14 => rl ?_
   refine seqL1 kr ?_
   refine seqK rfl (does_storeA (vs := [.string ⟨#[]⟩, .string ⟨#[]⟩, .string ⟨#[]⟩, .string ⟨#[]⟩]) rfl kr kr kr rfl (ones rfl) HS6 kr ?_)
   intro W15 HS16
   refine seqL1 kr ?_
   refine nl (hK14 _ _ ?_)
   refine wp_ret ?_
   refine hret _ _ ?_
   refine ends (v := Value.tuple #[.agg #[.string ⟨#[]⟩, .string ⟨#[]⟩, .string ⟨#[]⟩, .string ⟨#[]⟩], .bool false]) (results2 (q1 := .cell 2 51) (q2 := .tmp 3) kr (resN (n := 4) (cs := [.string ⟨#[]⟩, .string ⟨#[]⟩, .string ⟨#[]⟩, .string ⟨#[]⟩]) (kv (.pointer (some ⟨b4, 0, none⟩))) Tryz.underlying51 rfl kr rfl (HS16.cells 0 4 _ rfl)) (resT (kv (.bool false)))) kr ?_
   have HS133 := HS16.drop
   injection h with h
   injection h with h0_ h
   subst h0_ h
   exact ⟨f, rfl, FM.le.refl _, HS133⟩
 · have c12 : ¬ ((s1.size : Int) < 11) := c12
   refine seqRwI 10 kr (decide_eq_false c12) ?_
   refine seqRwI 11 kr (decide_eq_false c12) ?_
   have hq_ := guard_some h; clear h; obtain ⟨c17, h⟩ := hq_
   have c17 : 10 ≤ (s1.size : Int) := c17
   refine seqL1 kr ?_
   refine seqG kr (does_run (run_scutLH rfl Tryz.underlying9 (kv (.string s1)) (kv (.int .i64 8)) (kv (.int .i64 10)) (by decide) (by decide) c17 W5) ?_)
   refine seqL2 kr ?_
   refine nl (hK11 _ _ ?_)
   have hq_ := ite_some h; clear h; rcases hq_ with ⟨c19, h⟩ | ⟨c19, h⟩
   · have c19 : (!((scut s1 8 10).toList == Z21.toList)) = true := c19
     refine wpRwI 14 kr c19 ?_
     refine wpRwI 15 kr c19 ?_
     refine condT kr ?_
     refine wp_seq_k fun K20 hK21 => rl ?_
     refine seqL1 kr ?_
     refine seqK rfl (does_storeA (vs := [.string ⟨#[]⟩, .string ⟨#[]⟩, .string ⟨#[]⟩, .string ⟨#[]⟩]) rfl kr kr kr rfl (ones rfl) HS6 kr ?_)
     intro W22 HS23
     refine seqL1 kr ?_
     refine nl (hK21 _ _ ?_)
     refine wp_ret ?_
     refine hret _ _ ?_
     refine ends (v := Value.tuple #[.agg #[.string ⟨#[]⟩, .string ⟨#[]⟩, .string ⟨#[]⟩, .string ⟨#[]⟩], .bool false]) (results2 (q1 := .cell 2 51) (q2 := .tmp 3) kr (resN (n := 4) (cs := [.string ⟨#[]⟩, .string ⟨#[]⟩, .string ⟨#[]⟩, .string ⟨#[]⟩]) (kv (.pointer (some ⟨b4, 0, none⟩))) Tryz.underlying51 rfl kr rfl (HS23.cells 0 4 _ rfl)) (resT (kv (.bool false)))) kr ?_
     have HS134 := HS23.drop
     injection h with h
     injection h with h0_ h
     subst h0_ h
     exact ⟨f, rfl, FM.le.refl _, HS134⟩
   · have c19 : ¬ ((!((scut s1 8 10).toList == Z21.toList)) = true) := c19
     refine wpRwI 14 kr (Bool.eq_false_iff.mpr c19) ?_
     refine wpRwI 15 kr (Bool.eq_false_iff.mpr c19) ?_
     refine condF kr ?_
     refine wp_skip ?_
     refine hK9 _ _ ?_
     refine wp_seq_k fun K24 hK25 => rl ?_
     have hq_ := guard_some h; clear h; obtain ⟨c26, h⟩ := hq_
     have c26 : 8 ≤ (s1.size : Int) := c26
     refine seqL1 kr ?_
     refine seqK rfl (does_run (run_scutH rfl Tryz.underlying9 (kv (.string s1)) (kv (.int .i64 8)) (by decide) c26 W5) ?_)
     have hq_ := bind_some h; clear h; obtain ⟨vt27, hc28, h⟩ := hq_
     refine seqK rfl (does_call (f := 30) (args := #[.string (scut s1 0 8), .string ⟨#[32]⟩]) kr (strings_TrimRight.calls k (scut s1 0 8) Z14 HS6 vt27 hc28) ?_)
     rintro _ W31 ⟨f29, rfl, L30, HS32⟩
     refine ⟨_, rfl, ?_⟩
     refine seqL1 kr ?_
     refine seqK rfl (does_alloc (z := Value.agg #[.string ⟨#[]⟩, .string ⟨#[]⟩, .string ⟨#[]⟩, .string ⟨#[]⟩]) (cs := #[.string ⟨#[]⟩, .string ⟨#[]⟩, .string ⟨#[]⟩, .string ⟨#[]⟩]) rfl kr rfl HS32 ?_)
     intro b33 W34 HS35
     refine seqK rfl (does_storeA (vs := [.string vt27, .string ⟨#[]⟩, .string ⟨#[]⟩, .string ⟨#[]⟩]) rfl kr kr kr rfl (ones rfl) HS35 kr ?_)
     intro W37 HS38
     refine nl (hK25 _ _ ?_)
     refine wp_seq_k fun K39 hK40 => rl ?_
     refine seqL1 kr ?_
     refine seqK rfl (does_run (run_scutL rfl Tryz.underlying9 (kv (.string s1)) (kv (.int .i64 10)) (by decide) c17 W37) ?_)
     have hq_ := bind_some h; clear h; obtain ⟨vt41, hc42, h⟩ := hq_
     refine seqK rfl (does_call (f := 30) (args := #[.string (scut s1 10 (s1.size : Int)), .string ⟨#[32]⟩]) kr (strings_TrimRight.calls k (scut s1 10 (s1.size : Int)) Z14 HS38 vt41 hc42) ?_)
     rintro _ W45 ⟨f43, rfl, L44, HS46⟩
     refine ⟨_, rfl, ?_⟩
     refine seqL1 kr ?_
     refine nl (hK40 _ _ ?_)
     refine wp_seq_k fun K47 hK48 => rl ?_
     have hq_ := bind_some h; clear h; obtain ⟨⟨vt49, vt50, vt51⟩, hc52, h⟩ := hq_
     refine seqL1 kr ?_
     refine seqK rfl (does_call (f := 59) (args := #[.string vt41, .string ⟨#[32]⟩]) kr (strings_Cut.calls k vt41 Z14 HS46 (HM.mono (L30.trans L44)) vt49 vt50 vt51 hc52) ?_)
     rintro _ W55 ⟨f53, rfl, L54, HS56⟩
     refine ⟨_, rfl, ?_⟩
     refine seqL5 kr ?_
     refine seqK rfl (does_store (n := 1) (vs := [.string vt49]) (cs' := #[.string vt27, .string vt49, .string ⟨#[]⟩, .string ⟨#[]⟩]) rfl kr (kv (.pointer (some ⟨b33, 1, none⟩))) (kv (.string vt49)) rfl rfl (ones rfl) HS56 (Nat.le_of_ble_eq_true rfl) kr ?_)
     intro W57 HS58
     refine seqL1 kr ?_
     refine nl (hK48 _ _ ?_)
     refine wp_seq_k (fun K59 hK60 => ?_)
     refine wp_seq_k fun K61 hK62 => rl ?_
     have hq_ := bind_some h; clear h; obtain ⟨⟨vt63, vt64⟩, hc65, h⟩ := hq_
     refine seqL1 kr ?_
     refine seqK rfl (does_call (f := 60) (args := #[.string vt50, .string ⟨#[91]⟩]) kr (strings_CutPrefix.calls k vt50 (⟨#[91]⟩ : ByteArray) HS58 vt63 vt64 hc65) ?_)
     rintro _ W68 ⟨f66, rfl, L67, HS69⟩
     refine ⟨_, rfl, ?_⟩
     refine seqL5 kr ?_
     refine nl (hK62 _ _ ?_)
     refine wp_seq_k fun K70 hK71 => rl ?_
     refine seqL1 kr ?_
     refine nl (hK71 _ _ ?_)
     have hq_ := ite_some h; clear h; rcases hq_ with ⟨c73, h⟩ | ⟨c73, h⟩
     · have c73 : vt64 = true := c73
       refine wpRwI 7 kr c73 ?_
       refine wpRwI 35 kr c73 ?_
       refine wpRwI 36 kr c73 ?_
       refine condT kr ?_
       refine wp_seq_k fun K74 hK75 => rl ?_
       have hq_ := bind_some h; clear h; obtain ⟨⟨vt76, vt77, vt78⟩, hc79, h⟩ := hq_
       refine seqL1 kr ?_
       refine seqK rfl (does_call (f := 59) (args := #[.string vt63, .string ⟨#[93]⟩]) kr (strings_Cut.calls k vt63 Z37 HS69 (HM.mono (L30.trans (L44.trans (L54.trans L67)))) vt76 vt77 vt78 hc79) ?_)
       rintro _ W82 ⟨f80, rfl, L81, HS83⟩
       refine ⟨_, rfl, ?_⟩
       refine seqL5 kr ?_
       refine seqK rfl (does_store (n := 1) (vs := [.string vt76]) (cs' := #[.string vt27, .string vt49, .string vt76, .string ⟨#[]⟩]) rfl kr (kv (.pointer (some ⟨b33, 2, none⟩))) (kv (.string vt76)) rfl rfl (ones rfl) HS83 (Nat.le_of_ble_eq_true rfl) kr ?_)
       intro W84 HS85
       refine seqL2 kr ?_
       refine nl (hK75 _ _ ?_)
       refine wp_seq_k fun K86 hK87 => rl ?_
       have hq_ := bind_some h; clear h; obtain ⟨vt88, hc89, h⟩ := hq_
       refine seqL1 kr ?_
       refine seqK rfl (does_call (f := 61) (args := #[.string vt77, .string ⟨#[32]⟩]) kr (strings_TrimPrefix.calls k vt77 Z14 HS85 vt88 hc89) ?_)
       rintro _ W92 ⟨f90, rfl, L91, HS93⟩
       refine ⟨_, rfl, ?_⟩
       refine seqL1 kr ?_
       refine nl (hK87 _ _ ?_)
       refine wp_seq_k fun K94 hK95 => rl ?_
       refine seqL2 kr ?_
       refine nl (hK95 _ _ ?_)
       have hq_ := ite_some h; clear h; rcases hq_ with ⟨c97, h⟩ | ⟨c97, h⟩
       · have c97 : ¬ (vt78 = true) := c97
         refine wpRwI 47 kr (congrArg (fun b_ => !b_) (show vt78 = false from (Bool.eq_false_iff.mpr c97)) : (!vt78) = true) ?_
         refine condT kr ?_
         refine wp_seq_k fun K98 hK99 => rl ?_
         have HS100 := HS93.u1
         refine seqL1 kr ?_
         refine seqK rfl (does_storeA (vs := [.string ⟨#[]⟩, .string ⟨#[]⟩, .string ⟨#[]⟩, .string ⟨#[]⟩]) rfl kr kr kr rfl (ones rfl) HS100 kr ?_)
         intro W101 HS102
         refine seqL1 kr ?_
         refine nl (hK99 _ _ ?_)
         refine wp_ret ?_
         refine hret _ _ ?_
         refine ends (v := Value.tuple #[.agg #[.string ⟨#[]⟩, .string ⟨#[]⟩, .string ⟨#[]⟩, .string ⟨#[]⟩], .bool false]) (results2 (q1 := .cell 2 51) (q2 := .tmp 3) kr (resN (n := 4) (cs := [.string ⟨#[]⟩, .string ⟨#[]⟩, .string ⟨#[]⟩, .string ⟨#[]⟩]) (kv (.pointer (some ⟨b4, 0, none⟩))) Tryz.underlying51 rfl kr rfl (HS102.cells 0 4 _ rfl)) (resT (kv (.bool false)))) kr ?_
         have HS135 := HS102.drop
         have HS136 := HS135.drop
         injection h with h
         injection h with h0_ h
         subst h0_ h
         exact ⟨f90, rfl, (L30.trans (L44.trans (L54.trans (L67.trans (L81.trans L91))))), HS136⟩
       · have c97 : ¬ (¬ (vt78 = true)) := c97
         refine wpRwI 47 (x := (!vt78)) (v := false) kr (congrArg (fun b_ => !b_) (show vt78 = true from (Decidable.of_not_not c97)) : (!vt78) = false) ?_
         refine condF kr ?_
         refine wp_skip ?_
         refine hK60 _ _ ?_
         refine wp_seq_k fun K103 hK104 => rl ?_
         have hq_ := bind_some h; clear h; obtain ⟨vt105, hc106, h⟩ := hq_
         refine seqL1 kr ?_
         refine seqK rfl (does_call (f := 61) (args := #[.string vt88, .string ⟨#[47, 32]⟩]) kr (strings_TrimPrefix.calls k vt88 (⟨#[47, 32]⟩ : ByteArray) HS93 vt105 hc106) ?_)
         rintro _ W109 ⟨f107, rfl, L108, HS110⟩
         refine ⟨_, rfl, ?_⟩
         refine seqL1 kr ?_
         refine seqK rfl (does_store (n := 1) (vs := [.string vt105]) (cs' := #[.string vt27, .string vt49, .string vt76, .string vt105]) rfl kr (kv (.pointer (some ⟨b33, 3, none⟩))) (kv (.string vt105)) rfl rfl (ones rfl) HS110 (Nat.le_of_ble_eq_true rfl) kr ?_)
         intro W111 HS112
         refine nl (hK104 _ _ ?_)
         refine wp_seq_k fun K113 hK114 => rl ?_
         refine seqK rfl (does_run (run_loadN (n := 4) rfl Tryz.underlying51 rfl kr (kv (.pointer (some ⟨b33, 0, none⟩))) (cs := [.string vt27, .string vt49, .string vt76, .string vt105]) rfl (HS112.cells 0 4 _ rfl)) ?_)
         have HS115 := HS112.u1
         refine seqK rfl (does_storeA (vs := [.string vt27, .string vt49, .string vt76, .string vt105]) rfl kr kr kr rfl (ones rfl) HS115 kr ?_)
         intro W116 HS117
         refine seqL1 kr ?_
         refine nl (hK114 _ _ ?_)
         refine wp_ret ?_
         refine hret _ _ ?_
         refine ends (v := Value.tuple #[.agg #[.string vt27, .string vt49, .string vt76, .string vt105], .bool true]) (results2 (q1 := .cell 2 51) (q2 := .tmp 3) kr (resN (n := 4) (cs := [.string vt27, .string vt49, .string vt76, .string vt105]) (kv (.pointer (some ⟨b4, 0, none⟩))) Tryz.underlying51 rfl kr rfl (HS117.cells 0 4 _ rfl)) (resT (kv (.bool true)))) kr ?_
         have HS137 := HS117.drop
         have HS138 := HS137.drop
         injection h with h
         injection h with h0_ h
         subst h0_ h
         exact ⟨f107, rfl, (L30.trans (L44.trans (L54.trans (L67.trans (L81.trans (L91.trans L108)))))), HS138⟩
     · have c73 : ¬ (vt64 = true) := c73
       refine wpRwI 7 kr (Bool.eq_false_iff.mpr c73) ?_
       refine wpRwI 35 kr (Bool.eq_false_iff.mpr c73) ?_
       refine wpRwI 36 kr (Bool.eq_false_iff.mpr c73) ?_
       refine condF kr ?_
       refine wp_skip ?_
       refine hK60 _ _ ?_
       refine wp_seq_k fun K118 hK119 => rl ?_
       have hq_ := bind_some h; clear h; obtain ⟨vt120, hc121, h⟩ := hq_
       refine seqL1 kr ?_
       refine seqK rfl (does_call (f := 61) (args := #[.string vt50, .string ⟨#[47, 32]⟩]) kr (strings_TrimPrefix.calls k vt50 (⟨#[47, 32]⟩ : ByteArray) HS69 vt120 hc121) ?_)
       rintro _ W124 ⟨f122, rfl, L123, HS125⟩
       refine ⟨_, rfl, ?_⟩
       refine seqL1 kr ?_
       refine seqK rfl (does_store (n := 1) (vs := [.string vt120]) (cs' := #[.string vt27, .string vt49, .string ⟨#[]⟩, .string vt120]) rfl kr (kv (.pointer (some ⟨b33, 3, none⟩))) (kv (.string vt120)) rfl rfl (ones rfl) HS125 (Nat.le_of_ble_eq_true rfl) kr ?_)
       intro W126 HS127
       refine nl (hK119 _ _ ?_)
       refine wp_seq_k fun K128 hK129 => rl ?_
       refine seqK rfl (does_run (run_loadN (n := 4) rfl Tryz.underlying51 rfl kr (kv (.pointer (some ⟨b33, 0, none⟩))) (cs := [.string vt27, .string vt49, .string ⟨#[]⟩, .string vt120]) rfl (HS127.cells 0 4 _ rfl)) ?_)
       have HS130 := HS127.u1
       refine seqK rfl (does_storeA (vs := [.string vt27, .string vt49, .string ⟨#[]⟩, .string vt120]) rfl kr kr kr rfl (ones rfl) HS130 kr ?_)
       intro W131 HS132
       refine seqL1 kr ?_
       refine nl (hK129 _ _ ?_)
       refine wp_ret ?_
       refine hret _ _ ?_
       refine ends (v := Value.tuple #[.agg #[.string vt27, .string vt49, .string ⟨#[]⟩, .string vt120], .bool true]) (results2 (q1 := .cell 2 51) (q2 := .tmp 3) kr (resN (n := 4) (cs := [.string vt27, .string vt49, .string ⟨#[]⟩, .string vt120]) (kv (.pointer (some ⟨b4, 0, none⟩))) Tryz.underlying51 rfl kr rfl (HS132.cells 0 4 _ rfl)) (resT (kv (.bool true)))) kr ?_
       have HS139 := HS132.drop
       have HS140 := HS139.drop
       injection h with h
       injection h with h0_ h
       subst h0_ h
       exact ⟨f122, rfl, (L30.trans (L44.trans (L54.trans (L67.trans L123)))), HS140⟩

theorem strconv_Atoi.calls (k : Nat) (s : ByteArray) {t w : World} {f : FM} {H : List Seg} (HS : St t w f H) (r1 : Int) (h : strconv_Atoi k s = some r1) :
    Calls Tryz.prog 62 #[.string s] w (fun e w' => ∃ (g : FM), e = .returned (Value.tuple #[Value.int .i64 r1, Value.nilIface]) ∧ FM.le f g ∧ St t w' g H) := by
  unfold strconv_Atoi at h
  have hq_ := guard_some h; clear h; obtain ⟨h1, h⟩ := hq_
  have hv : Go.Lib.atoiAll s.data.toList = .ok r1 := by
    cases hc_ : Go.Lib.atoiAll s.data.toList with
    | ok v_ => rw [hc_] at h; injection h with h; rw [h]
    | _ => rw [hc_] at h; cases h
  exact lib_calls (Tryz.strconv_Atoi_ok s h1 r1 hv w) q_bytes2 HS

end Go.Sp.T6
