import Derived.Test.YtjnehahcpeiheaaGreatDoorProg
import Derived.Test.YtjnehahcpeiheaaGreatDoorSpCopy
import Derived.Test.YtjnehahcpeiheaaGreatDoorFT6
import Derived.Test.YtjnehahcpeiheaaGreatDoorSpStr
import Derived.Test.YtjnehahcpeiheaaGreatDoorSpLib
import Derived.Test.YtjnehahcpeiheaaGreatDoorSpBld
import Derived.Test.YtjnehahcpeiheaaGreatDoorConv
import Derived.Test.YtjnehahcpeiheaaGreatDoorLibs
import Derived.Test.YtjnehahcpeiheaaGreatDoorSpWays
import Derived.Test.YtjnehahcpeiheaaGreatDoorSpRound
namespace Go.Sp.T6
open Go Go.Sp Go.Proofs
set_option linter.unusedVariables false
attribute [local irreducible] wpList AnyL Code.wp Calls Does Code.wpIn wpListIn CallsIn bodyPostM LeavesInM
abbrev Z0 : ByteArray := ⟨#[100, 97, 114, 107]⟩
abbrev Z1 : ByteArray := ⟨#[100, 97, 121]⟩
abbrev Z2 : ByteArray := ⟨#[102, 108, 97, 116]⟩
abbrev Z3 : ByteArray := ⟨#[104, 111, 117, 114]⟩
abbrev Z4 : ByteArray := ⟨#[109, 105, 110, 117, 116, 101]⟩
abbrev Z5 : ByteArray := ⟨#[111, 100, 100]⟩
abbrev Z6 : ByteArray := ⟨#[115, 101, 99, 111, 110, 100]⟩
abbrev Z7 : ByteArray := ⟨#[115, 117, 98]⟩
abbrev Z8 : ByteArray := ⟨#[115, 99, 105, 101, 110, 99, 101]⟩
abbrev Z9 : ByteArray := ⟨#[116, 105, 99, 107]⟩
abbrev Z10 : ByteArray := ⟨#[116, 117, 114, 110]⟩
abbrev Z11 : ByteArray := ⟨#[120, 32, 32, 121]⟩
abbrev Z12 : ByteArray := ⟨#[32, 47, 32]⟩
abbrev Z13 : ByteArray := ⟨#[32, 91]⟩
abbrev Z14 : ByteArray := ⟨#[32]⟩
abbrev Z15 : ByteArray := ⟨#[45, 49, 50]⟩
abbrev Z16 : ByteArray := ⟨#[47, 32, 98]⟩
abbrev Z17 : ByteArray := ⟨#[49]⟩
abbrev Z18 : ByteArray := ⟨#[50, 48]⟩
abbrev Z19 : ByteArray := ⟨#[51]⟩
abbrev Z20 : ByteArray := ⟨#[55]⟩
abbrev Z21 : ByteArray := ⟨#[61, 32]⟩
abbrev Z22 : ByteArray := ⟨#[61]⟩
abbrev Z23 : ByteArray := ⟨#[65]⟩
abbrev Z24 : ByteArray := ⟨#[66, 89, 84, 69, 83]⟩
abbrev Z25 : ByteArray := ⟨#[69, 78, 68]⟩
abbrev Z26 : ByteArray := ⟨#[72, 69, 73, 71, 72, 84]⟩
abbrev Z27 : ByteArray := ⟨#[75, 73, 78, 68]⟩
abbrev Z28 : ByteArray := ⟨#[78, 69, 87]⟩
abbrev Z29 : ByteArray := ⟨#[78, 85, 77, 66, 69, 82]⟩
abbrev Z30 : ByteArray := ⟨#[80, 76, 65, 84, 69, 45]⟩
abbrev Z31 : ByteArray := ⟨#[87, 73, 68, 84, 72]⟩
abbrev Z32 : ByteArray := ⟨#[88, 48]⟩
abbrev Z33 : ByteArray := ⟨#[88]⟩
abbrev Z34 : ByteArray := ⟨#[91, 120, 93]⟩
abbrev Z35 : ByteArray := ⟨#[91, 122, 93, 32, 61, 32, 49]⟩
abbrev Z36 : ByteArray := ⟨#[91, 55, 93]⟩
abbrev Z37 : ByteArray := ⟨#[93]⟩
abbrev Z38 : ByteArray := ⟨#[97, 114, 99]⟩
abbrev Z39 : ByteArray := ⟨#[97, 47, 98]⟩
abbrev Z40 : ByteArray := ⟨#[97]⟩
abbrev Z41 : ByteArray := ⟨#[98, 101, 97, 116]⟩
abbrev Z42 : ByteArray := ⟨#[98, 105, 97, 115]⟩
abbrev Z43 : ByteArray := ⟨#[99, 101, 108, 108]⟩
abbrev Z44 : ByteArray := ⟨#[]⟩

def ty_Stream : Ty S_Stream where
  sz := 2
  rep := fun f cs x => ∃ (A0 : Option Addr) (c0 : Nat), cs = [.slice A0 x.L.length c0, .int .i64 x.vat] ∧ SlR (tInt .i64) f A0 c0 x.L
  pos := by decide
  len := by rintro f cs x ⟨A0, c0, rfl, h0⟩; rfl
  mono := by rintro f g cs x hl ⟨A0, c0, rfl, h0⟩; exact ⟨A0, c0, rfl, h0.mono hl⟩
  one := by
    rintro f cs x ⟨A0, c0, rfl, h0⟩ v hv
    simp only [List.mem_cons, List.not_mem_nil, or_false] at hv
    rcases hv with rfl | rfl <;> rfl
def ty_Card : Ty S_Card where
  sz := 4
  rep := fun f cs x => cs = [.string x.Key, .string x.Value, .string x.Unit, .string x.Note]
  pos := by decide
  len := by rintro f cs x rfl; rfl
  mono := by rintro f g cs x hl rfl; exact rfl
  one := by
    rintro f cs x rfl v hv
    simp only [List.mem_cons, List.not_mem_nil, or_false] at hv
    rcases hv with rfl | rfl | rfl | rfl <;> rfl
def ty_Sensor : Ty S_Sensor where
  sz := 8
  rep := fun f cs x => ∃ (A2 : Option Addr) (c2 : Nat) (A3 : Option Addr) (c3 : Nat) (A4 : Option Addr) (c4 : Nat), cs = [.int .i64 x.W, .int .i64 x.H, .slice A2 x.Bias.length c2, .slice A3 x.Dark.length c3, .slice A4 x.Flat.length c4, .int .i64 x.Full, .int .i64 x.Gain, .int .i64 x.Noise] ∧ SlR (tInt .i64) f A2 c2 x.Bias ∧ SlR (tInt .i64) f A3 c3 x.Dark ∧ SlR (tInt .i64) f A4 c4 x.Flat
  pos := by decide
  len := by rintro f cs x ⟨A2, c2, A3, c3, A4, c4, rfl, h2, h3, h4⟩; rfl
  mono := by rintro f g cs x hl ⟨A2, c2, A3, c3, A4, c4, rfl, h2, h3, h4⟩; exact ⟨A2, c2, A3, c3, A4, c4, rfl, h2.mono hl, h3.mono hl, h4.mono hl⟩
  one := by
    rintro f cs x ⟨A2, c2, A3, c3, A4, c4, rfl, h2, h3, h4⟩ v hv
    simp only [List.mem_cons, List.not_mem_nil, or_false] at hv
    rcases hv with rfl | rfl | rfl | rfl | rfl | rfl | rfl | rfl <;> rfl
def ty_Hit : Ty S_Hit where
  sz := 3
  rep := fun f cs x => cs = [.int .i64 x.X, .int .i64 x.Y, .int .i64 x.Quanta]
  pos := by decide
  len := by rintro f cs x rfl; rfl
  mono := by rintro f g cs x hl rfl; exact rfl
  one := by
    rintro f cs x rfl v hv
    simp only [List.mem_cons, List.not_mem_nil, or_false] at hv
    rcases hv with rfl | rfl | rfl <;> rfl
def ty_Plate : Ty S_Plate where
  sz := 4
  rep := fun f cs x => cs = [.int .i64 x.A, .int .i64 x.B, .int .i64 x.C, .int .i64 x.D]
  pos := by decide
  len := by rintro f cs x rfl; rfl
  mono := by rintro f g cs x hl rfl; exact rfl
  one := by
    rintro f cs x rfl v hv
    simp only [List.mem_cons, List.not_mem_nil, or_false] at hv
    rcases hv with rfl | rfl | rfl | rfl <;> rfl
def ty_Shot : Ty S_Shot where
  sz := 14
  rep := fun f cs x => ∃ (A13 : Option Addr) (c13 : Nat), cs = [.int .i64 x.Kind, .int .u64 x.Seed, .int .i64 x.Number, .int .i64 x.Begin, .int .i64 x.Beats, .int .i64 x.Plate.A, .int .i64 x.Plate.B, .int .i64 x.Plate.C, .int .i64 x.Plate.D, .int .i64 x.Seeing, .int .i64 x.DriftX, .int .i64 x.DriftY, .int .i64 x.Lamp, .slice A13 x.Hits.length c13] ∧ SlR ty_Hit f A13 c13 x.Hits
  pos := by decide
  len := by rintro f cs x ⟨A13, c13, rfl, h13⟩; rfl
  mono := by rintro f g cs x hl ⟨A13, c13, rfl, h13⟩; exact ⟨A13, c13, rfl, h13.mono hl⟩
  one := by
    rintro f cs x ⟨A13, c13, rfl, h13⟩ v hv
    simp only [List.mem_cons, List.not_mem_nil, or_false] at hv
    rcases hv with rfl | rfl | rfl | rfl | rfl | rfl | rfl | rfl | rfl | rfl | rfl | rfl | rfl | rfl <;> rfl
def ty_Frame : Ty S_Frame where
  sz := 4
  rep := fun f cs x => ∃ (A2 : Option Addr) (c2 : Nat) (A3 : Option Addr) (c3 : Nat), cs = [.int .i64 x.W, .int .i64 x.H, .slice A2 x.Cards.length c2, .slice A3 x.Counts.length c3] ∧ SlR ty_Card f A2 c2 x.Cards ∧ SlR (tInt .i64) f A3 c3 x.Counts
  pos := by decide
  len := by rintro f cs x ⟨A2, c2, A3, c3, rfl, h2, h3⟩; rfl
  mono := by rintro f g cs x hl ⟨A2, c2, A3, c3, rfl, h2, h3⟩; exact ⟨A2, c2, A3, c3, rfl, h2.mono hl, h3.mono hl⟩
  one := by
    rintro f cs x ⟨A2, c2, A3, c3, rfl, h2, h3⟩ v hv
    simp only [List.mem_cons, List.not_mem_nil, or_false] at hv
    rcases hv with rfl | rfl | rfl | rfl <;> rfl
def ty_Wide : Ty S_Wide where
  sz := 2
  rep := fun f cs x => cs = [.int .i64 x.Hi, .int .u64 x.Lo]
  pos := by decide
  len := by rintro f cs x rfl; rfl
  mono := by rintro f g cs x hl rfl; exact rfl
  one := by
    rintro f cs x rfl v hv
    simp only [List.mem_cons, List.not_mem_nil, or_false] at hv
    rcases hv with rfl | rfl <;> rfl
abbrev ag_Sensor (x : S_Sensor) (A2 : Option Addr) (c2 : Nat) (A3 : Option Addr) (c3 : Nat) (A4 : Option Addr) (c4 : Nat) : Value := .agg #[.int .i64 x.W, .int .i64 x.H, .slice A2 x.Bias.length c2, .slice A3 x.Dark.length c3, .slice A4 x.Flat.length c4, .int .i64 x.Full, .int .i64 x.Gain, .int .i64 x.Noise]
abbrev ag_Shot (x : S_Shot) (A13 : Option Addr) (c13 : Nat) : Value := .agg #[.int .i64 x.Kind, .int .u64 x.Seed, .int .i64 x.Number, .int .i64 x.Begin, .int .i64 x.Beats, .int .i64 x.Plate.A, .int .i64 x.Plate.B, .int .i64 x.Plate.C, .int .i64 x.Plate.D, .int .i64 x.Seeing, .int .i64 x.DriftX, .int .i64 x.DriftY, .int .i64 x.Lamp, .slice A13 x.Hits.length c13]
abbrev ag_Plate (x : S_Plate) : Value := .agg #[.int .i64 x.A, .int .i64 x.B, .int .i64 x.C, .int .i64 x.D]
abbrev ag_Card (x : S_Card) : Value := .agg #[.string x.Key, .string x.Value, .string x.Unit, .string x.Note]
abbrev ag_Frame (x : S_Frame) (A2 : Option Addr) (c2 : Nat) (A3 : Option Addr) (c3 : Nat) : Value := .agg #[.int .i64 x.W, .int .i64 x.H, .slice A2 x.Cards.length c2, .slice A3 x.Counts.length c3]
theorem inf3 : Inf Tryz.prog 3 1 8 (.int .i64 0) := .mk' kr rfl
theorem inf113 : Inf Tryz.prog 113 1 8 (.int .i64 0) := .mk' kr rfl
theorem inf51 : Inf Tryz.prog 51 4 64 (.agg #[.string ⟨#[]⟩, .string ⟨#[]⟩, .string ⟨#[]⟩, .string ⟨#[]⟩]) := .mk' kr rfl
theorem inf5 : Inf Tryz.prog 5 1 1 (.int .u8 0) := .mk' kr rfl

set_option maxRecDepth 100000 in
set_option maxHeartbeats 4000000 in
theorem spymake_Below.calls (k : Nat)  (x1 : Int) (n2 : Int) {t w : World} {f : FM} {H : List Seg} (HS : St t w f (H)) (rr1 : Int) (h : spymake_Below k x1 n2 = some rr1) :
    Calls Tryz.prog 10 #[.int .i64 x1, .int .i64 n2] w (fun e w' => ∃ (g : FM), e = .returned (Value.int .i64 rr1) ∧ FM.le f g ∧ St t w' g (H)) := by
 unfold spymake_Below at h
 refine enter Tryz.func10 rfl (tm := #[iV x1, iV n2, uV, uV, uV, uV, uV, uV, uV, uV, uV, uV, uV, uV, uV, uV]) kr ?_
 intro B hret hnor hnp
 refine wp_seq_k fun K3 hK4 => rl ?_
 refine seqL1 kr ?_
 refine nl (hK4 _ _ ?_)
 refine wp_seq_k (fun K5 hK6 => ?_)
 refine wp_seq_k fun K7 hK8 => rl ?_
 refine seqL2 kr ?_
 refine nl (hK8 _ _ ?_)
 have hq_ := ite_some h; clear h; rcases hq_ with ⟨c10, h⟩ | ⟨c10, h⟩
 · have c10 : n2 < 1 := c10
   refine wpRwI 6 kr (decide_eq_true c10) ?_
   refine condT kr ?_
   refine wp_seq_k fun K11 hK12 => rl ?_
   refine seqL1 kr ?_
   refine nl (hK12 _ _ ?_)
   refine wp_ret ?_
   refine hret _ _ ?_
   refine ends_still (v := Value.int .i64 0) kr kr ?_
   injection h with h
   subst h
   exact ⟨f, rfl, FM.le.refl _, HS⟩
 · have c10 : ¬ (n2 < 1) := c10
   refine wpRwI 6 kr (decide_eq_false c10) ?_
   refine condF kr ?_
   refine wp_skip ?_
   refine hK6 _ _ ?_
   refine wp_seq_k fun K13 hK14 => rl ?_
   have hq_ := guard_some h; clear h; obtain ⟨c15, h⟩ := hq_
   have c15 : ¬ (n2 = 0) := c15
   refine seqL2 kr ?_
   refine seqK rfl (does_run (run_rem rfl (kv (.int .i64 x1)) (kv (.int .i64 n2)) c15 w) ?_)
   refine seqL1 kr ?_
   refine nl (hK14 _ _ ?_)
   refine wp_seq_k (fun K16 hK17 => ?_)
   refine wp_seq_k fun K18 hK19 => rl ?_
   refine seqL2 kr ?_
   refine nl (hK19 _ _ ?_)
   have hq_ := ite_some h; clear h; rcases hq_ with ⟨c21, h⟩ | ⟨c21, h⟩
   · have c21 : (Int.tmod x1 n2) < 0 := c21
     refine wpRwI 11 kr (decide_eq_true c21) ?_
     refine condT kr ?_
     refine rl ?_
     refine seqL4 kr ?_
     refine nl (hK17 _ _ ?_)
     refine wp_seq_k fun K22 hK23 => rl ?_
     refine seqL2 kr ?_
     refine nl (hK23 _ _ ?_)
     refine wp_ret ?_
     refine hret _ _ ?_
     refine ends_still (v := Value.int .i64 (w64 ((Int.tmod x1 n2) + n2))) kr kr ?_
     injection h with h
     subst h
     exact ⟨f, rfl, FM.le.refl _, HS⟩
   · have c21 : ¬ ((Int.tmod x1 n2) < 0) := c21
     refine wpRwI 11 kr (decide_eq_false c21) ?_
     refine condF kr ?_
     refine wp_skip ?_
     refine hK17 _ _ ?_
     refine wp_seq_k fun K24 hK25 => rl ?_
     refine seqL2 kr ?_
     refine nl (hK25 _ _ ?_)
     refine wp_ret ?_
     refine hret _ _ ?_
     refine ends_still (v := Value.int .i64 (Int.tmod x1 n2)) kr kr ?_
     injection h with h
     subst h
     exact ⟨f, rfl, FM.le.refl _, HS⟩

set_option maxRecDepth 100000 in
set_option maxHeartbeats 4000000 in
theorem spymake_Stream_Next.calls (k : Nat) (b1 : Nat) (A4 : Option Addr) (c5 : Nat) (s3 : S_Stream) (n7 : Int) {t w : World} {f : FM} {H : List Seg} (HS : St t w f ([(b1, .cells #[.slice A4 s3.L.length c5, .int .i64 s3.vat] 33 (0, 0))] :: H)) (HR6 : SlR (tInt .i64) f A4 c5 s3.L) (rr1 : Int) (rr2 : Int) (h : spymake_Stream_Next k s3 n7 = some (rr1, rr2)) :
    Calls Tryz.prog 28 #[.pointer (some ⟨b1, 0, none⟩), .int .i64 n7] w (fun e w' => ∃ (g : FM), e = .returned (Value.int .i64 rr1) ∧ FM.le f g ∧ St t w' g ([(b1, .cells #[.slice A4 s3.L.length c5, .int .i64 rr2] 33 (0, 0))] :: H)) := by
 unfold spymake_Stream_Next at h
 refine enter Tryz.func28 rfl (tm := #[pV b1 0, iV n7, uV, uV, uV, uV, uV, uV, uV, uV, uV, uV, uV, uV, uV, uV, uV, uV, uV, uV, uV, uV, uV, uV, uV, uV, uV, uV, uV, uV, uV, uV, uV, uV, uV, uV, uV, uV, uV, uV, uV, uV, uV, uV, uV, uV, uV, uV, uV, uV, uV, uV, uV, uV, uV, uV, uV, uV, uV, uV, uV, uV, uV, uV]) kr ?_
 intro B hret hnor hnp
 refine wp_seq_k fun K8 hK9 => rl ?_
 refine seqL1 kr ?_
 refine nl (hK9 _ _ ?_)
 refine wp_seq_k fun K10 hK11 => rl ?_
 refine seqL3 kr ?_
 refine seqK rfl (does_run (run_load rfl Tryz.underlying3 rfl (kv (.pointer (some ⟨b1, 1, none⟩))) (HS.cell 1)) ?_)
 refine seqL3 kr ?_
 refine seqK rfl (does_store (n := 1) (vs := [.int .i64 (w64 (s3.vat + 1))]) (cs' := #[.slice A4 s3.L.length c5, .int .i64 (w64 (s3.vat + 1))]) rfl kr (kv (.pointer (some ⟨b1, 1, none⟩))) (kv (.int .i64 (w64 (s3.vat + 1)))) rfl rfl (ones rfl) HS (Nat.le_of_ble_eq_true rfl) kr ?_)
 intro W12 HS13
 refine nl (hK11 _ _ ?_)
 refine wp_seq_k (fun K14 hK15 => ?_)
 refine wp_seq_k fun K16 hK17 => rl ?_
 refine seqL3 kr ?_
 refine seqK rfl (does_run (run_load rfl Tryz.underlying22 rfl (kv (.pointer (some ⟨b1, 0, none⟩))) (HS13.cell 0)) ?_)
 refine seqL2 kr ?_
 refine nl (hK17 _ _ ?_)
 have hq_ := ite_some h; clear h; rcases hq_ with ⟨c19, h⟩ | ⟨c19, h⟩
 · have c19 : (s3.L.length : Int) = 0 := c19
   refine wpRwI 19 kr (beq_iff_eq.mpr c19) ?_
   refine condT kr ?_
   refine wp_seq_k fun K20 hK21 => rl ?_
   refine seqL3 kr ?_
   refine seqK rfl (does_run (run_load rfl Tryz.underlying3 rfl (kv (.pointer (some ⟨b1, 1, none⟩))) (HS13.cell 1)) ?_)
   have hq_ := bind_some h; clear h; obtain ⟨vt22, hc23, h⟩ := hq_
   refine seqL2 kr ?_
   refine seqK rfl (does_call (f := 10) (args := #[.int .i64 (w64 ((w64 (s3.vat + 1)) * 7919)), .int .i64 n7]) kr (spymake_Below.calls k (w64 ((w64 (s3.vat + 1)) * 7919)) n7 HS13 vt22 hc23) ?_)
   rintro _ W26 ⟨f24, rfl, L25, HS27⟩
   refine ⟨_, rfl, ?_⟩
   refine seqL1 kr ?_
   refine nl (hK21 _ _ ?_)
   refine wp_ret ?_
   refine hret _ _ ?_
   refine ends_still (v := Value.int .i64 vt22) kr kr ?_
   injection h with h
   injection h with h0_ h
   subst h0_ h
   exact ⟨f24, rfl, L25, HS27⟩
 · have c19 : ¬ ((s3.L.length : Int) = 0) := c19
   refine wpRwI 19 kr (beq_eq_false_iff_ne.mpr c19) ?_
   refine condF kr ?_
   refine wp_skip ?_
   refine hK15 _ _ ?_
   refine wp_seq_k (fun K28 hK29 => ?_)
   refine heldG (S := Sg t f ([(b1, .cells #[.slice A4 s3.L.length c5, .int .i64 (w64 (s3.vat + 1))] 33 (0, 0))] :: H) []) (n := 12) kr rfl HS13 ?_
   intro W30 HS31
   refine takeGL [0, 1, 2] (n := 12) (fuel := 9) #[true, true, true, false, false, false, false, false, false, false, false, false] rfl kr kr kr hnp (Sg.g0 (Sx.of [] fL HS31)) ?_
   refine takeGQ 3 [] rfl kr kr kr kr kr kr hnp (Sg.g0 (Sx.of [] fL HS31)) (fun w_ hw_ => by obtain ⟨g_, hl_, hS_⟩ := hw_.st; exact run_load rfl Tryz.underlying3 rfl (kv (.pointer (some ⟨b1, 1, none⟩))) (hS_.cell 1)) ?_
   refine takeGL [4, 5, 6, 7] (n := 8) (fuel := 4) #[true, true, true, true, true, true, true, true, false, false, false, false] rfl kr kr kr hnp (Sg.g0 (Sx.of [] fL HS31)) ?_
   refine takeGQ 8 [] rfl kr kr kr kr kr kr hnp (Sg.g0 (Sx.of [] fL HS31)) (fun w_ hw_ => by obtain ⟨g_, hl_, hS_⟩ := hw_.st; exact run_load rfl Tryz.underlying22 rfl (kv (.pointer (some ⟨b1, 0, none⟩))) (hS_.cell 0)) ?_
   have hq_ := guard_some h; clear h; obtain ⟨c32, h⟩ := hq_
   have c32 : ¬ ((s3.L.length : Int) = 0) := c32
   refine takeGL [9] (n := 3) (fuel := 2) #[true, true, true, true, true, true, true, true, true, true, false, false] rfl kr kr kr hnp (Sg.g0 (Sx.of [] fL HS31)) ?_
   refine takeGQ 10 [] rfl kr kr kr kr kr kr hnp (Sg.g0 (Sx.of [] fL HS31)) (fun w_ hw_ => by obtain ⟨g_, hl_, hS_⟩ := hw_.st; exact run_rem rfl (kv (.int .i64 (w64 ((w64 (s3.vat + 1)) - 1)))) (kv (.int .i64 (s3.L.length : Int))) c32 w_) ?_
   refine takeGL [11] (n := 1) (fuel := 0) #[true, true, true, true, true, true, true, true, true, true, true, true] rfl kr kr kr hnp (Sg.g0 (Sx.of [] fL HS31)) ?_
   refine doneG kr ?_ _
   refine hK29 _ _ ?_
   refine wp_seq_k (fun K33 hK34 => ?_)
   refine heldG (S := Sg t f ([(b1, .cells #[.slice A4 s3.L.length c5, .int .i64 (w64 (s3.vat + 1))] 33 (0, 0))] :: H) []) (n := 12) kr rfl HS31 ?_
   intro W35 HS36
   refine takeGL [0, 1, 2] (n := 12) (fuel := 9) #[true, true, true, false, false, false, false, false, false, false, false, false] rfl kr kr kr hnp (Sg.g0 (Sx.of [] fL HS36)) ?_
   refine takeGQ 3 [] rfl kr kr kr kr kr kr hnp (Sg.g0 (Sx.of [] fL HS36)) (fun w_ hw_ => by obtain ⟨g_, hl_, hS_⟩ := hw_.st; exact run_load rfl Tryz.underlying3 rfl (kv (.pointer (some ⟨b1, 1, none⟩))) (hS_.cell 1)) ?_
   refine takeGL [4, 5, 6, 7] (n := 8) (fuel := 4) #[true, true, true, true, true, true, true, true, false, false, false, false] rfl kr kr kr hnp (Sg.g0 (Sx.of [] fL HS36)) ?_
   refine takeGQ 8 [] rfl kr kr kr kr kr kr hnp (Sg.g0 (Sx.of [] fL HS36)) (fun w_ hw_ => by obtain ⟨g_, hl_, hS_⟩ := hw_.st; exact run_load rfl Tryz.underlying22 rfl (kv (.pointer (some ⟨b1, 0, none⟩))) (hS_.cell 0)) ?_
   refine takeGL [9] (n := 3) (fuel := 2) #[true, true, true, true, true, true, true, true, true, true, false, false] rfl kr kr kr hnp (Sg.g0 (Sx.of [] fL HS36)) ?_
   refine takeGQ 10 [] rfl kr kr kr kr kr kr hnp (Sg.g0 (Sx.of [] fL HS36)) (fun w_ hw_ => by obtain ⟨g_, hl_, hS_⟩ := hw_.st; exact run_div rfl (kv (.int .i64 (w64 ((w64 (s3.vat + 1)) - 1)))) (kv (.int .i64 (s3.L.length : Int))) c32 w_) ?_
   refine takeGL [11] (n := 1) (fuel := 0) #[true, true, true, true, true, true, true, true, true, true, true, true] rfl kr kr kr hnp (Sg.g0 (Sx.of [] fL HS36)) ?_
   refine doneG kr ?_ _
   refine hK34 _ _ ?_
   refine wp_seq_k fun K37 hK38 => rl ?_
   refine seqL3 kr ?_
   refine seqK rfl (does_run (run_load rfl Tryz.underlying22 rfl (kv (.pointer (some ⟨b1, 0, none⟩))) (HS36.cell 0)) ?_)
   have hq_ := guard_some h; clear h; obtain ⟨c39, h⟩ := hq_
   have c39 : 0 ≤ (Int.tmod (w64 ((w64 (s3.vat + 1)) - 1)) (s3.L.length : Int)) := c39
   have hq_ := guard_some h; clear h; obtain ⟨c40, h⟩ := hq_
   have c40 : (Int.tmod (w64 ((w64 (s3.vat + 1)) - 1)) (s3.L.length : Int)) < (s3.L.length : Int) := c40
   obtain ⟨b44, of45, cs41, hA46, hr42, hc43⟩ := HR6.at (i := Int.tmod (w64 ((w64 (s3.vat + 1)) - 1)) (s3.L.length : Int)) c39 c40
   obtain rfl := hr42
   refine seqL1 kr ?_
   refine seqK rfl (does_run (run_indexE hA46 (sz := 1) rfl Tryz.underlying22 kr (kv (.slice A4 s3.L.length c5)) (kv (.int .i64 (Int.tmod (w64 ((w64 (s3.vat + 1)) - 1)) (s3.L.length : Int)))) c39 c40 W35) ?_)
   refine seqK rfl (does_run (run_load rfl Tryz.underlying3 rfl (kv (.pointer (some ⟨b44, of45 + (Int.tmod (w64 ((w64 (s3.vat + 1)) - 1)) (s3.L.length : Int) : Int).toNat * 1, none⟩))) ((hc43 fL HS36) 0 (by decide))) ?_)
   have hq_ := bind_some h; clear h; obtain ⟨vt47, hc48, h⟩ := hq_
   refine seqK rfl (does_call (f := 10) (args := #[.int .i64 (rd s3.L (Int.tmod (w64 ((w64 (s3.vat + 1)) - 1)) (s3.L.length : Int))), .int .i64 1073741824]) kr (spymake_Below.calls k (rd s3.L (Int.tmod (w64 ((w64 (s3.vat + 1)) - 1)) (s3.L.length : Int))) 1073741824 HS36 vt47 hc48) ?_)
   rintro _ W51 ⟨f49, rfl, L50, HS52⟩
   refine ⟨_, rfl, ?_⟩
   have hq_ := bind_some h; clear h; obtain ⟨vt53, hc54, h⟩ := hq_
   refine seqL6 kr ?_
   refine seqK rfl (does_call (f := 10) (args := #[.int .i64 (w64 (vt47 + (w64 ((w64 (Int.tdiv (w64 ((w64 (s3.vat + 1)) - 1)) (s3.L.length : Int))) * (w64 (7919 + (Int.tmod (w64 ((w64 (s3.vat + 1)) - 1)) (s3.L.length : Int)))))))), .int .i64 n7]) kr (spymake_Below.calls k (w64 (vt47 + (w64 ((w64 (Int.tdiv (w64 ((w64 (s3.vat + 1)) - 1)) (s3.L.length : Int))) * (w64 (7919 + (Int.tmod (w64 ((w64 (s3.vat + 1)) - 1)) (s3.L.length : Int)))))))) n7 HS52 vt53 hc54) ?_)
   rintro _ W57 ⟨f55, rfl, L56, HS58⟩
   refine ⟨_, rfl, ?_⟩
   refine seqL1 kr ?_
   refine nl (hK38 _ _ ?_)
   refine wp_ret ?_
   refine hret _ _ ?_
   refine ends_still (v := Value.int .i64 vt53) kr kr ?_
   injection h with h
   injection h with h0_ h
   subst h0_ h
   exact ⟨f55, rfl, (L50.trans L56), HS58⟩

set_option maxRecDepth 100000 in
set_option maxHeartbeats 4000000 in
theorem spymake_Stream_Range.calls (k : Nat) (b1 : Nat) (A4 : Option Addr) (c5 : Nat) (s3 : S_Stream) (low7 : Int) (high8 : Int) {t w : World} {f : FM} {H : List Seg} (HS : St t w f ([(b1, .cells #[.slice A4 s3.L.length c5, .int .i64 s3.vat] 33 (0, 0))] :: H)) (HR6 : SlR (tInt .i64) f A4 c5 s3.L) (rr1 : Int) (rr2 : Int) (h : spymake_Stream_Range k s3 low7 high8 = some (rr1, rr2)) :
    Calls Tryz.prog 29 #[.pointer (some ⟨b1, 0, none⟩), .int .i64 low7, .int .i64 high8] w (fun e w' => ∃ (g : FM), e = .returned (Value.int .i64 rr1) ∧ FM.le f g ∧ St t w' g ([(b1, .cells #[.slice A4 s3.L.length c5, .int .i64 rr2] 33 (0, 0))] :: H)) := by
 unfold spymake_Stream_Range at h
 refine enter Tryz.func29 rfl (tm := #[pV b1 0, iV low7, iV high8, uV, uV, uV, uV, uV, uV, uV, uV, uV, uV, uV, uV, uV, uV, uV, uV]) kr ?_
 intro B hret hnor hnp
 refine wp_seq_k fun K9 hK10 => rl ?_
 refine seqL1 kr ?_
 refine nl (hK10 _ _ ?_)
 refine wp_seq_k (fun K11 hK12 => ?_)
 refine wp_seq_k fun K13 hK14 => rl ?_
 refine seqL3 kr ?_
 refine nl (hK14 _ _ ?_)
 have hq_ := ite_some h; clear h; rcases hq_ with ⟨c16, h⟩ | ⟨c16, h⟩
 · have c16 : high8 < low7 := c16
   refine wpRwI 9 kr (decide_eq_true c16) ?_
   refine condT kr ?_
   refine wp_seq_k fun K17 hK18 => rl ?_
   refine seqL2 kr ?_
   refine nl (hK18 _ _ ?_)
   refine wp_ret ?_
   refine hret _ _ ?_
   refine ends_still (v := Value.int .i64 low7) kr kr ?_
   injection h with h
   injection h with h0_ h
   subst h0_ h
   exact ⟨f, rfl, FM.le.refl _, HS⟩
 · have c16 : ¬ (high8 < low7) := c16
   refine wpRwI 9 kr (decide_eq_false c16) ?_
   refine condF kr ?_
   refine wp_skip ?_
   refine hK12 _ _ ?_
   refine wp_seq_k fun K19 hK20 => rl ?_
   have hq_ := bind_some h; clear h; obtain ⟨⟨vt21, vt22⟩, hc23, h⟩ := hq_
   refine seqL6 kr ?_
   refine seqK rfl (does_call (f := 28) (args := #[.pointer (some ⟨b1, 0, none⟩), .int .i64 (w64 ((w64 (high8 - low7)) + 1))]) kr (spymake_Stream_Next.calls k b1 A4 c5 s3 (w64 ((w64 (high8 - low7)) + 1)) HS HR6 vt21 vt22 hc23) ?_)
   rintro _ W26 ⟨f24, rfl, L25, HS27⟩
   refine ⟨_, rfl, ?_⟩
   refine seqL2 kr ?_
   refine nl (hK20 _ _ ?_)
   refine wp_ret ?_
   refine hret _ _ ?_
   refine ends_still (v := Value.int .i64 (w64 (low7 + vt21))) kr kr ?_
   injection h with h
   injection h with h0_ h
   subst h0_ h
   exact ⟨f24, rfl, L25, HS27⟩

set_option maxRecDepth 100000 in
set_option maxHeartbeats 4000000 in
theorem spymake_Stream_Sensor.calls (k : Nat) (b1 : Nat) (A4 : Option Addr) (c5 : Nat) (s3 : S_Stream) (most7 : Int) {t w : World} {f : FM} {H : List Seg} (HS : St t w f ([(b1, .cells #[.slice A4 s3.L.length c5, .int .i64 s3.vat] 33 (0, 0))] :: H)) (HR6 : SlR (tInt .i64) f A4 c5 s3.L) (rr1 : S_Sensor) (rr2 : Int) (h : spymake_Stream_Sensor k s3 most7 = some (rr1, rr2)) :
    Calls Tryz.prog 24 #[.pointer (some ⟨b1, 0, none⟩), .int .i64 most7] w (fun e w' => ∃ (g : FM) (A578 : Option Addr) (c579 : Nat) (s580 : Seg) (A581 : Option Addr) (c582 : Nat) (s583 : Seg) (A584 : Option Addr) (c585 : Nat) (s586 : Seg), e = .returned (Value.agg #[.int .i64 rr1.W, .int .i64 rr1.H, .slice A578 rr1.Bias.length c579, .slice A581 rr1.Dark.length c582, .slice A584 rr1.Flat.length c585, .int .i64 rr1.Full, .int .i64 rr1.Gain, .int .i64 rr1.Noise]) ∧ FM.le f g ∧ St t w' g (s580 :: s583 :: s586 :: [(b1, .cells #[.slice A4 s3.L.length c5, .int .i64 rr2] 33 (0, 0))] :: H) ∧ Own (tInt .i64) 3 g A578 c579 s580 rr1.Bias ∧ Own (tInt .i64) 113 g A581 c582 s583 rr1.Dark ∧ Own (tInt .i64) 3 g A584 c585 s586 rr1.Flat) := by
 unfold spymake_Stream_Sensor at h
 refine enter Tryz.func24 rfl (tm := #[pV b1 0, iV most7, uV, uV, uV, uV, uV, uV, uV, uV, uV, uV, uV, uV, uV, uV, uV, uV, uV, uV, uV, uV, uV, uV, uV, uV, uV, uV, uV, uV, uV, uV, uV, uV, uV, uV, uV, uV, uV, uV, uV, uV, uV, uV, uV, uV, uV, uV, uV, uV, uV, uV, uV, uV, uV, uV, uV, uV, uV, uV, uV, uV, uV, uV, uV, uV, uV, uV, uV, uV, uV, uV, uV, uV, uV, uV, uV, uV, uV, uV]) kr ?_
 intro B hret hnor hnp
 refine wp_seq_k fun K8 hK9 => rl ?_
 refine seqK rfl (does_alloc (z := Value.agg #[.int .i64 0, .int .i64 0, .slice none 0 0, .slice none 0 0, .slice none 0 0, .int .i64 0, .int .i64 0, .int .i64 0]) (cs := #[.int .i64 0, .int .i64 0, .slice none 0 0, .slice none 0 0, .slice none 0 0, .int .i64 0, .int .i64 0, .int .i64 0]) rfl kr rfl HS ?_)
 intro b10 W11 HS12
 refine nl (hK9 _ _ ?_)
 refine wp_seq_k fun K14 hK15 => rl ?_
 have HS16 := HS12.u1
 have hq_ := bind_some h; clear h; obtain ⟨⟨vt17, vt18⟩, hc19, h⟩ := hq_
 refine seqL2 kr ?_
 refine seqK rfl (does_call (f := 29) (args := #[.pointer (some ⟨b1, 0, none⟩), .int .i64 1, .int .i64 most7]) kr (spymake_Stream_Range.calls k b1 A4 c5 s3 1 most7 HS16 HR6 vt17 vt18 hc19) ?_)
 rintro _ W22 ⟨f20, rfl, L21, HS23⟩
 refine ⟨_, rfl, ?_⟩
 have hq_ := bind_some h; clear h; obtain ⟨⟨vt24, vt25⟩, hc26, h⟩ := hq_
 refine seqL2 kr ?_
 refine seqK rfl (does_call (f := 29) (args := #[.pointer (some ⟨b1, 0, none⟩), .int .i64 1, .int .i64 most7]) kr (spymake_Stream_Range.calls k b1 A4 c5 (⟨s3.L, vt18⟩ : S_Stream) 1 most7 HS23 (HR6.mono L21) vt24 vt25 hc26) ?_)
 rintro _ W29 ⟨f27, rfl, L28, HS30⟩
 refine ⟨_, rfl, ?_⟩
 have hq_ := bind_some h; clear h; obtain ⟨⟨vt31, vt32⟩, hc33, h⟩ := hq_
 refine seqL1 kr ?_
 refine seqK rfl (does_call (f := 29) (args := #[.pointer (some ⟨b1, 0, none⟩), .int .i64 20000, .int .i64 1048576]) kr (spymake_Stream_Range.calls k b1 A4 c5 (⟨s3.L, vt25⟩ : S_Stream) 20000 1048576 HS30 (HR6.mono (L21.trans L28)) vt31 vt32 hc33) ?_)
 rintro _ W36 ⟨f34, rfl, L35, HS37⟩
 refine ⟨_, rfl, ?_⟩
 have hq_ := bind_some h; clear h; obtain ⟨⟨vt38, vt39⟩, hc40, h⟩ := hq_
 refine seqL1 kr ?_
 refine seqK rfl (does_call (f := 29) (args := #[.pointer (some ⟨b1, 0, none⟩), .int .i64 1, .int .i64 4]) kr (spymake_Stream_Range.calls k b1 A4 c5 (⟨s3.L, vt32⟩ : S_Stream) 1 4 HS37 (HR6.mono (L21.trans (L28.trans L35))) vt38 vt39 hc40) ?_)
 rintro _ W43 ⟨f41, rfl, L42, HS44⟩
 refine ⟨_, rfl, ?_⟩
 have hq_ := bind_some h; clear h; obtain ⟨⟨vt45, vt46⟩, hc47, h⟩ := hq_
 refine seqL1 kr ?_
 refine seqK rfl (does_call (f := 28) (args := #[.pointer (some ⟨b1, 0, none⟩), .int .i64 4]) kr (spymake_Stream_Next.calls k b1 A4 c5 (⟨s3.L, vt39⟩ : S_Stream) 4 HS44 (HR6.mono (L21.trans (L28.trans (L35.trans L42)))) vt45 vt46 hc47) ?_)
 rintro _ W50 ⟨f48, rfl, L49, HS51⟩
 refine ⟨_, rfl, ?_⟩
 refine seqL1 kr ?_
 refine seqK rfl (does_alloc (z := Value.agg #[.int .i64 0, .int .i64 0, .slice none 0 0, .slice none 0 0, .slice none 0 0, .int .i64 0, .int .i64 0, .int .i64 0]) (cs := #[.int .i64 0, .int .i64 0, .slice none 0 0, .slice none 0 0, .slice none 0 0, .int .i64 0, .int .i64 0, .int .i64 0]) rfl kr rfl HS51 ?_)
 intro b52 W53 HS54
 refine seqK rfl (does_storeA (vs := [.int .i64 vt17, .int .i64 vt24, .slice none 0 0, .slice none 0 0, .slice none 0 0, .int .i64 vt31, .int .i64 vt38, .int .i64 vt45]) rfl kr kr kr rfl (ones rfl) HS54 kr ?_)
 intro W56 HS57
 refine nl (hK15 _ _ ?_)
 refine wp_seq_k (fun K58 hK59 => ?_)
 refine wp_seq_k fun K60 hK61 => rl ?_
 have HS62 := HS57.u1
 have hq_ := bind_some h; clear h; obtain ⟨⟨vt63, vt64⟩, hc65, h⟩ := hq_
 refine seqL1 kr ?_
 refine seqK rfl (does_call (f := 28) (args := #[.pointer (some ⟨b1, 0, none⟩), .int .i64 6]) kr (spymake_Stream_Next.calls k b1 A4 c5 (⟨s3.L, vt46⟩ : S_Stream) 6 HS62 (HR6.mono (L21.trans (L28.trans (L35.trans (L42.trans L49))))) vt63 vt64 hc65) ?_)
 rintro _ W68 ⟨f66, rfl, L67, HS69⟩
 refine ⟨_, rfl, ?_⟩
 refine nl (hK61 _ _ ?_)
 refine blockK (fun B70 hx71 hn72 hr73 ho74 hp75 => ?_)
 refine wp_seq_k fun K77 hK78 => rl ?_
 refine seqL2 kr ?_
 refine nl (hK78 _ _ ?_)
 have hq_ := bind_some h; clear h; obtain ⟨v79, hv137, h⟩ := hq_
 have J138 : ∀ (f128 : FM) (x133 : Int) (x134 : Int) (x135 : Int) (x136 : Int) (j132 : Nat → Value) (W130 : World) (a_ : Act), FM.le f66 f128 → some ((x133, x134, x135, x136)) = some v79 → St t W130 f128 ([(b1, .cells #[.slice A4 s3.L.length c5, .int .i64 x133] 33 (0, 0))] :: [(b52, .cells #[.int .i64 vt17, .int .i64 vt24, .slice none 0 0, .slice none 0 0, .slice none 0 0, .int .i64 x134, .int .i64 x135, .int .i64 x136] 65 (0, 0))] :: [(b10, .cells #[.int .i64 0, .int .i64 0, .slice none 0 0, .slice none 0 0, .slice none 0 0, .int .i64 0, .int .i64 0, .int .i64 0] 65 (0, 0))] :: H) → a_ = ⟨#[pV b1 0, iV most7, uV, uV, pV b10 0, pV b52 0, uV, uV, pV b1 0, iV most7, iV vt17, pV b1 0, iV most7, iV vt24, pV b1 0, iV vt31, pV b1 0, iV vt38, pV b1 0, iV vt45, .agg #[iV vt17, iV vt24, .slice none 0 0, .slice none 0 0, .slice none 0 0, iV vt31, iV vt38, iV vt45], pV b1 0, iV vt63, .bool (vt63 == 0), .bool (vt63 == 0), (j132 0), (j132 1), (j132 2), (j132 3), (j132 4), (j132 5), (j132 6), (j132 7), (j132 8), (j132 9), (j132 10), uV, uV, uV, uV, uV, uV, uV, uV, uV, uV, uV, uV, uV, uV, uV, uV, uV, uV, uV, uV, uV, uV, uV, uV, uV, uV, uV, uV, uV, uV, uV, uV, uV, uV, uV, uV, uV, uV, uV, uV, uV, uV, uV, uV], []⟩ → B70 Exit.normal a_ W130 := by
  intro f128 x133 x134 x135 x136 j132 W130 a_ L129 hj139 HS131  hfr_; subst hfr_
  injection hj139 with hj139; subst hj139; try dsimp only at h
  refine hn72 _ _ ?_
  refine hK59 _ _ ?_
  refine wp_seq_k fun K143 hK144 => rl ?_
  have hq_ := bind_some h; clear h; obtain ⟨⟨vt145, vt146⟩, hc147, h⟩ := hq_
  refine seqL1 kr ?_
  refine seqK rfl (does_call (f := 28) (args := #[.pointer (some ⟨b1, 0, none⟩), .int .i64 3]) kr (spymake_Stream_Next.calls k b1 A4 c5 (⟨s3.L, x133⟩ : S_Stream) 3 HS131 (HR6.mono (L21.trans (L28.trans (L35.trans (L42.trans (L49.trans (L67.trans L129))))))) vt145 vt146 hc147) ?_)
  rintro _ W150 ⟨f148, rfl, L149, HS151⟩
  refine ⟨_, rfl, ?_⟩
  refine seqL1 kr ?_
  refine nl (hK144 _ _ ?_)
  refine wp_seq_k (fun K152 hK153 => ?_)
  refine wp_seq_k fun K154 hK155 => rl ?_
  refine seqL1 kr ?_
  refine seqK rfl (does_run (run_load rfl Tryz.underlying3 rfl (kv (.pointer (some ⟨b52, 0, none⟩))) (HS151.u1.cell 0)) ?_)
  refine seqL1 kr ?_
  refine seqK rfl (does_run (run_load rfl Tryz.underlying3 rfl (kv (.pointer (some ⟨b52, 1, none⟩))) (HS151.u1.cell 1)) ?_)
  refine seqL2 kr ?_
  refine nl (hK155 _ _ ?_)
  refine blockK (fun B156 hx157 hn158 hr159 ho160 hp161 => ?_)
  have hq_ := bind_some h; clear h; obtain ⟨o331, hv544, h⟩ := hq_
  have J545 : ∀ (f520 : FM) (A527 : Option Addr) (c528 : Nat) (s529 : Seg) (A533 : Option Addr) (c534 : Nat) (s535 : Seg) (A539 : Option Addr) (c540 : Nat) (s541 : Seg) (x525 : Int) (x526 : List Int) (x532 : List Int) (x538 : List Int) (j524 : Nat → Value) (W522 : World) (a_ : Act), FM.le f148 f520 → some ((x525, x526, x532, x538)) = some o331 → St t W522 f520 (s541 :: s535 :: s529 :: [(b1, .cells #[.slice A4 s3.L.length c5, .int .i64 x525] 33 (0, 0))] :: [(b52, .cells #[.int .i64 vt17, .int .i64 vt24, .slice A527 x526.length c528, .slice A533 x532.length c534, .slice A539 x538.length c540, .int .i64 x134, .int .i64 x135, .int .i64 x136] 65 (0, 0))] :: [(b10, .cells #[.int .i64 0, .int .i64 0, .slice none 0 0, .slice none 0 0, .slice none 0 0, .int .i64 0, .int .i64 0, .int .i64 0] 65 (0, 0))] :: H) → Own (tInt .i64) 3 f520 A527 c528 s529 x526 → Own (tInt .i64) 113 f520 A533 c534 s535 x532 → Own (tInt .i64) 3 f520 A539 c540 s541 x538 → a_ = ⟨#[pV b1 0, iV most7, uV, uV, pV b10 0, pV b52 0, iV vt145, (j524 0), pV b1 0, iV most7, iV vt17, pV b1 0, iV most7, iV vt24, pV b1 0, iV vt31, pV b1 0, iV vt38, pV b1 0, iV vt45, .agg #[iV vt17, iV vt24, .slice none 0 0, .slice none 0 0, .slice none 0 0, iV vt31, iV vt38, iV vt45], pV b1 0, iV vt63, .bool (vt63 == 0), .bool (vt63 == 0), (j132 0), (j132 1), (j132 2), (j132 3), (j132 4), (j132 5), (j132 6), (j132 7), (j132 8), (j132 9), (j132 10), pV b1 0, iV vt145, pV b52 0, iV vt17, pV b52 1, iV vt24, iV (w64 (vt17 * vt24)), (j524 1), (j524 2), (j524 3), (j524 4), (j524 5), (j524 6), (j524 7), (j524 8), (j524 9), (j524 10), (j524 11), (j524 12), (j524 13), (j524 14), (j524 15), (j524 16), (j524 17), (j524 18), (j524 19), (j524 20), (j524 21), (j524 22), (j524 23), (j524 24), (j524 25), (j524 26), (j524 27), (j524 28), (j524 29), (j524 30), (j524 31), (j524 32), (j524 33), (j524 34), (j524 35), (j524 36), uV], []⟩ → K152 a_ W522 := by
   intro f520 A527 c528 s529 A533 c534 s535 A539 c540 s541 x525 x526 x532 x538 j524 W522 a_ L521 hj546 HS523 HO530 HO536 HO542 hfr_; subst hfr_
   injection hj546 with hj546; subst hj546; try dsimp only at h
   refine hK153 _ _ ?_
   refine wp_seq_k fun K565 hK566 => rl ?_
   refine seqK rfl (does_run (run_loadN (n := 8) rfl Tryz.underlying65 rfl kr (kv (.pointer (some ⟨b52, 0, none⟩))) (cs := [.int .i64 vt17, .int .i64 vt24, .slice A527 x526.length c528, .slice A533 x532.length c534, .slice A539 x538.length c540, .int .i64 x134, .int .i64 x135, .int .i64 x136]) rfl (HS523.u4.cells 0 8 _ rfl)) ?_)
   have HS567 := HS523.u5
   refine seqK rfl (does_storeA (vs := [.int .i64 vt17, .int .i64 vt24, .slice A527 x526.length c528, .slice A533 x532.length c534, .slice A539 x538.length c540, .int .i64 x134, .int .i64 x135, .int .i64 x136]) rfl kr kr kr rfl (ones rfl) HS567 kr ?_)
   intro W568 HS569
   refine nl (hK566 _ _ ?_)
   refine wp_ret ?_
   refine hret _ _ ?_
   refine ends (v := Value.agg #[.int .i64 vt17, .int .i64 vt24, .slice A527 x526.length c528, .slice A533 x532.length c534, .slice A539 x538.length c540, .int .i64 x134, .int .i64 x135, .int .i64 x136]) (results1 (q1 := .cell 4 65) kr (resN (n := 8) (cs := [.int .i64 vt17, .int .i64 vt24, .slice A527 x526.length c528, .slice A533 x532.length c534, .slice A539 x538.length c540, .int .i64 x134, .int .i64 x135, .int .i64 x136]) (kv (.pointer (some ⟨b10, 0, none⟩))) Tryz.underlying65 rfl kr rfl (HS569.cells 0 8 _ rfl))) kr ?_
   have HS575 := HS569.u4.u2.u3.u4.u5.u5
   have HS576 := HS575.drop
   have HS577 := HS576.drop
   injection h with h
   injection h with h0_ h
   subst h0_ h
   exact ⟨f520, A527, c528, s529, A533, c534, s535, A539, c540, s541, rfl, (L21.trans (L28.trans (L35.trans (L42.trans (L49.trans (L67.trans (L129.trans (L149.trans L521)))))))), HS577, HO530, HO536, HO542⟩
  clear h; have h := hv544; clear hv544
  have HS547 := HS151.cons_nil
  have HS549 := HS547.cons_nil
  have HS551 := HS549.cons_nil
  refine loopK (fun n_ a_ w_ => ∃ (f335 : FM) (A343 : Option Addr) (c344 : Nat) (s345 : Seg) (A349 : Option Addr) (c350 : Nat) (s351 : Seg) (A355 : Option Addr) (c356 : Nat) (s357 : Seg) (x340 : Int) (x341 : Int) (x342 : List Int) (x348 : List Int) (x354 : List Int) (j339 : Nat → Value), FM.le f148 f335 ∧ St t w_ f335 (s357 :: s351 :: s345 :: [(b1, .cells #[.slice A4 s3.L.length c5, .int .i64 x341] 33 (0, 0))] :: [(b52, .cells #[.int .i64 vt17, .int .i64 vt24, .slice A343 x342.length c344, .slice A349 x348.length c350, .slice A355 x354.length c356, .int .i64 x134, .int .i64 x135, .int .i64 x136] 65 (0, 0))] :: [(b10, .cells #[.int .i64 0, .int .i64 0, .slice none 0 0, .slice none 0 0, .slice none 0 0, .int .i64 0, .int .i64 0, .int .i64 0] 65 (0, 0))] :: H) ∧ Own (tInt .i64) 3 f335 A343 c344 s345 x342 ∧ Own (tInt .i64) 113 f335 A349 c350 s351 x348 ∧ Own (tInt .i64) 3 f335 A355 c356 s357 x354 ∧ spymake_Stream_Sensor.l0 k vt17 vt24 s3 vt145 n_ x340 x341 x342 x348 x354 = some o331 ∧ a_ = ⟨#[pV b1 0, iV most7, uV, uV, pV b10 0, pV b52 0, iV vt145, (j339 0), pV b1 0, iV most7, iV vt17, pV b1 0, iV most7, iV vt24, pV b1 0, iV vt31, pV b1 0, iV vt38, pV b1 0, iV vt45, .agg #[iV vt17, iV vt24, .slice none 0 0, .slice none 0 0, .slice none 0 0, iV vt31, iV vt38, iV vt45], pV b1 0, iV vt63, .bool (vt63 == 0), .bool (vt63 == 0), (j132 0), (j132 1), (j132 2), (j132 3), (j132 4), (j132 5), (j132 6), (j132 7), (j132 8), (j132 9), (j132 10), pV b1 0, iV vt145, pV b52 0, iV vt17, pV b52 1, iV vt24, iV (w64 (vt17 * vt24)), iV x340, (j339 1), (j339 2), (j339 3), (j339 4), (j339 5), (j339 6), (j339 7), (j339 8), (j339 9), (j339 10), (j339 11), (j339 12), (j339 13), (j339 14), (j339 15), (j339 16), (j339 17), (j339 18), (j339 19), (j339 20), (j339 21), (j339 22), (j339 23), (j339 24), (j339 25), (j339 26), (j339 27), (j339 28), (j339 29), (j339 30), (j339 31), (j339 32), (j339 33), (j339 34), (j339 35), uV], []⟩) k ⟨f148, none, 0, [], none, 0, [], none, 0, [], 0, vt146, ([] : List Int), ([] : List Int), ([] : List Int), (jL []), fL, HS551, (Own.nil _), (Own.nil _), (Own.nil _), h, kr⟩ ?_
  clear h
  rintro n334 _ W337 ⟨f335, A343, c344, s345, A349, c350, s351, A355, c356, s357, x340, x341, x342, x348, x354, j339, L336, HS338, HO346, HO352, HO358, h, rfl⟩ K332 hK333
  obtain _ | n334 := n334
  · exact nomatch h
  simp only [spymake_Stream_Sensor.l0] at h
  refine wp_seq_k fun K360 hK361 => rl ?_
  refine seqL1 kr ?_
  refine nl (hK361 _ _ ?_)
  refine wp_seq_k (fun K362 hK363 => ?_)
  have hq_ := ite_some h; clear h; rcases hq_ with ⟨c365, h⟩ | ⟨c365, h⟩
  · have c365 : x340 < (w64 (vt17 * vt24)) := c365
    refine wpRwI 44 kr (decide_eq_true c365) ?_
    refine condT kr ?_
    refine wp_skip ?_
    refine hK363 _ _ ?_
    refine wp_seq_k (fun K366 hK367 => ?_)
    refine blockK (fun B368 hx369 hn370 hr371 ho372 hp373 => ?_)
    refine wp_seq_k (fun K375 hK376 => ?_)
    have HS382 := HS338.u5.u2.u2.u5.u5.u5
    refine heldG (S := Sg t f335 (s357 :: s351 :: [(b10, .cells #[.int .i64 0, .int .i64 0, .slice none 0 0, .slice none 0 0, .slice none 0 0, .int .i64 0, .int .i64 0, .int .i64 0] 65 (0, 0))] :: H) [(5, s345), (3, [(b1, .cells #[.slice A4 s3.L.length c5, .int .i64 x341] 33 (0, 0))]), (5, [(b52, .cells #[.int .i64 vt17, .int .i64 vt24, .slice A343 x342.length c344, .slice A349 x348.length c350, .slice A355 x354.length c356, .int .i64 x134, .int .i64 x135, .int .i64 x136] 65 (0, 0))])]) (n := 8) kr rfl HS382 ?_
    intro W383 HS384
    refine takeGL [0] (n := 8) (fuel := 7) #[true, false, false, false, false, false, false, false] rfl kr kr kr (fun ch_ a_ w_ q_ => (fun ch_ a_ w_ q_ => hnp ch_ a_ w_ (hp161 ch_ a_ w_ q_)) ch_ a_ w_ (hp373 ch_ a_ w_ q_)) (Sg.g3 (Sx.of [s345, [(b1, .cells #[.slice A4 s3.L.length c5, .int .i64 x341] 33 (0, 0))], [(b52, .cells #[.int .i64 vt17, .int .i64 vt24, .slice A343 x342.length c344, .slice A349 x348.length c350, .slice A355 x354.length c356, .int .i64 x134, .int .i64 x135, .int .i64 x136] 65 (0, 0))]] fL HS384) (fun _ => St.only [] HS384 fL) (fun _ => St.only [s345] HS384 fL) (fun _ => St.only [s345, [(b1, .cells #[.slice A4 s3.L.length c5, .int .i64 x341] 33 (0, 0))]] HS384 fL)) ?_
    refine takeGQ 1 [5] rfl kr kr kr kr kr kr (fun ch_ a_ w_ q_ => (fun ch_ a_ w_ q_ => hnp ch_ a_ w_ (hp161 ch_ a_ w_ q_)) ch_ a_ w_ (hp373 ch_ a_ w_ q_)) (Sg.g3 (Sx.of [s345, [(b1, .cells #[.slice A4 s3.L.length c5, .int .i64 x341] 33 (0, 0))], [(b52, .cells #[.int .i64 vt17, .int .i64 vt24, .slice A343 x342.length c344, .slice A349 x348.length c350, .slice A355 x354.length c356, .int .i64 x134, .int .i64 x135, .int .i64 x136] 65 (0, 0))]] fL HS384) (fun _ => St.only [] HS384 fL) (fun _ => St.only [s345] HS384 fL) (fun _ => St.only [s345, [(b1, .cells #[.slice A4 s3.L.length c5, .int .i64 x341] 33 (0, 0))]] HS384 fL)) (fun w_ hw_ => by obtain ⟨g_, hl_, hS_⟩ := hw_.seg (j := 5) (s := [(b52, .cells #[.int .i64 vt17, .int .i64 vt24, .slice A343 x342.length c344, .slice A349 x348.length c350, .slice A355 x354.length c356, .int .i64 x134, .int .i64 x135, .int .i64 x136] 65 (0, 0))]) (by simp) (by simp); exact run_load rfl Tryz.underlying22 rfl (kv (.pointer (some ⟨b52, 2, none⟩))) (hS_.cell 2)) ?_
    refine takeGL [2] (n := 6) (fuel := 5) #[true, true, true, false, false, false, false, false] rfl kr kr kr (fun ch_ a_ w_ q_ => (fun ch_ a_ w_ q_ => hnp ch_ a_ w_ (hp161 ch_ a_ w_ q_)) ch_ a_ w_ (hp373 ch_ a_ w_ q_)) (Sg.g3 (Sx.of [s345, [(b1, .cells #[.slice A4 s3.L.length c5, .int .i64 x341] 33 (0, 0))], [(b52, .cells #[.int .i64 vt17, .int .i64 vt24, .slice A343 x342.length c344, .slice A349 x348.length c350, .slice A355 x354.length c356, .int .i64 x134, .int .i64 x135, .int .i64 x136] 65 (0, 0))]] fL HS384) (fun _ => St.only [] HS384 fL) (fun _ => St.only [s345] HS384 fL) (fun _ => St.only [s345, [(b1, .cells #[.slice A4 s3.L.length c5, .int .i64 x341] 33 (0, 0))]] HS384 fL)) ?_
    have HS385 := HS384.u1
    have hq_ := bind_some h; clear h; obtain ⟨⟨vt386, vt387⟩, hc388, h⟩ := hq_
    refine takeGE 3 kr rfl kr (does_call (f := 28) (args := #[.pointer (some ⟨b1, 0, none⟩), .int .i64 60]) kr (spymake_Stream_Next.calls k b1 A4 c5 (⟨s3.L, x341⟩ : S_Stream) 60 HS385 (HR6.mono (L21.trans (L28.trans (L35.trans (L42.trans (L49.trans (L67.trans (L129.trans (L149.trans L336))))))))) vt386 vt387 hc388) ?_)
    rintro _ W391 ⟨f389, rfl, L390, HS392⟩
    refine ⟨_, rfl, ?_⟩
    refine ⟨(Sg.g3 (Sx.of [[(b1, .cells #[.slice A4 s3.L.length c5, .int .i64 vt387] 33 (0, 0))], s345, [(b52, .cells #[.int .i64 vt17, .int .i64 vt24, .slice A343 x342.length c344, .slice A349 x348.length c350, .slice A355 x354.length c356, .int .i64 x134, .int .i64 x135, .int .i64 x136] 65 (0, 0))]] L390 HS392) (fun _ => St.only [[(b1, .cells #[.slice A4 s3.L.length c5, .int .i64 vt387] 33 (0, 0))]] HS392 L390) (fun hl_ => Bool.noConfusion (show true = false from hl_)) (fun _ => St.only [[(b1, .cells #[.slice A4 s3.L.length c5, .int .i64 vt387] 33 (0, 0))], s345] HS392 L390)), ?_⟩
    refine takeGE 4 kr rfl kr (does_lit (e := (tInt .i64)) (E := 3) (vs := #[(0, Value.int .i64 vt386)]) (cs := #[.int .i64 vt386]) (xs := ([vt386] : List Int)) rfl Tryz.underlying22 kr kr ⟨[.int .i64 vt386], _, rfl, rfl, rfl⟩ rfl HS392 ?_ (by decide))
    intro b393 W394 s395 HS396 _ HO397
    refine ⟨(Sg.g3 (Sx.of [s395, [(b1, .cells #[.slice A4 s3.L.length c5, .int .i64 vt387] 33 (0, 0))], s345, [(b52, .cells #[.int .i64 vt17, .int .i64 vt24, .slice A343 x342.length c344, .slice A349 x348.length c350, .slice A355 x354.length c356, .int .i64 x134, .int .i64 x135, .int .i64 x136] 65 (0, 0))]] L390 HS396) (fun _ => St.only [s395, [(b1, .cells #[.slice A4 s3.L.length c5, .int .i64 vt387] 33 (0, 0))]] HS396 L390) (fun hl_ => Bool.noConfusion (show true = false from hl_)) (fun _ => St.only [s395, [(b1, .cells #[.slice A4 s3.L.length c5, .int .i64 vt387] 33 (0, 0))], s345] HS396 L390)), ?_⟩
    have hq_ := guard_some h; clear h; obtain ⟨c399, h⟩ := hq_
    have c399 : (x342.length + 1) * 8 ≤ 140737488355328 := c399
    have HS401 := HS396.u2.u1
    refine takeGE 5 kr rfl kr (does_append1 (e := (tInt .i64)) (E := 3) (xs := x342) (ys := ([vt386] : List Int)) rfl (kv (.slice A343 x342.length c344)) (kv (.slice (some ⟨b393, 0, none⟩) ([vt386] : List Int).length 1)) Tryz.underlying22 inf3 (HO346.mono L390) HO397 HS401 c399 (lim63 c399 (by decide)) ?_)
    intro A402 c403 s404 W405 HS406 HO407
    refine ⟨(Sg.g3 (Sx.of [s404, [(b1, .cells #[.slice A4 s3.L.length c5, .int .i64 vt387] 33 (0, 0))], [(b52, .cells #[.int .i64 vt17, .int .i64 vt24, .slice A343 x342.length c344, .slice A349 x348.length c350, .slice A355 x354.length c356, .int .i64 x134, .int .i64 x135, .int .i64 x136] 65 (0, 0))]] L390 HS406) (fun hl_ => Bool.noConfusion (show true = false from hl_)) (fun hl_ => Bool.noConfusion (show true = false from hl_)) (fun hl_ => Bool.noConfusion (show true = false from hl_))), ?_⟩
    refine takeGL [6] (n := 2) (fuel := 1) #[true, true, true, true, true, true, true, false] rfl kr kr kr (fun ch_ a_ w_ q_ => (fun ch_ a_ w_ q_ => hnp ch_ a_ w_ (hp161 ch_ a_ w_ q_)) ch_ a_ w_ (hp373 ch_ a_ w_ q_)) (Sg.g3 (Sx.of [s404, [(b1, .cells #[.slice A4 s3.L.length c5, .int .i64 vt387] 33 (0, 0))], [(b52, .cells #[.int .i64 vt17, .int .i64 vt24, .slice A343 x342.length c344, .slice A349 x348.length c350, .slice A355 x354.length c356, .int .i64 x134, .int .i64 x135, .int .i64 x136] 65 (0, 0))]] L390 HS406) (fun hl_ => Bool.noConfusion (show true = false from hl_)) (fun hl_ => Bool.noConfusion (show true = false from hl_)) (fun hl_ => Bool.noConfusion (show true = false from hl_))) ?_
    have HS408 := HS406.u2
    refine takeGE 7 kr rfl kr (does_store (n := 1) (vs := [.slice A402 (x342 ++ ([vt386] : List Int)).length c403]) (cs' := #[.int .i64 vt17, .int .i64 vt24, .slice A402 (x342 ++ ([vt386] : List Int)).length c403, .slice A349 x348.length c350, .slice A355 x354.length c356, .int .i64 x134, .int .i64 x135, .int .i64 x136]) rfl kr (kv (.pointer (some ⟨b52, 2, none⟩))) (kv (.slice A402 (x342 ++ ([vt386] : List Int)).length c403)) rfl rfl (ones rfl) HS408 (Nat.le_of_ble_eq_true rfl) kr ?_)
    intro W409 HS410
    refine ⟨(Sg.g3 (Sx.of [[(b52, .cells #[.int .i64 vt17, .int .i64 vt24, .slice A402 (x342 ++ ([vt386] : List Int)).length c403, .slice A349 x348.length c350, .slice A355 x354.length c356, .int .i64 x134, .int .i64 x135, .int .i64 x136] 65 (0, 0))], s404, [(b1, .cells #[.slice A4 s3.L.length c5, .int .i64 vt387] 33 (0, 0))]] L390 HS410) (fun hl_ => Bool.noConfusion (show true = false from hl_)) (fun hl_ => Bool.noConfusion (show true = false from hl_)) (fun hl_ => Bool.noConfusion (show true = false from hl_))), ?_⟩
    refine doneG kr ?_ _
    refine hK376 _ _ ?_
    refine wp_seq_k (fun K411 hK412 => ?_)
    have HS418 := HS410.u5.u4.u3.u5.u5.u5
    refine heldG (S := Sg t f389 (s404 :: s357 :: [(b10, .cells #[.int .i64 0, .int .i64 0, .slice none 0 0, .slice none 0 0, .slice none 0 0, .int .i64 0, .int .i64 0, .int .i64 0] 65 (0, 0))] :: H) [(8, [(b52, .cells #[.int .i64 vt17, .int .i64 vt24, .slice A402 (x342 ++ ([vt386] : List Int)).length c403, .slice A349 x348.length c350, .slice A355 x354.length c356, .int .i64 x134, .int .i64 x135, .int .i64 x136] 65 (0, 0))]), (6, [(b1, .cells #[.slice A4 s3.L.length c5, .int .i64 vt387] 33 (0, 0))]), (8, s351)]) (n := 11) kr rfl HS418 ?_
    intro W419 HS420
    refine takeGL [0] (n := 11) (fuel := 10) #[true, false, false, false, false, false, false, false, false, false, false] rfl kr kr kr (fun ch_ a_ w_ q_ => (fun ch_ a_ w_ q_ => hnp ch_ a_ w_ (hp161 ch_ a_ w_ q_)) ch_ a_ w_ (hp373 ch_ a_ w_ q_)) (Sg.g3 (Sx.of [[(b52, .cells #[.int .i64 vt17, .int .i64 vt24, .slice A402 (x342 ++ ([vt386] : List Int)).length c403, .slice A349 x348.length c350, .slice A355 x354.length c356, .int .i64 x134, .int .i64 x135, .int .i64 x136] 65 (0, 0))], [(b1, .cells #[.slice A4 s3.L.length c5, .int .i64 vt387] 33 (0, 0))], s351] fL HS420) (fun _ => St.only [] HS420 fL) (fun _ => St.only [[(b52, .cells #[.int .i64 vt17, .int .i64 vt24, .slice A402 (x342 ++ ([vt386] : List Int)).length c403, .slice A349 x348.length c350, .slice A355 x354.length c356, .int .i64 x134, .int .i64 x135, .int .i64 x136] 65 (0, 0))]] HS420 fL) (fun _ => St.only [[(b52, .cells #[.int .i64 vt17, .int .i64 vt24, .slice A402 (x342 ++ ([vt386] : List Int)).length c403, .slice A349 x348.length c350, .slice A355 x354.length c356, .int .i64 x134, .int .i64 x135, .int .i64 x136] 65 (0, 0))], [(b1, .cells #[.slice A4 s3.L.length c5, .int .i64 vt387] 33 (0, 0))]] HS420 fL)) ?_
    refine takeGQ 1 [8] rfl kr kr kr kr kr kr (fun ch_ a_ w_ q_ => (fun ch_ a_ w_ q_ => hnp ch_ a_ w_ (hp161 ch_ a_ w_ q_)) ch_ a_ w_ (hp373 ch_ a_ w_ q_)) (Sg.g3 (Sx.of [[(b52, .cells #[.int .i64 vt17, .int .i64 vt24, .slice A402 (x342 ++ ([vt386] : List Int)).length c403, .slice A349 x348.length c350, .slice A355 x354.length c356, .int .i64 x134, .int .i64 x135, .int .i64 x136] 65 (0, 0))], [(b1, .cells #[.slice A4 s3.L.length c5, .int .i64 vt387] 33 (0, 0))], s351] fL HS420) (fun _ => St.only [] HS420 fL) (fun _ => St.only [[(b52, .cells #[.int .i64 vt17, .int .i64 vt24, .slice A402 (x342 ++ ([vt386] : List Int)).length c403, .slice A349 x348.length c350, .slice A355 x354.length c356, .int .i64 x134, .int .i64 x135, .int .i64 x136] 65 (0, 0))]] HS420 fL) (fun _ => St.only [[(b52, .cells #[.int .i64 vt17, .int .i64 vt24, .slice A402 (x342 ++ ([vt386] : List Int)).length c403, .slice A349 x348.length c350, .slice A355 x354.length c356, .int .i64 x134, .int .i64 x135, .int .i64 x136] 65 (0, 0))], [(b1, .cells #[.slice A4 s3.L.length c5, .int .i64 vt387] 33 (0, 0))]] HS420 fL)) (fun w_ hw_ => by obtain ⟨g_, hl_, hS_⟩ := hw_.seg (j := 8) (s := [(b52, .cells #[.int .i64 vt17, .int .i64 vt24, .slice A402 (x342 ++ ([vt386] : List Int)).length c403, .slice A349 x348.length c350, .slice A355 x354.length c356, .int .i64 x134, .int .i64 x135, .int .i64 x136] 65 (0, 0))]) (by simp) (by simp); exact run_load rfl Tryz.underlying62 rfl (kv (.pointer (some ⟨b52, 3, none⟩))) (hS_.cell 3)) ?_
    refine takeGL [2, 3, 4, 5] (n := 9) (fuel := 5) #[true, true, true, true, true, true, false, false, false, false, false] rfl kr kr kr (fun ch_ a_ w_ q_ => (fun ch_ a_ w_ q_ => hnp ch_ a_ w_ (hp161 ch_ a_ w_ q_)) ch_ a_ w_ (hp373 ch_ a_ w_ q_)) (Sg.g3 (Sx.of [[(b52, .cells #[.int .i64 vt17, .int .i64 vt24, .slice A402 (x342 ++ ([vt386] : List Int)).length c403, .slice A349 x348.length c350, .slice A355 x354.length c356, .int .i64 x134, .int .i64 x135, .int .i64 x136] 65 (0, 0))], [(b1, .cells #[.slice A4 s3.L.length c5, .int .i64 vt387] 33 (0, 0))], s351] fL HS420) (fun _ => St.only [] HS420 fL) (fun _ => St.only [[(b52, .cells #[.int .i64 vt17, .int .i64 vt24, .slice A402 (x342 ++ ([vt386] : List Int)).length c403, .slice A349 x348.length c350, .slice A355 x354.length c356, .int .i64 x134, .int .i64 x135, .int .i64 x136] 65 (0, 0))]] HS420 fL) (fun _ => St.only [[(b52, .cells #[.int .i64 vt17, .int .i64 vt24, .slice A402 (x342 ++ ([vt386] : List Int)).length c403, .slice A349 x348.length c350, .slice A355 x354.length c356, .int .i64 x134, .int .i64 x135, .int .i64 x136] 65 (0, 0))], [(b1, .cells #[.slice A4 s3.L.length c5, .int .i64 vt387] 33 (0, 0))]] HS420 fL)) ?_
    have HS421 := HS420.u1
    have hq_ := bind_some h; clear h; obtain ⟨⟨vt422, vt423⟩, hc424, h⟩ := hq_
    refine takeGE 6 kr rfl kr (does_call (f := 28) (args := #[.pointer (some ⟨b1, 0, none⟩), .int .i64 (w64 ((w64 (vt145 * 16777216)) + 1))]) kr (spymake_Stream_Next.calls k b1 A4 c5 (⟨s3.L, vt387⟩ : S_Stream) (w64 ((w64 (vt145 * 16777216)) + 1)) HS421 (HR6.mono (L21.trans (L28.trans (L35.trans (L42.trans (L49.trans (L67.trans (L129.trans (L149.trans (L336.trans L390)))))))))) vt422 vt423 hc424) ?_)
    rintro _ W427 ⟨f425, rfl, L426, HS428⟩
    refine ⟨_, rfl, ?_⟩
    refine ⟨(Sg.g3 (Sx.of [[(b1, .cells #[.slice A4 s3.L.length c5, .int .i64 vt423] 33 (0, 0))], [(b52, .cells #[.int .i64 vt17, .int .i64 vt24, .slice A402 (x342 ++ ([vt386] : List Int)).length c403, .slice A349 x348.length c350, .slice A355 x354.length c356, .int .i64 x134, .int .i64 x135, .int .i64 x136] 65 (0, 0))], s351] L426 HS428) (fun _ => St.only [[(b1, .cells #[.slice A4 s3.L.length c5, .int .i64 vt423] 33 (0, 0))]] HS428 L426) (fun hl_ => Bool.noConfusion (show true = false from hl_)) (fun _ => St.only [[(b1, .cells #[.slice A4 s3.L.length c5, .int .i64 vt423] 33 (0, 0))], [(b52, .cells #[.int .i64 vt17, .int .i64 vt24, .slice A402 (x342 ++ ([vt386] : List Int)).length c403, .slice A349 x348.length c350, .slice A355 x354.length c356, .int .i64 x134, .int .i64 x135, .int .i64 x136] 65 (0, 0))]] HS428 L426)), ?_⟩
    refine takeGE 7 kr rfl kr (does_lit (e := (tInt .i64)) (E := 113) (vs := #[(0, Value.int .i64 vt422)]) (cs := #[.int .i64 vt422]) (xs := ([vt422] : List Int)) rfl Tryz.underlying62 kr kr ⟨[.int .i64 vt422], _, rfl, rfl, rfl⟩ rfl HS428 ?_ (by decide))
    intro b429 W430 s431 HS432 _ HO433
    refine ⟨(Sg.g3 (Sx.of [s431, [(b1, .cells #[.slice A4 s3.L.length c5, .int .i64 vt423] 33 (0, 0))], [(b52, .cells #[.int .i64 vt17, .int .i64 vt24, .slice A402 (x342 ++ ([vt386] : List Int)).length c403, .slice A349 x348.length c350, .slice A355 x354.length c356, .int .i64 x134, .int .i64 x135, .int .i64 x136] 65 (0, 0))], s351] L426 HS432) (fun _ => St.only [s431, [(b1, .cells #[.slice A4 s3.L.length c5, .int .i64 vt423] 33 (0, 0))]] HS432 L426) (fun hl_ => Bool.noConfusion (show true = false from hl_)) (fun _ => St.only [s431, [(b1, .cells #[.slice A4 s3.L.length c5, .int .i64 vt423] 33 (0, 0))], [(b52, .cells #[.int .i64 vt17, .int .i64 vt24, .slice A402 (x342 ++ ([vt386] : List Int)).length c403, .slice A349 x348.length c350, .slice A355 x354.length c356, .int .i64 x134, .int .i64 x135, .int .i64 x136] 65 (0, 0))]] HS432 L426)), ?_⟩
    have hq_ := guard_some h; clear h; obtain ⟨c435, h⟩ := hq_
    have c435 : (x348.length + 1) * 8 ≤ 140737488355328 := c435
    have HS437 := HS432.u3.u1
    refine takeGE 8 kr rfl kr (does_append1 (e := (tInt .i64)) (E := 113) (xs := x348) (ys := ([vt422] : List Int)) rfl (kv (.slice A349 x348.length c350)) (kv (.slice (some ⟨b429, 0, none⟩) ([vt422] : List Int).length 1)) Tryz.underlying62 inf113 (HO352.mono (L390.trans L426)) HO433 HS437 c435 (lim63 c435 (by decide)) ?_)
    intro A438 c439 s440 W441 HS442 HO443
    refine ⟨(Sg.g3 (Sx.of [s440, [(b1, .cells #[.slice A4 s3.L.length c5, .int .i64 vt423] 33 (0, 0))], [(b52, .cells #[.int .i64 vt17, .int .i64 vt24, .slice A402 (x342 ++ ([vt386] : List Int)).length c403, .slice A349 x348.length c350, .slice A355 x354.length c356, .int .i64 x134, .int .i64 x135, .int .i64 x136] 65 (0, 0))]] L426 HS442) (fun hl_ => Bool.noConfusion (show true = false from hl_)) (fun hl_ => Bool.noConfusion (show true = false from hl_)) (fun hl_ => Bool.noConfusion (show true = false from hl_))), ?_⟩
    refine takeGL [9] (n := 2) (fuel := 1) #[true, true, true, true, true, true, true, true, true, true, false] rfl kr kr kr (fun ch_ a_ w_ q_ => (fun ch_ a_ w_ q_ => hnp ch_ a_ w_ (hp161 ch_ a_ w_ q_)) ch_ a_ w_ (hp373 ch_ a_ w_ q_)) (Sg.g3 (Sx.of [s440, [(b1, .cells #[.slice A4 s3.L.length c5, .int .i64 vt423] 33 (0, 0))], [(b52, .cells #[.int .i64 vt17, .int .i64 vt24, .slice A402 (x342 ++ ([vt386] : List Int)).length c403, .slice A349 x348.length c350, .slice A355 x354.length c356, .int .i64 x134, .int .i64 x135, .int .i64 x136] 65 (0, 0))]] L426 HS442) (fun hl_ => Bool.noConfusion (show true = false from hl_)) (fun hl_ => Bool.noConfusion (show true = false from hl_)) (fun hl_ => Bool.noConfusion (show true = false from hl_))) ?_
    have HS444 := HS442.u2
    refine takeGE 10 kr rfl kr (does_store (n := 1) (vs := [.slice A438 (x348 ++ ([vt422] : List Int)).length c439]) (cs' := #[.int .i64 vt17, .int .i64 vt24, .slice A402 (x342 ++ ([vt386] : List Int)).length c403, .slice A438 (x348 ++ ([vt422] : List Int)).length c439, .slice A355 x354.length c356, .int .i64 x134, .int .i64 x135, .int .i64 x136]) rfl kr (kv (.pointer (some ⟨b52, 3, none⟩))) (kv (.slice A438 (x348 ++ ([vt422] : List Int)).length c439)) rfl rfl (ones rfl) HS444 (Nat.le_of_ble_eq_true rfl) kr ?_)
    intro W445 HS446
    refine ⟨(Sg.g3 (Sx.of [[(b52, .cells #[.int .i64 vt17, .int .i64 vt24, .slice A402 (x342 ++ ([vt386] : List Int)).length c403, .slice A438 (x348 ++ ([vt422] : List Int)).length c439, .slice A355 x354.length c356, .int .i64 x134, .int .i64 x135, .int .i64 x136] 65 (0, 0))], s440, [(b1, .cells #[.slice A4 s3.L.length c5, .int .i64 vt423] 33 (0, 0))]] L426 HS446) (fun hl_ => Bool.noConfusion (show true = false from hl_)) (fun hl_ => Bool.noConfusion (show true = false from hl_)) (fun hl_ => Bool.noConfusion (show true = false from hl_))), ?_⟩
    refine doneG kr ?_ _
    refine hK412 _ _ ?_
    refine wp_seq_k fun K447 hK448 => rl ?_
    have HS449 := HS446.u2
    have hq_ := bind_some h; clear h; obtain ⟨⟨vt450, vt451⟩, hc452, h⟩ := hq_
    refine seqL1 kr ?_
    refine seqK rfl (does_call (f := 29) (args := #[.pointer (some ⟨b1, 0, none⟩), .int .i64 2048, .int .i64 4096]) kr (spymake_Stream_Range.calls k b1 A4 c5 (⟨s3.L, vt423⟩ : S_Stream) 2048 4096 HS449 (HR6.mono (L21.trans (L28.trans (L35.trans (L42.trans (L49.trans (L67.trans (L129.trans (L149.trans (L336.trans (L390.trans L426))))))))))) vt450 vt451 hc452) ?_)
    rintro _ W455 ⟨f453, rfl, L454, HS456⟩
    refine ⟨_, rfl, ?_⟩
    refine seqL1 kr ?_
    refine nl (hK448 _ _ ?_)
    refine wp_seq_k (fun K457 hK458 => ?_)
    refine wp_seq_k fun K459 hK460 => rl ?_
    have hq_ := bind_some h; clear h; obtain ⟨⟨vt461, vt462⟩, hc463, h⟩ := hq_
    refine seqL1 kr ?_
    refine seqK rfl (does_call (f := 28) (args := #[.pointer (some ⟨b1, 0, none⟩), .int .i64 12]) kr (spymake_Stream_Next.calls k b1 A4 c5 (⟨s3.L, vt451⟩ : S_Stream) 12 HS456 (HR6.mono (L21.trans (L28.trans (L35.trans (L42.trans (L49.trans (L67.trans (L129.trans (L149.trans (L336.trans (L390.trans (L426.trans L454)))))))))))) vt461 vt462 hc463) ?_)
    rintro _ W466 ⟨f464, rfl, L465, HS467⟩
    refine ⟨_, rfl, ?_⟩
    refine seqL1 kr ?_
    refine nl (hK460 _ _ ?_)
    have hq_ := ite_some h; clear h; rcases hq_ with ⟨c469, h⟩ | ⟨c469, h⟩
    · have c469 : vt461 = 0 := c469
      refine wpRwI 66 kr (beq_iff_eq.mpr c469) ?_
      refine condT kr ?_
      refine rl ?_
      have hq_ := bind_some h; clear h; obtain ⟨⟨vt470, vt471⟩, hc472, h⟩ := hq_
      refine seqL1 kr ?_
      refine seqK rfl (does_call (f := 28) (args := #[.pointer (some ⟨b1, 0, none⟩), .int .i64 512]) kr (spymake_Stream_Next.calls k b1 A4 c5 (⟨s3.L, vt462⟩ : S_Stream) 512 HS467 (HR6.mono (L21.trans (L28.trans (L35.trans (L42.trans (L49.trans (L67.trans (L129.trans (L149.trans (L336.trans (L390.trans (L426.trans (L454.trans L465))))))))))))) vt470 vt471 hc472) ?_)
      rintro _ W475 ⟨f473, rfl, L474, HS476⟩
      refine ⟨_, rfl, ?_⟩
      have hq_ := bind_some h; clear h; obtain ⟨⟨vt477, vt478⟩, hc479, h⟩ := hq_
      refine seqL1 kr ?_
      refine seqK rfl (does_call (f := 28) (args := #[.pointer (some ⟨b1, 0, none⟩), .int .i64 2]) kr (spymake_Stream_Next.calls k b1 A4 c5 (⟨s3.L, vt471⟩ : S_Stream) 2 HS476 (HR6.mono (L21.trans (L28.trans (L35.trans (L42.trans (L49.trans (L67.trans (L129.trans (L149.trans (L336.trans (L390.trans (L426.trans (L454.trans (L465.trans L474)))))))))))))) vt477 vt478 hc479) ?_)
      rintro _ W482 ⟨f480, rfl, L481, HS483⟩
      refine ⟨_, rfl, ?_⟩
      refine seqL2 kr ?_
      refine nl (hK458 _ _ ?_)
      refine rl ?_
      refine seqL1 kr ?_
      refine seqK rfl (does_run (run_load rfl Tryz.underlying22 rfl (kv (.pointer (some ⟨b52, 4, none⟩))) (HS483.u1.cell 4)) ?_)
      refine seqL1 kr ?_
      refine seqK rfl (does_lit (e := (tInt .i64)) (E := 3) (vs := #[(0, Value.int .i64 (w64 (vt470 * vt477)))]) (cs := #[.int .i64 (w64 (vt470 * vt477))]) (xs := ([w64 (vt470 * vt477)] : List Int)) rfl Tryz.underlying22 kr kr ⟨[.int .i64 (w64 (vt470 * vt477))], _, rfl, rfl, rfl⟩ rfl HS483 ?_ (by decide))
      intro b484 W485 s486 HS487 _ HO488
      have hq_ := guard_some h; clear h; obtain ⟨c490, h⟩ := hq_
      have c490 : (x354.length + 1) * 8 ≤ 140737488355328 := c490
      have HS492 := HS487.u5.u1
      refine seqK rfl (does_append1 (e := (tInt .i64)) (E := 3) (xs := x354) (ys := ([w64 (vt470 * vt477)] : List Int)) rfl (kv (.slice A355 x354.length c356)) (kv (.slice (some ⟨b484, 0, none⟩) ([w64 (vt470 * vt477)] : List Int).length 1)) Tryz.underlying22 inf3 (HO358.mono (L390.trans (L426.trans (L454.trans (L465.trans (L474.trans L481)))))) HO488 HS492 c490 (lim63 c490 (by decide)) ?_)
      intro A493 c494 s495 W496 HS497 HO498
      have HS499 := HS497.u2
      refine seqL1 kr ?_
      refine seqK rfl (does_store (n := 1) (vs := [.slice A493 (x354 ++ ([w64 (vt470 * vt477)] : List Int)).length c494]) (cs' := #[.int .i64 vt17, .int .i64 vt24, .slice A402 (x342 ++ ([vt386] : List Int)).length c403, .slice A438 (x348 ++ ([vt422] : List Int)).length c439, .slice A493 (x354 ++ ([w64 (vt470 * vt477)] : List Int)).length c494, .int .i64 x134, .int .i64 x135, .int .i64 x136]) rfl kr (kv (.pointer (some ⟨b52, 4, none⟩))) (kv (.slice A493 (x354 ++ ([w64 (vt470 * vt477)] : List Int)).length c494)) rfl rfl (ones rfl) HS499 (Nat.le_of_ble_eq_true rfl) kr ?_)
      intro W500 HS501
      refine nl ?_
      refine hn370 _ _ ?_
      refine hK367 _ _ ?_
      refine rl ?_
      refine seqL2 kr ?_
      refine nl ?_
      refine hK333 n334 _ _ (Nat.lt_succ_self _) ?_
      have HS558 := HS501.u5.u1.u3.u5.u5.u5
      exact ⟨f480, A402, c403, s404, A438, c439, s440, A493, c494, s495, (w64 (x340 + 1)), vt478, (x342 ++ ([vt386] : List Int)), (x348 ++ ([vt422] : List Int)), (x354 ++ ([w64 (vt470 * vt477)] : List Int)), (jL [iV (w64 (vt470 * vt477)), tV, .pointer (some ⟨b52, 2, none⟩), .slice A343 x342.length c344, .pointer (some ⟨b1, 0, none⟩), iV vt386, .slice (some ⟨b393, 0, none⟩) ([vt386] : List Int).length 1, .slice A402 (x342 ++ ([vt386] : List Int)).length c403, .pointer (some ⟨b52, 2, none⟩), .pointer (some ⟨b52, 3, none⟩), .slice A349 x348.length c350, .pointer (some ⟨b1, 0, none⟩), iV vt145, iV (w64 (vt145 * 16777216)), iV (w64 ((w64 (vt145 * 16777216)) + 1)), iV vt422, .slice (some ⟨b429, 0, none⟩) ([vt422] : List Int).length 1, .slice A438 (x348 ++ ([vt422] : List Int)).length c439, .pointer (some ⟨b52, 3, none⟩), .pointer (some ⟨b1, 0, none⟩), iV vt450, .pointer (some ⟨b1, 0, none⟩), iV vt461, tV, .pointer (some ⟨b1, 0, none⟩), iV vt470, .pointer (some ⟨b1, 0, none⟩), iV vt477, iV (w64 (vt470 * vt477)), .pointer (some ⟨b52, 4, none⟩), .slice A355 x354.length c356, iV (w64 (vt470 * vt477)), .slice (some ⟨b484, 0, none⟩) ([w64 (vt470 * vt477)] : List Int).length 1, .slice A493 (x354 ++ ([w64 (vt470 * vt477)] : List Int)).length c494, .pointer (some ⟨b52, 4, none⟩), iV (w64 (x340 + 1))]), (L336.trans (L390.trans (L426.trans (L454.trans (L465.trans (L474.trans L481)))))), HS558, (HO407.mono (L426.trans (L454.trans (L465.trans (L474.trans L481))))), (HO443.mono (L454.trans (L465.trans (L474.trans L481)))), HO498, h, kr⟩
    · have c469 : ¬ (vt461 = 0) := c469
      refine wpRwI 66 kr (beq_eq_false_iff_ne.mpr c469) ?_
      refine condF kr ?_
      refine wp_skip ?_
      refine hK458 _ _ ?_
      refine rl ?_
      refine seqL1 kr ?_
      refine seqK rfl (does_run (run_load rfl Tryz.underlying22 rfl (kv (.pointer (some ⟨b52, 4, none⟩))) (HS467.u1.cell 4)) ?_)
      refine seqL1 kr ?_
      refine seqK rfl (does_lit (e := (tInt .i64)) (E := 3) (vs := #[(0, Value.int .i64 vt450)]) (cs := #[.int .i64 vt450]) (xs := ([vt450] : List Int)) rfl Tryz.underlying22 kr kr ⟨[.int .i64 vt450], _, rfl, rfl, rfl⟩ rfl HS467 ?_ (by decide))
      intro b502 W503 s504 HS505 _ HO506
      have hq_ := guard_some h; clear h; obtain ⟨c508, h⟩ := hq_
      have c508 : (x354.length + 1) * 8 ≤ 140737488355328 := c508
      have HS510 := HS505.u5.u1
      refine seqK rfl (does_append1 (e := (tInt .i64)) (E := 3) (xs := x354) (ys := ([vt450] : List Int)) rfl (kv (.slice A355 x354.length c356)) (kv (.slice (some ⟨b502, 0, none⟩) ([vt450] : List Int).length 1)) Tryz.underlying22 inf3 (HO358.mono (L390.trans (L426.trans (L454.trans L465)))) HO506 HS510 c508 (lim63 c508 (by decide)) ?_)
      intro A511 c512 s513 W514 HS515 HO516
      have HS517 := HS515.u2
      refine seqL1 kr ?_
      refine seqK rfl (does_store (n := 1) (vs := [.slice A511 (x354 ++ ([vt450] : List Int)).length c512]) (cs' := #[.int .i64 vt17, .int .i64 vt24, .slice A402 (x342 ++ ([vt386] : List Int)).length c403, .slice A438 (x348 ++ ([vt422] : List Int)).length c439, .slice A511 (x354 ++ ([vt450] : List Int)).length c512, .int .i64 x134, .int .i64 x135, .int .i64 x136]) rfl kr (kv (.pointer (some ⟨b52, 4, none⟩))) (kv (.slice A511 (x354 ++ ([vt450] : List Int)).length c512)) rfl rfl (ones rfl) HS517 (Nat.le_of_ble_eq_true rfl) kr ?_)
      intro W518 HS519
      refine nl ?_
      refine hn370 _ _ ?_
      refine hK367 _ _ ?_
      refine rl ?_
      refine seqL2 kr ?_
      refine nl ?_
      refine hK333 n334 _ _ (Nat.lt_succ_self _) ?_
      have HS564 := HS519.u5.u1.u3.u5.u5.u5
      exact ⟨f464, A402, c403, s404, A438, c439, s440, A511, c512, s513, (w64 (x340 + 1)), vt462, (x342 ++ ([vt386] : List Int)), (x348 ++ ([vt422] : List Int)), (x354 ++ ([vt450] : List Int)), (jL [iV vt450, tV, .pointer (some ⟨b52, 2, none⟩), .slice A343 x342.length c344, .pointer (some ⟨b1, 0, none⟩), iV vt386, .slice (some ⟨b393, 0, none⟩) ([vt386] : List Int).length 1, .slice A402 (x342 ++ ([vt386] : List Int)).length c403, .pointer (some ⟨b52, 2, none⟩), .pointer (some ⟨b52, 3, none⟩), .slice A349 x348.length c350, .pointer (some ⟨b1, 0, none⟩), iV vt145, iV (w64 (vt145 * 16777216)), iV (w64 ((w64 (vt145 * 16777216)) + 1)), iV vt422, .slice (some ⟨b429, 0, none⟩) ([vt422] : List Int).length 1, .slice A438 (x348 ++ ([vt422] : List Int)).length c439, .pointer (some ⟨b52, 3, none⟩), .pointer (some ⟨b1, 0, none⟩), iV vt450, .pointer (some ⟨b1, 0, none⟩), iV vt461, fV, (j339 24), (j339 25), (j339 26), (j339 27), (j339 28), .pointer (some ⟨b52, 4, none⟩), .slice A355 x354.length c356, iV vt450, .slice (some ⟨b502, 0, none⟩) ([vt450] : List Int).length 1, .slice A511 (x354 ++ ([vt450] : List Int)).length c512, .pointer (some ⟨b52, 4, none⟩), iV (w64 (x340 + 1))]), (L336.trans (L390.trans (L426.trans (L454.trans L465)))), HS564, (HO407.mono (L426.trans (L454.trans L465))), (HO443.mono (L454.trans L465)), HO516, h, kr⟩
  · have c365 : ¬ (x340 < (w64 (vt17 * vt24))) := c365
    refine wpRwI 44 kr (decide_eq_false c365) ?_
    refine condF kr ?_
    refine wp_exit ?_
    refine hx157 _ _ ?_
    exact J545 f335 A343 c344 s345 A349 c350 s351 A355 c356 s357 x341 x342 x348 x354 (jL [(j339 0), iV x340, fV, (j339 2), (j339 3), (j339 4), (j339 5), (j339 6), (j339 7), (j339 8), (j339 9), (j339 10), (j339 11), (j339 12), (j339 13), (j339 14), (j339 15), (j339 16), (j339 17), (j339 18), (j339 19), (j339 20), (j339 21), (j339 22), (j339 23), (j339 24), (j339 25), (j339 26), (j339 27), (j339 28), (j339 29), (j339 30), (j339 31), (j339 32), (j339 33), (j339 34), (j339 35)]) W337 _ L336 h HS338 HO346 HO352 HO358 kr
 clear h; have h := hv137; clear hv137
 have hq_ := ite_some h; clear h; rcases hq_ with ⟨c80, h⟩ | ⟨c80, h⟩
 · have c80 : vt63 = 0 := c80
   refine wpRwI 23 kr (beq_iff_eq.mpr c80) ?_
   refine wpRwI 24 kr (beq_iff_eq.mpr c80) ?_
   refine condT kr ?_
   refine rl ?_
   have hq_ := bind_some h; clear h; obtain ⟨⟨vt81, vt82⟩, hc83, h⟩ := hq_
   refine seqL1 kr ?_
   refine seqK rfl (does_call (f := 29) (args := #[.pointer (some ⟨b1, 0, none⟩), .int .i64 200, .int .i64 5000]) kr (spymake_Stream_Range.calls k b1 A4 c5 (⟨s3.L, vt64⟩ : S_Stream) 200 5000 HS69 (HR6.mono (L21.trans (L28.trans (L35.trans (L42.trans (L49.trans L67)))))) vt81 vt82 hc83) ?_)
   rintro _ W86 ⟨f84, rfl, L85, HS87⟩
   refine ⟨_, rfl, ?_⟩
   have HS88 := HS87.u1
   refine seqL1 kr ?_
   refine seqK rfl (does_store (n := 1) (vs := [.int .i64 vt81]) (cs' := #[.int .i64 vt17, .int .i64 vt24, .slice none 0 0, .slice none 0 0, .slice none 0 0, .int .i64 vt81, .int .i64 vt38, .int .i64 vt45]) rfl kr (kv (.pointer (some ⟨b52, 5, none⟩))) (kv (.int .i64 vt81)) rfl rfl (ones rfl) HS88 (Nat.le_of_ble_eq_true rfl) kr ?_)
   intro W89 HS90
   refine nl ?_
   refine fnRwI (F := (B70 Exit.normal)) 24 (x := true) (v := (vt63 == 0)) kr (Eq.symm (beq_iff_eq.mpr c80)) ?_
   refine fnRwI (F := (B70 Exit.normal)) 23 (x := true) (v := (vt63 == 0)) kr (Eq.symm (beq_iff_eq.mpr c80)) ?_
   have HS142 := HS90.u2.u1.u2
   exact J138 f84 vt82 vt81 vt38 vt45 (jL [.pointer (some ⟨b1, 0, none⟩), iV vt81, .pointer (some ⟨b52, 5, none⟩)]) W89 _ L85 h HS142 kr
 · have c80 : ¬ (vt63 = 0) := c80
   refine wpRwI 23 kr (beq_eq_false_iff_ne.mpr c80) ?_
   refine wpRwI 24 kr (beq_eq_false_iff_ne.mpr c80) ?_
   refine condF kr ?_
   refine wp_seq_k fun K91 hK92 => rl ?_
   refine seqL2 kr ?_
   refine nl (hK92 _ _ ?_)
   have hq_ := bind_some h; clear h; obtain ⟨v93, hv122, h⟩ := hq_
   have J123 : ∀ (f114 : FM) (x119 : Int) (x120 : Int) (x121 : Int) (j118 : Nat → Value) (W116 : World) (a_ : Act), FM.le f66 f114 → some ((x119, x120, x121)) = some v93 → St t W116 f114 ([(b1, .cells #[.slice A4 s3.L.length c5, .int .i64 x119] 33 (0, 0))] :: [(b52, .cells #[.int .i64 vt17, .int .i64 vt24, .slice none 0 0, .slice none 0 0, .slice none 0 0, .int .i64 vt31, .int .i64 x120, .int .i64 x121] 65 (0, 0))] :: [(b10, .cells #[.int .i64 0, .int .i64 0, .slice none 0 0, .slice none 0 0, .slice none 0 0, .int .i64 0, .int .i64 0, .int .i64 0] 65 (0, 0))] :: H) → a_ = ⟨#[pV b1 0, iV most7, uV, uV, pV b10 0, pV b52 0, uV, uV, pV b1 0, iV most7, iV vt17, pV b1 0, iV most7, iV vt24, pV b1 0, iV vt31, pV b1 0, iV vt38, pV b1 0, iV vt45, .agg #[iV vt17, iV vt24, .slice none 0 0, .slice none 0 0, .slice none 0 0, iV vt31, iV vt38, iV vt45], pV b1 0, iV vt63, fV, fV, uV, uV, uV, .bool (vt63 == 1), .bool (vt63 == 1), (j118 0), (j118 1), (j118 2), (j118 3), (j118 4), (j118 5), uV, uV, uV, uV, uV, uV, uV, uV, uV, uV, uV, uV, uV, uV, uV, uV, uV, uV, uV, uV, uV, uV, uV, uV, uV, uV, uV, uV, uV, uV, uV, uV, uV, uV, uV, uV, uV, uV, uV, uV, uV, uV, uV, uV], []⟩ → B70 Exit.normal a_ W116 := by
    intro f114 x119 x120 x121 j118 W116 a_ L115 hj124 HS117  hfr_; subst hfr_
    injection hj124 with hj124; subst hj124; try dsimp only at h
    refine fnRwI (F := (B70 Exit.normal)) 24 (x := false) (v := (vt63 == 0)) kr (Eq.symm (beq_eq_false_iff_ne.mpr c80)) ?_
    refine fnRwI (F := (B70 Exit.normal)) 23 (x := false) (v := (vt63 == 0)) kr (Eq.symm (beq_eq_false_iff_ne.mpr c80)) ?_
    exact J138 f114 x119 vt31 x120 x121 (jL [uV, uV, uV, .bool (vt63 == 1), .bool (vt63 == 1), (j118 0), (j118 1), (j118 2), (j118 3), (j118 4), (j118 5)]) W116 _ L115 h HS117 kr
   clear h; have h := hv122; clear hv122
   have hq_ := ite_some h; clear h; rcases hq_ with ⟨c94, h⟩ | ⟨c94, h⟩
   · have c94 : vt63 = 1 := c94
     refine wpRwI 28 kr (beq_iff_eq.mpr c94) ?_
     refine wpRwI 29 kr (beq_iff_eq.mpr c94) ?_
     refine condT kr ?_
     refine rl ?_
     have hq_ := bind_some h; clear h; obtain ⟨⟨vt95, vt96⟩, hc97, h⟩ := hq_
     refine seqL1 kr ?_
     refine seqK rfl (does_call (f := 29) (args := #[.pointer (some ⟨b1, 0, none⟩), .int .i64 1, .int .i64 64]) kr (spymake_Stream_Range.calls k b1 A4 c5 (⟨s3.L, vt64⟩ : S_Stream) 1 64 HS69 (HR6.mono (L21.trans (L28.trans (L35.trans (L42.trans (L49.trans L67)))))) vt95 vt96 hc97) ?_)
     rintro _ W100 ⟨f98, rfl, L99, HS101⟩
     refine ⟨_, rfl, ?_⟩
     have hq_ := bind_some h; clear h; obtain ⟨⟨vt102, vt103⟩, hc104, h⟩ := hq_
     refine seqL1 kr ?_
     refine seqK rfl (does_call (f := 28) (args := #[.pointer (some ⟨b1, 0, none⟩), .int .i64 20]) kr (spymake_Stream_Next.calls k b1 A4 c5 (⟨s3.L, vt96⟩ : S_Stream) 20 HS101 (HR6.mono (L21.trans (L28.trans (L35.trans (L42.trans (L49.trans (L67.trans L99))))))) vt102 vt103 hc104) ?_)
     rintro _ W107 ⟨f105, rfl, L106, HS108⟩
     refine ⟨_, rfl, ?_⟩
     have HS109 := HS108.u1
     refine seqL1 kr ?_
     refine seqK rfl (does_store (n := 1) (vs := [.int .i64 vt95]) (cs' := #[.int .i64 vt17, .int .i64 vt24, .slice none 0 0, .slice none 0 0, .slice none 0 0, .int .i64 vt31, .int .i64 vt95, .int .i64 vt45]) rfl kr (kv (.pointer (some ⟨b52, 6, none⟩))) (kv (.int .i64 vt95)) rfl rfl (ones rfl) HS109 (Nat.le_of_ble_eq_true rfl) kr ?_)
     intro W110 HS111
     refine seqL1 kr ?_
     refine seqK rfl (does_store (n := 1) (vs := [.int .i64 vt102]) (cs' := #[.int .i64 vt17, .int .i64 vt24, .slice none 0 0, .slice none 0 0, .slice none 0 0, .int .i64 vt31, .int .i64 vt95, .int .i64 vt102]) rfl kr (kv (.pointer (some ⟨b52, 7, none⟩))) (kv (.int .i64 vt102)) rfl rfl (ones rfl) HS111 (Nat.le_of_ble_eq_true rfl) kr ?_)
     intro W112 HS113
     refine nl ?_
     refine fnRwI (F := (B70 Exit.normal)) 29 (x := true) (v := (vt63 == 1)) kr (Eq.symm (beq_iff_eq.mpr c94)) ?_
     refine fnRwI (F := (B70 Exit.normal)) 28 (x := true) (v := (vt63 == 1)) kr (Eq.symm (beq_iff_eq.mpr c94)) ?_
     have HS127 := HS113.u2.u1.u2
     exact J123 f105 vt103 vt95 vt102 (jL [.pointer (some ⟨b1, 0, none⟩), iV vt95, .pointer (some ⟨b1, 0, none⟩), iV vt102, .pointer (some ⟨b52, 6, none⟩), .pointer (some ⟨b52, 7, none⟩)]) W112 _ (L99.trans L106) h HS127 kr
   · have c94 : ¬ (vt63 = 1) := c94
     refine wpRwI 28 kr (beq_eq_false_iff_ne.mpr c94) ?_
     refine wpRwI 29 kr (beq_eq_false_iff_ne.mpr c94) ?_
     refine condF kr ?_
     refine wp_skip ?_
     refine fnRwI (F := (B70 Exit.normal)) 29 (x := false) (v := (vt63 == 1)) kr (Eq.symm (beq_eq_false_iff_ne.mpr c94)) ?_
     refine fnRwI (F := (B70 Exit.normal)) 28 (x := false) (v := (vt63 == 1)) kr (Eq.symm (beq_eq_false_iff_ne.mpr c94)) ?_
     exact J123 f66 vt64 vt38 vt45 (jL []) W68 _ fL h HS69 kr

set_option maxRecDepth 100000 in
set_option maxHeartbeats 4000000 in
theorem spymake_Stream_Plate.calls (k : Nat) (b1 : Nat) (A4 : Option Addr) (c5 : Nat) (s3 : S_Stream) {t w : World} {f : FM} {H : List Seg} (HS : St t w f ([(b1, .cells #[.slice A4 s3.L.length c5, .int .i64 s3.vat] 33 (0, 0))] :: H)) (HR6 : SlR (tInt .i64) f A4 c5 s3.L) (rr1 : S_Plate) (rr2 : Int) (h : spymake_Stream_Plate k s3 = some (rr1, rr2)) :
    Calls Tryz.prog 54 #[.pointer (some ⟨b1, 0, none⟩)] w (fun e w' => ∃ (g : FM), e = .returned (Value.agg #[.int .i64 rr1.A, .int .i64 rr1.B, .int .i64 rr1.C, .int .i64 rr1.D]) ∧ FM.le f g ∧ St t w' g ([(b1, .cells #[.slice A4 s3.L.length c5, .int .i64 rr2] 33 (0, 0))] :: H)) := by
 unfold spymake_Stream_Plate at h
 refine enter Tryz.func54 rfl (tm := #[pV b1 0, uV, uV, uV, uV, uV, uV, uV, uV, uV, uV, uV, uV, uV, uV, uV, uV, uV, uV, uV, uV, uV, uV, uV, uV, uV, uV, uV, uV, uV, uV, uV, uV, uV, uV, uV]) kr ?_
 intro B hret hnor hnp
 refine wp_seq_k fun K7 hK8 => rl ?_
 refine seqK rfl (does_alloc (z := Value.agg #[.int .i64 0, .int .i64 0, .int .i64 0, .int .i64 0]) (cs := #[.int .i64 0, .int .i64 0, .int .i64 0, .int .i64 0]) rfl kr rfl HS ?_)
 intro b9 W10 HS11
 refine nl (hK8 _ _ ?_)
 refine wp_seq_k fun K13 hK14 => rl ?_
 refine seqK rfl (does_lit (e := (tInt .i64)) (E := 3) (vs := #[(0, Value.int .i64 2), (1, Value.int .i64 30), (2, Value.int .i64 1024)]) (cs := #[.int .i64 2, .int .i64 30, .int .i64 1024]) (xs := ([2, 30, 1024] : List Int)) rfl Tryz.underlying22 kr kr ⟨[.int .i64 2], _, rfl, rfl, ⟨[.int .i64 30], _, rfl, rfl, ⟨[.int .i64 1024], _, rfl, rfl, rfl⟩⟩⟩ rfl HS11 ?_ (by decide))
 intro b15 W16 s17 HS18 _ HO19
 have HS21 := HS18.u2
 have hq_ := bind_some h; clear h; obtain ⟨⟨vt22, vt23⟩, hc24, h⟩ := hq_
 refine seqL1 kr ?_
 refine seqK rfl (does_call (f := 28) (args := #[.pointer (some ⟨b1, 0, none⟩), .int .i64 3]) kr (spymake_Stream_Next.calls k b1 A4 c5 s3 3 HS21 HR6 vt22 vt23 hc24) ?_)
 rintro _ W27 ⟨f25, rfl, L26, HS28⟩
 refine ⟨_, rfl, ?_⟩
 have hq_ := guard_some h; clear h; obtain ⟨c29, h⟩ := hq_
 have c29 : 0 ≤ vt22 := c29
 have hq_ := guard_some h; clear h; obtain ⟨c30, h⟩ := hq_
 have c30 : vt22 < (([2, 30, 1024] : List Int).length : Int) := c30
 obtain ⟨cs31, hr32, hc33⟩ := (HO19.mono L26).at' (i := vt22) c29 c30
 obtain rfl := hr32
 refine seqK rfl (does_run (run_index (sz := 1) rfl Tryz.underlying22 kr (kv (.slice (some ⟨b15, 0, none⟩) ([2, 30, 1024] : List Int).length 3)) (kv (.int .i64 vt22)) c29 c30 W27) ?_)
 refine seqK rfl (does_run (run_load rfl Tryz.underlying3 rfl (kv (.pointer (some ⟨b15, 0 + (vt22 : Int).toNat * 1, none⟩))) ((hc33 HS28.u1) 0 (by decide))) ?_)
 refine seqL1 kr ?_
 refine nl (hK14 _ _ ?_)
 refine wp_seq_k fun K34 hK35 => rl ?_
 have hq_ := bind_some h; clear h; obtain ⟨⟨vt36, vt37⟩, hc38, h⟩ := hq_
 refine seqL4 kr ?_
 refine seqK rfl (does_call (f := 29) (args := #[.pointer (some ⟨b1, 0, none⟩), .int .i64 (w64 (0 - (rd ([2, 30, 1024] : List Int) vt22))), .int .i64 (rd ([2, 30, 1024] : List Int) vt22)]) kr (spymake_Stream_Range.calls k b1 A4 c5 (⟨s3.L, vt23⟩ : S_Stream) (w64 (0 - (rd ([2, 30, 1024] : List Int) vt22))) (rd ([2, 30, 1024] : List Int) vt22) HS28 (HR6.mono L26) vt36 vt37 hc38) ?_)
 rintro _ W41 ⟨f39, rfl, L40, HS42⟩
 refine ⟨_, rfl, ?_⟩
 have hq_ := bind_some h; clear h; obtain ⟨⟨vt43, vt44⟩, hc45, h⟩ := hq_
 refine seqL4 kr ?_
 refine seqK rfl (does_call (f := 29) (args := #[.pointer (some ⟨b1, 0, none⟩), .int .i64 (w64 (0 - (rd ([2, 30, 1024] : List Int) vt22))), .int .i64 (rd ([2, 30, 1024] : List Int) vt22)]) kr (spymake_Stream_Range.calls k b1 A4 c5 (⟨s3.L, vt37⟩ : S_Stream) (w64 (0 - (rd ([2, 30, 1024] : List Int) vt22))) (rd ([2, 30, 1024] : List Int) vt22) HS42 (HR6.mono (L26.trans L40)) vt43 vt44 hc45) ?_)
 rintro _ W48 ⟨f46, rfl, L47, HS49⟩
 refine ⟨_, rfl, ?_⟩
 have hq_ := bind_some h; clear h; obtain ⟨⟨vt50, vt51⟩, hc52, h⟩ := hq_
 refine seqL4 kr ?_
 refine seqK rfl (does_call (f := 29) (args := #[.pointer (some ⟨b1, 0, none⟩), .int .i64 (w64 (0 - (rd ([2, 30, 1024] : List Int) vt22))), .int .i64 (rd ([2, 30, 1024] : List Int) vt22)]) kr (spymake_Stream_Range.calls k b1 A4 c5 (⟨s3.L, vt44⟩ : S_Stream) (w64 (0 - (rd ([2, 30, 1024] : List Int) vt22))) (rd ([2, 30, 1024] : List Int) vt22) HS49 (HR6.mono (L26.trans (L40.trans L47))) vt50 vt51 hc52) ?_)
 rintro _ W55 ⟨f53, rfl, L54, HS56⟩
 refine ⟨_, rfl, ?_⟩
 have hq_ := bind_some h; clear h; obtain ⟨⟨vt57, vt58⟩, hc59, h⟩ := hq_
 refine seqL4 kr ?_
 refine seqK rfl (does_call (f := 29) (args := #[.pointer (some ⟨b1, 0, none⟩), .int .i64 (w64 (0 - (rd ([2, 30, 1024] : List Int) vt22))), .int .i64 (rd ([2, 30, 1024] : List Int) vt22)]) kr (spymake_Stream_Range.calls k b1 A4 c5 (⟨s3.L, vt51⟩ : S_Stream) (w64 (0 - (rd ([2, 30, 1024] : List Int) vt22))) (rd ([2, 30, 1024] : List Int) vt22) HS56 (HR6.mono (L26.trans (L40.trans (L47.trans L54)))) vt57 vt58 hc59) ?_)
 rintro _ W62 ⟨f60, rfl, L61, HS63⟩
 refine ⟨_, rfl, ?_⟩
 refine seqL1 kr ?_
 refine seqK rfl (does_alloc (z := Value.agg #[.int .i64 0, .int .i64 0, .int .i64 0, .int .i64 0]) (cs := #[.int .i64 0, .int .i64 0, .int .i64 0, .int .i64 0]) rfl kr rfl HS63 ?_)
 intro b64 W65 HS66
 refine seqK rfl (does_storeA (vs := [.int .i64 vt36, .int .i64 vt43, .int .i64 vt50, .int .i64 vt57]) rfl kr kr kr rfl (ones rfl) HS66 kr ?_)
 intro W68 HS69
 refine nl (hK35 _ _ ?_)
 refine wp_seq_k (fun K70 hK71 => ?_)
 refine wp_seq_k fun K72 hK73 => rl ?_
 refine seqK rfl (does_run (run_loadN (n := 4) rfl Tryz.underlying72 rfl kr (kv (.pointer (some ⟨b64, 0, none⟩))) (cs := [.int .i64 vt36, .int .i64 vt43, .int .i64 vt50, .int .i64 vt57]) rfl (HS69.cells 0 4 _ rfl)) ?_)
 refine seqL1 kr ?_
 refine seqK rfl (does_run (run_eqS (b := ((vt36 == 0) && ((vt43 == 0) && ((vt50 == 0) && ((vt57 == 0) && true))))) rfl (kv (.agg #[.int .i64 vt36, .int .i64 vt43, .int .i64 vt50, .int .i64 vt57])) (kv (.agg #[.int .i64 0, .int .i64 0, .int .i64 0, .int .i64 0])) kr kr W68) ?_)
 refine nl (hK73 _ _ ?_)
 have hq_ := ite_some h; clear h; rcases hq_ with ⟨c75, h⟩ | ⟨c75, h⟩
 · have c75 : ((vt36 == 0) && ((vt43 == 0) && ((vt50 == 0) && ((vt57 == 0) && true)))) = true := c75
   refine wpRwI 33 kr c75 ?_
   refine condT kr ?_
   refine rl ?_
   refine seqL1 kr ?_
   refine seqK rfl (does_store (n := 1) (vs := [.int .i64 1]) (cs' := #[.int .i64 1, .int .i64 vt43, .int .i64 vt50, .int .i64 vt57]) rfl kr (kv (.pointer (some ⟨b64, 0, none⟩))) (kv (.int .i64 1)) rfl rfl (ones rfl) HS69 (Nat.le_of_ble_eq_true rfl) kr ?_)
   intro W76 HS77
   refine nl (hK71 _ _ ?_)
   refine wp_seq_k fun K78 hK79 => rl ?_
   refine seqK rfl (does_run (run_loadN (n := 4) rfl Tryz.underlying72 rfl kr (kv (.pointer (some ⟨b64, 0, none⟩))) (cs := [.int .i64 1, .int .i64 vt43, .int .i64 vt50, .int .i64 vt57]) rfl (HS77.cells 0 4 _ rfl)) ?_)
   have HS80 := HS77.u3
   refine seqK rfl (does_storeA (vs := [.int .i64 1, .int .i64 vt43, .int .i64 vt50, .int .i64 vt57]) rfl kr kr kr rfl (ones rfl) HS80 kr ?_)
   intro W81 HS82
   refine nl (hK79 _ _ ?_)
   refine wp_ret ?_
   refine hret _ _ ?_
   refine ends (v := Value.agg #[.int .i64 1, .int .i64 vt43, .int .i64 vt50, .int .i64 vt57]) (results1 (q1 := .cell 2 72) kr (resN (n := 4) (cs := [.int .i64 1, .int .i64 vt43, .int .i64 vt50, .int .i64 vt57]) (kv (.pointer (some ⟨b9, 0, none⟩))) Tryz.underlying72 rfl kr rfl (HS82.cells 0 4 _ rfl))) kr ?_
   have HS91 := HS82.u2.u3.u3.u3
   have HS92 := HS91.drop
   have HS93 := HS92.drop
   have HS94 := HS93.drop
   injection h with h
   injection h with h0_ h
   subst h0_ h
   exact ⟨f60, rfl, (L26.trans (L40.trans (L47.trans (L54.trans L61)))), HS94⟩
 · have c75 : ¬ (((vt36 == 0) && ((vt43 == 0) && ((vt50 == 0) && ((vt57 == 0) && true)))) = true) := c75
   refine wpRwI 33 kr (Bool.eq_false_iff.mpr c75) ?_
   refine condF kr ?_
   refine wp_skip ?_
   refine hK71 _ _ ?_
   refine wp_seq_k fun K83 hK84 => rl ?_
   refine seqK rfl (does_run (run_loadN (n := 4) rfl Tryz.underlying72 rfl kr (kv (.pointer (some ⟨b64, 0, none⟩))) (cs := [.int .i64 vt36, .int .i64 vt43, .int .i64 vt50, .int .i64 vt57]) rfl (HS69.cells 0 4 _ rfl)) ?_)
   have HS85 := HS69.u3
   refine seqK rfl (does_storeA (vs := [.int .i64 vt36, .int .i64 vt43, .int .i64 vt50, .int .i64 vt57]) rfl kr kr kr rfl (ones rfl) HS85 kr ?_)
   intro W86 HS87
   refine nl (hK84 _ _ ?_)
   refine wp_ret ?_
   refine hret _ _ ?_
   refine ends (v := Value.agg #[.int .i64 vt36, .int .i64 vt43, .int .i64 vt50, .int .i64 vt57]) (results1 (q1 := .cell 2 72) kr (resN (n := 4) (cs := [.int .i64 vt36, .int .i64 vt43, .int .i64 vt50, .int .i64 vt57]) (kv (.pointer (some ⟨b9, 0, none⟩))) Tryz.underlying72 rfl kr rfl (HS87.cells 0 4 _ rfl))) kr ?_
   have HS98 := HS87.u2.u3.u3.u3
   have HS99 := HS98.drop
   have HS100 := HS99.drop
   have HS101 := HS100.drop
   injection h with h
   injection h with h0_ h
   subst h0_ h
   exact ⟨f60, rfl, (L26.trans (L40.trans (L47.trans (L54.trans L61)))), HS101⟩

set_option maxRecDepth 100000 in
set_option maxHeartbeats 4000000 in
theorem spymake_Stream_Shot.calls (k : Nat) (b1 : Nat) (A4 : Option Addr) (c5 : Nat) (A8 : Option Addr) (c9 : Nat) (A11 : Option Addr) (c12 : Nat) (A14 : Option Addr) (c15 : Nat) (s3 : S_Stream) (c7 : S_Sensor) (kind17 : Int) (number18 : Int) {t w : World} {f : FM} {H : List Seg} (HS : St t w f ([(b1, .cells #[.slice A4 s3.L.length c5, .int .i64 s3.vat] 33 (0, 0))] :: H)) (HR6 : SlR (tInt .i64) f A4 c5 s3.L) (HR10 : SlR (tInt .i64) f A8 c9 c7.Bias) (HR13 : SlR (tInt .i64) f A11 c12 c7.Dark) (HR16 : SlR (tInt .i64) f A14 c15 c7.Flat) (rr1 : S_Shot) (rr2 : Int) (h : spymake_Stream_Shot k s3 c7 kind17 number18 = some (rr1, rr2)) :
    Calls Tryz.prog 27 #[.pointer (some ⟨b1, 0, none⟩), .agg #[.int .i64 c7.W, .int .i64 c7.H, .slice A8 c7.Bias.length c9, .slice A11 c7.Dark.length c12, .slice A14 c7.Flat.length c15, .int .i64 c7.Full, .int .i64 c7.Gain, .int .i64 c7.Noise], .int .i64 kind17, .int .i64 number18] w (fun e w' => ∃ (g : FM) (A337 : Option Addr) (c338 : Nat) (s339 : Seg), e = .returned (Value.agg #[.int .i64 rr1.Kind, .int .u64 rr1.Seed, .int .i64 rr1.Number, .int .i64 rr1.Begin, .int .i64 rr1.Beats, .int .i64 rr1.Plate.A, .int .i64 rr1.Plate.B, .int .i64 rr1.Plate.C, .int .i64 rr1.Plate.D, .int .i64 rr1.Seeing, .int .i64 rr1.DriftX, .int .i64 rr1.DriftY, .int .i64 rr1.Lamp, .slice A337 rr1.Hits.length c338]) ∧ FM.le f g ∧ St t w' g (s339 :: [(b1, .cells #[.slice A4 s3.L.length c5, .int .i64 rr2] 33 (0, 0))] :: H) ∧ Own ty_Hit 223 g A337 c338 s339 rr1.Hits) := by
 unfold spymake_Stream_Shot at h
 refine enter Tryz.func27 rfl (tm := #[pV b1 0, (ag_Sensor c7 A8 c9 A11 c12 A14 c15), iV kind17, iV number18, uV, uV, uV, uV, uV, uV, uV, uV, uV, uV, uV, uV, uV, uV, uV, uV, uV, uV, uV, uV, uV, uV, uV, uV, uV, uV, uV, uV, uV, uV, uV, uV, uV, uV, uV, uV, uV, uV, uV, uV, uV, uV, uV, uV, uV, uV, uV, uV, uV, uV, uV, uV, uV, uV, uV, uV, uV, uV, uV, uV, uV, uV, uV, uV, uV, uV]) kr ?_
 intro B hret hnor hnp
 refine wp_seq_k fun K19 hK20 => rl ?_
 refine seqK rfl (does_box (cs := #[.int .i64 c7.W, .int .i64 c7.H, .slice A8 c7.Bias.length c9, .slice A11 c7.Dark.length c12, .slice A14 c7.Flat.length c15, .int .i64 c7.Full, .int .i64 c7.Gain, .int .i64 c7.Noise]) rfl (kv (.agg #[.int .i64 c7.W, .int .i64 c7.H, .slice A8 c7.Bias.length c9, .slice A11 c7.Dark.length c12, .slice A14 c7.Flat.length c15, .int .i64 c7.Full, .int .i64 c7.Gain, .int .i64 c7.Noise])) rfl HS ?_)
 intro b21 W22 HS23
 refine seqK rfl (does_alloc (z := Value.agg #[.int .i64 0, .int .u64 0, .int .i64 0, .int .i64 0, .int .i64 0, .int .i64 0, .int .i64 0, .int .i64 0, .int .i64 0, .int .i64 0, .int .i64 0, .int .i64 0, .int .i64 0, .slice none 0 0]) (cs := #[.int .i64 0, .int .u64 0, .int .i64 0, .int .i64 0, .int .i64 0, .int .i64 0, .int .i64 0, .int .i64 0, .int .i64 0, .int .i64 0, .int .i64 0, .int .i64 0, .int .i64 0, .slice none 0 0]) rfl kr rfl HS23 ?_)
 intro b25 W26 HS27
 refine nl (hK20 _ _ ?_)
 refine wp_seq_k fun K29 hK30 => rl ?_
 have HS31 := HS27.u2
 have hq_ := bind_some h; clear h; obtain ⟨⟨vt32, vt33⟩, hc34, h⟩ := hq_
 refine seqL2 kr ?_
 refine seqK rfl (does_call (f := 28) (args := #[.pointer (some ⟨b1, 0, none⟩), .int .i64 1073741824]) kr (spymake_Stream_Next.calls k b1 A4 c5 s3 1073741824 HS31 HR6 vt32 vt33 hc34) ?_)
 rintro _ W37 ⟨f35, rfl, L36, HS38⟩
 refine ⟨_, rfl, ?_⟩
 have hq_ := bind_some h; clear h; obtain ⟨⟨vt39, vt40⟩, hc41, h⟩ := hq_
 refine seqL4 kr ?_
 refine seqK rfl (does_call (f := 29) (args := #[.pointer (some ⟨b1, 0, none⟩), .int .i64 (-3000), .int .i64 3000]) kr (spymake_Stream_Range.calls k b1 A4 c5 (⟨s3.L, vt33⟩ : S_Stream) (-3000) 3000 HS38 (HR6.mono L36) vt39 vt40 hc41) ?_)
 rintro _ W44 ⟨f42, rfl, L43, HS45⟩
 refine ⟨_, rfl, ?_⟩
 refine seqL1 kr ?_
 refine seqK rfl (does_alloc (z := Value.agg #[.int .i64 0, .int .u64 0, .int .i64 0, .int .i64 0, .int .i64 0, .int .i64 0, .int .i64 0, .int .i64 0, .int .i64 0, .int .i64 0, .int .i64 0, .int .i64 0, .int .i64 0, .slice none 0 0]) (cs := #[.int .i64 0, .int .u64 0, .int .i64 0, .int .i64 0, .int .i64 0, .int .i64 0, .int .i64 0, .int .i64 0, .int .i64 0, .int .i64 0, .int .i64 0, .int .i64 0, .int .i64 0, .slice none 0 0]) rfl kr rfl HS45 ?_)
 intro b46 W47 HS48
 refine seqK rfl (does_storeA (vs := [.int .i64 kind17, .int .u64 (u64 ((u64 (vt32)) * 11400714819323198485)), .int .i64 number18, .int .i64 vt39, .int .i64 0, .int .i64 0, .int .i64 0, .int .i64 0, .int .i64 0, .int .i64 0, .int .i64 0, .int .i64 0, .int .i64 0, .slice none 0 0]) rfl kr kr kr rfl (ones rfl) HS48 kr ?_)
 intro W50 HS51
 refine nl (hK30 _ _ ?_)
 refine wp_seq_k (fun K52 hK53 => ?_)
 refine wp_seq_k fun K54 hK55 => rl ?_
 have HS56 := HS51.u1
 have hq_ := bind_some h; clear h; obtain ⟨⟨vt57, vt58⟩, hc59, h⟩ := hq_
 refine seqL1 kr ?_
 refine seqK rfl (does_call (f := 28) (args := #[.pointer (some ⟨b1, 0, none⟩), .int .i64 5]) kr (spymake_Stream_Next.calls k b1 A4 c5 (⟨s3.L, vt40⟩ : S_Stream) 5 HS56 (HR6.mono (L36.trans L43)) vt57 vt58 hc59) ?_)
 rintro _ W62 ⟨f60, rfl, L61, HS63⟩
 refine ⟨_, rfl, ?_⟩
 refine seqL1 kr ?_
 refine nl (hK55 _ _ ?_)
 have hq_ := bind_some h; clear h; obtain ⟨v64, hv83, h⟩ := hq_
 have J84 : ∀ (f76 : FM) (x81 : Int) (x82 : Int) (j80 : Nat → Value) (W78 : World) (a_ : Act), FM.le f60 f76 → some ((x81, x82)) = some v64 → St t W78 f76 ([(b1, .cells #[.slice A4 s3.L.length c5, .int .i64 x81] 33 (0, 0))] :: [(b46, .cells #[.int .i64 kind17, .int .u64 (u64 ((u64 (vt32)) * 11400714819323198485)), .int .i64 number18, .int .i64 x82, .int .i64 0, .int .i64 0, .int .i64 0, .int .i64 0, .int .i64 0, .int .i64 0, .int .i64 0, .int .i64 0, .int .i64 0, .slice none 0 0] 76 (0, 0))] :: [(b25, .cells #[.int .i64 0, .int .u64 0, .int .i64 0, .int .i64 0, .int .i64 0, .int .i64 0, .int .i64 0, .int .i64 0, .int .i64 0, .int .i64 0, .int .i64 0, .int .i64 0, .int .i64 0, .slice none 0 0] 76 (0, 0))] :: [(b21, .cells #[.int .i64 c7.W, .int .i64 c7.H, .slice A8 c7.Bias.length c9, .slice A11 c7.Dark.length c12, .slice A14 c7.Flat.length c15, .int .i64 c7.Full, .int .i64 c7.Gain, .int .i64 c7.Noise] 65 (0, 0))] :: H) → a_ = ⟨#[pV b1 0, (ag_Sensor c7 A8 c9 A11 c12 A14 c15), iV kind17, iV number18, uV, pV b21 0, uV, uV, pV b25 0, pV b46 0, iV kind17, pV b1 0, iV vt32, .int .u64 (u64 (vt32)), .int .u64 (u64 ((u64 (vt32)) * 11400714819323198485)), iV number18, pV b1 0, iV vt39, .agg #[iV kind17, .int .u64 (u64 ((u64 (vt32)) * 11400714819323198485)), iV number18, iV vt39, iV 0, iV 0, iV 0, iV 0, iV 0, iV 0, iV 0, iV 0, iV 0, .slice none 0 0], pV b1 0, iV vt57, .bool (vt57 == 0), (j80 0), (j80 1), (j80 2), (j80 3), uV, uV, uV, uV, uV, uV, uV, uV, uV, uV, uV, uV, uV, uV, uV, uV, uV, uV, uV, uV, uV, uV, uV, uV, uV, uV, uV, uV, uV, uV, uV, uV, uV, uV, uV, uV, uV, uV, uV, uV, uV, uV, uV, uV], []⟩ → K52 a_ W78 := by
  intro f76 x81 x82 j80 W78 a_ L77 hj85 HS79  hfr_; subst hfr_
  injection hj85 with hj85; subst hj85; try dsimp only at h
  refine hK53 _ _ ?_
  refine wp_seq_k (fun K90 hK91 => ?_)
  refine wp_seq_k fun K92 hK93 => rl ?_
  refine seqL2 kr ?_
  refine nl (hK93 _ _ ?_)
  have hq_ := bind_some h; clear h; obtain ⟨v94, hv132, h⟩ := hq_
  have J133 : ∀ (f125 : FM) (x130 : Int) (x131 : Int) (j129 : Nat → Value) (W127 : World) (a_ : Act), FM.le f76 f125 → some ((x130, x131)) = some v94 → St t W127 f125 ([(b1, .cells #[.slice A4 s3.L.length c5, .int .i64 x130] 33 (0, 0))] :: [(b46, .cells #[.int .i64 kind17, .int .u64 (u64 ((u64 (vt32)) * 11400714819323198485)), .int .i64 number18, .int .i64 x82, .int .i64 x131, .int .i64 0, .int .i64 0, .int .i64 0, .int .i64 0, .int .i64 0, .int .i64 0, .int .i64 0, .int .i64 0, .slice none 0 0] 76 (0, 0))] :: [(b25, .cells #[.int .i64 0, .int .u64 0, .int .i64 0, .int .i64 0, .int .i64 0, .int .i64 0, .int .i64 0, .int .i64 0, .int .i64 0, .int .i64 0, .int .i64 0, .int .i64 0, .int .i64 0, .slice none 0 0] 76 (0, 0))] :: [(b21, .cells #[.int .i64 c7.W, .int .i64 c7.H, .slice A8 c7.Bias.length c9, .slice A11 c7.Dark.length c12, .slice A14 c7.Flat.length c15, .int .i64 c7.Full, .int .i64 c7.Gain, .int .i64 c7.Noise] 65 (0, 0))] :: H) → a_ = ⟨#[pV b1 0, (ag_Sensor c7 A8 c9 A11 c12 A14 c15), iV kind17, iV number18, uV, pV b21 0, uV, uV, pV b25 0, pV b46 0, iV kind17, pV b1 0, iV vt32, .int .u64 (u64 (vt32)), .int .u64 (u64 ((u64 (vt32)) * 11400714819323198485)), iV number18, pV b1 0, iV vt39, .agg #[iV kind17, .int .u64 (u64 ((u64 (vt32)) * 11400714819323198485)), iV number18, iV vt39, iV 0, iV 0, iV 0, iV 0, iV 0, iV 0, iV 0, iV 0, iV 0, .slice none 0 0], pV b1 0, iV vt57, .bool (vt57 == 0), (j80 0), (j80 1), (j80 2), (j80 3), iV kind17, .bool (kind17 != 0), (j129 0), (j129 1), (j129 2), (j129 3), (j129 4), (j129 5), (j129 6), (j129 7), uV, uV, uV, uV, uV, uV, uV, uV, uV, uV, uV, uV, uV, uV, uV, uV, uV, uV, uV, uV, uV, uV, uV, uV, uV, uV, uV, uV, uV, uV, uV, uV, uV, uV], []⟩ → K90 a_ W127 := by
   intro f125 x130 x131 j129 W127 a_ L126 hj134 HS128  hfr_; subst hfr_
   injection hj134 with hj134; subst hj134; try dsimp only at h
   refine hK91 _ _ ?_
   refine wp_seq_k (fun K141 hK142 => ?_)
   refine wp_seq_k fun K143 hK144 => rl ?_
   refine seqL1 kr ?_
   refine nl (hK144 _ _ ?_)
   refine blockK (fun B145 hx146 hn147 hr148 ho149 hp150 => ?_)
   refine wp_seq_k fun K152 hK153 => rl ?_
   refine seqL2 kr ?_
   refine nl (hK153 _ _ ?_)
   have hq_ := ite_some h; clear h; rcases hq_ with ⟨c155, h⟩ | ⟨c155, h⟩
   · have c155 : kind17 = 2 := c155
     refine wpRwI 37 kr (beq_iff_eq.mpr c155) ?_
     refine wpRwI 38 kr (beq_iff_eq.mpr c155) ?_
     refine condT kr ?_
     refine rl ?_
     refine seqL1 kr ?_
     refine seqK rfl (does_lit (e := (tInt .i64)) (E := 3) (vs := #[(0, Value.int .i64 100), (1, Value.int .i64 3000), (2, Value.int .i64 40000)]) (cs := #[.int .i64 100, .int .i64 3000, .int .i64 40000]) (xs := ([100, 3000, 40000] : List Int)) rfl Tryz.underlying22 kr kr ⟨[.int .i64 100], _, rfl, rfl, ⟨[.int .i64 3000], _, rfl, rfl, ⟨[.int .i64 40000], _, rfl, rfl, rfl⟩⟩⟩ rfl HS128 ?_ (by decide))
     intro b156 W157 s158 HS159 _ HO160
     have HS162 := HS159.u1
     have hq_ := bind_some h; clear h; obtain ⟨⟨vt163, vt164⟩, hc165, h⟩ := hq_
     refine seqL1 kr ?_
     refine seqK rfl (does_call (f := 28) (args := #[.pointer (some ⟨b1, 0, none⟩), .int .i64 3]) kr (spymake_Stream_Next.calls k b1 A4 c5 (⟨s3.L, x130⟩ : S_Stream) 3 HS162 (HR6.mono (L36.trans (L43.trans (L61.trans (L77.trans L126))))) vt163 vt164 hc165) ?_)
     rintro _ W168 ⟨f166, rfl, L167, HS169⟩
     refine ⟨_, rfl, ?_⟩
     have hq_ := guard_some h; clear h; obtain ⟨c170, h⟩ := hq_
     have c170 : 0 ≤ vt163 := c170
     have hq_ := guard_some h; clear h; obtain ⟨c171, h⟩ := hq_
     have c171 : vt163 < (([100, 3000, 40000] : List Int).length : Int) := c171
     obtain ⟨cs172, hr173, hc174⟩ := (HO160.mono L167).at' (i := vt163) c170 c171
     obtain rfl := hr173
     refine seqK rfl (does_run (run_index (sz := 1) rfl Tryz.underlying22 kr (kv (.slice (some ⟨b156, 0, none⟩) ([100, 3000, 40000] : List Int).length 3)) (kv (.int .i64 vt163)) c170 c171 W168) ?_)
     refine seqK rfl (does_run (run_load rfl Tryz.underlying3 rfl (kv (.pointer (some ⟨b156, 0 + (vt163 : Int).toNat * 1, none⟩))) ((hc174 HS169.u1) 0 (by decide))) ?_)
     have hq_ := bind_some h; clear h; obtain ⟨⟨vt175, vt176⟩, hc177, h⟩ := hq_
     refine seqK rfl (does_call (f := 29) (args := #[.pointer (some ⟨b1, 0, none⟩), .int .i64 1, .int .i64 (rd ([100, 3000, 40000] : List Int) vt163)]) kr (spymake_Stream_Range.calls k b1 A4 c5 (⟨s3.L, vt164⟩ : S_Stream) 1 (rd ([100, 3000, 40000] : List Int) vt163) HS169 (HR6.mono (L36.trans (L43.trans (L61.trans (L77.trans (L126.trans L167)))))) vt175 vt176 hc177) ?_)
     rintro _ W180 ⟨f178, rfl, L179, HS181⟩
     refine ⟨_, rfl, ?_⟩
     have HS182 := HS181.u2
     refine seqL1 kr ?_
     refine seqK rfl (does_store (n := 1) (vs := [.int .i64 vt175]) (cs' := #[.int .i64 kind17, .int .u64 (u64 ((u64 (vt32)) * 11400714819323198485)), .int .i64 number18, .int .i64 x82, .int .i64 x131, .int .i64 0, .int .i64 0, .int .i64 0, .int .i64 0, .int .i64 0, .int .i64 0, .int .i64 0, .int .i64 vt175, .slice none 0 0]) rfl kr (kv (.pointer (some ⟨b46, 12, none⟩))) (kv (.int .i64 vt175)) rfl rfl (ones rfl) HS182 (Nat.le_of_ble_eq_true rfl) kr ?_)
     intro W183 HS184
     refine nl ?_
     refine hn147 _ _ ?_
     refine hK142 _ _ ?_
     refine wp_seq_k fun K275 hK276 => rl ?_
     refine seqK rfl (does_run (run_loadN (n := 14) rfl Tryz.underlying76 rfl kr (kv (.pointer (some ⟨b46, 0, none⟩))) (cs := [.int .i64 kind17, .int .u64 (u64 ((u64 (vt32)) * 11400714819323198485)), .int .i64 number18, .int .i64 x82, .int .i64 x131, .int .i64 0, .int .i64 0, .int .i64 0, .int .i64 0, .int .i64 0, .int .i64 0, .int .i64 0, .int .i64 vt175, .slice none 0 0]) rfl (HS184.cells 0 14 _ rfl)) ?_)
     have HS277 := HS184.u3
     refine seqK rfl (does_storeA (vs := [.int .i64 kind17, .int .u64 (u64 ((u64 (vt32)) * 11400714819323198485)), .int .i64 number18, .int .i64 x82, .int .i64 x131, .int .i64 0, .int .i64 0, .int .i64 0, .int .i64 0, .int .i64 0, .int .i64 0, .int .i64 0, .int .i64 vt175, .slice none 0 0]) rfl kr kr kr rfl (ones rfl) HS277 kr ?_)
     intro W278 HS279
     refine nl (hK276 _ _ ?_)
     refine wp_ret ?_
     refine hret _ _ ?_
     have HS295 := HS279.cons_nil
     refine ends (v := Value.agg #[.int .i64 kind17, .int .u64 (u64 ((u64 (vt32)) * 11400714819323198485)), .int .i64 number18, .int .i64 x82, .int .i64 x131, .int .i64 0, .int .i64 0, .int .i64 0, .int .i64 0, .int .i64 0, .int .i64 0, .int .i64 0, .int .i64 vt175, .slice none 0 0]) (results1 (q1 := .cell 8 76) kr (resN (n := 14) (cs := [.int .i64 kind17, .int .u64 (u64 ((u64 (vt32)) * 11400714819323198485)), .int .i64 number18, .int .i64 x82, .int .i64 x131, .int .i64 0, .int .i64 0, .int .i64 0, .int .i64 0, .int .i64 0, .int .i64 0, .int .i64 0, .int .i64 vt175, .slice none 0 0]) (kv (.pointer (some ⟨b25, 0, none⟩))) Tryz.underlying76 rfl kr rfl (HS295.u1.cells 0 14 _ rfl))) kr ?_
     have HS302 := HS295.u3.u1.u5.u5.u5.u5
     have HS303 := HS302.drop
     have HS304 := HS303.drop
     have HS305 := HS304.drop
     have HS306 := HS305.drop
     injection h with h
     injection h with h0_ h
     subst h0_ h
     exact ⟨f178, none, 0, [], rfl, (L36.trans (L43.trans (L61.trans (L77.trans (L126.trans (L167.trans L179)))))), HS306, (Own.nil _)⟩
   · have c155 : ¬ (kind17 = 2) := c155
     refine wpRwI 37 kr (beq_eq_false_iff_ne.mpr c155) ?_
     refine wpRwI 38 kr (beq_eq_false_iff_ne.mpr c155) ?_
     refine condF kr ?_
     refine wp_seq_k fun K185 hK186 => rl ?_
     refine seqL2 kr ?_
     refine nl (hK186 _ _ ?_)
     have hq_ := ite_some h; clear h; rcases hq_ with ⟨c188, h⟩ | ⟨c188, h⟩
     · have c188 : kind17 = 3 := c188
       refine wpRwI 47 kr (beq_iff_eq.mpr c188) ?_
       refine wpRwI 48 kr (beq_iff_eq.mpr c188) ?_
       refine condT kr ?_
       refine wp_seq_k fun K189 hK190 => rl ?_
       have hq_ := bind_some h; clear h; obtain ⟨⟨vt191, vt192⟩, hc193, h⟩ := hq_
       refine seqL1 kr ?_
       refine seqK rfl (does_call (f := 54) (args := #[.pointer (some ⟨b1, 0, none⟩)]) kr (spymake_Stream_Plate.calls k b1 A4 c5 (⟨s3.L, x130⟩ : S_Stream) HS128 (HR6.mono (L36.trans (L43.trans (L61.trans (L77.trans L126))))) vt191 vt192 hc193) ?_)
       rintro _ W196 ⟨f194, rfl, L195, HS197⟩
       refine ⟨_, rfl, ?_⟩
       have HS198 := HS197.u1
       refine seqL1 kr ?_
       refine seqK rfl (does_store (n := 4) (vs := [.int .i64 vt191.A, .int .i64 vt191.B, .int .i64 vt191.C, .int .i64 vt191.D]) (cs' := #[.int .i64 kind17, .int .u64 (u64 ((u64 (vt32)) * 11400714819323198485)), .int .i64 number18, .int .i64 x82, .int .i64 x131, .int .i64 vt191.A, .int .i64 vt191.B, .int .i64 vt191.C, .int .i64 vt191.D, .int .i64 0, .int .i64 0, .int .i64 0, .int .i64 0, .slice none 0 0]) rfl kr (kv (.pointer (some ⟨b46, 5, none⟩))) (kv (.agg #[.int .i64 vt191.A, .int .i64 vt191.B, .int .i64 vt191.C, .int .i64 vt191.D])) rfl rfl (ones rfl) HS198 (Nat.le_of_ble_eq_true rfl) kr ?_)
       intro W199 HS200
       refine nl (hK190 _ _ ?_)
       refine wp_seq_k fun K201 hK202 => rl ?_
       have HS203 := HS200.u1
       have hq_ := bind_some h; clear h; obtain ⟨⟨vt204, vt205⟩, hc206, h⟩ := hq_
       refine seqL1 kr ?_
       refine seqK rfl (does_call (f := 28) (args := #[.pointer (some ⟨b1, 0, none⟩), .int .i64 2]) kr (spymake_Stream_Next.calls k b1 A4 c5 (⟨s3.L, vt192⟩ : S_Stream) 2 HS203 (HR6.mono (L36.trans (L43.trans (L61.trans (L77.trans (L126.trans L195)))))) vt204 vt205 hc206) ?_)
       rintro _ W209 ⟨f207, rfl, L208, HS210⟩
       refine ⟨_, rfl, ?_⟩
       have hq_ := guard_some h; clear h; obtain ⟨c211, h⟩ := hq_
       have c211 : ¬ (vt204 < 0) := c211
       refine seqK rfl (does_run (run_shl rfl (kv (.int .i64 1)) (kv (.int .i64 vt204)) c211 W209) ?_)
       have HS212 := HS210.u1
       refine seqL1 kr ?_
       refine seqK rfl (does_store (n := 1) (vs := [.int .i64 (w64 (1 * 2 ^ (min (vt204).toNat 64)))]) (cs' := #[.int .i64 kind17, .int .u64 (u64 ((u64 (vt32)) * 11400714819323198485)), .int .i64 number18, .int .i64 x82, .int .i64 x131, .int .i64 vt191.A, .int .i64 vt191.B, .int .i64 vt191.C, .int .i64 vt191.D, .int .i64 (w64 (1 * 2 ^ (min (vt204).toNat 64))), .int .i64 0, .int .i64 0, .int .i64 0, .slice none 0 0]) rfl kr (kv (.pointer (some ⟨b46, 9, none⟩))) (kv (.int .i64 (w64 (1 * 2 ^ (min (vt204).toNat 64))))) rfl rfl (ones rfl) HS212 (Nat.le_of_ble_eq_true rfl) kr ?_)
       intro W213 HS214
       refine nl (hK202 _ _ ?_)
       refine wp_seq_k (fun K215 hK216 => ?_)
       refine wp_seq_k fun K217 hK218 => rl ?_
       have HS219 := HS214.u1
       have hq_ := bind_some h; clear h; obtain ⟨⟨vt220, vt221⟩, hc222, h⟩ := hq_
       refine seqL1 kr ?_
       refine seqK rfl (does_call (f := 28) (args := #[.pointer (some ⟨b1, 0, none⟩), .int .i64 6]) kr (spymake_Stream_Next.calls k b1 A4 c5 (⟨s3.L, vt205⟩ : S_Stream) 6 HS219 (HR6.mono (L36.trans (L43.trans (L61.trans (L77.trans (L126.trans (L195.trans L208))))))) vt220 vt221 hc222) ?_)
       rintro _ W225 ⟨f223, rfl, L224, HS226⟩
       refine ⟨_, rfl, ?_⟩
       refine seqL1 kr ?_
       refine nl (hK218 _ _ ?_)
       have hq_ := bind_some h; clear h; obtain ⟨v227, hv238, h⟩ := hq_
       have J239 : ∀ (f232 : FM) (x237 : Int) (j236 : Nat → Value) (W234 : World) (a_ : Act), FM.le f223 f232 → some (x237) = some v227 → St t W234 f232 ([(b1, .cells #[.slice A4 s3.L.length c5, .int .i64 vt221] 33 (0, 0))] :: [(b46, .cells #[.int .i64 kind17, .int .u64 (u64 ((u64 (vt32)) * 11400714819323198485)), .int .i64 number18, .int .i64 x82, .int .i64 x131, .int .i64 vt191.A, .int .i64 vt191.B, .int .i64 vt191.C, .int .i64 vt191.D, .int .i64 x237, .int .i64 0, .int .i64 0, .int .i64 0, .slice none 0 0] 76 (0, 0))] :: [(b25, .cells #[.int .i64 0, .int .u64 0, .int .i64 0, .int .i64 0, .int .i64 0, .int .i64 0, .int .i64 0, .int .i64 0, .int .i64 0, .int .i64 0, .int .i64 0, .int .i64 0, .int .i64 0, .slice none 0 0] 76 (0, 0))] :: [(b21, .cells #[.int .i64 c7.W, .int .i64 c7.H, .slice A8 c7.Bias.length c9, .slice A11 c7.Dark.length c12, .slice A14 c7.Flat.length c15, .int .i64 c7.Full, .int .i64 c7.Gain, .int .i64 c7.Noise] 65 (0, 0))] :: H) → a_ = ⟨#[pV b1 0, (ag_Sensor c7 A8 c9 A11 c12 A14 c15), iV kind17, iV number18, uV, pV b21 0, uV, uV, pV b25 0, pV b46 0, iV kind17, pV b1 0, iV vt32, .int .u64 (u64 (vt32)), .int .u64 (u64 ((u64 (vt32)) * 11400714819323198485)), iV number18, pV b1 0, iV vt39, .agg #[iV kind17, .int .u64 (u64 ((u64 (vt32)) * 11400714819323198485)), iV number18, iV vt39, iV 0, iV 0, iV 0, iV 0, iV 0, iV 0, iV 0, iV 0, iV 0, .slice none 0 0], pV b1 0, iV vt57, .bool (vt57 == 0), (j80 0), (j80 1), (j80 2), (j80 3), iV kind17, .bool (kind17 != 0), (j129 0), (j129 1), (j129 2), (j129 3), (j129 4), (j129 5), (j129 6), (j129 7), iV kind17, fV, fV, uV, uV, uV, uV, uV, uV, uV, uV, tV, tV, pV b1 0, (ag_Plate vt191), pV b46 5, pV b1 0, iV vt204, iV (w64 (1 * 2 ^ (min (vt204).toNat 64))), pV b46 9, pV b1 0, iV vt220, .bool (vt220 == 0), (j236 0), uV, uV, uV, uV, uV, uV, uV, uV, uV, uV], []⟩ → K215 a_ W234 := by
        intro f232 x237 j236 W234 a_ L233 hj240 HS235  hfr_; subst hfr_
        injection hj240 with hj240; subst hj240; try dsimp only at h
        refine hK216 _ _ ?_
        refine wp_seq_k fun K245 hK246 => rl ?_
        have hq_ := bind_some h; clear h; obtain ⟨⟨vt247, vt248⟩, hc249, h⟩ := hq_
        refine seqL1 kr ?_
        refine seqK rfl (does_call (f := 28) (args := #[.pointer (some ⟨b1, 0, none⟩), .int .i64 3]) kr (spymake_Stream_Next.calls k b1 A4 c5 (⟨s3.L, vt221⟩ : S_Stream) 3 HS235 (HR6.mono (L36.trans (L43.trans (L61.trans (L77.trans (L126.trans (L195.trans (L208.trans (L224.trans L233))))))))) vt247 vt248 hc249) ?_)
        rintro _ W252 ⟨f250, rfl, L251, HS253⟩
        refine ⟨_, rfl, ?_⟩
        refine seqL1 kr ?_
        refine nl (hK246 _ _ ?_)
        have hq_ := ite_some h; clear h; rcases hq_ with ⟨c255, h⟩ | ⟨c255, h⟩
        · have c255 : vt247 = 0 := c255
          refine wpRwI 62 kr (beq_iff_eq.mpr c255) ?_
          refine condT kr ?_
          refine rl ?_
          have hq_ := bind_some h; clear h; obtain ⟨⟨vt256, vt257⟩, hc258, h⟩ := hq_
          refine seqL1 kr ?_
          refine seqK rfl (does_call (f := 29) (args := #[.pointer (some ⟨b1, 0, none⟩), .int .i64 (-64), .int .i64 64]) kr (spymake_Stream_Range.calls k b1 A4 c5 (⟨s3.L, vt248⟩ : S_Stream) (-64) 64 HS253 (HR6.mono (L36.trans (L43.trans (L61.trans (L77.trans (L126.trans (L195.trans (L208.trans (L224.trans (L233.trans L251)))))))))) vt256 vt257 hc258) ?_)
          rintro _ W261 ⟨f259, rfl, L260, HS262⟩
          refine ⟨_, rfl, ?_⟩
          have hq_ := bind_some h; clear h; obtain ⟨⟨vt263, vt264⟩, hc265, h⟩ := hq_
          refine seqL1 kr ?_
          refine seqK rfl (does_call (f := 29) (args := #[.pointer (some ⟨b1, 0, none⟩), .int .i64 (-64), .int .i64 64]) kr (spymake_Stream_Range.calls k b1 A4 c5 (⟨s3.L, vt257⟩ : S_Stream) (-64) 64 HS262 (HR6.mono (L36.trans (L43.trans (L61.trans (L77.trans (L126.trans (L195.trans (L208.trans (L224.trans (L233.trans (L251.trans L260))))))))))) vt263 vt264 hc265) ?_)
          rintro _ W268 ⟨f266, rfl, L267, HS269⟩
          refine ⟨_, rfl, ?_⟩
          have HS270 := HS269.u1
          refine seqL1 kr ?_
          refine seqK rfl (does_store (n := 1) (vs := [.int .i64 vt256]) (cs' := #[.int .i64 kind17, .int .u64 (u64 ((u64 (vt32)) * 11400714819323198485)), .int .i64 number18, .int .i64 x82, .int .i64 x131, .int .i64 vt191.A, .int .i64 vt191.B, .int .i64 vt191.C, .int .i64 vt191.D, .int .i64 x237, .int .i64 vt256, .int .i64 0, .int .i64 0, .slice none 0 0]) rfl kr (kv (.pointer (some ⟨b46, 10, none⟩))) (kv (.int .i64 vt256)) rfl rfl (ones rfl) HS270 (Nat.le_of_ble_eq_true rfl) kr ?_)
          intro W271 HS272
          refine seqL1 kr ?_
          refine seqK rfl (does_store (n := 1) (vs := [.int .i64 vt263]) (cs' := #[.int .i64 kind17, .int .u64 (u64 ((u64 (vt32)) * 11400714819323198485)), .int .i64 number18, .int .i64 x82, .int .i64 x131, .int .i64 vt191.A, .int .i64 vt191.B, .int .i64 vt191.C, .int .i64 vt191.D, .int .i64 x237, .int .i64 vt256, .int .i64 vt263, .int .i64 0, .slice none 0 0]) rfl kr (kv (.pointer (some ⟨b46, 11, none⟩))) (kv (.int .i64 vt263)) rfl rfl (ones rfl) HS272 (Nat.le_of_ble_eq_true rfl) kr ?_)
          intro W273 HS274
          refine nl ?_
          refine hn147 _ _ ?_
          refine hK142 _ _ ?_
          refine wp_seq_k fun K280 hK281 => rl ?_
          refine seqK rfl (does_run (run_loadN (n := 14) rfl Tryz.underlying76 rfl kr (kv (.pointer (some ⟨b46, 0, none⟩))) (cs := [.int .i64 kind17, .int .u64 (u64 ((u64 (vt32)) * 11400714819323198485)), .int .i64 number18, .int .i64 x82, .int .i64 x131, .int .i64 vt191.A, .int .i64 vt191.B, .int .i64 vt191.C, .int .i64 vt191.D, .int .i64 x237, .int .i64 vt256, .int .i64 vt263, .int .i64 0, .slice none 0 0]) rfl (HS274.cells 0 14 _ rfl)) ?_)
          have HS282 := HS274.u2
          refine seqK rfl (does_storeA (vs := [.int .i64 kind17, .int .u64 (u64 ((u64 (vt32)) * 11400714819323198485)), .int .i64 number18, .int .i64 x82, .int .i64 x131, .int .i64 vt191.A, .int .i64 vt191.B, .int .i64 vt191.C, .int .i64 vt191.D, .int .i64 x237, .int .i64 vt256, .int .i64 vt263, .int .i64 0, .slice none 0 0]) rfl kr kr kr rfl (ones rfl) HS282 kr ?_)
          intro W283 HS284
          refine nl (hK281 _ _ ?_)
          refine wp_ret ?_
          refine hret _ _ ?_
          have HS307 := HS284.cons_nil
          refine ends (v := Value.agg #[.int .i64 kind17, .int .u64 (u64 ((u64 (vt32)) * 11400714819323198485)), .int .i64 number18, .int .i64 x82, .int .i64 x131, .int .i64 vt191.A, .int .i64 vt191.B, .int .i64 vt191.C, .int .i64 vt191.D, .int .i64 x237, .int .i64 vt256, .int .i64 vt263, .int .i64 0, .slice none 0 0]) (results1 (q1 := .cell 8 76) kr (resN (n := 14) (cs := [.int .i64 kind17, .int .u64 (u64 ((u64 (vt32)) * 11400714819323198485)), .int .i64 number18, .int .i64 x82, .int .i64 x131, .int .i64 vt191.A, .int .i64 vt191.B, .int .i64 vt191.C, .int .i64 vt191.D, .int .i64 x237, .int .i64 vt256, .int .i64 vt263, .int .i64 0, .slice none 0 0]) (kv (.pointer (some ⟨b25, 0, none⟩))) Tryz.underlying76 rfl kr rfl (HS307.u1.cells 0 14 _ rfl))) kr ?_
          have HS313 := HS307.u3.u1.u4.u4.u4
          have HS314 := HS313.drop
          have HS315 := HS314.drop
          have HS316 := HS315.drop
          injection h with h
          injection h with h0_ h
          subst h0_ h
          exact ⟨f266, none, 0, [], rfl, (L36.trans (L43.trans (L61.trans (L77.trans (L126.trans (L195.trans (L208.trans (L224.trans (L233.trans (L251.trans (L260.trans L267))))))))))), HS316, (Own.nil _)⟩
        · have c255 : ¬ (vt247 = 0) := c255
          refine wpRwI 62 kr (beq_eq_false_iff_ne.mpr c255) ?_
          refine condF kr ?_
          refine wp_skip ?_
          refine hn147 _ _ ?_
          refine hK142 _ _ ?_
          refine wp_seq_k fun K285 hK286 => rl ?_
          refine seqK rfl (does_run (run_loadN (n := 14) rfl Tryz.underlying76 rfl kr (kv (.pointer (some ⟨b46, 0, none⟩))) (cs := [.int .i64 kind17, .int .u64 (u64 ((u64 (vt32)) * 11400714819323198485)), .int .i64 number18, .int .i64 x82, .int .i64 x131, .int .i64 vt191.A, .int .i64 vt191.B, .int .i64 vt191.C, .int .i64 vt191.D, .int .i64 x237, .int .i64 0, .int .i64 0, .int .i64 0, .slice none 0 0]) rfl (HS253.u1.cells 0 14 _ rfl)) ?_)
          have HS287 := HS253.u2
          refine seqK rfl (does_storeA (vs := [.int .i64 kind17, .int .u64 (u64 ((u64 (vt32)) * 11400714819323198485)), .int .i64 number18, .int .i64 x82, .int .i64 x131, .int .i64 vt191.A, .int .i64 vt191.B, .int .i64 vt191.C, .int .i64 vt191.D, .int .i64 x237, .int .i64 0, .int .i64 0, .int .i64 0, .slice none 0 0]) rfl kr kr kr rfl (ones rfl) HS287 kr ?_)
          intro W288 HS289
          refine nl (hK286 _ _ ?_)
          refine wp_ret ?_
          refine hret _ _ ?_
          have HS317 := HS289.cons_nil
          refine ends (v := Value.agg #[.int .i64 kind17, .int .u64 (u64 ((u64 (vt32)) * 11400714819323198485)), .int .i64 number18, .int .i64 x82, .int .i64 x131, .int .i64 vt191.A, .int .i64 vt191.B, .int .i64 vt191.C, .int .i64 vt191.D, .int .i64 x237, .int .i64 0, .int .i64 0, .int .i64 0, .slice none 0 0]) (results1 (q1 := .cell 8 76) kr (resN (n := 14) (cs := [.int .i64 kind17, .int .u64 (u64 ((u64 (vt32)) * 11400714819323198485)), .int .i64 number18, .int .i64 x82, .int .i64 x131, .int .i64 vt191.A, .int .i64 vt191.B, .int .i64 vt191.C, .int .i64 vt191.D, .int .i64 x237, .int .i64 0, .int .i64 0, .int .i64 0, .slice none 0 0]) (kv (.pointer (some ⟨b25, 0, none⟩))) Tryz.underlying76 rfl kr rfl (HS317.u1.cells 0 14 _ rfl))) kr ?_
          have HS323 := HS317.u2.u1.u4.u4.u4
          have HS324 := HS323.drop
          have HS325 := HS324.drop
          have HS326 := HS325.drop
          injection h with h
          injection h with h0_ h
          subst h0_ h
          exact ⟨f250, none, 0, [], rfl, (L36.trans (L43.trans (L61.trans (L77.trans (L126.trans (L195.trans (L208.trans (L224.trans (L233.trans L251))))))))), HS326, (Own.nil _)⟩
       clear h; have h := hv238; clear hv238
       have hq_ := ite_some h; clear h; rcases hq_ with ⟨c228, h⟩ | ⟨c228, h⟩
       · have c228 : vt220 = 0 := c228
         refine wpRwI 58 kr (beq_iff_eq.mpr c228) ?_
         refine condT kr ?_
         refine rl ?_
         have HS229 := HS226.u1
         refine seqL1 kr ?_
         refine seqK rfl (does_store (n := 1) (vs := [.int .i64 4]) (cs' := #[.int .i64 kind17, .int .u64 (u64 ((u64 (vt32)) * 11400714819323198485)), .int .i64 number18, .int .i64 x82, .int .i64 x131, .int .i64 vt191.A, .int .i64 vt191.B, .int .i64 vt191.C, .int .i64 vt191.D, .int .i64 4, .int .i64 0, .int .i64 0, .int .i64 0, .slice none 0 0]) rfl kr (kv (.pointer (some ⟨b46, 9, none⟩))) (kv (.int .i64 4)) rfl rfl (ones rfl) HS229 (Nat.le_of_ble_eq_true rfl) kr ?_)
         intro W230 HS231
         refine nl ?_
         refine fnRwI (F := K215) 58 (x := true) (v := (vt220 == 0)) kr (Eq.symm (beq_iff_eq.mpr c228)) ?_
         have HS244 := HS231.u3.u3.u2.u3
         exact J239 f223 4 (jL [.pointer (some ⟨b46, 9, none⟩)]) W230 _ fL h HS244 kr
       · have c228 : ¬ (vt220 = 0) := c228
         refine wpRwI 58 kr (beq_eq_false_iff_ne.mpr c228) ?_
         refine condF kr ?_
         refine wp_skip ?_
         refine fnRwI (F := K215) 58 (x := false) (v := (vt220 == 0)) kr (Eq.symm (beq_eq_false_iff_ne.mpr c228)) ?_
         exact J239 f223 (w64 (1 * 2 ^ (min (vt204).toNat 64))) (jL []) W225 _ fL h HS226 kr
     · have c188 : ¬ (kind17 = 3) := c188
       refine wpRwI 47 kr (beq_eq_false_iff_ne.mpr c188) ?_
       refine wpRwI 48 kr (beq_eq_false_iff_ne.mpr c188) ?_
       refine condF kr ?_
       refine wp_skip ?_
       refine hn147 _ _ ?_
       refine hK142 _ _ ?_
       refine wp_seq_k fun K290 hK291 => rl ?_
       refine seqK rfl (does_run (run_loadN (n := 14) rfl Tryz.underlying76 rfl kr (kv (.pointer (some ⟨b46, 0, none⟩))) (cs := [.int .i64 kind17, .int .u64 (u64 ((u64 (vt32)) * 11400714819323198485)), .int .i64 number18, .int .i64 x82, .int .i64 x131, .int .i64 0, .int .i64 0, .int .i64 0, .int .i64 0, .int .i64 0, .int .i64 0, .int .i64 0, .int .i64 0, .slice none 0 0]) rfl (HS128.u1.cells 0 14 _ rfl)) ?_)
       have HS292 := HS128.u2
       refine seqK rfl (does_storeA (vs := [.int .i64 kind17, .int .u64 (u64 ((u64 (vt32)) * 11400714819323198485)), .int .i64 number18, .int .i64 x82, .int .i64 x131, .int .i64 0, .int .i64 0, .int .i64 0, .int .i64 0, .int .i64 0, .int .i64 0, .int .i64 0, .int .i64 0, .slice none 0 0]) rfl kr kr kr rfl (ones rfl) HS292 kr ?_)
       intro W293 HS294
       refine nl (hK291 _ _ ?_)
       refine wp_ret ?_
       refine hret _ _ ?_
       have HS327 := HS294.cons_nil
       refine ends (v := Value.agg #[.int .i64 kind17, .int .u64 (u64 ((u64 (vt32)) * 11400714819323198485)), .int .i64 number18, .int .i64 x82, .int .i64 x131, .int .i64 0, .int .i64 0, .int .i64 0, .int .i64 0, .int .i64 0, .int .i64 0, .int .i64 0, .int .i64 0, .slice none 0 0]) (results1 (q1 := .cell 8 76) kr (resN (n := 14) (cs := [.int .i64 kind17, .int .u64 (u64 ((u64 (vt32)) * 11400714819323198485)), .int .i64 number18, .int .i64 x82, .int .i64 x131, .int .i64 0, .int .i64 0, .int .i64 0, .int .i64 0, .int .i64 0, .int .i64 0, .int .i64 0, .int .i64 0, .slice none 0 0]) (kv (.pointer (some ⟨b25, 0, none⟩))) Tryz.underlying76 rfl kr rfl (HS327.u1.cells 0 14 _ rfl))) kr ?_
       have HS333 := HS327.u2.u1.u4.u4.u4
       have HS334 := HS333.drop
       have HS335 := HS334.drop
       have HS336 := HS335.drop
       injection h with h
       injection h with h0_ h
       subst h0_ h
       exact ⟨f125, none, 0, [], rfl, (L36.trans (L43.trans (L61.trans (L77.trans L126)))), HS336, (Own.nil _)⟩
  clear h; have h := hv132; clear hv132
  have hq_ := ite_some h; clear h; rcases hq_ with ⟨c95, h⟩ | ⟨c95, h⟩
  · have c95 : kind17 ≠ 0 := c95
    refine wpRwI 27 kr (bne_iff_ne.mpr c95) ?_
    refine condT kr ?_
    refine rl ?_
    refine seqL1 kr ?_
    refine seqK rfl (does_lit (e := (tInt .i64)) (E := 3) (vs := #[(0, Value.int .i64 2), (1, Value.int .i64 5), (2, Value.int .i64 16)]) (cs := #[.int .i64 2, .int .i64 5, .int .i64 16]) (xs := ([2, 5, 16] : List Int)) rfl Tryz.underlying22 kr kr ⟨[.int .i64 2], _, rfl, rfl, ⟨[.int .i64 5], _, rfl, rfl, ⟨[.int .i64 16], _, rfl, rfl, rfl⟩⟩⟩ rfl HS79 ?_ (by decide))
    intro b96 W97 s98 HS99 _ HO100
    have HS102 := HS99.u1
    have hq_ := bind_some h; clear h; obtain ⟨⟨vt103, vt104⟩, hc105, h⟩ := hq_
    refine seqL1 kr ?_
    refine seqK rfl (does_call (f := 28) (args := #[.pointer (some ⟨b1, 0, none⟩), .int .i64 3]) kr (spymake_Stream_Next.calls k b1 A4 c5 (⟨s3.L, x81⟩ : S_Stream) 3 HS102 (HR6.mono (L36.trans (L43.trans (L61.trans L77)))) vt103 vt104 hc105) ?_)
    rintro _ W108 ⟨f106, rfl, L107, HS109⟩
    refine ⟨_, rfl, ?_⟩
    have hq_ := guard_some h; clear h; obtain ⟨c110, h⟩ := hq_
    have c110 : 0 ≤ vt103 := c110
    have hq_ := guard_some h; clear h; obtain ⟨c111, h⟩ := hq_
    have c111 : vt103 < (([2, 5, 16] : List Int).length : Int) := c111
    obtain ⟨cs112, hr113, hc114⟩ := (HO100.mono L107).at' (i := vt103) c110 c111
    obtain rfl := hr113
    refine seqK rfl (does_run (run_index (sz := 1) rfl Tryz.underlying22 kr (kv (.slice (some ⟨b96, 0, none⟩) ([2, 5, 16] : List Int).length 3)) (kv (.int .i64 vt103)) c110 c111 W108) ?_)
    refine seqK rfl (does_run (run_load rfl Tryz.underlying3 rfl (kv (.pointer (some ⟨b96, 0 + (vt103 : Int).toNat * 1, none⟩))) ((hc114 HS109.u1) 0 (by decide))) ?_)
    have hq_ := bind_some h; clear h; obtain ⟨⟨vt115, vt116⟩, hc117, h⟩ := hq_
    refine seqK rfl (does_call (f := 29) (args := #[.pointer (some ⟨b1, 0, none⟩), .int .i64 1, .int .i64 (rd ([2, 5, 16] : List Int) vt103)]) kr (spymake_Stream_Range.calls k b1 A4 c5 (⟨s3.L, vt104⟩ : S_Stream) 1 (rd ([2, 5, 16] : List Int) vt103) HS109 (HR6.mono (L36.trans (L43.trans (L61.trans (L77.trans L107))))) vt115 vt116 hc117) ?_)
    rintro _ W120 ⟨f118, rfl, L119, HS121⟩
    refine ⟨_, rfl, ?_⟩
    have HS122 := HS121.u2
    refine seqL1 kr ?_
    refine seqK rfl (does_store (n := 1) (vs := [.int .i64 vt115]) (cs' := #[.int .i64 kind17, .int .u64 (u64 ((u64 (vt32)) * 11400714819323198485)), .int .i64 number18, .int .i64 x82, .int .i64 vt115, .int .i64 0, .int .i64 0, .int .i64 0, .int .i64 0, .int .i64 0, .int .i64 0, .int .i64 0, .int .i64 0, .slice none 0 0]) rfl kr (kv (.pointer (some ⟨b46, 4, none⟩))) (kv (.int .i64 vt115)) rfl rfl (ones rfl) HS122 (Nat.le_of_ble_eq_true rfl) kr ?_)
    intro W123 HS124
    refine nl ?_
    refine fnRwI (F := K90) 27 (x := true) (v := (kind17 != 0)) kr (Eq.symm (bne_iff_ne.mpr c95)) ?_
    have HS139 := HS124.u4.u4.u2.u3.u4
    have HS140 := HS139.drop
    exact J133 f118 vt116 vt115 (jL [.pointer (some ⟨b1, 0, none⟩), .slice (some ⟨b96, 0, none⟩) ([2, 5, 16] : List Int).length 3, .pointer (some ⟨b1, 0, none⟩), iV vt103, .pointer (some ⟨b96, 0 + (vt103 : Int).toNat * 1, none⟩), iV (rd ([2, 5, 16] : List Int) vt103), iV vt115, .pointer (some ⟨b46, 4, none⟩)]) W123 _ (L107.trans L119) h HS140 kr
  · have c95 : ¬ (kind17 ≠ 0) := c95
    refine wpRwI 27 (x := (kind17 != 0)) (v := false) kr (bne_eq_false_iff_eq.mpr (Decidable.of_not_not c95)) ?_
    refine condF kr ?_
    refine wp_skip ?_
    refine fnRwI (F := K90) 27 (x := false) (v := (kind17 != 0)) kr (Eq.symm (bne_eq_false_iff_eq.mpr (Decidable.of_not_not c95))) ?_
    exact J133 f76 x81 0 (jL []) W78 _ fL h HS79 kr
 clear h; have h := hv83; clear hv83
 have hq_ := ite_some h; clear h; rcases hq_ with ⟨c65, h⟩ | ⟨c65, h⟩
 · have c65 : vt57 = 0 := c65
   refine wpRwI 21 kr (beq_iff_eq.mpr c65) ?_
   refine condT kr ?_
   refine rl ?_
   have hq_ := bind_some h; clear h; obtain ⟨⟨vt66, vt67⟩, hc68, h⟩ := hq_
   refine seqL1 kr ?_
   refine seqK rfl (does_call (f := 29) (args := #[.pointer (some ⟨b1, 0, none⟩), .int .i64 (-30), .int .i64 30]) kr (spymake_Stream_Range.calls k b1 A4 c5 (⟨s3.L, vt58⟩ : S_Stream) (-30) 30 HS63 (HR6.mono (L36.trans (L43.trans L61))) vt66 vt67 hc68) ?_)
   rintro _ W71 ⟨f69, rfl, L70, HS72⟩
   refine ⟨_, rfl, ?_⟩
   have HS73 := HS72.u1
   refine seqL2 kr ?_
   refine seqK rfl (does_store (n := 1) (vs := [.int .i64 (w64 (vt66 * 28800000))]) (cs' := #[.int .i64 kind17, .int .u64 (u64 ((u64 (vt32)) * 11400714819323198485)), .int .i64 number18, .int .i64 (w64 (vt66 * 28800000)), .int .i64 0, .int .i64 0, .int .i64 0, .int .i64 0, .int .i64 0, .int .i64 0, .int .i64 0, .int .i64 0, .int .i64 0, .slice none 0 0]) rfl kr (kv (.pointer (some ⟨b46, 3, none⟩))) (kv (.int .i64 (w64 (vt66 * 28800000)))) rfl rfl (ones rfl) HS73 (Nat.le_of_ble_eq_true rfl) kr ?_)
   intro W74 HS75
   refine nl ?_
   refine fnRwI (F := K52) 21 (x := true) (v := (vt57 == 0)) kr (Eq.symm (beq_iff_eq.mpr c65)) ?_
   have HS89 := HS75.u3.u3.u2.u3
   exact J84 f69 vt67 (w64 (vt66 * 28800000)) (jL [.pointer (some ⟨b1, 0, none⟩), iV vt66, iV (w64 (vt66 * 28800000)), .pointer (some ⟨b46, 3, none⟩)]) W74 _ L70 h HS89 kr
 · have c65 : ¬ (vt57 = 0) := c65
   refine wpRwI 21 kr (beq_eq_false_iff_ne.mpr c65) ?_
   refine condF kr ?_
   refine wp_skip ?_
   refine fnRwI (F := K52) 21 (x := false) (v := (vt57 == 0)) kr (Eq.symm (beq_eq_false_iff_ne.mpr c65)) ?_
   exact J84 f60 vt58 vt39 (jL []) W62 _ fL h HS63 kr

theorem strconv_FormatInt.calls (k : Nat) (n b : Int) {t w : World} {f : FM} {H : List Seg} (HS : St t w f H) (HT : TabF Tryz.prog "internal/strconv.uint64pow10" .u64 Go.Lib.pow10Tab f) (r1 : ByteArray) (h : strconv_FormatInt k n b = some r1) :
    Calls Tryz.prog 38 #[.int .i64 n, .int .i64 b] w (fun e w' => ∃ (g : FM), e = .returned (Value.string r1) ∧ FM.le f g ∧ St t w' g H) := by
  unfold strconv_FormatInt at h
  have hq_ := guard_some h; clear h; obtain ⟨h0, h⟩ := hq_
  have hq_ := guard_some h; clear h; obtain ⟨h1, h⟩ := hq_
  have hq_ := guard_some h; clear h; obtain ⟨h2, h⟩ := hq_
  injection h with h; subst h
  subst h0
  exact (itoa_calls (n := n) (fun w_ ht_ => Tryz.strconv_FormatInt_10 n h1 h2 w_ ht_) HS (HT.tab HS)).mono fun e w' ⟨he, hs⟩ => ⟨f, he, FM.le.refl _, hs⟩

set_option maxRecDepth 100000 in
set_option maxHeartbeats 4000000 in
theorem spymake_Cards_1.calls (k : Nat)  (key1 : ByteArray) (n2 : Int) (unit3 : ByteArray) {t w : World} {f : FM} {H : List Seg} (HS : St t w f (H)) (HT : TabF Tryz.prog "internal/strconv.uint64pow10" .u64 Go.Lib.pow10Tab f) (rr1 : S_Card) (h : spymake_Cards_1 k key1 n2 unit3 = some rr1) :
    Calls Tryz.prog 83 #[.string key1, .int .i64 n2, .string unit3] w (fun e w' => ∃ (g : FM), e = .returned (Value.agg #[.string rr1.Key, .string rr1.Value, .string rr1.Unit, .string rr1.Note]) ∧ FM.le f g ∧ St t w' g (H)) := by
 unfold spymake_Cards_1 at h
 refine enter Tryz.func83 rfl (tm := #[.string key1, iV n2, .string unit3, uV, uV, uV, uV, uV, uV, uV, uV, uV]) kr ?_
 intro B hret hnor hnp
 refine wp_seq_k fun K4 hK5 => rl ?_
 refine seqK rfl (does_alloc (z := Value.agg #[.string ⟨#[]⟩, .string ⟨#[]⟩, .string ⟨#[]⟩, .string ⟨#[]⟩]) (cs := #[.string ⟨#[]⟩, .string ⟨#[]⟩, .string ⟨#[]⟩, .string ⟨#[]⟩]) rfl kr rfl HS ?_)
 intro b6 W7 HS8
 refine nl (hK5 _ _ ?_)
 refine wp_seq_k fun K10 hK11 => rl ?_
 have hq_ := bind_some h; clear h; obtain ⟨vt12, hc13, h⟩ := hq_
 refine seqL2 kr ?_
 refine seqK rfl (does_call (f := 38) (args := #[.int .i64 n2, .int .i64 10]) kr (strconv_FormatInt.calls k n2 10 HS8 HT vt12 hc13) ?_)
 rintro _ W16 ⟨f14, rfl, L15, HS17⟩
 refine ⟨_, rfl, ?_⟩
 refine seqL2 kr ?_
 refine seqK rfl (does_storeA (vs := [.string key1, .string vt12, .string unit3, .string ⟨#[]⟩]) rfl kr kr kr rfl (ones rfl) HS17 kr ?_)
 intro W18 HS19
 refine nl (hK11 _ _ ?_)
 refine wp_ret ?_
 refine hret _ _ ?_
 refine ends (v := Value.agg #[.string key1, .string vt12, .string unit3, .string ⟨#[]⟩]) (results1 (q1 := .cell 6 51) kr (resN (n := 4) (cs := [.string key1, .string vt12, .string unit3, .string ⟨#[]⟩]) (kv (.pointer (some ⟨b6, 0, none⟩))) Tryz.underlying51 rfl kr rfl (HS19.cells 0 4 _ rfl))) kr ?_
 have HS20 := HS19.drop
 injection h with h
 subst h
 exact ⟨f14, rfl, L15, HS20⟩

end Go.Sp.T6
